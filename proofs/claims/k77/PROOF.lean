import PyProof.Rows.All
import Wide.All
import OpenK.AllK
import Wide.FinOn
import HandS.ForMost
import HandS.Exc
import HandS.TryOnly
import HandS.ExcOwn
import HandS.WordsExc
import HandS.TupAny
import HandS.Wide
import HandS.WideMore
import HandS.Deep
import HandS.More
import HandS.IsInst
import HandS.Defaults
import HandS.Style
import KE.GoesMore
import KE.GoesEnum
import HandS.ExcInit
import KE.KExcSuper
import HandS.ClsMeth
import HandS.ExcField
import HandS.TryMany
import HandS.Head0
import HandS.Head1
import HandS.Head2
import HandS.HeadEnd
import HandS.HeadHook1
import HandS.HeadHook2
import PySem.Challenge.RW_moneyheld_k77_whole_cut_rows
set_option Elab.async false
set_option linter.all false
set_option maxRecDepth 100000
set_option maxHeartbeats 4000000
namespace Mo
open PySem PySem.Spec PyProof.Rows L2

/-! data: pure trees; what a slot holds (loc: a cell of the store; lst, dK, dT: a list, a dict that nobody changes any more); cells -/
inductive P where
  | non | bl (b : Bool) | int (i : Int) | str (x : Str) | tup (ps : List P)
inductive D where
  | p (p : P) | loc (n : Nat) | mix (ds : List D) | lst (ds : List D) | ro (ds : List D) | dK (ks : List Key) (ds : List D) | dT (ks : List (List Key)) (ds : List D)
inductive C where
  | lst (ds : List D) | dK (ks : List Key) (ds : List D) | dT (ks : List (List Key)) (ds : List D) | lk (ks : List Key) (ds : List D) | lkT (ks : List (List Key)) (ds : List D) | ins (c : Str) (ks : List Str) (ds : List D)
mutual
def beqP : P → P → Bool
  | .non, .non => true
  | .bl a, .bl b => decide (a = b)
  | .int a, .int b => decide (a = b)
  | .str a, .str b => decide (a = b)
  | .tup a, .tup b => beqPs a b
  | _, _ => false
def beqPs : List P → List P → Bool
  | [], [] => true
  | a :: as, b :: bs => beqP a b && beqPs as bs
  | _, _ => false
end
mutual
theorem beqP_iff : ∀ {a b : P}, beqP a b = true ↔ a = b
  | .non, b => by cases b <;> simp [beqP]
  | .bl a, b => by cases b <;> simp [beqP]
  | .int a, b => by cases b <;> simp [beqP]
  | .str a, b => by cases b <;> simp [beqP]
  | .tup a, b => by
    cases b with
    | tup b => simp only [beqP, beqPs_iff, P.tup.injEq]
    | _ => simp [beqP]
theorem beqPs_iff : ∀ {a b : List P}, beqPs a b = true ↔ a = b
  | [], b => by cases b <;> simp [beqPs]
  | a :: as, b => by
    cases b with
    | nil => simp [beqPs]
    | cons b bs => simp only [beqPs, Bool.and_eq_true, beqP_iff, beqPs_iff, List.cons.injEq]
end
instance : DecidableEq P := fun a b => decidable_of_iff (beqP a b = true) beqP_iff
mutual
def beqD : D → D → Bool
  | .p a, .p b => beqP a b
  | .loc a, .loc b => decide (a = b)
  | .mix a, .mix b => beqDs a b
  | .lst a, .lst b => beqDs a b
  | .ro a, .ro b => beqDs a b
  | .dK k a, .dK l b => decide (k = l) && beqDs a b
  | .dT k a, .dT l b => decide (k = l) && beqDs a b
  | _, _ => false
def beqDs : List D → List D → Bool
  | [], [] => true
  | a :: as, b :: bs => beqD a b && beqDs as bs
  | _, _ => false
end
mutual
theorem beqD_iff : ∀ {a b : D}, beqD a b = true ↔ a = b
  | .p a, b => by cases b <;> simp [beqD, beqP_iff]
  | .loc a, b => by cases b <;> simp [beqD]
  | .mix a, b => by
    cases b with
    | mix b => simp only [beqD, beqDs_iff, D.mix.injEq]
    | _ => simp [beqD]
  | .lst a, b => by
    cases b with
    | lst b => simp only [beqD, beqDs_iff, D.lst.injEq]
    | _ => simp [beqD]
  | .ro a, b => by
    cases b with
    | ro b => simp only [beqD, beqDs_iff, D.ro.injEq]
    | _ => simp [beqD]
  | .dK k a, b => by
    cases b with
    | dK l b => simp only [beqD, Bool.and_eq_true, decide_eq_true_eq, beqDs_iff, D.dK.injEq]
    | _ => simp [beqD]
  | .dT k a, b => by
    cases b with
    | dT l b => simp only [beqD, Bool.and_eq_true, decide_eq_true_eq, beqDs_iff, D.dT.injEq]
    | _ => simp [beqD]
theorem beqDs_iff : ∀ {a b : List D}, beqDs a b = true ↔ a = b
  | [], b => by cases b <;> simp [beqDs]
  | a :: as, b => by
    cases b with
    | nil => simp [beqDs]
    | cons b bs => simp only [beqDs, Bool.and_eq_true, beqD_iff, beqDs_iff, List.cons.injEq]
end
instance : DecidableEq D := fun a b => decidable_of_iff (beqD a b = true) beqD_iff
def beqC : C → C → Bool
  | .lst a, .lst b => decide (a = b)
  | .dK k a, .dK l b => decide (k = l) && decide (a = b)
  | .dT k a, .dT l b => decide (k = l) && decide (a = b)
  | .lk k a, .lk l b => decide (k = l) && decide (a = b)
  | .lkT k a, .lkT l b => decide (k = l) && decide (a = b)
  | .ins c k a, .ins e l b => decide (c = e) && (decide (k = l) && decide (a = b))
  | _, _ => false
theorem beqC_iff {a b : C} : beqC a b = true ↔ a = b := by
  cases a <;> cases b <;> simp [beqC]
instance : DecidableEq C := fun a b => decidable_of_iff (beqC a b = true) beqC_iff
instance : Inhabited P := ⟨.non⟩
instance : Inhabited D := ⟨.p .non⟩
abbrev Env := List (Option D)
abbrev S := List C

/-! what stands for them in a heap -/
section
variable (K : PySem.W.Frag) (H : Hp)
mutual
def RepP : P → V → Prop
  | .non, v => v = .non
  | .bl b, v => v = .bl b
  | .int i, v => v = .int i
  | .str x, v => v = .str x
  | .tup ps, v => ∃ a vs, v = .ref a ∧ SqT K H a vs ∧ RepPs ps vs
def RepPs : List P → List V → Prop
  | [], vs => vs = []
  | p :: ps, vs => ∃ v r, vs = v :: r ∧ RepP p v ∧ RepPs ps r
end
variable (m : List Addr)
/-- a list that nobody changes -/
def RoL (a : Addr) (vs : List V) : Prop := (Rd H a (.lst vs) ∧ a ∉ m) ∨
    ∃ (o : Obj) (its : Array Value) (n : Nat), K.lookup a = some o ∧ o.cls = .type "list" ∧ o.dict = none ∧ o.data = .seq its n ∧ its.size ≤ sizeLine ∧ Vals vs its.toList
mutual
def RepD : D → V → Prop
  | .p p, v => RepP K H p v
  | .loc n, v => ∃ a, m[n]? = some a ∧ v = .ref a
  | .mix ds, v => ∃ a vs, v = .ref a ∧ SqT K H a vs ∧ RepDs ds vs
  | .lst ds, v => ∃ a vs, v = .ref a ∧ (H a = some (.lst vs) ∧ a ∉ m) ∧ RepDs ds vs
  | .ro ds, v => ∃ a vs, v = .ref a ∧ RoL K H m a vs ∧ RepDs ds vs
  | .dK ks ds, v => ∃ a vs, v = .ref a ∧ (Rd H a (.dK (ks.zip vs)) ∧ a ∉ m) ∧ ks.length = vs.length ∧ RepDs ds vs
  | .dT ks ds, v => ∃ a vs, v = .ref a ∧ (Rd H a (.dT (ks.zip vs)) ∧ a ∉ m) ∧ ks.length = vs.length ∧ RepDs ds vs
def RepDs : List D → List V → Prop
  | [], vs => vs = []
  | d :: ds, vs => ∃ v r, vs = v :: r ∧ RepD d v ∧ RepDs ds r
end
/-- the class at an address, by its name -/
def RepC (ca : Str → Addr) : C → Addr → Prop
  | .lst ds, a => ∃ vs, H a = some (.lst vs) ∧ RepDs K H m ds vs
  | .dK ks ds, a => ∃ vs, H a = some (.dK (ks.zip vs)) ∧ ks.length = vs.length ∧ RepDs K H m ds vs
  | .dT ks ds, a => ∃ vs, H a = some (.dT (ks.zip vs)) ∧ ks.length = vs.length ∧ RepDs K H m ds vs
  | .lk ks ds, a => ∃ o vs, H a = some (.frz o (.dK (ks.zip vs))) ∧ ks.length = vs.length ∧ RepDs K H m ds vs
  | .lkT ks ds, a => ∃ o vs, H a = some (.frz o (.dT (ks.zip vs))) ∧ ks.length = vs.length ∧ RepDs K H m ds vs
  | .ins c ks ds, a => ∃ dx vs, H a = some (.ins (ca c) dx (ks.zip vs)) ∧ ks.length = vs.length ∧ RepDs K H m ds vs
end

/-- what is read by its content alone -/
def pl : HO → Bool
  | .tup _ => true
  | .lst _ => true
  | .dK _ => true
  | .dT _ => true
  | _ => false
/-- what stays as it is: what is locked, an exception's fields -/
def Fx : HO → Prop
  | .frz _ _ => True
  | .xd _ => True
  | _ => False
/-- what the store does not hold stays -/
structure ExtW (m : List Addr) (H : Hp) (m' : List Addr) (H' : Hp) : Prop where
  pre : m <+: m'
  keep : ∀ b u, pl u = true → Rd H b u → b ∉ m → Rd H' b u ∧ b ∉ m'
  lst : ∀ b vs, H b = some (.lst vs) → b ∉ m → H' b = some (.lst vs)
/-- .. and what is frozen, too -/
structure Ext (m : List Addr) (H : Hp) (m' : List Addr) (H' : Hp) : Prop extends ExtW m H m' H' where
  fx : ∀ b u, Fx u → H b = some u → H' b = some u
instance {m m' : List Addr} {H H' : Hp} : Coe (Ext m H m' H') (ExtW m H m' H') := ⟨Ext.toExtW⟩
theorem Ext.frz {m m' : List Addr} {H H' : Hp} (x : Ext m H m' H') (b : Addr) (o : Obj) (u : HO) (h : H b = some (.frz o u)) : H' b = some (.frz o u) := x.fx b _ trivial h
theorem Ext.xd {m m' : List Addr} {H H' : Hp} (x : Ext m H m' H') {b : Addr} {fs : List (Str × V)} (h : H b = some (.xd fs)) : H' b = some (.xd fs) := x.fx b _ trivial h
theorem Ext.refl (m : List Addr) (H : Hp) : Ext m H m H := ⟨⟨List.prefix_refl _, fun _ _ _ h n => ⟨h, n⟩, fun _ _ h _ => h⟩, fun _ _ _ h => h⟩
theorem ExtW.trans {m m1 m2 : List Addr} {H H1 H2 : Hp} (a : ExtW m H m1 H1) (b : ExtW m1 H1 m2 H2) : ExtW m H m2 H2 :=
  ⟨a.pre.trans b.pre, fun x u p h n => let ⟨h1, n1⟩ := a.keep x u p h n; b.keep x u p h1 n1, fun x vs h n => b.lst x vs (a.lst x vs h n) (a.keep x _ rfl (.inl h) n).2⟩
theorem Ext.trans {m m1 m2 : List Addr} {H H1 H2 : Hp} (a : Ext m H m1 H1) (b : Ext m1 H1 m2 H2) : Ext m H m2 H2 :=
  ⟨ExtW.trans a.toExtW b.toExtW, fun x u q h => b.fx x u q (a.fx x u q h)⟩
/-- tuples are in no store -/
def NoTup (m : List Addr) (H : Hp) : Prop := ∀ a ∈ m, ∀ xs, ¬ Rd H a (.tup xs)
theorem ExtW.sqt {K : PySem.W.Frag} {m m' : List Addr} {H H' : Hp} (k : ExtW m H m' H') (nt : NoTup m H) {a : Addr} {xs : List V} (h : SqT K H a xs) : SqT K H' a xs := by
  rcases h with h | h
  · exact .inl (k.keep a _ rfl h fun hm => nt a hm xs h).1
  · exact .inr h
theorem RoL.sql {K : PySem.W.Frag} {H : Hp} {m : List Addr} {a : Addr} {xs : List V} (h : RoL K H m a xs) : SqL K H a xs := by
  rcases h with ⟨h, _⟩ | h
  · exact .inl h
  · exact .inr h
section
variable {K : PySem.W.Frag} {H H' : Hp} {m m' : List Addr}
mutual
theorem RepP.ext (k : ExtW m H m' H') (nt : NoTup m H) : ∀ {p : P} {v : V}, RepP K H p v → RepP K H' p v
  | .non, _, h => h
  | .bl _, _, h => h
  | .int _, _, h => h
  | .str _, _, h => h
  | .tup _, _, h => by
    obtain ⟨a, vs, e, q, r⟩ := h
    exact ⟨a, vs, e, k.sqt nt q, RepPs.ext k nt r⟩
theorem RepPs.ext (k : ExtW m H m' H') (nt : NoTup m H) : ∀ {ps : List P} {vs : List V}, RepPs K H ps vs → RepPs K H' ps vs
  | [], _, h => h
  | _ :: _, _, h => by
    obtain ⟨v, r, e, h1, h2⟩ := h
    exact ⟨v, r, e, RepP.ext k nt h1, RepPs.ext k nt h2⟩
end
mutual
theorem RepD.ext (k : ExtW m H m' H') (nt : NoTup m H) : ∀ {d : D} {v : V}, RepD K H m d v → RepD K H' m' d v
  | .p _, _, h => RepP.ext k nt h
  | .loc n, _, h => by
    obtain ⟨a, e, q⟩ := h
    exact ⟨a, by obtain ⟨t, rfl⟩ := k.pre; rw [List.getElem?_append_left (List.getElem?_eq_some_iff.mp e).1]; exact e, q⟩
  | .mix _, _, h => by
    obtain ⟨a, vs, e, q, r⟩ := h
    exact ⟨a, vs, e, k.sqt nt q, RepDs.ext k nt r⟩
  | .lst _, _, h => by
    obtain ⟨a, vs, e, ⟨q, n⟩, r⟩ := h
    exact ⟨a, vs, e, ⟨k.lst a _ q n, (k.keep a _ rfl (.inl q) n).2⟩, RepDs.ext k nt r⟩
  | .ro _, _, h => by
    obtain ⟨a, vs, e, q, r⟩ := h
    refine ⟨a, vs, e, ?_, RepDs.ext k nt r⟩
    rcases q with ⟨q, n⟩ | q
    · exact .inl (k.keep a _ rfl q n)
    · exact .inr q
  | .dK _ _, _, h => by
    obtain ⟨a, vs, e, ⟨q, n⟩, l, r⟩ := h
    exact ⟨a, vs, e, k.keep a _ rfl q n, l, RepDs.ext k nt r⟩
  | .dT _ _, _, h => by
    obtain ⟨a, vs, e, ⟨q, n⟩, l, r⟩ := h
    exact ⟨a, vs, e, k.keep a _ rfl q n, l, RepDs.ext k nt r⟩
theorem RepDs.ext (k : ExtW m H m' H') (nt : NoTup m H) : ∀ {ds : List D} {vs : List V}, RepDs K H m ds vs → RepDs K H' m' ds vs
  | [], _, h => h
  | _ :: _, _, h => by
    obtain ⟨v, r, e, h1, h2⟩ := h
    exact ⟨v, r, e, RepD.ext k nt h1, RepDs.ext k nt h2⟩
end
theorem RepC.ext {ca : Str → Addr} {c : C} {a : Addr} (k : ExtW m H m' H') (nt : NoTup m H) (ha : H' a = H a) (h : RepC K H m ca c a) : RepC K H' m' ca c a := by
  cases c with
  | lst ds => obtain ⟨vs, e, r⟩ := h; exact ⟨vs, ha.trans e, r.ext k nt⟩
  | dK ks ds => obtain ⟨kv, e, q, r⟩ := h; exact ⟨kv, ha.trans e, q, r.ext k nt⟩
  | dT ks ds => obtain ⟨kv, e, q, r⟩ := h; exact ⟨kv, ha.trans e, q, r.ext k nt⟩
  | lk ks ds => obtain ⟨o, kv, e, q, r⟩ := h; exact ⟨o, kv, ha.trans e, q, r.ext k nt⟩
  | lkT ks ds => obtain ⟨o, kv, e, q, r⟩ := h; exact ⟨o, kv, ha.trans e, q, r.ext k nt⟩
  | ins c ks ds => obtain ⟨dx, fs', e, q, r⟩ := h; exact ⟨dx, fs', ha.trans e, q, r.ext k nt⟩
theorem RepC.some {ca : Str → Addr} {c : C} {a : Addr} (h : RepC K H m ca c a) : (∃ o, H a = Option.some o) ∧ ∀ xs, ¬ Rd H a (.tup xs) := by
  have go : ∀ {o : HO}, H a = Option.some o → (∀ xs, o ≠ .tup xs) → (∀ ob xs, o ≠ .frz ob (.tup xs)) → (∃ o, H a = Option.some o) ∧ ∀ xs, ¬ Rd H a (.tup xs) := fun {o} e h1 h2 => by
    refine ⟨⟨o, e⟩, fun xs h => ?_⟩
    rcases h with h | ⟨ob, h⟩
    · rw [e] at h; exact h1 xs (Option.some.inj h)
    · rw [e] at h; exact h2 ob xs (Option.some.inj h)
  cases c with
  | lst ds => obtain ⟨vs, e, r⟩ := h; exact go e (fun _ z => nomatch z) fun _ _ z => nomatch z
  | dK ks ds => obtain ⟨kv, e, q, r⟩ := h; exact go e (fun _ z => nomatch z) fun _ _ z => nomatch z
  | dT ks ds => obtain ⟨kv, e, q, r⟩ := h; exact go e (fun _ z => nomatch z) fun _ _ z => nomatch z
  | lk ks ds => obtain ⟨o, kv, e, q, r⟩ := h; exact go e (fun _ z => nomatch z) fun _ _ z => by injection z with z1 z2; nomatch z2
  | lkT ks ds => obtain ⟨o, kv, e, q, r⟩ := h; exact go e (fun _ z => nomatch z) fun _ _ z => by injection z with z1 z2; nomatch z2
  | ins c ks ds => obtain ⟨dx, fs', e, q, r⟩ := h; exact go e (fun _ z => nomatch z) fun _ _ z => nomatch z
end

/-! lists of things -/
section
variable {K : PySem.W.Frag} {H : Hp} {m : List Addr}
theorem RepDs.len : ∀ {ds : List D} {vs : List V}, RepDs K H m ds vs → ds.length = vs.length
  | [], _, h => by rw [show _ = _ from h]; rfl
  | _ :: _, _, h => by obtain ⟨v, r, e, h1, h2⟩ := h; subst e; simp [RepDs.len h2]
theorem RepPs.len : ∀ {ds : List P} {vs : List V}, RepPs K H ds vs → ds.length = vs.length
  | [], _, h => by rw [show _ = _ from h]; rfl
  | _ :: _, _, h => by obtain ⟨v, r, e, h1, h2⟩ := h; subst e; simp [RepPs.len h2]
theorem RepDs.get : ∀ {ds : List D} {vs : List V} {i : Nat} {d : D}, RepDs K H m ds vs → ds[i]? = some d → ∃ v, vs[i]? = some v ∧ RepD K H m d v
  | [], _, _, _, _, e => by simp at e
  | d :: ds, _, 0, _, h, e => by
    obtain ⟨v, r, ev, h1, h2⟩ := h
    subst ev; simp at e; subst e
    exact ⟨v, rfl, h1⟩
  | d :: ds, _, i + 1, _, h, e => by
    obtain ⟨v, r, ev, h1, h2⟩ := h
    subst ev
    obtain ⟨w, e1, e2⟩ := RepDs.get (i := i) h2 (by simpa using e)
    exact ⟨w, by simpa using e1, e2⟩
theorem RepDs.app : ∀ {ds es : List D} {vs ws : List V}, RepDs K H m ds vs → RepDs K H m es ws → RepDs K H m (ds ++ es) (vs ++ ws)
  | [], _, _, _, h, h' => by rw [show _ = _ from h]; exact h'
  | _ :: _, _, _, _, h, h' => by
    obtain ⟨v, r, e, h1, h2⟩ := h
    subst e
    exact ⟨v, r ++ _, rfl, h1, RepDs.app h2 h'⟩
theorem RepPs.app : ∀ {ds es : List P} {vs ws : List V}, RepPs K H ds vs → RepPs K H es ws → RepPs K H (ds ++ es) (vs ++ ws)
  | [], _, _, _, h, h' => by rw [show _ = _ from h]; exact h'
  | _ :: _, _, _, _, h, h' => by
    obtain ⟨v, r, e, h1, h2⟩ := h
    subst e
    exact ⟨v, r ++ _, rfl, h1, RepPs.app h2 h'⟩
theorem RepDs.one {d : D} {v : V} (h : RepD K H m d v) : RepDs K H m [d] [v] := ⟨v, [], rfl, h, rfl⟩
theorem RepDs.set : ∀ {ds : List D} {vs : List V} (i : Nat) {d : D} {v : V}, RepDs K H m ds vs → RepD K H m d v → RepDs K H m (ds.set i d) (vs.set i v)
  | [], _, _, _, _, h, _ => by rw [show _ = _ from h]; rfl
  | _ :: _, _, 0, _, v, h, hd => by
    obtain ⟨w, r, e, h1, h2⟩ := h
    subst e
    exact ⟨v, r, rfl, hd, h2⟩
  | _ :: _, _, i + 1, _, _, h, hd => by
    obtain ⟨w, r, e, h1, h2⟩ := h
    subst e
    exact ⟨w, _, rfl, h1, RepDs.set i h2 hd⟩
theorem RepDs.take : ∀ {ds : List D} {vs : List V} (n : Nat), RepDs K H m ds vs → RepDs K H m (ds.take n) (vs.take n)
  | [], _, _, h => by rw [show _ = _ from h]; simp; rfl
  | _ :: _, _, 0, h => by simp; rfl
  | _ :: _, _, n + 1, h => by
    obtain ⟨w, r, e, h1, h2⟩ := h
    subst e
    exact ⟨w, _, rfl, h1, RepDs.take n h2⟩
theorem RepDs.drop : ∀ {ds : List D} {vs : List V} (n : Nat), RepDs K H m ds vs → RepDs K H m (ds.drop n) (vs.drop n)
  | [], _, _, h => by rw [show _ = _ from h]; simp; rfl
  | _ :: _, _, 0, h => h
  | _ :: _, _, n + 1, h => by
    obtain ⟨w, r, e, h1, h2⟩ := h
    subst e
    exact RepDs.drop n h2
theorem RepDs.ofP : ∀ {ps : List P} {vs : List V}, RepPs K H ps vs → RepDs K H m (ps.map D.p) vs
  | [], _, h => h
  | _ :: _, _, h => by obtain ⟨v, r, e, h1, h2⟩ := h; exact ⟨v, r, e, h1, RepDs.ofP h2⟩
theorem RepPs.ofD : ∀ {ps : List P} {vs : List V}, RepDs K H m (ps.map D.p) vs → RepPs K H ps vs
  | [], _, h => h
  | _ :: _, _, h => by obtain ⟨v, r, e, h1, h2⟩ := h; exact ⟨v, r, e, h1, RepPs.ofD h2⟩
end

/-! the relation of a state with slots and heap -/
theorem nd_ix {α : Type} : ∀ {l : List α} {i j : Nat} {a : α}, l.Nodup → l[i]? = some a → l[j]? = some a → i = j
  | [], _, _, _, _, h, _ => by simp at h
  | x :: l, 0, 0, _, _, _, _ => rfl
  | x :: l, 0, j + 1, a, nd, h1, h2 => by
    simp at h1; subst h1
    exact absurd (List.mem_of_getElem? (by simpa using h2)) (List.nodup_cons.mp nd).1
  | x :: l, i + 1, 0, a, nd, h1, h2 => by
    simp at h2; subst h2
    exact absurd (List.mem_of_getElem? (by simpa using h1)) (List.nodup_cons.mp nd).1
  | x :: l, i + 1, j + 1, a, nd, h1, h2 => by
    exact congrArg (· + 1) (nd_ix (i := i) (j := j) (a := a) (List.nodup_cons.mp nd).2 (by simpa using h1) (by simpa using h2))
structure StRep (K : PySem.W.Frag) (ca : Str → Addr) (m : List Addr) (H : Hp) (st : S) : Prop where
  len : m.length = st.length
  nd : m.Nodup
  at_ : ∀ (n : Nat) (c : C) (a : Addr), st[n]? = some c → m[n]? = some a → RepC K H m ca c a
def EnvRep (K : PySem.W.Frag) (m : List Addr) (H : Hp) (ρ : Env) (σ : L2.St) : Prop :=
  ρ.length = σ.length ∧ ∀ (i : Nat) (d : D), ρ[i]? = some (some d) → ∃ v, σ[i]? = some (some v) ∧ RepD K H m d v
structure Rel (K : PySem.W.Frag) (ca : Str → Addr) (m : List Addr) (H : Hp) (ρ : Env) (σ : L2.St) (st : S) : Prop where
  env : EnvRep K m H ρ σ
  sto : StRep K ca m H st
section
variable {K : PySem.W.Frag} {ca : Str → Addr} {m m' : List Addr} {H H' : Hp} {ρ : Env} {σ : L2.St} {st st' : S}
theorem StRep.mem (s : StRep K ca m H st) {a : Addr} (h : a ∈ m) : ∃ (n : Nat) (c : C), m[n]? = some a ∧ st[n]? = some c ∧ RepC K H m ca c a := by
  obtain ⟨n, hn⟩ := List.mem_iff_getElem?.mp h
  have h1 := (List.getElem?_eq_some_iff.mp hn).1
  rw [s.len] at h1
  exact ⟨n, _, hn, List.getElem?_eq_getElem h1, s.at_ n _ a (List.getElem?_eq_getElem h1) hn⟩
theorem StRep.nt (s : StRep K ca m H st) : NoTup m H := fun a ha xs h => by
  obtain ⟨_, _, _, _, r⟩ := s.mem ha
  exact r.some.2 xs h
theorem StRep.here (s : StRep K ca m H st) {a : Addr} (h : a ∈ m) : ∃ o, H a = some o := by
  obtain ⟨_, _, _, _, r⟩ := s.mem h
  exact r.some.1
theorem StRep.fresh (s : StRep K ca m H st) {p : Addr} (h : H p = none) : p ∉ m := fun hm => by
  obtain ⟨o, e⟩ := s.here hm
  rw [h] at e; cases e
theorem StRep.lt (s : StRep K ca m H st) {n : Nat} {c : C} (e : st[n]? = some c) : ∃ a, m[n]? = some a ∧ RepC K H m ca c a := by
  have h1 := (List.getElem?_eq_some_iff.mp e).1
  rw [← s.len] at h1
  exact ⟨m[n], List.getElem?_eq_getElem h1, s.at_ n c _ e (List.getElem?_eq_getElem h1)⟩
theorem StRep.repD (s : StRep K ca m H st) (x : ExtW m H m' H') {d : D} {v : V} (h : RepD K H m d v) : RepD K H' m' d v := h.ext x s.nt
theorem StRep.repDs (s : StRep K ca m H st) (x : ExtW m H m' H') {d : List D} {v : List V} (h : RepDs K H m d v) : RepDs K H' m' d v := h.ext x s.nt
theorem EnvRep.ext (h : EnvRep K m H ρ σ) (x : ExtW m H m' H') (nt : NoTup m H) : EnvRep K m' H' ρ σ :=
  ⟨h.1, fun i d e => by obtain ⟨v, e1, r⟩ := h.2 i d e; exact ⟨v, e1, r.ext x nt⟩⟩
theorem EnvRep.set (h : EnvRep K m H ρ σ) (i : Nat) {d : D} {v : V} (r : RepD K H m d v) : EnvRep K m H (ρ.set i (some d)) (σ.set i (some v)) := by
  refine ⟨by simpa using h.1, fun j e he => ?_⟩
  by_cases hij : i = j
  · subst hij
    by_cases hl : i < ρ.length
    · rw [List.getElem?_set_self hl] at he
      cases he
      exact ⟨v, by rw [List.getElem?_set_self (by rw [← h.1]; exact hl)], r⟩
    · rw [List.getElem?_eq_none (by simpa using hl)] at he
      cases he
  · rw [List.getElem?_set_ne hij] at he ⊢
    exact h.2 j e he
theorem fx_upd {H : Hp} {p : Addr} {o : HO} (hp : ∀ u, Fx u → H p ≠ some u) : ∀ b u, Fx u → H b = some u → upd H p o b = some u := fun b u q h => by
  have hb : b ≠ p := fun e => hp u q (e ▸ h)
  exact (upd_ne hb).trans h
theorem Ext.new {p : Addr} {o : HO} (s : StRep K ca m H st) (hp : H p = none) : Ext m H m (upd H p o) :=
  ⟨⟨List.prefix_refl _, fun b u _ h n => by
    have hb : b ≠ p := fun e => by
      subst e
      rcases h with h | ⟨_, h⟩ <;> (rw [hp] at h; cases h)
    refine ⟨?_, n⟩
    rcases h with h | ⟨ob, h⟩
    · exact .inl ((upd_ne hb).trans h)
    · exact .inr ⟨ob, (upd_ne hb).trans h⟩, fun b vs h n => (upd_ne (ne_of_none h hp)).trans h⟩, fx_upd fun _ _ e => by rw [hp] at e; cases e⟩
theorem Ext.newM {p : Addr} {o : HO} (s : StRep K ca m H st) (hp : H p = none) : Ext m H (m ++ [p]) (upd H p o) :=
  ⟨⟨List.prefix_append _ _, fun b u _ h n => by
    have hb : b ≠ p := fun e => by
      subst e
      rcases h with h | ⟨_, h⟩ <;> (rw [hp] at h; cases h)
    refine ⟨?_, by simp [n, hb]⟩
    rcases h with h | ⟨ob, h⟩
    · exact .inl ((upd_ne hb).trans h)
    · exact .inr ⟨ob, (upd_ne hb).trans h⟩, fun b vs h n => (upd_ne (ne_of_none h hp)).trans h⟩, fx_upd fun _ _ e => by rw [hp] at e; cases e⟩
theorem ExtW.put {a : Addr} {o : HO} (ha : a ∈ m) : ExtW m H m (upd H a o) :=
  ⟨List.prefix_refl _, fun b u _ h n => by
    have hb : b ≠ a := fun e => n (e ▸ ha)
    refine ⟨?_, n⟩
    rcases h with h | ⟨ob, h⟩
    · exact .inl ((upd_ne hb).trans h)
    · exact .inr ⟨ob, (upd_ne hb).trans h⟩, fun b vs h n => (upd_ne (show b ≠ a from fun e => n (e ▸ ha))).trans h⟩
theorem Ext.put {a : Addr} {o : HO} (ha : a ∈ m) (hn : ∀ u, Fx u → H a ≠ some u) : Ext m H m (upd H a o) := ⟨ExtW.put ha, fx_upd hn⟩
theorem nf_lst {a : Addr} {vs : List V} (h : H a = some (.lst vs)) : ∀ u, Fx u → H a ≠ some u := fun _ q e => by rw [h] at e; cases e; exact q
theorem nf_dK {a : Addr} {vs : List (Key × V)} (h : H a = some (.dK vs)) : ∀ u, Fx u → H a ≠ some u := fun _ q e => by rw [h] at e; cases e; exact q
theorem nf_dT {a : Addr} {vs : List (List Key × V)} (h : H a = some (.dT vs)) : ∀ u, Fx u → H a ≠ some u := fun _ q e => by rw [h] at e; cases e; exact q
theorem nf_ins {a c dx : Addr} {fs : List (Str × V)} (h : H a = some (.ins c dx fs)) : ∀ u, Fx u → H a ≠ some u := fun _ q e => by rw [h] at e; cases e; exact q
/-- the cells are as they were -/
theorem StRep.same (s : StRep K ca m H st) (x : ExtW m H m H') (h : ∀ a ∈ m, H' a = H a) : StRep K ca m H' st :=
  ⟨s.len, s.nd, fun n c a e1 e2 => (s.at_ n c a e1 e2).ext x s.nt (h a (List.mem_of_getElem? e2))⟩
theorem StRep.updNew (s : StRep K ca m H st) {p : Addr} {o : HO} (hp : H p = none) : StRep K ca m (upd H p o) st :=
  s.same (Ext.new s hp).toExtW fun a ha => upd_ne fun e => s.fresh hp (e ▸ ha)
/-- a new cell -/
theorem StRep.alloc (s : StRep K ca m H st) {p : Addr} {o : HO} {c : C} (hp : H p = none) (hc : RepC K (upd H p o) (m ++ [p]) ca c p) : StRep K ca (m ++ [p]) (upd H p o) (st ++ [c]) := by
  have hnm := s.fresh hp
  refine ⟨by simp [s.len], List.nodup_append.mpr ⟨s.nd, by simp, fun a ha b hb => ?_⟩, fun n c' a e1 e2 => ?_⟩
  · intro e; subst e; simp at hb; subst hb; exact hnm ha
  · by_cases hn : n < st.length
    · rw [List.getElem?_append_left hn] at e1
      rw [List.getElem?_append_left (by rw [s.len]; exact hn)] at e2
      have ham := List.mem_of_getElem? e2
      exact (s.at_ n c' a e1 e2).ext (Ext.newM s hp).toExtW s.nt (upd_ne fun e => hnm (e ▸ ham))
    · have hn' : n = st.length := by
        have := (List.getElem?_eq_some_iff.mp e1).1
        simp at this; omega
      subst hn'
      rw [List.getElem?_append_right (Nat.le_refl _)] at e1
      rw [List.getElem?_append_right (by rw [s.len]; exact Nat.le_refl _)] at e2
      simp [s.len] at e1 e2
      subst e1 e2
      exact hc
/-- a cell changed -/
theorem StRep.put (s : StRep K ca m H st) {n : Nat} {a : Addr} {o : HO} {c : C} (hn : m[n]? = some a) (hc : RepC K (upd H a o) m ca c a) : StRep K ca m (upd H a o) (st.set n c) := by
  have ha := List.mem_of_getElem? hn
  refine ⟨by simp [s.len], s.nd, fun j c' b e1 e2 => ?_⟩
  by_cases hj : n = j
  · subst hj
    rw [hn] at e2; cases e2
    have hl : n < st.length := by rw [← s.len]; exact (List.getElem?_eq_some_iff.mp hn).1
    rw [List.getElem?_set_self hl] at e1
    cases e1
    exact hc
  · rw [List.getElem?_set_ne hj] at e1
    have hb : b ≠ a := fun e => by
      subst e
      exact hj (nd_ix s.nd hn e2)
    exact (s.at_ j c' b e1 e2).ext (ExtW.put ha) s.nt (upd_ne hb)
theorem Rel.ext (r : Rel K ca m H ρ σ st) (x : ExtW m H m' H') (s : StRep K ca m' H' st') : Rel K ca m' H' ρ σ st' := ⟨r.env.ext x r.sto.nt, s⟩
end

/-! leaving a def: what was made on the way is let go; a list, a dict that is handed back is changed by nobody any more -/
mutual
def clD (k : Nat) : D → Bool
  | .p _ => true
  | .loc n => decide (n < k)
  | .mix ds => clDs k ds
  | .lst ds => clDs k ds
  | .ro ds => clDs k ds
  | .dK _ ds => clDs k ds
  | .dT _ ds => clDs k ds
def clDs (k : Nat) : List D → Bool
  | [] => true
  | d :: ds => clD k d && clDs k ds
end
def clC (k : Nat) : C → Bool
  | .lst ds => clDs k ds
  | .dK _ ds => clDs k ds
  | .dT _ ds => clDs k ds
  | .lk _ _ => false
  | .lkT _ _ => false
  | .ins _ _ ds => clDs k ds
/-- the cells of before, as they are now -/
def chk (k : Nat) : S → S → Bool
  | [], _ => true
  | c :: s, c' :: s' => (decide (c' = c) || clC k c') && chk k s s'
  | _ :: _, [] => false
def frz1 (k : Nat) (st' : S) (d : D) : D := match d with
  | .loc n => if n < k then .loc n else match st'[n]? with
    | some (.lst ds) => .lst ds
    | some (.dK ks ds) => .dK ks ds
    | some (.dT ks ds) => .dT ks ds
    | _ => .loc n
  | d => d
def frzD (k : Nat) (st' : S) (d : D) : D := match d with
  | .mix ds => .mix (ds.map (frz1 k st'))
  | d => frz1 k st' d
section
variable {K : PySem.W.Frag} {ca : Str → Addr} {m m' : List Addr} {H : Hp} {st st' : S} {k : Nat}
mutual
theorem RepD.cut (hp : m <+: m') (hk : m.length = k) : ∀ {d : D} {v : V}, clD k d = true → RepD K H m' d v → RepD K H m d v
  | .p _, _, _, h => h
  | .loc n, _, c, h => by
    obtain ⟨a, e, q⟩ := h
    have hn : n < k := of_decide_eq_true c
    refine ⟨a, ?_, q⟩
    obtain ⟨t, rfl⟩ := hp
    rw [List.getElem?_append_left (by omega)] at e
    exact e
  | .mix _, _, c, h => by
    obtain ⟨a, vs, e, q, r⟩ := h
    exact ⟨a, vs, e, q, RepDs.cut hp hk c r⟩
  | .lst _, _, c, h => by
    obtain ⟨a, vs, e, ⟨q, n⟩, r⟩ := h
    exact ⟨a, vs, e, ⟨q, fun z => n (hp.subset z)⟩, RepDs.cut hp hk c r⟩
  | .ro _, _, c, h => by
    obtain ⟨a, vs, e, q, r⟩ := h
    refine ⟨a, vs, e, ?_, RepDs.cut hp hk c r⟩
    rcases q with ⟨q, n⟩ | q
    · exact .inl ⟨q, fun z => n (hp.subset z)⟩
    · exact .inr q
  | .dK _ _, _, c, h => by
    obtain ⟨a, vs, e, ⟨q, n⟩, l, r⟩ := h
    exact ⟨a, vs, e, ⟨q, fun z => n (hp.subset z)⟩, l, RepDs.cut hp hk c r⟩
  | .dT _ _, _, c, h => by
    obtain ⟨a, vs, e, ⟨q, n⟩, l, r⟩ := h
    exact ⟨a, vs, e, ⟨q, fun z => n (hp.subset z)⟩, l, RepDs.cut hp hk c r⟩
theorem RepDs.cut (hp : m <+: m') (hk : m.length = k) : ∀ {ds : List D} {vs : List V}, clDs k ds = true → RepDs K H m' ds vs → RepDs K H m ds vs
  | [], _, _, h => h
  | _ :: _, _, c, h => by
    obtain ⟨v, r, e, h1, h2⟩ := h
    obtain ⟨c1, c2⟩ := Bool.and_eq_true_iff.mp (show (clD k _ && clDs k _) = true from c)
    exact ⟨v, r, e, RepD.cut hp hk c1 h1, RepDs.cut hp hk c2 h2⟩
end
mutual
theorem RepD.cl (hk : m.length = k) : ∀ {d : D} {v : V}, RepD K H m d v → clD k d = true
  | .p _, _, h => rfl
  | .loc n, _, h => by
    obtain ⟨a, e, q⟩ := h
    have := (List.getElem?_eq_some_iff.mp e).1
    exact decide_eq_true (by omega)
  | .mix _, _, h => by obtain ⟨a, vs, e, q, r⟩ := h; exact RepDs.cl hk r
  | .lst _, _, h => by obtain ⟨a, vs, e, q, r⟩ := h; exact RepDs.cl hk r
  | .ro _, _, h => by obtain ⟨a, vs, e, q, r⟩ := h; exact RepDs.cl hk r
  | .dK _ _, _, h => by obtain ⟨a, vs, e, q, l, r⟩ := h; exact RepDs.cl hk r
  | .dT _ _, _, h => by obtain ⟨a, vs, e, q, l, r⟩ := h; exact RepDs.cl hk r
theorem RepDs.cl (hk : m.length = k) : ∀ {ds : List D} {vs : List V}, RepDs K H m ds vs → clDs k ds = true
  | [], _, h => rfl
  | _ :: _, _, h => by
    obtain ⟨v, r, e, h1, h2⟩ := h
    exact Bool.and_eq_true_iff.mpr ⟨RepD.cl hk h1, RepDs.cl hk h2⟩
end
/-- what is taken out of the store: the cells' things do not lie among the values -/
theorem RepC.cut {c : C} {a : Addr} (hp : m <+: m') (hk : m.length = k) (hc : clC k c = true) (h : RepC K H m' ca c a) : RepC K H m ca c a := by
  cases c with
  | lst ds => obtain ⟨vs, e, r⟩ := h; exact ⟨vs, e, r.cut hp hk hc⟩
  | dK ks ds => obtain ⟨kv, e, q, r⟩ := h; exact ⟨kv, e, q, r.cut hp hk hc⟩
  | dT ks ds => obtain ⟨kv, e, q, r⟩ := h; exact ⟨kv, e, q, r.cut hp hk hc⟩
  | lk ks ds => cases hc
  | lkT ks ds => cases hc
  | ins c ks ds => obtain ⟨dx, fs', e, q, r⟩ := h; exact ⟨dx, fs', e, q, r.cut hp hk hc⟩
/-- the things themselves are cut to the store of before -/
theorem RepC.cut0 {H0 : Hp} {c : C} {a a0 : Addr} (hp : m <+: m') (hk : m.length = k) (h0 : RepC K H0 m ca c a0) (h : RepC K H m' ca c a) : RepC K H m ca c a := by
  cases c with
  | lst ds => obtain ⟨_, _, r0⟩ := h0; obtain ⟨vs, e, r⟩ := h; exact ⟨vs, e, r.cut hp hk (r0.cl hk)⟩
  | dK ks ds => obtain ⟨_, _, _, r0⟩ := h0; obtain ⟨kv, e, q, r⟩ := h; exact ⟨kv, e, q, r.cut hp hk (r0.cl hk)⟩
  | dT ks ds => obtain ⟨_, _, _, r0⟩ := h0; obtain ⟨kv, e, q, r⟩ := h; exact ⟨kv, e, q, r.cut hp hk (r0.cl hk)⟩
  | lk ks ds => obtain ⟨_, _, _, _, r0⟩ := h0; obtain ⟨o, kv, e, q, r⟩ := h; exact ⟨o, kv, e, q, r.cut hp hk (r0.cl hk)⟩
  | lkT ks ds => obtain ⟨_, _, _, _, r0⟩ := h0; obtain ⟨o, kv, e, q, r⟩ := h; exact ⟨o, kv, e, q, r.cut hp hk (r0.cl hk)⟩
  | ins c ks ds => obtain ⟨_, _, _, _, r0⟩ := h0; obtain ⟨dx, fs', e, q, r⟩ := h; exact ⟨dx, fs', e, q, r.cut hp hk (r0.cl hk)⟩
theorem chk_at : ∀ {s s' : S} {n : Nat} {c c' : C}, chk k s s' = true → s[n]? = some c → s'[n]? = some c' → c' = c ∨ clC k c' = true
  | [], _, _, _, _, _, e, _ => by simp at e
  | d :: s, [], _, _, _, _, _, e => by simp at e
  | d :: s, d' :: s', 0, _, _, h, e, e' => by
    obtain ⟨h1, _⟩ := Bool.and_eq_true_iff.mp (show ((decide (d' = d) || clC k d') && chk k s s') = true from h)
    simp at e e'; subst e e'
    rcases Bool.or_eq_true_iff.mp h1 with q | q
    · exact .inl (of_decide_eq_true q)
    · exact .inr q
  | d :: s, d' :: s', n + 1, _, _, h, e, e' => by
    obtain ⟨_, h2⟩ := Bool.and_eq_true_iff.mp (show ((decide (d' = d) || clC k d') && chk k s s') = true from h)
    exact chk_at (n := n) h2 (by simpa using e) (by simpa using e')
theorem chk_len : ∀ {s s' : S}, chk k s s' = true → s.length ≤ s'.length
  | [], _, _ => Nat.zero_le _
  | d :: s, [], h => by cases h
  | d :: s, d' :: s', h => by
    obtain ⟨_, h2⟩ := Bool.and_eq_true_iff.mp (show ((decide (d' = d) || clC k d') && chk k s s') = true from h)
    exact Nat.succ_le_succ (chk_len h2)
/-- what is made stays behind -/
theorem StRep.cut {H0 : Hp} (s0 : StRep K ca m H0 st) (s1 : StRep K ca m' H st') (hp : m <+: m') (h : chk st.length st st' = true) : StRep K ca m H (st'.take st.length) := by
  have hl := chk_len h
  refine ⟨by rw [s0.len, List.length_take]; omega, s0.nd, fun n c a e1 e2 => ?_⟩
  have hn : n < st.length := by rw [← s0.len]; exact (List.getElem?_eq_some_iff.mp e2).1
  rw [List.getElem?_take_of_lt hn] at e1
  have e3 : m'[n]? = some a := by
    obtain ⟨t, rfl⟩ := hp
    rw [List.getElem?_append_left (by rw [s0.len]; exact hn)]; exact e2
  have r1 := s1.at_ n c a e1 e3
  have e0 : st[n]? = some st[n] := List.getElem?_eq_getElem hn
  rcases chk_at h e0 e1 with q | q
  · subst q
    exact RepC.cut0 hp s0.len (s0.at_ n _ a e0 e2) r1
  · exact r1.cut hp s0.len q
theorem Ext.cut {H0 : Hp} (x : Ext m H0 m' H) : Ext m H0 m H := ⟨⟨List.prefix_refl _, fun b u p h n => ⟨(x.keep b u p h n).1, n⟩, x.lst⟩, x.fx⟩
theorem nd_pre {m m' : List Addr} (hp : m <+: m') (nd : m'.Nodup) {n : Nat} {a : Addr} (e : m'[n]? = some a) (h : m.length ≤ n) : a ∉ m := fun hm => by
  obtain ⟨j, hj⟩ := List.mem_iff_getElem?.mp hm
  have hjl := (List.getElem?_eq_some_iff.mp hj).1
  have e2 : m'[j]? = some a := by
    obtain ⟨t, rfl⟩ := hp
    rw [List.getElem?_append_left hjl]; exact hj
  have := nd_ix nd e e2
  omega
theorem frz1_ok (s1 : StRep K ca m' H st') (hp : m <+: m') (hk : m.length = k) {d : D} {v : V} (r : RepD K H m' d v) (c : clD k (frz1 k st' d) = true) : RepD K H m (frz1 k st' d) v := by
  cases d with
  | loc n =>
    unfold frz1 at c ⊢
    by_cases hn : n < k
    · simp only [hn, if_true] at c ⊢
      exact RepD.cut hp hk (d := .loc n) (decide_eq_true hn) r
    · simp only [hn, if_false] at c ⊢
      obtain ⟨a, e, q⟩ := r
      cases e2 : st'[n]? with
      | none => rw [e2] at c; exact absurd (of_decide_eq_true c) hn
      | some z =>
        rw [e2] at c
        have rz := s1.at_ n z a e2 e
        have na := nd_pre hp s1.nd e (by omega)
        cases z with
        | lst ds => obtain ⟨vs, ea, rr⟩ := rz; exact ⟨a, vs, q, ⟨ea, na⟩, rr.cut hp hk c⟩
        | dK ks ds => obtain ⟨vs, ea, l, rr⟩ := rz; exact ⟨a, vs, q, ⟨.inl ea, na⟩, l, rr.cut hp hk c⟩
        | dT ks ds => obtain ⟨vs, ea, l, rr⟩ := rz; exact ⟨a, vs, q, ⟨.inl ea, na⟩, l, rr.cut hp hk c⟩
        | lk ks ds => exact absurd (of_decide_eq_true c) hn
        | lkT ks ds => exact absurd (of_decide_eq_true c) hn
        | ins c' ks ds => exact absurd (of_decide_eq_true c) hn
  | _ => exact RepD.cut hp hk c r
theorem frz1s_ok (s1 : StRep K ca m' H st') (hp : m <+: m') (hk : m.length = k) : ∀ {ds : List D} {vs : List V}, RepDs K H m' ds vs → clDs k (ds.map (frz1 k st')) = true → RepDs K H m (ds.map (frz1 k st')) vs
  | [], _, h, _ => h
  | d :: ds, _, h, c => by
    obtain ⟨v, r, e, h1, h2⟩ := h
    obtain ⟨c1, c2⟩ := Bool.and_eq_true_iff.mp (show (clD k (frz1 k st' d) && clDs k (ds.map (frz1 k st'))) = true from c)
    exact ⟨v, r, e, frz1_ok s1 hp hk h1 c1, frz1s_ok s1 hp hk h2 c2⟩
theorem frzD_ok (s1 : StRep K ca m' H st') (hp : m <+: m') (hk : m.length = k) {d : D} {v : V} (r : RepD K H m' d v) (c : clD k (frzD k st' d) = true) : RepD K H m (frzD k st' d) v := by
  cases d with
  | mix ds =>
    obtain ⟨a, vs, e, q, rr⟩ := r
    exact ⟨a, vs, e, q, frz1s_ok s1 hp hk rr c⟩
  | _ => exact frz1_ok s1 hp hk r c
/-- what a def hands back -/
def fin (st : S) (d : D) (st' : S) : D × S :=
  if (clD st.length (frzD st.length st' d) && chk st.length st st') = true then (frzD st.length st' d, st'.take st.length) else (d, st')
theorem fin_ok {H0 : Hp} {d : D} {v : V} (s0 : StRep K ca m H0 st) (x : Ext m H0 m' H) (s1 : StRep K ca m' H st') (r : RepD K H m' d v) :
    ∃ m2, Ext m H0 m2 H ∧ StRep K ca m2 H (fin st d st').2 ∧ RepD K H m2 (fin st d st').1 v := by
  unfold fin
  split
  · rename_i h
    obtain ⟨h1, h2⟩ := Bool.and_eq_true_iff.mp h
    exact ⟨m, x.cut, s0.cut s1 x.pre h2, frzD_ok s1 x.pre s0.len r h1⟩
  · exact ⟨m', x, s1, r⟩
end
end Mo

set_option Elab.async false
set_option linter.all false
set_option maxRecDepth 100000
set_option maxHeartbeats 4000000
namespace Mo
open PySem PySem.Spec PyProof.Rows L2

/-! what code comes to -/
/-- an exception of the program's own: its class by name, its fields -/
structure Xc where
  cls : Str
  fs : List (Str × D)
inductive Out (α : Type) where
  | ok (a : α) (s : S) | ex (x : Xc) (s : S) | no
inductive Fl where
  | nx (ρ : Env) (s : S) | rt (d : D) (s : S) | bk (ρ : Env) (s : S) | ct (ρ : Env) (s : S) | ex (x : Xc) (ρ : Env) (s : S) | no
def Out.bind {α β : Type} (o : Out α) (f : α → S → Out β) : Out β := match o with
  | .ok a s => f a s
  | .ex x s => .ex x s
  | .no => .no
def Out.fl {α : Type} (o : Out α) (ρ : Env) (f : α → S → Fl) : Fl := match o with
  | .ok a s => f a s
  | .ex x s => .ex x ρ s
  | .no => .no
def Fl.then_ (o : Fl) (f : Env → S → Fl) : Fl := match o with
  | .nx ρ s => f ρ s
  | o => o
@[simp] theorem Out.bind_ok {α β : Type} (a : α) (s : S) (f : α → S → Out β) : (Out.ok a s).bind f = f a s := rfl
@[simp] theorem Out.bind_ex {α β : Type} (x : Xc) (s : S) (f : α → S → Out β) : (Out.ex x s).bind f = .ex x s := rfl
@[simp] theorem Out.bind_no {α β : Type} (f : α → S → Out β) : (Out.no : Out α).bind f = .no := rfl
@[simp] theorem Out.fl_ok {α : Type} (a : α) (s : S) (ρ : Env) (f : α → S → Fl) : (Out.ok a s).fl ρ f = f a s := rfl
@[simp] theorem Out.fl_ex {α : Type} (x : Xc) (s : S) (ρ : Env) (f : α → S → Fl) : (Out.ex x s).fl ρ f = .ex x ρ s := rfl
@[simp] theorem Out.fl_no {α : Type} (ρ : Env) (f : α → S → Fl) : (Out.no : Out α).fl ρ f = .no := rfl
@[simp] theorem Fl.then_nx (ρ : Env) (s : S) (f : Env → S → Fl) : (Fl.nx ρ s).then_ f = f ρ s := rfl
@[simp] theorem Fl.then_rt (d : D) (s : S) (f : Env → S → Fl) : (Fl.rt d s).then_ f = .rt d s := rfl
@[simp] theorem Fl.then_bk (ρ : Env) (s : S) (f : Env → S → Fl) : (Fl.bk ρ s).then_ f = .bk ρ s := rfl
@[simp] theorem Fl.then_ct (ρ : Env) (s : S) (f : Env → S → Fl) : (Fl.ct ρ s).then_ f = .ct ρ s := rfl
@[simp] theorem Fl.then_ex (x : Xc) (ρ : Env) (s : S) (f : Env → S → Fl) : (Fl.ex x ρ s).then_ f = .ex x ρ s := rfl
@[simp] theorem Fl.then_no (f : Env → S → Fl) : (Fl.no).then_ f = .no := rfl
abbrev Ex := Env → S → Out D
abbrev Te := Env → S → Out Bool
abbrev Ar := Env → S → Out (List D)
abbrev Bl := Env → S → Fl

/-! the judgements -/
section
variable (K : PySem.W.Frag) (ca : Str → Addr) (W : WX)
def XRep (H : Hp) (m : List Addr) (x : Xc) (c : Value) (od : Option Addr) : Prop :=
  c = .ref (ca x.cls) ∧ (x.fs = [] ∨ ∃ d fs, od = some d ∧ H d = some (.xd fs) ∧ ∀ f dv, x.fs.lookup f = some dv → ∃ v, fs.lookup f = some v ∧ RepD K H m dv v)
/-- o: what it came to; R: what is wanted of a good end -/
def PO_ {α : Type} (m : List Addr) (H : Hp) (ρ : Env) (σ : L2.St) (R : α → S → List Addr → Hp → Prop) : Out α → Prop
  | .ok a s => ∀ m' H', Ext m H m' H' → Rel K ca m' H' ρ σ s → R a s m' H'
  | .ex x s => ∀ m' H' c od, Ext m H m' H' → Rel K ca m' H' ρ σ s → XRep K ca H' m' x c od → W c od σ H'
  | .no => False
def tE (A : Ex) : TE := fun σ H Q => ∃ m ρ s, Rel K ca m H ρ σ s ∧ PO_ K ca W m H ρ σ (fun d _ m' H' => ∀ v, RepD K H' m' d v → Q v H') (A ρ s)
def tT (A : Te) : TT := fun σ H Q => ∃ m ρ s, Rel K ca m H ρ σ s ∧ PO_ K ca W m H ρ σ (fun b _ _ H' => Q b H') (A ρ s)
def tA (A : Ar) : TA := fun σ H Q => ∃ m ρ s, Rel K ca m H ρ σ s ∧ PO_ K ca W m H ρ σ (fun d _ m' H' => ∀ v, RepDs K H' m' d v → Q v H') (A ρ s)
def PF_ (m : List Addr) (H : Hp) (D_ : Ends) : Fl → Prop
  | .nx ρ s => ∀ m' H' σ', Ext m H m' H' → Rel K ca m' H' ρ σ' s → D_.nx σ' H'
  | .bk ρ s => ∀ m' H' σ', Ext m H m' H' → Rel K ca m' H' ρ σ' s → D_.bk σ' H'
  | .ct ρ s => ∀ m' H' σ', Ext m H m' H' → Rel K ca m' H' ρ σ' s → D_.ct σ' H'
  | .rt d s => ∀ m' H' v, Ext m H m' H' → StRep K ca m' H' s → RepD K H' m' d v → D_.rt v H'
  | .ex x ρ s => ∀ m' H' σ' c od, Ext m H m' H' → Rel K ca m' H' ρ σ' s → XRep K ca H' m' x c od → W c od σ' H'
  | .no => False
def tS (B : Bl) : TS := fun D_ σ H => ∃ m ρ s, Rel K ca m H ρ σ s ∧ PF_ K ca W m H D_ (B ρ s)
end
/-- the context, the classes' addresses, the wish about exceptions, the room -/
structure G where
  X : Cx
  ca : Str → Addr
  W : WX
  k : Nat
structure G.Ok (g : G) : Prop where
  tk : Takes g.X g.W
  hr : Room g.k g.X.A
def EvE (g : G) (e : Expr) (A : Ex) : Prop := PE g.X e (tE g.X.K g.ca g.W A)
def EvT (g : G) (e : Expr) (A : Te) : Prop := PT g.X e (tT g.X.K g.ca g.W A)
def EvA (g : G) (es : List Expr) (A : Ar) : Prop := PA g.X es (tA g.X.K g.ca g.W A)
def EvS (g : G) (s : Stmt) (B : Bl) : Prop := PS g.X s (tS g.X.K g.ca g.W B)
def EvB (g : G) (s : List Stmt) (B : Bl) : Prop := PSs g.X s (tS g.X.K g.ca g.W B)

theorem PE.imp {X : Cx} {e : Expr} {t t' : TE} (h : PE X e t) (i : ∀ σ H Q, t' σ H Q → t σ H Q) : PE X e t' := ⟨fun pins s σ H Q I q => h.run pins s σ H Q I (i σ H Q q)⟩
theorem PT.imp {X : Cx} {e : Expr} {t t' : TT} (h : PT X e t) (i : ∀ σ H Q, t' σ H Q → t σ H Q) : PT X e t' := ⟨fun pins s σ H Q I q => h.run pins s σ H Q I (i σ H Q q)⟩
theorem PW.imp {X : Cx} {e : Expr} {t t' : TT} (h : PW X e t) (i : ∀ σ H Q, t' σ H Q → t σ H Q) : PW X e t' := ⟨fun wh pins s σ H Q I q => h.run wh pins s σ H Q I (i σ H Q q)⟩
theorem PA.imp {X : Cx} {e : List Expr} {t t' : TA} (h : PA X e t) (i : ∀ σ H Q, t' σ H Q → t σ H Q) : PA X e t' := ⟨fun pos pins s σ H Q I q => h.run pos pins s σ H Q I (i σ H Q q)⟩
theorem PS.imp {X : Cx} {e : Stmt} {t t' : TS} (h : PS X e t) (i : ∀ D σ H, t' D σ H → t D σ H) : PS X e t' := ⟨fun pins s σ H D I q => h.run pins s σ H D I (i D σ H q)⟩
theorem PSs.imp {X : Cx} {e : List Stmt} {t t' : TS} (h : PSs X e t) (i : ∀ D σ H, t' D σ H → t D σ H) : PSs X e t' := ⟨fun pins s σ H D I q => h.run pins s σ H D I (i D σ H q)⟩

section
variable {K : PySem.W.Frag} {ca : Str → Addr} {W : WX} {m m1 : List Addr} {H H1 : Hp} {ρ : Env} {σ : L2.St} {s s1 : S}
/-- the state has gone on: the same end is wanted of what follows -/
theorem PO_.on {α : Type} {R : α → S → List Addr → Hp → Prop} {o : Out α} (x : Ext m H m1 H1) (h : PO_ K ca W m H ρ σ R o) : PO_ K ca W m1 H1 ρ σ R o := by
  cases o with
  | ok a s => exact fun m' H' x' r => h m' H' (x.trans x') r
  | ex y s => exact fun m' H' c od x' r q => h m' H' c od (x.trans x') r q
  | no => exact h
theorem PF_.on {D_ : Ends} {o : Fl} (x : Ext m H m1 H1) (h : PF_ K ca W m H D_ o) : PF_ K ca W m1 H1 D_ o := by
  cases o with
  | nx ρ s => exact fun m' H' σ' x' r => h m' H' σ' (x.trans x') r
  | bk ρ s => exact fun m' H' σ' x' r => h m' H' σ' (x.trans x') r
  | ct ρ s => exact fun m' H' σ' x' r => h m' H' σ' (x.trans x') r
  | rt d s => exact fun m' H' v x' r q => h m' H' v (x.trans x') r q
  | ex y ρ s => exact fun m' H' σ' c od x' r q => h m' H' σ' c od (x.trans x') r q
  | no => exact h
/-- first A, then what f makes of it -/
theorem PO_.bind {α β : Type} {R : β → S → List Addr → Hp → Prop} {o : Out α} {f : α → S → Out β} (h : PO_ K ca W m H ρ σ R (o.bind f)) :
    PO_ K ca W m H ρ σ (fun a s' m' H' => Rel K ca m' H' ρ σ s' ∧ PO_ K ca W m' H' ρ σ R (f a s')) o := by
  cases o with
  | ok a s => exact fun m' H' x r => ⟨r, PO_.on x h⟩
  | ex y s => exact h
  | no => exact h
theorem PO_.fl {α : Type} {D_ : Ends} {o : Out α} {f : α → S → Fl} (h : PF_ K ca W m H D_ (o.fl ρ f)) :
    PO_ K ca W m H ρ σ (fun a s' m' H' => Rel K ca m' H' ρ σ s' ∧ PF_ K ca W m' H' D_ (f a s')) o := by
  cases o with
  | ok a s => exact fun m' H' x r => ⟨r, PF_.on x h⟩
  | ex y s => exact fun m' H' c od x r q => h m' H' σ c od x r q
  | no => exact h
theorem PO_.mono {α : Type} {R R' : α → S → List Addr → Hp → Prop} {o : Out α} (h : PO_ K ca W m H ρ σ R o) (i : ∀ a s' m' H', R a s' m' H' → R' a s' m' H') : PO_ K ca W m H ρ σ R' o := by
  cases o with
  | ok a s => exact fun m' H' x r => i _ _ _ _ (h m' H' x r)
  | ex y s => exact h
  | no => exact h
/-- from a reading's own words -/
theorem tE.mk {A : Ex} {Q : VK} (r : Rel K ca m H ρ σ s) (h : PO_ K ca W m H ρ σ (fun d _ m' H' => ∀ v, RepD K H' m' d v → Q v H') (A ρ s)) : tE K ca W A σ H Q := ⟨m, ρ, s, r, h⟩
end

/-! names and constants -/
@[simp] def eVar (i : Nat) (ρ : Env) (s : S) : Out D := match ρ[i]? with
  | some (some d) => .ok d s
  | _ => .no
@[simp] def eC (p : P) (_ : Env) (s : S) : Out D := .ok (.p p) s
section
variable {g : G} {a b c : Expr} {A B C_ : Ex} {pos : Pos}
theorem ev_var (i : Nat) {x : Str} (hN : g.X.N[i]? = some x := by rfl) (hv : Vis g.X.env.scope x := by first | exact Or.inl rfl | exact Or.inr (Or.inl rfl) | exact Or.inr (Or.inr rfl)) (hd : (x == ("__debug__" : Str)) = false := by decide)
    (hcd : (x == ("__classdict__" : Str)) = false := by decide) : EvE g (.Name x pos) (eVar i) := by
  refine PE.imp (pe_var (i := i) hN hv hd hcd) fun σ H Q h => ?_
  obtain ⟨m, ρ, s, r, h⟩ := h
  unfold eVar at h
  cases e : ρ[i]? with
  | none => rw [e] at h; exact h.elim
  | some o =>
    cases o with
    | none => rw [e] at h; exact h.elim
    | some d =>
      rw [e] at h
      obtain ⟨v, e1, q⟩ := r.env.2 i d e
      exact ⟨v, e1, h m H (Ext.refl m H) r v q⟩
theorem ev_const {e : Expr} {v : V} {p : P} (h : PE g.X e (tC v)) (hp : ∀ H, RepP g.X.K H p v) : EvE g e (eC p) := by
  refine PE.imp h fun σ H Q h => ?_
  obtain ⟨m, ρ, s, r, h⟩ := h
  exact h m H (Ext.refl m H) r v (hp H)
theorem ev_int {i : Int} {j} : EvE g (.Constant (.int i) j pos) (eC (.int i)) := ev_const pe_int fun _ => rfl
theorem ev_bl {i : Bool} {j} : EvE g (.Constant (.bool i) j pos) (eC (.bl i)) := ev_const pe_bl fun _ => rfl
theorem ev_str {i : Str} {j} : EvE g (.Constant (.str i) j pos) (eC (.str i)) := ev_const pe_str fun _ => rfl
theorem ev_non {j} : EvE g (.Constant .none j pos) (eC .non) := ev_const pe_non fun _ => rfl

/-! operations on two values -/
@[simp] def ofO {α : Type} : Option (α × S) → Out α
  | some (a, s) => .ok a s
  | none => .no
/-- what is wanted of a rule's answer -/
def Ans (g : G) (m : List Addr) (H : Hp) (Q : VK) (o : Option (D × S)) : Prop := ∃ d s', o = some (d, s') ∧ ∀ m' H' v, Ext m H m' H' → StRep g.X.K g.ca m' H' s' → RepD g.X.K H' m' d v → Q v H'
/-- f tells what an operation makes of two values, the store changed or not; r is its reading -/
def OpS (g : G) (f : D → D → S → Option (D × S)) (r : R2) : Prop := ∀ (m : List Addr) (H : Hp) (s : S) (x y : D) (vx vy : V) (Q : VK), StRep g.X.K g.ca m H s → RepD g.X.K H m x vx → RepD g.X.K H m y vy → Ans g m H Q (f x y s) → r vx vy H Q
@[simp] def eOp (f : D → D → S → Option (D × S)) (A B : Ex) (ρ : Env) (s : S) : Out D := (A ρ s).bind fun x s1 => (B ρ s1).bind fun y s2 => ofO (f x y s2)
theorem ans_of {W : WX} {m : List Addr} {H : Hp} {ρ : Env} {σ : L2.St} {s : S} {Q : VK} {o : Option (D × S)} (r : Rel g.X.K g.ca m H ρ σ s) (h : PO_ g.X.K g.ca W m H ρ σ (fun d _ m' H' => ∀ v, RepD g.X.K H' m' d v → Q v H') (ofO o)) : Ans g m H Q o := by
  cases o with
  | none => exact h.elim
  | some p =>
    obtain ⟨d, s'⟩ := p
    exact ⟨d, s', rfl, fun m' H' v x st rv => h m' H' x (r.ext x st) v rv⟩
theorem op2 {f : D → D → S → Option (D × S)} {r : R2} (hf : OpS g f r) {σ : L2.St} {H : Hp} {Q : VK} (h : tE g.X.K g.ca g.W (eOp f A B) σ H Q) : tOp r (tE g.X.K g.ca g.W A) (tE g.X.K g.ca g.W B) σ H Q := by
  obtain ⟨m, ρ, s, rel, h⟩ := h
  refine ⟨m, ρ, s, rel, (PO_.bind h).mono fun x s1 m1 H1 ⟨r1, h1⟩ v rv => ?_⟩
  refine ⟨m1, ρ, s1, r1, ?_⟩
  have h2 := PO_.bind h1
  cases e : B ρ s1 with
  | no => rw [e] at h2; exact h2
  | ex y s2 => rw [e] at h2; exact h2
  | ok y s2 =>
    rw [e] at h2
    intro m2 H2 x2 r2 w rw_
    obtain ⟨_, h3⟩ := h2 m2 H2 x2 r2
    exact hf m2 H2 s2 x y v w Q r2.sto (r1.sto.repD x2 rv) rw_ (ans_of r2 h3)
theorem ev_op {op : Operator} {f : D → D → S → Option (D × S)} {r : R2} (ho : OpR g.X (binaryOp op) r) (hf : OpS g f r) (ha : EvE g a A) (hb : EvE g b B) : EvE g (.BinOp a op b pos) (eOp f A B) :=
  PE.imp (pe_op ho ha hb) fun _ _ _ h => op2 hf h
theorem ev_cmp {op : CmpOp} {f : D → D → S → Option (D × S)} {r : R2} (ho : OpR g.X (compareOp op) r) (hf : OpS g f r) (ha : EvE g a A) (hb : EvE g b B) (hm : behindInMarks op b = false := by first | exact nomark _ | rfl) : EvE g (.Compare a [op] [b] pos) (eOp f A B) :=
  PE.imp (pe_cmpR ho ha hb hm) fun _ _ _ h => op2 hf h

/-! one reading or another -/
theorem OpR.or {X : Cx} {f : Value → Value → Sem Value} {r r' : R2} (h : OpR X f r) (h' : OpR X f r') : OpR X f (fun x y H Q => r x y H Q ∨ r' x y H Q) :=
  fun pins s σ H x y v u Q I rx ry q => q.elim (h pins s σ H x y v u Q I rx ry) (h' pins s σ H x y v u Q I rx ry)

/-! what a value is read as -/
def allP : List D → Option (List P)
  | [] => some []
  | .p p :: ds => (allP ds).map (p :: ·)
  | _ :: _ => none
@[simp] theorem allP_nil : allP [] = some [] := rfl
@[simp] theorem allP_cons (p : P) (ds : List D) : allP (.p p :: ds) = (allP ds).map (p :: ·) := rfl
@[simp] theorem allP_map : ∀ ps : List P, allP (ps.map D.p) = some ps
  | [] => rfl
  | p :: ps => by rw [List.map_cons, allP_cons, allP_map ps]; rfl
theorem allP_eq : ∀ {ds : List D} {ps : List P}, allP ds = some ps → ds = ps.map D.p
  | [], _, h => by cases h; rfl
  | .p p :: ds, ps, h => by
    unfold allP at h
    cases e : allP ds with
    | none => rw [e] at h; cases h
    | some qs => rw [e] at h; cases h; rw [allP_eq e]; rfl
  | .loc _ :: _, _, h => by cases h
  | .mix _ :: _, _, h => by cases h
  | .lst _ :: _, _, h => by cases h
  | .ro _ :: _, _, h => by cases h
  | .dK _ _ :: _, _, h => by cases h
  | .dT _ _ :: _, _, h => by cases h
/-- a tuple of these -/
def mkT (ds : List D) : D := match allP ds with
  | some ps => .p (.tup ps)
  | none => .mix ds
/-- a tuple's items -/
def viT : D → Option (List D)
  | .p (.tup ps) => some (ps.map D.p)
  | .mix ds => some ds
  | _ => none
@[simp] theorem viT_tup (ps : List P) : viT (.p (.tup ps)) = some (ps.map D.p) := rfl
@[simp] theorem viT_mix (ds : List D) : viT (.mix ds) = some ds := rfl
@[simp] theorem viT_non : viT (.p .non) = none := rfl
@[simp] theorem viT_bl (b : Bool) : viT (.p (.bl b)) = none := rfl
@[simp] theorem viT_int (i : Int) : viT (.p (.int i)) = none := rfl
@[simp] theorem viT_str (x : Str) : viT (.p (.str x)) = none := rfl
@[simp] theorem viT_loc (n : Nat) : viT (.loc n) = none := rfl
@[simp] theorem viT_lst (ds : List D) : viT (.lst ds) = none := rfl
@[simp] theorem viT_ro (ds : List D) : viT (.ro ds) = none := rfl
@[simp] theorem viT_dK (ks : List Key) (ds : List D) : viT (.dK ks ds) = none := rfl
@[simp] theorem viT_dT (ks : List (List Key)) (ds : List D) : viT (.dT ks ds) = none := rfl
/-- a list's items -/
def viL (s : S) : D → Option (List D)
  | .lst ds => some ds
  | .ro ds => some ds
  | .loc n => match s[n]? with
    | some (.lst ds) => some ds
    | _ => none
  | _ => none
@[simp] theorem viL_p (s : S) (p : P) : viL s (.p p) = none := rfl
@[simp] theorem viL_mix (s : S) (ds : List D) : viL s (.mix ds) = none := rfl
@[simp] theorem viL_lst (s : S) (ds : List D) : viL s (.lst ds) = some ds := rfl
@[simp] theorem viL_ro (s : S) (ds : List D) : viL s (.ro ds) = some ds := rfl
@[simp] theorem viL_loc (s : S) (n : Nat) : viL s (.loc n) = match s[n]? with
    | some (.lst ds) => some ds
    | _ => none := rfl
@[simp] theorem viL_dK (s : S) (ks : List Key) (ds : List D) : viL s (.dK ks ds) = none := rfl
@[simp] theorem viL_dT (s : S) (ks : List (List Key)) (ds : List D) : viL s (.dT ks ds) = none := rfl
section
variable {K : PySem.W.Frag} {ca : Str → Addr} {m : List Addr} {H : Hp} {s : S} {d : D} {v : V} {ds : List D}
theorem viT_ok (r : RepD K H m d v) (h : viT d = some ds) : ∃ a vs, v = .ref a ∧ SqT K H a vs ∧ RepDs K H m ds vs := by
  cases d with
  | p p =>
    cases p with
    | tup ps =>
      cases h
      obtain ⟨a, vs, e, q, r⟩ := r
      exact ⟨a, vs, e, q, RepDs.ofP r⟩
    | _ => cases h
  | mix es => cases h; exact r
  | _ => cases h
theorem viL_ok (st : StRep K ca m H s) (r : RepD K H m d v) (h : viL s d = some ds) : ∃ a vs, v = .ref a ∧ SqL K H a vs ∧ RepDs K H m ds vs := by
  cases d with
  | lst es => cases h; obtain ⟨a, vs, e, ⟨q, _⟩, r⟩ := r; exact ⟨a, vs, e, SqL.of q, r⟩
  | ro es => cases h; obtain ⟨a, vs, e, q, r⟩ := r; exact ⟨a, vs, e, q.sql, r⟩
  | loc n =>
    obtain ⟨a, e, q⟩ := r
    cases e2 : s[n]? with
    | none => simp [viL, e2] at h
    | some c =>
      have rc := st.at_ n c a e2 e
      cases c with
      | lst es =>
        simp [viL, e2] at h
        subst h
        obtain ⟨vs, ea, r⟩ := rc
        exact ⟨a, vs, q, SqL.of ea, r⟩
      | _ => simp [viL, e2] at h
  | _ => cases h
theorem mkT_rep {a : Addr} {vs : List V} (hT : SqT K H a vs) (r : RepDs K H m ds vs) : RepD K H m (mkT ds) (.ref a) := by
  unfold mkT
  cases e : allP ds with
  | none => exact ⟨a, vs, rfl, hT, r⟩
  | some ps =>
    have e' := allP_eq e
    subst e'
    exact ⟨a, vs, rfl, hT, RepPs.ofD r⟩
/-- a new tuple is laid -/
theorem new_tup {g : G} {m : List Addr} {H : Hp} {s : S} {Q : VK} {p : Addr} {xs : List V} {ds : List D} (st : StRep g.X.K g.ca m H s) (r : RepDs g.X.K H m ds xs) (hp : H p = none)
    (h : ∀ m' H' v, Ext m H m' H' → StRep g.X.K g.ca m' H' s → RepD g.X.K H' m' (mkT ds) v → Q v H') : Q (.ref p) (upd H p (.tup xs)) := by
  have x : Ext m H m (upd H p (.tup xs)) := Ext.new st hp
  exact h m _ _ x (st.updNew hp) (mkT_rep (SqT.of upd_same) (st.repDs x r))
/-- a new list that nobody changes -/
theorem new_lst {g : G} {m : List Addr} {H : Hp} {s : S} {Q : VK} {p : Addr} {xs : List V} {ds : List D} (st : StRep g.X.K g.ca m H s) (r : RepDs g.X.K H m ds xs) (hp : H p = none)
    (h : ∀ m' H' v, Ext m H m' H' → StRep g.X.K g.ca m' H' s → RepD g.X.K H' m' (.lst ds) v → Q v H') : Q (.ref p) (upd H p (.lst xs)) := by
  have x : Ext m H m (upd H p (.lst xs)) := Ext.new st hp
  exact h m _ _ x (st.updNew hp) ⟨p, xs, rfl, ⟨upd_same, st.fresh hp⟩, st.repDs x r⟩
/-- a new list as a cell -/
theorem new_cell {g : G} {m : List Addr} {H : Hp} {s : S} {Q : VK} {p : Addr} {xs : List V} {ds : List D} (st : StRep g.X.K g.ca m H s) (r : RepDs g.X.K H m ds xs) (hp : H p = none)
    (h : ∀ m' H' v, Ext m H m' H' → StRep g.X.K g.ca m' H' (s ++ [.lst ds]) → RepD g.X.K H' m' (.loc s.length) v → Q v H') : Q (.ref p) (upd H p (.lst xs)) := by
  have x : Ext m H (m ++ [p]) (upd H p (.lst xs)) := Ext.newM st hp
  refine h _ _ _ x (st.alloc hp ⟨xs, upd_same, st.repDs x r⟩) ⟨p, ?_, rfl⟩
  rw [← st.len, List.getElem?_append_right (Nat.le_refl _)]
  simp
end

@[simp] def alt (f f' : D → D → S → Option (D × S)) : D → D → S → Option (D × S) := fun x y s => match f x y s with
  | some r => some r
  | none => f' x y s
theorem OpS.alt {g : G} {f f' : D → D → S → Option (D × S)} {r r' : R2} (h : OpS g f r) (h' : OpS g f' r') : OpS g (alt f f') (fun x y H Q => r x y H Q ∨ r' x y H Q) := by
  intro m H s x y vx vy Q st rx ry ans
  unfold Mo.alt at ans
  cases e : f x y s with
  | some q => rw [e] at ans; exact .inl (h m H s x y vx vy Q st rx ry (by rw [e]; exact ans))
  | none => rw [e] at ans; exact .inr (h' m H s x y vx vy Q st rx ry ans)
section
variable {g : G} {a b c : Expr} {A B C_ : Ex} {pos : Pos}
/-- ints -/
@[simp] def fI (c : Int → Int → Bool) (f : Int → Int → P) : D → D → S → Option (D × S) := fun x y s => match x, y with
  | .p (.int i), .p (.int j) => if c i j = true then some (.p (f i j), s) else none
  | _, _ => none
theorem Ans.same {m : List Addr} {H : Hp} {s : S} {Q : VK} {d : D} {v : V} (a : Ans g m H Q (some (d, s))) (st : StRep g.X.K g.ca m H s) (r : RepD g.X.K H m d v) : Q v H := by
  obtain ⟨d', s', e, h⟩ := a
  cases e
  exact h m H v (Ext.refl m H) st r
theorem Ans.none {m : List Addr} {H : Hp} {Q : VK} (a : Ans g m H Q none) : False := by
  obtain ⟨d', s', e, h⟩ := a
  cases e
theorem fI_ok {c : Int → Int → Bool} {f : Int → Int → P} {C_ : Int → Int → Prop} {f' : Int → Int → V} (hc : ∀ i j, c i j = true → C_ i j) (hf : ∀ (i j : Int) (K : PySem.W.Frag) (H : Hp), RepP K H (f i j) (f' i j)) : OpS g (fI c f) (rI C_ f') := by
  intro m H s x y vx vy Q st rx ry ans
  unfold fI at ans
  split at ans
  · rename_i i j
    split at ans
    · rename_i hcc
      exact ⟨i, j, rx, ry, hc i j hcc, ans.same st (hf i j _ _)⟩
    · exact ans.none.elim
  · exact ans.none.elim
@[simp] def fS (c : Str → Str → Bool) (f : Str → Str → P) : D → D → S → Option (D × S) := fun x y s => match x, y with
  | .p (.str i), .p (.str j) => if c i j = true then some (.p (f i j), s) else none
  | _, _ => none
@[simp] def cT {α : Type} (_ _ : α) : Bool := true
def addS : D → D → S → Option (D × S) := fS (fun i j => decide (i.length + j.length ≤ sizeLine)) fun i j => .str (i ++ j)
theorem addS_ok : OpS g addS (fun x y H Q => ∃ i j, x = .str i ∧ y = .str j ∧ i.length + j.length ≤ sizeLine ∧ Q (.str (i ++ j)) H) := by
  intro m H s x y vx vy Q st rx ry ans
  unfold addS fS at ans
  split at ans
  · rename_i i j
    split at ans
    · rename_i hcc
      exact ⟨i, j, rx, ry, of_decide_eq_true hcc, ans.same st (v := .str (i ++ j)) rfl⟩
    · exact ans.none.elim
  · exact ans.none.elim
def addT : D → D → S → Option (D × S) := fun x y s => match viT x, viT y with
  | some xs, some ys => if xs.length + ys.length ≤ sizeLine then some (mkT (xs ++ ys), s) else none
  | _, _ => none
theorem mkT_vi {K : PySem.W.Frag} {m : List Addr} {H : Hp} {d : D} {v : V} {ds : List D} (r : RepD K H m d v) (h : viT d = some ds) : RepD K H m (mkT ds) v := by
  obtain ⟨a, vs, rfl, q, rr⟩ := viT_ok r h
  exact mkT_rep q rr
theorem addT_ok : OpS g addT (rCatA g.X.K) := by
  intro m H s x y vx vy Q st rx ry ans
  unfold addT at ans
  cases ex : viT x with
  | none => rw [ex] at ans; exact ans.none.elim
  | some xs =>
    cases ey : viT y with
    | none => rw [ex, ey] at ans; exact ans.none.elim
    | some ys =>
      rw [ex, ey] at ans
      obtain ⟨a, vs, rfl, qa, ra⟩ := viT_ok rx ex
      obtain ⟨b, ws, rfl, qb, rb⟩ := viT_ok ry ey
      simp only at ans
      split at ans
      · rename_i hl
        refine ⟨a, b, vs, ws, rfl, rfl, qa, qb, by rw [← ra.len, ← rb.len]; exact hl, fun e => ?_, fun _ e => ?_, fun _ _ p hp => ?_⟩
        · have : xs = [] := List.eq_nil_of_length_eq_zero (by rw [ra.len, e]; rfl)
          subst this
          exact ans.same st (mkT_rep qb rb)
        · have : ys = [] := List.eq_nil_of_length_eq_zero (by rw [rb.len, e]; rfl)
          subst this
          rw [List.append_nil] at ans
          exact ans.same st (mkT_rep qa ra)
        · obtain ⟨d', s', e, h⟩ := ans
          cases e
          exact new_tup st (ra.app rb) hp h
      · exact ans.none.elim
/-- a list that may be written -/
def viX (s : S) : D → Option (List D)
  | .lst ds => some ds
  | .loc n => match s[n]? with
    | some (.lst ds) => some ds
    | _ => none
  | _ => none
@[simp] theorem viX_p (s : S) (p : P) : viX s (.p p) = none := rfl
@[simp] theorem viX_mix (s : S) (ds : List D) : viX s (.mix ds) = none := rfl
@[simp] theorem viX_lst (s : S) (ds : List D) : viX s (.lst ds) = some ds := rfl
@[simp] theorem viX_loc (s : S) (n : Nat) : viX s (.loc n) = match s[n]? with
    | some (.lst ds) => some ds
    | _ => none := rfl
theorem viX_ok {K : PySem.W.Frag} {ca : Str → Addr} {m : List Addr} {H : Hp} {s : S} {d : D} {v : V} {ds : List D} (st : StRep K ca m H s) (r : RepD K H m d v) (h : viX s d = some ds) : ∃ a vs, v = .ref a ∧ H a = some (.lst vs) ∧ RepDs K H m ds vs := by
  cases d with
  | lst es => cases h; obtain ⟨a, vs, e, ⟨q, _⟩, r⟩ := r; exact ⟨a, vs, e, q, r⟩
  | loc n =>
    obtain ⟨a, e, q⟩ := r
    cases e2 : s[n]? with
    | none => simp [viX, e2] at h
    | some c =>
      have rc := st.at_ n c a e2 e
      cases c with
      | lst es =>
        simp [viX, e2] at h
        subst h
        obtain ⟨vs, ea, r⟩ := rc
        exact ⟨a, vs, q, ea, r⟩
      | _ => simp [viX, e2] at h
  | _ => cases h
def addL : D → D → S → Option (D × S) := fun x y s => match viX s x, viX s y with
  | some xs, some ys => if xs.length + ys.length ≤ sizeLine then some (.lst (xs ++ ys), s) else none
  | _, _ => none
theorem addL_ok : OpS g addL rCat := by
  intro m H s x y vx vy Q st rx ry ans
  unfold addL at ans
  cases ex : viX s x with
  | none => rw [ex] at ans; exact ans.none.elim
  | some xs =>
    cases ey : viX s y with
    | none => rw [ex, ey] at ans; exact ans.none.elim
    | some ys =>
      rw [ex, ey] at ans
      obtain ⟨a, vs, rfl, qa, ra⟩ := viX_ok st rx ex
      obtain ⟨b, ws, rfl, qb, rb⟩ := viX_ok st ry ey
      simp only at ans
      split at ans
      · rename_i hl
        refine ⟨a, b, vs, ws, rfl, rfl, qa, qb, by rw [← ra.len, ← rb.len]; exact hl, fun p hp => ?_⟩
        obtain ⟨d', s', e, h⟩ := ans
        cases e
        exact new_lst st (ra.app rb) hp h
      · exact ans.none.elim
theorem fI0_ok {f : Int → Int → P} {f' : Int → Int → V} (hf : ∀ (i j : Int) (K : PySem.W.Frag) (H : Hp), RepP K H (f i j) (f' i j)) : OpS g (fI cT f) (rI0 f') := by
  intro m H s x y vx vy Q st rx ry ans
  obtain ⟨i, j, e1, e2, _, q⟩ := (fI_ok (g := g) (c := cT) (f := f) (C_ := fun _ _ => True) (f' := f') (fun _ _ _ => trivial) hf) m H s x y vx vy Q st rx ry ans
  exact ⟨i, j, e1, e2, q⟩
def addI : D → D → S → Option (D × S) := fI cT fun i j => .int (i + j)
theorem addI_ok : OpS g addI (rI0 fun i j => .int (i + j)) := fI0_ok (f := fun i j => .int (i + j)) fun _ _ _ _ => rfl
def dAdd : D → D → S → Option (D × S) := alt addI (alt addS (alt addT addL))
theorem ev_add (ha : EvE g a A) (hb : EvE g b B) : EvE g (.BinOp a .Add b pos) (eOp dAdd A B) :=
  ev_op (OpR.or op_add (OpR.or op_add_str (OpR.or op_catA op_cat))) (addI_ok.alt (addS_ok.alt (addT_ok.alt addL_ok))) ha hb
def dSub : D → D → S → Option (D × S) := fI cT fun i j => .int (i - j)
theorem ev_sub (ha : EvE g a A) (hb : EvE g b B) : EvE g (.BinOp a .Sub b pos) (eOp dSub A B) := ev_op op_sub (fI0_ok (f := fun i j => .int (i - j)) fun _ _ _ _ => rfl) ha hb
def cMul (i j : Int) : Bool := (decide (-(2 ^ 64) < i) && decide (i < 2 ^ 64)) || (decide (-(2 ^ 64) < j) && decide (j < 2 ^ 64))
def dMul : D → D → S → Option (D × S) := fI cMul fun i j => .int (i * j)
theorem ev_mul (ha : EvE g a A) (hb : EvE g b B) : EvE g (.BinOp a .Mult b pos) (eOp dMul A B) :=
  ev_op op_mul (fI_ok (f := fun i j => .int (i * j)) (fun i j h => by
    unfold cMul at h
    simp only [Bool.or_eq_true, Bool.and_eq_true, decide_eq_true_eq] at h
    exact h) (fun _ _ _ _ => rfl)) ha hb
def dMod : D → D → S → Option (D × S) := fI (fun _ j => decide (0 < j)) fun i j => .int (i % j)
theorem ev_mod (ha : EvE g a A) (hb : EvE g b B) : EvE g (.BinOp a .Mod b pos) (eOp dMod A B) := ev_op op_mod (fI_ok (f := fun i j => .int (i % j)) (fun i j h => of_decide_eq_true h) (fun _ _ _ _ => rfl)) ha hb
def dDiv : D → D → S → Option (D × S) := fI (fun _ j => decide (0 < j) && decide (j < 1073741824)) fun i j => .int (i / j)
theorem ev_div (ha : EvE g a A) (hb : EvE g b B) : EvE g (.BinOp a .FloorDiv b pos) (eOp dDiv A B) := ev_op op_fdiv (fI_ok (f := fun i j => .int (i / j)) (fun i j h => by simpa [CDiv] using h) (fun _ _ _ _ => rfl)) ha hb
def dPow : D → D → S → Option (D × S) := fI (fun i j => decide (0 ≤ j) && (decide (j ≤ 1000000) && decide (i.natAbs < 2 ^ 64))) fun i j => .int (i ^ j.toNat)
theorem ev_pow (ha : EvE g a A) (hb : EvE g b B) : EvE g (.BinOp a .Pow b pos) (eOp dPow A B) := ev_op op_pow (fI_ok (f := fun i j => .int (i ^ j.toNat)) (fun i j h => by simpa [CPow] using h) (fun _ _ _ _ => rfl)) ha hb

/-! comparisons -/
def dLt : D → D → S → Option (D × S) := alt (fI cT fun i j => .bl (decide (i < j))) (fS cT fun i j => .bl (decide (i.cps.toList < j.cps.toList)))
theorem ltS_ok : OpS g (fS cT fun i j => .bl (decide (i.cps.toList < j.cps.toList))) (fun x y H Q => ∃ i j, x = .str i ∧ y = .str j ∧ Q (.bl (decide (i.cps.toList < j.cps.toList))) H) := by
  intro m H s x y vx vy Q st rx ry ans
  unfold fS at ans
  split at ans
  · rename_i i j
    exact ⟨i, j, rx, ry, ans.same st (v := .bl _) rfl⟩
  · exact ans.none.elim
theorem ev_lt (ha : EvE g a A) (hb : EvE g b B) : EvE g (.Compare a [.Lt] [b] pos) (eOp dLt A B) := ev_cmp (OpR.or op_lt op_lt_str) (OpS.alt (fI0_ok (f := fun i j => .bl (decide (i < j))) fun _ _ _ _ => rfl) ltS_ok) ha hb
def dLe : D → D → S → Option (D × S) := fI cT fun i j => .bl (decide (i ≤ j))
theorem ev_le (ha : EvE g a A) (hb : EvE g b B) : EvE g (.Compare a [.LtE] [b] pos) (eOp dLe A B) := ev_cmp op_le (fI0_ok (f := fun i j => .bl (decide (i ≤ j))) fun _ _ _ _ => rfl) ha hb
def dGt : D → D → S → Option (D × S) := fI cT fun i j => .bl (decide (j < i))
theorem ev_gt (ha : EvE g a A) (hb : EvE g b B) : EvE g (.Compare a [.Gt] [b] pos) (eOp dGt A B) := ev_cmp op_gt (fI0_ok (f := fun i j => .bl (decide (j < i))) fun _ _ _ _ => rfl) ha hb
def dGe : D → D → S → Option (D × S) := fI cT fun i j => .bl (decide (j ≤ i))
theorem ev_ge (ha : EvE g a A) (hb : EvE g b B) : EvE g (.Compare a [.GtE] [b] pos) (eOp dGe A B) := ev_cmp op_ge (fI0_ok (f := fun i j => .bl (decide (j ≤ i))) fun _ _ _ _ => rfl) ha hb
end
end
end Mo

set_option Elab.async false
set_option linter.all false
set_option maxRecDepth 100000
set_option maxHeartbeats 4000000
namespace Mo
open PySem PySem.Spec PyProof.Rows L2

/-! == and != of data -/
mutual
def toPD : P → PyData
  | .non => .none
  | .bl b => .bool b
  | .int i => .int i
  | .str x => .str x
  | .tup ps => .tuple (toPDs ps)
def toPDs : List P → List PyData
  | [] => []
  | p :: ps => toPD p :: toPDs ps
end
section
variable {K : PySem.W.Frag} {H : Hp}
mutual
theorem dp_of : ∀ {p : P} {v : V}, RepP K H p v → Dp K H v (toPD p)
  | .non, _, h => by cases h; exact .non
  | .bl b, _, h => by cases h; exact .bl b
  | .int i, _, h => by cases h; exact .int i
  | .str x, _, h => by cases h; exact .str x
  | .tup ps, _, h => by
    obtain ⟨a, vs, rfl, q, r⟩ := h
    exact .tup q (dps_of r)
theorem dps_of : ∀ {ps : List P} {vs : List V}, RepPs K H ps vs → DpAll K H vs (toPDs ps)
  | [], _, h => by cases h; exact .nil
  | p :: ps, _, h => by
    obtain ⟨v, r, rfl, h1, h2⟩ := h
    exact .cons (dp_of h1) (dps_of h2)
end
end
def eqP (a b : P) : Bool := PyData.eqv (toPD a) (toPD b)
def shp (a : P) : Bool := SeqAt.shaped (toPD a)
/-- scalars that == tells apart as they stand -/
def scP : P → P → Bool
  | .non, .non => true | .non, .int _ => true | .int _, .non => true | .non, .bl _ => true | .bl _, .non => true | .non, .str _ => true | .str _, .non => true
  | .int _, .int _ => true | .bl _, .bl _ => true | .str _, .str _ => true
  | .int _, .str _ => true | .str _, .int _ => true | .bl _, .str _ => true | .str _, .bl _ => true
  | _, _ => false
/-- the two readings of == together -/
@[simp] def fEq (n : Bool) : D → D → S → Option (D × S) := fun x y s => match x, y with
  | .p a, .p b => if scP a b = true then some (.p (.bl (xor n (decide (a = b)))), s) else if (shp a && shp b) = true then some (.p (.bl (xor n (eqP a b))), s) else none
  | _, _ => none
section
variable {g : G} {a b c : Expr} {A B C_ : Ex} {pos : Pos}
theorem scP_ok {K : PySem.W.Frag} {H : Hp} {a b : P} {v w : V} (h : scP a b = true) (ra : RepP K H a v) (rb : RepP K H b w) : scal v w = true ∧ decide (v = w) = decide (a = b) := by
  cases a <;> cases b <;> first
    | (cases (show false = true from h); done)
    | (cases ra; cases rb; exact ⟨rfl, by simp⟩)
theorem fEq_ok : OpS g (fEq false) (fun x y H Q => rEq x y H Q ∨ rEqD g.X.K x y H Q) := by
  intro m H s x y vx vy Q st rx ry ans
  unfold fEq at ans
  split at ans
  · rename_i a b
    split at ans
    · rename_i hs
      obtain ⟨h1, h2⟩ := scP_ok hs rx ry
      refine .inl ⟨h1, ?_⟩
      rw [h2]
      exact ans.same st (by simp; rfl)
    · split at ans
      · rename_i hs
        obtain ⟨h1, h2⟩ := Bool.and_eq_true_iff.mp hs
        exact .inr ⟨_, _, dp_of rx, dp_of ry, h1, h2, ans.same st (by simp; rfl)⟩
      · exact ans.none.elim
  · exact ans.none.elim
theorem fNe_ok : OpS g (fEq true) (fun x y H Q => rNe x y H Q ∨ rNeD g.X.K x y H Q) := by
  intro m H s x y vx vy Q st rx ry ans
  unfold fEq at ans
  split at ans
  · rename_i a b
    split at ans
    · rename_i hs
      obtain ⟨h1, h2⟩ := scP_ok hs rx ry
      refine .inl ⟨h1, ?_⟩
      rw [h2]
      exact ans.same st (by simp; rfl)
    · split at ans
      · rename_i hs
        obtain ⟨h1, h2⟩ := Bool.and_eq_true_iff.mp hs
        exact .inr ⟨_, _, dp_of rx, dp_of ry, h1, h2, ans.same st (by simp; rfl)⟩
      · exact ans.none.elim
  · exact ans.none.elim
def dEq : D → D → S → Option (D × S) := fEq false
def dNe : D → D → S → Option (D × S) := fEq true
theorem ev_eq (o : g.Ok) (ha : EvE g a A) (hb : EvE g b B) : EvE g (.Compare a [.Eq] [b] pos) (eOp dEq A B) := ev_cmp (OpR.or op_eq (op_eqD o.hr.units)) fEq_ok ha hb
theorem ev_ne (o : g.Ok) (ha : EvE g a A) (hb : EvE g b B) : EvE g (.Compare a [.NotEq] [b] pos) (eOp dNe A B) := ev_cmp (OpR.or op_ne (op_neD o.hr.units)) fNe_ok ha hb
/-! is None -/
def isN : D → Bool
  | .p .non => true
  | _ => false
theorem isN_ok {K : PySem.W.Frag} {H : Hp} {m : List Addr} {d : D} {v : V} (r : RepD K H m d v) : decide (v = .non) = isN d := by
  cases d with
  | p p => cases p <;> first | (cases r; rfl) | (obtain ⟨a, vs, rfl, _⟩ := r; rfl)
  | _ => obtain ⟨a, h⟩ := r; first | (obtain ⟨_, rfl⟩ := h; rfl) | (obtain ⟨_, rfl, _⟩ := h; rfl)
@[simp] def eIsN (A : Ex) (ρ : Env) (s : S) : Out D := (A ρ s).bind fun x s1 => .ok (.p (.bl (isN x))) s1
@[simp] def eNotN (A : Ex) (ρ : Env) (s : S) : Out D := (A ρ s).bind fun x s1 => .ok (.p (.bl (!isN x))) s1
theorem ev_isN {j pos'} (ha : EvE g a A) : EvE g (.Compare a [.Is] [.Constant .none j pos'] pos) (eIsN A) :=
  PE.imp (pe_cmp (pc_isN ha) rfl) fun σ H Q h => by
    obtain ⟨m, ρ, s, rel, h⟩ := h
    refine ⟨m, ρ, s, rel, (PO_.bind h).mono fun x s1 m1 H1 ⟨r1, h1⟩ v rv => ?_⟩
    show Q (.bl (decide (v = .non))) H1
    rw [isN_ok rv]
    exact h1 m1 H1 (Ext.refl _ _) r1 _ rfl
theorem ev_notN {j pos'} (ha : EvE g a A) : EvE g (.Compare a [.IsNot] [.Constant .none j pos'] pos) (eNotN A) :=
  PE.imp (pe_cmp (pc_notN ha) rfl) fun σ H Q h => by
    obtain ⟨m, ρ, s, rel, h⟩ := h
    refine ⟨m, ρ, s, rel, (PO_.bind h).mono fun x s1 m1 H1 ⟨r1, h1⟩ v rv => ?_⟩
    show Q (.bl (!decide (v = .non))) H1
    rw [isN_ok rv]
    exact h1 m1 H1 (Ext.refl _ _) r1 _ rfl
/-! - -/
@[simp] def eNeg (A : Ex) (ρ : Env) (s : S) : Out D := (A ρ s).bind fun x s1 => match x with
  | .p (.int i) => .ok (.p (.int (-i))) s1
  | _ => .no
theorem ev_neg (ha : EvE g a A) : EvE g (.UnaryOp .USub a pos) (eNeg A) :=
  PE.imp (pe_un un_neg ha) fun σ H Q h => by
    obtain ⟨m, ρ, s, rel, h⟩ := h
    refine ⟨m, ρ, s, rel, (PO_.bind h).mono fun x s1 m1 H1 ⟨r1, h1⟩ v rv => ?_⟩
    split at h1
    · exact ⟨_, rv, h1 m1 H1 (Ext.refl _ _) r1 _ rfl⟩
    · exact h1.elim

/-! tests: values that are True or False; not, and, or -/
@[simp] def tV (A : Ex) (ρ : Env) (s : S) : Out Bool := (A ρ s).bind fun x s1 => match x with
  | .p (.bl b) => .ok b s1
  | _ => .no
theorem et_val (ha : EvE g a A) (he : ∀ whole, isTrue a g.X.env whole = (do let v ← whole; standAt a.pos; holding [v] (truthy v)) := by intro _; rfl) : EvT g a (tV A) :=
  PT.imp (pt_val ha he) fun σ H Q h => by
    obtain ⟨m, ρ, s, rel, h⟩ := h
    refine ⟨m, ρ, s, rel, (PO_.bind h).mono fun x s1 m1 H1 ⟨r1, h1⟩ v rv => ?_⟩
    split at h1
    · exact ⟨_, rv, h1 m1 H1 (Ext.refl _ _) r1⟩
    · exact h1.elim
/-- a comparison as a test -/
theorem et_cmp {op : CmpOp} {f : D → D → S → Option (D × S)} {r : R2} (ho : OpR g.X (compareOp op) r) (hf : OpS g f r) (ha : EvE g a A) (hb : EvE g b B) (hm : behindInMarks op b = false := by first | exact nomark _ | rfl) : EvT g (.Compare a [op] [b] pos) (tV (eOp f A B)) :=
  PT.imp (pt_cmpR ho ha hb hm) fun σ H Q h => by
    have h2 : tE g.X.K g.ca g.W (eOp f A B) σ H (fun x H1 => ∃ k, x = .bl k ∧ Q k H1) := by
      obtain ⟨m, ρ, s, rel, h⟩ := h
      refine ⟨m, ρ, s, rel, (PO_.bind h).mono fun x s1 m1 H1 ⟨r1, h1⟩ v rv => ?_⟩
      split at h1
      · exact ⟨_, rv, h1 m1 H1 (Ext.refl _ _) r1⟩
      · exact h1.elim
    exact op2 hf h2
theorem et_eq (o : g.Ok) (ha : EvE g a A) (hb : EvE g b B) : EvT g (.Compare a [.Eq] [b] pos) (tV (eOp dEq A B)) := et_cmp (OpR.or op_eq (op_eqD o.hr.units)) fEq_ok ha hb
theorem et_ne (o : g.Ok) (ha : EvE g a A) (hb : EvE g b B) : EvT g (.Compare a [.NotEq] [b] pos) (tV (eOp dNe A B)) := et_cmp (OpR.or op_ne (op_neD o.hr.units)) fNe_ok ha hb
theorem et_lt (ha : EvE g a A) (hb : EvE g b B) : EvT g (.Compare a [.Lt] [b] pos) (tV (eOp dLt A B)) := et_cmp (OpR.or op_lt op_lt_str) (OpS.alt (fI0_ok (f := fun i j => .bl (decide (i < j))) fun _ _ _ _ => rfl) ltS_ok) ha hb
theorem et_le (ha : EvE g a A) (hb : EvE g b B) : EvT g (.Compare a [.LtE] [b] pos) (tV (eOp dLe A B)) := et_cmp op_le (fI0_ok (f := fun i j => .bl (decide (i ≤ j))) fun _ _ _ _ => rfl) ha hb
theorem et_gt (ha : EvE g a A) (hb : EvE g b B) : EvT g (.Compare a [.Gt] [b] pos) (tV (eOp dGt A B)) := et_cmp op_gt (fI0_ok (f := fun i j => .bl (decide (j < i))) fun _ _ _ _ => rfl) ha hb
theorem et_ge (ha : EvE g a A) (hb : EvE g b B) : EvT g (.Compare a [.GtE] [b] pos) (tV (eOp dGe A B)) := et_cmp op_ge (fI0_ok (f := fun i j => .bl (decide (j ≤ i))) fun _ _ _ _ => rfl) ha hb
theorem et_isN {j pos'} (ha : EvE g a A) : EvT g (.Compare a [.Is] [.Constant .none j pos'] pos) (tV (eIsN A)) :=
  PT.imp (pt_cmp (pc_isN ha) rfl) fun σ H Q h => by
    obtain ⟨m, ρ, s, rel, h⟩ := h
    have h' : PO_ g.X.K g.ca g.W m H ρ σ (fun b _ _ H' => Q b H') ((A ρ s).bind fun x s1 => .ok (isN x) s1) := by
      show PO_ _ _ _ _ _ _ _ _ _
      cases e : A ρ s <;> simpa [e] using h
    refine ⟨m, ρ, s, rel, (PO_.bind h').mono fun x s1 m1 H1 ⟨r1, h1⟩ v rv => ⟨_, rfl, ?_⟩⟩
    rw [isN_ok rv]
    exact h1 m1 H1 (Ext.refl _ _) r1
theorem et_notN {j pos'} (ha : EvE g a A) : EvT g (.Compare a [.IsNot] [.Constant .none j pos'] pos) (tV (eNotN A)) :=
  PT.imp (pt_cmp (pc_notN ha) rfl) fun σ H Q h => by
    obtain ⟨m, ρ, s, rel, h⟩ := h
    have h' : PO_ g.X.K g.ca g.W m H ρ σ (fun b _ _ H' => Q b H') ((A ρ s).bind fun x s1 => .ok (!isN x) s1) := by
      show PO_ _ _ _ _ _ _ _ _ _
      cases e : A ρ s <;> simpa [e] using h
    refine ⟨m, ρ, s, rel, (PO_.bind h').mono fun x s1 m1 H1 ⟨r1, h1⟩ v rv => ⟨_, rfl, ?_⟩⟩
    rw [isN_ok rv]
    exact h1 m1 H1 (Ext.refl _ _) r1
variable {T U : Te}
@[simp] def tNot_ (T : Te) (ρ : Env) (s : S) : Out Bool := (T ρ s).bind fun b s1 => .ok (!b) s1
theorem et_not (h : EvT g a T) : EvT g (.UnaryOp .Not a pos) (tNot_ T) :=
  PT.imp (pt_not h) fun σ H Q h => by
    obtain ⟨m, ρ, s, rel, h⟩ := h
    exact ⟨m, ρ, s, rel, (PO_.bind h).mono fun x s1 m1 H1 ⟨r1, h1⟩ => h1 m1 H1 (Ext.refl _ _) r1⟩
@[simp] def tAnd_ (T U : Te) (ρ : Env) (s : S) : Out Bool := (T ρ s).bind fun b s1 => if b = true then U ρ s1 else .ok false s1
@[simp] def tOr_ (T U : Te) (ρ : Env) (s : S) : Out Bool := (T ρ s).bind fun b s1 => if b = true then .ok true s1 else U ρ s1
/-- chains of and, or as tests -/
def EvW (g : G) (e : Expr) (A : Te) : Prop := PW g.X e (tT g.X.K g.ca g.W A)
theorem EvW.t (h : EvW g a T) : EvT g a T := PW.pt h
theorem ew_and1 (h : EvT g a T) : EvW g (.BoolOp .And [a] pos) T := pw_and1 h
theorem ew_or1 (h : EvT g a T) : EvW g (.BoolOp .Or [a] pos) T := pw_or1 h
theorem ew_and {rest : List Expr} (h : EvT g a T) (h' : EvW g (.BoolOp .And (b :: rest) pos) U) : EvW g (.BoolOp .And (a :: b :: rest) pos) (tAnd_ T U) :=
  PW.imp (pw_and h h') fun σ H Q h => by
    obtain ⟨m, ρ, s, rel, h⟩ := h
    refine ⟨m, ρ, s, rel, (PO_.bind h).mono fun x s1 m1 H1 ⟨r1, h1⟩ => ?_⟩
    cases x with
    | true => exact ⟨m1, ρ, s1, r1, h1⟩
    | false => exact h1 m1 H1 (Ext.refl _ _) r1
theorem ew_or {rest : List Expr} (h : EvT g a T) (h' : EvW g (.BoolOp .Or (b :: rest) pos) U) : EvW g (.BoolOp .Or (a :: b :: rest) pos) (tOr_ T U) :=
  PW.imp (pw_or h h') fun σ H Q h => by
    obtain ⟨m, ρ, s, rel, h⟩ := h
    refine ⟨m, ρ, s, rel, (PO_.bind h).mono fun x s1 m1 H1 ⟨r1, h1⟩ => ?_⟩
    cases x with
    | true => exact h1 m1 H1 (Ext.refl _ _) r1
    | false => exact ⟨m1, ρ, s1, r1, h1⟩
/-- .. as values: all but the last True or False -/
@[simp] def eAnd (A B : Ex) (ρ : Env) (s : S) : Out D := (A ρ s).bind fun x s1 => match x with
  | .p (.bl b) => if b = true then B ρ s1 else .ok (.p (.bl false)) s1
  | _ => .no
@[simp] def eOr (A B : Ex) (ρ : Env) (s : S) : Out D := (A ρ s).bind fun x s1 => match x with
  | .p (.bl b) => if b = true then .ok (.p (.bl true)) s1 else B ρ s1
  | _ => .no
@[simp] def eNot (A : Ex) (ρ : Env) (s : S) : Out D := (A ρ s).bind fun x s1 => match x with
  | .p (.bl b) => .ok (.p (.bl (!b))) s1
  | _ => .no
theorem ev_one {op} (h : EvE g a A) : EvE g (.BoolOp op [a] pos) A := pe_one h
theorem ev_and {rest : List Expr} (h : EvE g a A) (h' : EvE g (.BoolOp .And (b :: rest) pos) B) : EvE g (.BoolOp .And (a :: b :: rest) pos) (eAnd A B) :=
  PE.imp (pe_and h h') fun σ H Q h => by
    obtain ⟨m, ρ, s, rel, h⟩ := h
    refine ⟨m, ρ, s, rel, (PO_.bind h).mono fun x s1 m1 H1 ⟨r1, h1⟩ v rv => ?_⟩
    cases x with
    | p p => cases p with
      | bl k => cases k with
        | true => exact ⟨true, rv, by rw [if_pos rfl]; exact ⟨m1, ρ, s1, r1, h1⟩⟩
        | false => exact ⟨false, rv, by rw [if_neg Bool.false_ne_true]; exact h1 m1 H1 (Ext.refl _ _) r1 _ rfl⟩
      | _ => exact h1.elim
    | _ => exact h1.elim
theorem ev_or {rest : List Expr} (h : EvE g a A) (h' : EvE g (.BoolOp .Or (b :: rest) pos) B) : EvE g (.BoolOp .Or (a :: b :: rest) pos) (eOr A B) :=
  PE.imp (pe_or h h') fun σ H Q h => by
    obtain ⟨m, ρ, s, rel, h⟩ := h
    refine ⟨m, ρ, s, rel, (PO_.bind h).mono fun x s1 m1 H1 ⟨r1, h1⟩ v rv => ?_⟩
    cases x with
    | p p => cases p with
      | bl k => cases k with
        | true => exact ⟨true, rv, by rw [if_pos rfl]; exact h1 m1 H1 (Ext.refl _ _) r1 _ rfl⟩
        | false => exact ⟨false, rv, by rw [if_neg Bool.false_ne_true]; exact ⟨m1, ρ, s1, r1, h1⟩⟩
      | _ => exact h1.elim
    | _ => exact h1.elim
theorem ev_not (h : EvE g a A) : EvE g (.UnaryOp .Not a pos) (eNot A) :=
  PE.imp (pe_not h) fun σ H Q h => by
    obtain ⟨m, ρ, s, rel, h⟩ := h
    refine ⟨m, ρ, s, rel, (PO_.bind h).mono fun x s1 m1 H1 ⟨r1, h1⟩ v rv => ?_⟩
    split at h1
    · exact ⟨_, rv, h1 m1 H1 (Ext.refl _ _) r1 _ rfl⟩
    · exact h1.elim
@[simp] def eIf (T : Te) (A B : Ex) (ρ : Env) (s : S) : Out D := (T ρ s).bind fun b s1 => if b = true then A ρ s1 else B ρ s1
theorem ev_if (h : EvT g c T) (ha : EvE g a A) (hb : EvE g b B) : EvE g (.IfExp c a b pos) (eIf T A B) :=
  PE.imp (pe_ifExp h ha hb) fun σ H Q h => by
    obtain ⟨m, ρ, s, rel, h⟩ := h
    refine ⟨m, ρ, s, rel, (PO_.bind h).mono fun x s1 m1 H1 ⟨r1, h1⟩ => ?_⟩
    cases x with
    | true => exact ⟨m1, ρ, s1, r1, h1⟩
    | false => exact ⟨m1, ρ, s1, r1, h1⟩

/-! argument lists, displays -/
@[simp] def aNil (_ : Env) (s : S) : Out (List D) := .ok [] s
@[simp] def aCons (A : Ex) (Q : Ar) (ρ : Env) (s : S) : Out (List D) := (A ρ s).bind fun x s1 => (Q ρ s1).bind fun xs s2 => .ok (x :: xs) s2
variable {As : Ar} {es : List Expr}
theorem ea_nil : EvA g [] aNil := PA.imp pa_nil fun σ H Q h => by
  obtain ⟨m, ρ, s, rel, h⟩ := h
  exact h m H (Ext.refl _ _) rel _ rfl
theorem ea_cons (h : EvE g a A) (h' : EvA g es As) (hs : starEach (a :: es) g.X.env = (false, eval a g.X.env) :: starEach es g.X.env := by rfl) : EvA g (a :: es) (aCons A As) :=
  PA.imp (pa_cons h h' hs) fun σ H Q h => by
    obtain ⟨m, ρ, s, rel, h⟩ := h
    refine ⟨m, ρ, s, rel, (PO_.bind h).mono fun x s1 m1 H1 ⟨r1, h1⟩ v rv => ⟨m1, ρ, s1, r1, ?_⟩⟩
    have h2 := PO_.bind h1
    cases e : As ρ s1 with
    | no => rw [e] at h2; exact h2
    | ex y s2 => rw [e] at h2; exact h2
    | ok xs s2 =>
      rw [e] at h2
      intro m2 H2 x2 r2 vs rvs
      obtain ⟨_, h3⟩ := h2 m2 H2 x2 r2
      exact h3 m2 H2 (Ext.refl _ _) r2 _ ⟨v, vs, rfl, r1.sto.repD x2 rv, rvs⟩
@[simp] def eTup (As : Ar) (ρ : Env) (s : S) : Out D := (As ρ s).bind fun xs s1 => if xs.length ≤ sizeLine then .ok (mkT xs) s1 else .no
/-- a list that nobody changes; a list as a cell -/
@[simp] def eLst (As : Ar) (ρ : Env) (s : S) : Out D := (As ρ s).bind fun xs s1 => if xs.length ≤ sizeLine then .ok (.lst xs) s1 else .no
@[simp] def eLstC (As : Ar) (ρ : Env) (s : S) : Out D := (As ρ s).bind fun xs s1 => if xs.length ≤ sizeLine then .ok (.loc s1.length) (s1 ++ [.lst xs]) else .no
theorem ev_tup {k} (h : EvA g es As) : EvE g (.Tuple es k pos) (eTup As) :=
  PE.imp (pe_tup h) fun σ H Q h => by
    obtain ⟨m, ρ, s, rel, h⟩ := h
    refine ⟨m, ρ, s, rel, (PO_.bind h).mono fun xs s1 m1 H1 ⟨r1, h1⟩ vs rv => ?_⟩
    split at h1
    · rename_i hl
      exact ⟨by rw [← rv.len]; exact hl, fun p hp => new_tup r1.sto rv hp fun m' H' v x st r => h1 m' H' x (r1.ext x st) v r⟩
    · exact h1.elim
theorem ev_lst (h : EvA g es As) : EvE g (.List es pos) (eLst As) :=
  PE.imp (pe_lst h) fun σ H Q h => by
    obtain ⟨m, ρ, s, rel, h⟩ := h
    refine ⟨m, ρ, s, rel, (PO_.bind h).mono fun xs s1 m1 H1 ⟨r1, h1⟩ vs rv => ?_⟩
    split at h1
    · rename_i hl
      exact ⟨by rw [← rv.len]; exact hl, fun p hp => new_lst r1.sto rv hp fun m' H' v x st r => h1 m' H' x (r1.ext x st) v r⟩
    · exact h1.elim
theorem ev_lstC (h : EvA g es As) : EvE g (.List es pos) (eLstC As) :=
  PE.imp (pe_lst h) fun σ H Q h => by
    obtain ⟨m, ρ, s, rel, h⟩ := h
    refine ⟨m, ρ, s, rel, (PO_.bind h).mono fun xs s1 m1 H1 ⟨r1, h1⟩ vs rv => ?_⟩
    split at h1
    · rename_i hl
      exact ⟨by rw [← rv.len]; exact hl, fun p hp => new_cell r1.sto rv hp fun m' H' v x st r => h1 m' H' x (r1.ext x st) v r⟩
    · exact h1.elim
end
end Mo

set_option Elab.async false
set_option linter.all false
set_option maxRecDepth 100000
set_option maxHeartbeats 4000000
namespace Mo
open PySem PySem.Spec PyProof.Rows L2
section
variable {g : G} {a b c e : Expr} {A B C_ : Ex} {pos p2 : Pos} {es : List Expr} {As : Ar}

/-! x[i] of tuples, lists, texts -/
theorem RepDs.atI {K : PySem.W.Frag} {H : Hp} {m : List Addr} {ds : List D} {vs : List V} {i : Int} {d : D} (r : RepDs K H m ds vs) (h : atI ds i = some d) : ∃ v, atI vs i = some v ∧ RepD K H m d v := by
  unfold L2.atI at h ⊢
  rw [← r.len]
  cases e : ixN ds.length i with
  | none => rw [e] at h; cases h
  | some j =>
    rw [e] at h
    exact r.get (i := j) h
def ixT : D → D → S → Option (D × S) := fun x y s => match viT x, y with
  | some ds, .p (.int i) => (atI ds i).map fun d => (d, s)
  | _, _ => none
def ixL : D → D → S → Option (D × S) := fun x y s => match viL s x, y with
  | some ds, .p (.int i) => (atI ds i).map fun d => (d, s)
  | _, _ => none
def ixS : D → D → S → Option (D × S) := fun x y s => match x, y with
  | .p (.str z), .p (.int i) => if z.length ≤ sizeLine then (atI z.cps.toList i).map fun c => (.p (.str ⟨#[c]⟩), s) else none
  | _, _ => none
def dIx : D → D → S → Option (D × S) := alt ixT (alt ixL ixS)
theorem ixT_ok : OpS g ixT (rIxT g.X.K) := by
  intro m H s x y vx vy Q st rx ry ans
  unfold ixT at ans
  split at ans
  · rename_i ds i ex
    obtain ⟨a, vs, rfl, q, r⟩ := viT_ok rx ex
    cases ei : atI ds i with
    | none => rw [ei] at ans; exact ans.none.elim
    | some d =>
      rw [ei] at ans
      obtain ⟨v, ev, rv⟩ := r.atI ei
      exact ⟨a, vs, i, v, rfl, ry, q, ev, ans.same st rv⟩
  · exact ans.none.elim
theorem ixL_ok : OpS g ixL (rIxL g.X.K) := by
  intro m H s x y vx vy Q st rx ry ans
  unfold ixL at ans
  split at ans
  · rename_i ds i ex
    obtain ⟨a, vs, rfl, q, r⟩ := viL_ok st rx ex
    cases ei : atI ds i with
    | none => rw [ei] at ans; exact ans.none.elim
    | some d =>
      rw [ei] at ans
      obtain ⟨v, ev, rv⟩ := r.atI ei
      exact ⟨a, vs, i, v, rfl, ry, q, ev, ans.same st rv⟩
  · exact ans.none.elim
theorem ixS_ok : OpS g ixS rIxS := by
  intro m H s x y vx vy Q st rx ry ans
  unfold ixS at ans
  split at ans
  · rename_i z i
    split at ans
    · rename_i hl
      cases ei : atI z.cps.toList i with
      | none => rw [ei] at ans; exact ans.none.elim
      | some d =>
        rw [ei] at ans
        exact ⟨z, i, d, rx, ry, hl, ei, ans.same st (v := .str _) rfl⟩
    · exact ans.none.elim
  · exact ans.none.elim
theorem ev_ix (ha : EvE g a A) (hb : EvE g b B) (hs : PlainIx b := by exact fun _ _ => rfl) : EvE g (.Subscript a b pos) (eOp dIx A B) :=
  PE.imp (pe_ix (IxR.or ix_tup (IxR.or ix_list ix_str)) ha hb hs) fun _ _ _ h => op2 (ixT_ok.alt (ixL_ok.alt ixS_ok)) h

/-! slices -/
abbrev Pa := Env → S → Out (Option Int)
def tP (K : PySem.W.Frag) (ca : Str → Addr) (W : WX) (A : Pa) : TO := fun σ H Q => ∃ m ρ s, Rel K ca m H ρ σ s ∧ PO_ K ca W m H ρ σ (fun b _ _ H' => Q b H') (A ρ s)
def EvP (g : G) (e : Option Expr) (A : Pa) : Prop := PO g.X e (tP g.X.K g.ca g.W A)
@[simp] def pNo (_ : Env) (s : S) : Out (Option Int) := .ok none s
@[simp] def pSo (A : Ex) (ρ : Env) (s : S) : Out (Option Int) := (A ρ s).bind fun x s1 => match x with
  | .p (.int i) => .ok (some i) s1
  | _ => .no
theorem PO.imp {X : Cx} {e : Option Expr} {t t' : TO} (h : PO X e t) (i : ∀ σ H Q, t' σ H Q → t σ H Q) : PO X e t' := ⟨fun pins s σ H Q I q => h.run pins s σ H Q I (i σ H Q q)⟩
theorem ep_no : EvP g none pNo := PO.imp po_none fun σ H Q h => by
  obtain ⟨m, ρ, s, rel, h⟩ := h
  exact h m H (Ext.refl _ _) rel
theorem ep_so (h : EvE g a A) : EvP g (some a) (pSo A) := PO.imp (po_some h) fun σ H Q h => by
  obtain ⟨m, ρ, s, rel, h⟩ := h
  refine ⟨m, ρ, s, rel, (PO_.bind h).mono fun x s1 m1 H1 ⟨r1, h1⟩ v rv => ?_⟩
  split at h1
  · exact ⟨_, rv, h1 m1 H1 (Ext.refl _ _) r1⟩
  · exact h1.elim
def cutD (ds : List D) (lo hi : Option Int) : List D := (ds.drop (HT.sIx ds.length 0 lo)).take (HT.sIx ds.length ds.length hi - HT.sIx ds.length 0 lo)
theorem RepDs.cutD {K : PySem.W.Frag} {H : Hp} {m : List Addr} {ds : List D} {vs : List V} {lo hi : Option Int} (r : RepDs K H m ds vs) : RepDs K H m (cutD ds lo hi) (cutV vs lo hi) := by
  unfold Mo.cutD cutV
  rw [← r.len]
  exact (r.drop _).take _
def slT (x : D) (lo hi : Option Int) (s : S) : Option (D × S) := (viT x).map fun ds => (mkT (cutD ds lo hi), s)
def slL (x : D) (lo hi : Option Int) (s : S) : Option (D × S) := (viL s x).map fun ds => (.lst (cutD ds lo hi), s)
def slS (x : D) (lo hi : Option Int) (s : S) : Option (D × S) := match x with
  | .p (.str z) => if z.length ≤ sizeLine then some (.p (.str (cutS z lo hi)), s) else none
  | _ => none
def dSl (x : D) (lo hi : Option Int) (s : S) : Option (D × S) := match slT x lo hi s with
  | some r => some r
  | none => match slL x lo hi s with
    | some r => some r
    | none => slS x lo hi s
@[simp] def eSl (A : Ex) (P Q : Pa) (ρ : Env) (s : S) : Out D := (A ρ s).bind fun x s1 => (P ρ s1).bind fun lo s2 => (Q ρ s2).bind fun hi s3 => ofO (dSl x lo hi s3)
theorem slT_whole {xs : List V} {ds : List D} {lo hi : Option Int} (hl : ds.length = xs.length) (h : HT.sIx xs.length 0 lo = 0 ∧ HT.sIx xs.length xs.length hi = xs.length) : cutD ds lo hi = ds := by
  unfold cutD
  rw [hl, h.1, h.2]
  simp [← hl]
variable {Pl Ph : Pa} {lo hi : Option Expr}
theorem ev_sl (ha : EvE g a A) (hl : EvP g lo Pl) (hh : EvP g hi Ph) : EvE g (.Subscript a (.Slice lo hi none p2) pos) (eSl A Pl Ph) :=
  PE.imp (pe_slice (SlR.or sl_tupA (SlR.or sl_list sl_str)) ha hl hh) fun σ H Q h => by
    obtain ⟨m, ρ, s, rel, h⟩ := h
    refine ⟨m, ρ, s, rel, (PO_.bind h).mono fun x s1 m1 H1 ⟨r1, h1⟩ v rv => ⟨m1, ρ, s1, r1, ?_⟩⟩
    have h2 := PO_.bind h1
    cases e : Pl ρ s1 with
    | no => rw [e] at h2; exact h2
    | ex y s2 => rw [e] at h2; exact h2
    | ok l s2 =>
      rw [e] at h2
      intro m2 H2 x2 r2
      obtain ⟨_, h3⟩ := h2 m2 H2 x2 r2
      refine ⟨m2, ρ, s2, r2, ?_⟩
      have h4 := PO_.bind h3
      cases e2 : Ph ρ s2 with
      | no => rw [e2] at h4; exact h4
      | ex y s3 => rw [e2] at h4; exact h4
      | ok u s3 =>
        rw [e2] at h4
        intro m3 H3 x3 r3
        obtain ⟨_, h5⟩ := h4 m3 H3 x3 r3
        have rx := r2.sto.repD x3.toExtW (r1.sto.repD x2 rv)
        have ans := ans_of r3 h5
        have st := r3.sto
        unfold dSl at ans
        cases et : slT x l u s3 with
        | some q =>
          rw [et] at ans
          unfold slT at et
          cases ex : viT x with
          | none => rw [ex] at et; cases et
          | some ds =>
            rw [ex] at et
            cases et
            obtain ⟨a, vs, rfl, qa, ra⟩ := viT_ok rx ex
            replace ans : Ans g m3 H3 Q (some (mkT (cutD ds l u), s3)) := ans
            refine .inl ⟨a, vs, rfl, qa, fun hw => ?_, fun _ p hp => ?_⟩
            · rw [slT_whole ra.len hw] at ans
              exact ans.same st (mkT_rep qa ra)
            · obtain ⟨d', s', e, hh⟩ := ans
              cases e
              exact new_tup st ra.cutD hp hh
        | none =>
          rw [et] at ans
          cases el : slL x l u s3 with
          | some q =>
            rw [el] at ans
            unfold slL at el
            cases ex : viL s3 x with
            | none => rw [ex] at el; cases el
            | some ds =>
              rw [ex] at el
              cases el
              obtain ⟨a, vs, rfl, qa, ra⟩ := viL_ok st rx ex
              refine .inr (.inl ⟨a, vs, rfl, qa, fun p hp => ?_⟩)
              obtain ⟨d', s', e, hh⟩ := ans
              cases e
              exact new_lst st ra.cutD hp hh
          | none =>
            rw [el] at ans
            replace ans : Ans g m3 H3 Q (slS x l u s3) := ans
            unfold slS at ans
            split at ans
            · split at ans
              · rename_i hz
                exact .inr (.inr ⟨_, rx, hz, ans.same st (v := .str _) rfl⟩)
              · exact ans.none.elim
            · exact ans.none.elim

/-! calls of built-ins by values -/
/-- f tells what a call makes of its values -/
def CaS (g : G) (f : List D → S → Option (D × S)) (r : List V → Hp → VK → Prop) : Prop := ∀ (m : List Addr) (H : Hp) (s : S) (xs : List D) (vs : List V) (Q : VK), StRep g.X.K g.ca m H s → RepDs g.X.K H m xs vs → Ans g m H Q (f xs s) → r vs H Q
@[simp] def eCa (f : List D → S → Option (D × S)) (As : Ar) (ρ : Env) (s : S) : Out D := (As ρ s).bind fun xs s1 => ofO (f xs s1)
theorem ca_in {f : List D → S → Option (D × S)} {r : List V → Hp → VK → Prop} (hf : CaS g f r) {σ : L2.St} {H : Hp} {Q : VK} (h : tE g.X.K g.ca g.W (eCa f As) σ H Q) : tCB r (tA g.X.K g.ca g.W As) σ H Q := by
  obtain ⟨m, ρ, s, rel, h⟩ := h
  refine ⟨m, ρ, s, rel, (PO_.bind h).mono fun xs s1 m1 H1 ⟨r1, h1⟩ vs rv => ?_⟩
  exact hf m1 H1 s1 xs vs Q r1.sto rv (ans_of r1 h1)
theorem ev_b {id : String} {x : Str} {p : Pos} {f : List D → S → Option (D × S)} {r : List V → Hp → VK → Prop} (hc : CallR g.X (.builtin id) r) (hf : CaS g f r) (hm : g.X.mg x = none) (hv : bootBuiltins x = some (.builtin id)) (ha : EvA g (e :: es) As)
    (hg : Gl g.X x := by rfl) (hn : x ≠ "__name__" := by decide) (hdb : (x == ("__debug__" : Str)) = false := by decide)
    (he : starEach (e :: es) g.X.env = (false, eval e g.X.env) :: starEach es g.X.env := by rfl) (hpl : (backTo pos (starEach es g.X.env)).any (·.1) = false := by rfl) : EvE g (.Call (.Name x p) (e :: es) [] pos) (eCa f As) :=
  PE.imp (pe_callB hc hg hm hv ha hn hdb he hpl) fun _ _ _ h => ca_in hf h
theorem ev_bt {T : String} {x : Str} {p : Pos} {f : List D → S → Option (D × S)} {r : List V → Hp → VK → Prop} (hc : CallR g.X (.type T) r) (hf : CaS g f r) (hm : g.X.mg x = none) (hv : bootBuiltins x = some (.type T)) (ha : EvA g (e :: es) As)
    (hg : Gl g.X x := by rfl) (hn : x ≠ "__name__" := by decide) (hdb : (x == ("__debug__" : Str)) = false := by decide)
    (he : starEach (e :: es) g.X.env = (false, eval e g.X.env) :: starEach es g.X.env := by rfl) (hpl : (backTo pos (starEach es g.X.env)).any (·.1) = false := by rfl) : EvE g (.Call (.Name x p) (e :: es) [] pos) (eCa f As) :=
  PE.imp (pe_callTy hc hg hm hv ha hn hdb he hpl) fun _ _ _ h => ca_in hf h
/-- one value in -/
theorem RepDs.x1 {K : PySem.W.Frag} {H : Hp} {m : List Addr} {d : D} {vs : List V} (r : RepDs K H m [d] vs) : ∃ v, vs = [v] ∧ RepD K H m d v := by
  obtain ⟨v, r', e, h1, h2⟩ := r
  cases h2
  exact ⟨v, e, h1⟩
theorem RepDs.x2 {K : PySem.W.Frag} {H : Hp} {m : List Addr} {d d' : D} {vs : List V} (r : RepDs K H m [d, d'] vs) : ∃ v w, vs = [v, w] ∧ RepD K H m d v ∧ RepD K H m d' w := by
  obtain ⟨v, r', e, h1, h2⟩ := r
  obtain ⟨w, e2, h3⟩ := h2.x1
  subst e2
  exact ⟨v, w, e, h1, h3⟩
theorem CallR.or' {X : Cx} {f : Value} {r r' : List V → Hp → VK → Prop} (h : CallR X f r) (h' : CallR X f r') : CallR X f (fun xs H Q => r xs H Q ∨ r' xs H Q) := CallR.or h h'
def altC (f f' : List D → S → Option (D × S)) : List D → S → Option (D × S) := fun xs s => match f xs s with
  | some r => some r
  | none => f' xs s
theorem CaS.alt {f f' : List D → S → Option (D × S)} {r r' : List V → Hp → VK → Prop} (h : CaS g f r) (h' : CaS g f' r') : CaS g (altC f f') (fun xs H Q => r xs H Q ∨ r' xs H Q) := by
  intro m H s xs vs Q st rx ans
  unfold altC at ans
  cases e : f xs s with
  | some q => rw [e] at ans; exact .inl (h m H s xs vs Q st rx (by rw [e]; exact ans))
  | none => rw [e] at ans; exact .inr (h' m H s xs vs Q st rx ans)
/-- abs -/
def bAbs : List D → S → Option (D × S) := fun xs s => match xs with
  | [.p (.int i)] => some (.p (.int (if i < 0 then -i else i)), s)
  | _ => none
theorem bAbs_ok : CaS g bAbs (fun xs H Q => ∃ i, xs = [.int i] ∧ Q (.int (if i < 0 then -i else i)) H) := by
  intro m H s xs vs Q st rx ans
  unfold bAbs at ans
  split at ans
  · obtain ⟨v, rfl, rv⟩ := rx.x1
    cases rv
    exact ⟨_, rfl, ans.same st (v := .int _) rfl⟩
  · exact ans.none.elim
theorem ev_abs {p : Pos} (hm : g.X.mg "abs" = none) (ha : EvA g [e] As) (hg : Gl g.X "abs" := by rfl) (he : starEach [e] g.X.env = (false, eval e g.X.env) :: starEach [] g.X.env := by rfl) : EvE g (.Call (.Name "abs" p) [e] [] pos) (eCa bAbs As) :=
  ev_b call_abs bAbs_ok hm (by decide +kernel) ha hg (he := he) (hpl := by rfl)
/-- int -/
def bInt : List D → S → Option (D × S) := fun xs s => match xs with
  | [.p (.int i)] => some (.p (.int i), s)
  | [.p (.bl k)] => some (.p (.int (if k then 1 else 0)), s)
  | _ => none
theorem bInt_ok : CaS g bInt (fun xs H Q => (∃ i, xs = [.int i] ∧ Q (.int i) H) ∨ ∃ k, xs = [.bl k] ∧ Q (.int (if k then 1 else 0)) H) := by
  intro m H s xs vs Q st rx ans
  unfold bInt at ans
  split at ans
  · obtain ⟨v, rfl, rv⟩ := rx.x1
    cases rv
    exact .inl ⟨_, rfl, ans.same st (v := .int _) rfl⟩
  · obtain ⟨v, rfl, rv⟩ := rx.x1
    cases rv
    exact .inr ⟨_, rfl, ans.same st (v := .int _) rfl⟩
  · exact ans.none.elim
theorem ev_intc {p : Pos} (hm : g.X.mg "int" = none) (ha : EvA g [e] As) (hg : Gl g.X "int" := by rfl) (he : starEach [e] g.X.env = (false, eval e g.X.env) :: starEach [] g.X.env := by rfl) : EvE g (.Call (.Name "int" p) [e] [] pos) (eCa bInt As) :=
  ev_bt call_int1 bInt_ok hm (by decide +kernel) ha hg (he := he) (hpl := by rfl)
/-- str of an int -/
def bStr : List D → S → Option (D × S) := fun xs s => match xs with
  | [.p (.int i)] => if i.natAbs.log2 < 1920 then some (.p (.str (toString i)), s) else none
  | _ => none
theorem bStr_ok : CaS g bStr (fun xs H Q => ∃ i, xs = [.int i] ∧ i.natAbs.log2 < 1920 ∧ Q (.str (toString i)) H) := by
  intro m H s xs vs Q st rx ans
  unfold bStr at ans
  split at ans
  · split at ans
    · rename_i i hl
      obtain ⟨v, rfl, rv⟩ := rx.x1
      cases rv
      exact ⟨_, rfl, hl, ans.same st (v := .str _) rfl⟩
    · exact ans.none.elim
  · exact ans.none.elim
theorem ev_strc {p : Pos} (hm : g.X.mg "str" = none) (ha : EvA g [e] As) (hg : Gl g.X "str" := by rfl) (he : starEach [e] g.X.env = (false, eval e g.X.env) :: starEach [] g.X.env := by rfl) : EvE g (.Call (.Name "str" p) [e] [] pos) (eCa bStr As) :=
  ev_bt call_str_int bStr_ok hm (by decide +kernel) ha hg (he := he) (hpl := by rfl)
/-- max, min of two ints -/
def bMax2 : List D → S → Option (D × S) := fun xs s => match xs with
  | [.p (.int i), .p (.int j)] => some (.p (.int (if j > i then j else i)), s)
  | _ => none
def bMin2 : List D → S → Option (D × S) := fun xs s => match xs with
  | [.p (.int i), .p (.int j)] => some (.p (.int (if j < i then j else i)), s)
  | _ => none
theorem bMax2_ok : CaS g bMax2 (fun xs H Q => ∃ i j, xs = [.int i, .int j] ∧ Q (.int (if j > i then j else i)) H) := by
  intro m H s xs vs Q st rx ans
  unfold bMax2 at ans
  split at ans
  · obtain ⟨v, w, rfl, rv, rw_⟩ := rx.x2
    cases rv; cases rw_
    exact ⟨_, _, rfl, ans.same st (v := .int _) rfl⟩
  · exact ans.none.elim
theorem bMin2_ok : CaS g bMin2 (fun xs H Q => ∃ i j, xs = [.int i, .int j] ∧ Q (.int (if j < i then j else i)) H) := by
  intro m H s xs vs Q st rx ans
  unfold bMin2 at ans
  split at ans
  · obtain ⟨v, w, rfl, rv, rw_⟩ := rx.x2
    cases rv; cases rw_
    exact ⟨_, _, rfl, ans.same st (v := .int _) rfl⟩
  · exact ans.none.elim
theorem ev_max2 {e2 : Expr} {p : Pos} (hm : g.X.mg "max" = none) (ha : EvA g [e, e2] As) (hc : g.X.calm = true := by rfl) (hg : Gl g.X "max" := by rfl) (he : starEach [e, e2] g.X.env = (false, eval e g.X.env) :: starEach [e2] g.X.env := by rfl) (hpl : (backTo pos (starEach [e2] g.X.env)).any (·.1) = false := by rfl) : EvE g (.Call (.Name "max" p) [e, e2] [] pos) (eCa bMax2 As) :=
  ev_b (call_max2 hc) bMax2_ok hm (by decide +kernel) ha hg (he := he) (hpl := hpl)
theorem ev_min2 {e2 : Expr} {p : Pos} (hm : g.X.mg "min" = none) (ha : EvA g [e, e2] As) (hc : g.X.calm = true := by rfl) (hg : Gl g.X "min" := by rfl) (he : starEach [e, e2] g.X.env = (false, eval e g.X.env) :: starEach [e2] g.X.env := by rfl) (hpl : (backTo pos (starEach [e2] g.X.env)).any (·.1) = false := by rfl) : EvE g (.Call (.Name "min" p) [e, e2] [] pos) (eCa bMin2 As) :=
  ev_b (call_min2 hc) bMin2_ok hm (by decide +kernel) ha hg (he := he) (hpl := hpl)
end
end Mo

set_option Elab.async false
set_option linter.all false
set_option maxRecDepth 100000
set_option maxHeartbeats 4000000
namespace Mo
open PySem PySem.Spec PyProof.Rows L2
section
variable {K : PySem.W.Frag} {ca : Str → Addr} {W : WX} {m m1 : List Addr} {H H1 : Hp} {ρ : Env} {σ : L2.St} {s s1 : S}
/-- the same wish behind other ends that are as good -/
theorem PF_.ends {D_ D' : Ends} {o : Fl} (h : PF_ K ca W m H D_ o) (h1 : ∀ σ H, D_.nx σ H → D'.nx σ H) (h2 : ∀ σ H, D_.rt σ H → D'.rt σ H) (h3 : ∀ σ H, D_.bk σ H → D'.bk σ H) (h4 : ∀ σ H, D_.ct σ H → D'.ct σ H) : PF_ K ca W m H D' o := by
  cases o with
  | nx ρ s => exact fun m' H' σ' x r => h1 _ _ (h m' H' σ' x r)
  | bk ρ s => exact fun m' H' σ' x r => h3 _ _ (h m' H' σ' x r)
  | ct ρ s => exact fun m' H' σ' x r => h4 _ _ (h m' H' σ' x r)
  | rt d s => exact fun m' H' v x r q => h2 _ _ (h m' H' v x r q)
  | ex y ρ s => exact h
  | no => exact h
end
section
variable {g : G} {a b c e : Expr} {A B C_ : Ex} {T : Te} {pos pos' : Pos} {es : List Expr} {As : Ar} {st : Stmt} {rest : List Stmt} {B1 B2 : Bl}

/-! blocks -/
@[simp] def bNil (ρ : Env) (s : S) : Fl := .nx ρ s
@[simp] def bSeq (B1 B2 : Bl) (ρ : Env) (s : S) : Fl := (B1 ρ s).then_ B2
theorem eb_nil : EvB g [] bNil := PSs.imp pss_nil fun D σ H h => by
  obtain ⟨m, ρ, s, rel, h⟩ := h
  exact h m H σ (Ext.refl _ _) rel
theorem eb_cons (h1 : EvS g st B1) (h2 : EvB g rest B2) : EvB g (st :: rest) (bSeq B1 B2) :=
  PSs.imp (pss_cons h1 h2) fun D σ H h => by
    obtain ⟨m, ρ, s, rel, h⟩ := h
    refine ⟨m, ρ, s, rel, ?_⟩
    unfold bSeq at h
    cases e : B1 ρ s with
    | nx ρ' s' =>
      rw [e] at h
      exact fun m' H' σ' x r => ⟨m', ρ', s', r, PF_.on x h⟩
    | rt d s' => rw [e] at h; exact h
    | bk ρ' s' => rw [e] at h; exact h
    | ct ρ' s' => rw [e] at h; exact h
    | ex y ρ' s' => rw [e] at h; exact h
    | no => rw [e] at h; exact h
theorem eb_one (h1 : EvS g st B1) : EvB g [st] B1 := pss_one h1
theorem es_pass : EvS g (.Pass pos) bNil := PS.imp ps_pass fun D σ H h => by
  obtain ⟨m, ρ, s, rel, h⟩ := h
  exact h m H σ (Ext.refl _ _) rel
theorem es_doc {x j} : EvS g (.Expr (.Constant (.str x) j pos) pos') bNil := PS.imp ps_doc fun D σ H h => by
  obtain ⟨m, ρ, s, rel, h⟩ := h
  exact h m H σ (Ext.refl _ _) rel
@[simp] def bBrk (ρ : Env) (s : S) : Fl := .bk ρ s
@[simp] def bCont (ρ : Env) (s : S) : Fl := .ct ρ s
theorem es_brk : EvS g (.Break pos) bBrk := PS.imp ps_break fun D σ H h => by
  obtain ⟨m, ρ, s, rel, h⟩ := h
  exact h m H σ (Ext.refl _ _) rel
theorem es_cont : EvS g (.Continue pos) bCont := PS.imp ps_continue fun D σ H h => by
  obtain ⟨m, ρ, s, rel, h⟩ := h
  exact h m H σ (Ext.refl _ _) rel
@[simp] def bDrop (A : Ex) (ρ : Env) (s : S) : Fl := (A ρ s).fl ρ fun _ s1 => .nx ρ s1
theorem es_expr (ha : EvE g a A) (hs : swapsWith a none pos.line g.X.env = pure false := by rfl) : EvS g (.Expr a pos) (bDrop A) :=
  PS.imp (ps_expr ha hs) fun D σ H h => by
    obtain ⟨m, ρ, s, rel, h⟩ := h
    refine ⟨m, ρ, s, rel, (PO_.fl h).mono fun d s1 m1 H1 ⟨r1, h1⟩ v rv => ?_⟩
    exact h1 m1 H1 σ (Ext.refl _ _) r1
@[simp] def bRet (A : Ex) (ρ : Env) (s : S) : Fl := (A ρ s).fl ρ fun d s1 => .rt d s1
theorem es_ret (ha : EvE g a A) : EvS g (.Return (some a) pos) (bRet A) :=
  PS.imp (ps_ret ha) fun D σ H h => by
    obtain ⟨m, ρ, s, rel, h⟩ := h
    refine ⟨m, ρ, s, rel, (PO_.fl h).mono fun d s1 m1 H1 ⟨r1, h1⟩ v rv => ?_⟩
    exact h1 m1 H1 v (Ext.refl _ _) r1.sto rv
@[simp] def bRetN (_ : Env) (s : S) : Fl := .rt (.p .non) s
theorem es_retN : EvS g (.Return none pos) bRetN := PS.imp ps_retN fun D σ H h => by
  obtain ⟨m, ρ, s, rel, h⟩ := h
  exact h m H .non (Ext.refl _ _) rel.sto rfl
@[simp] def bIf (T : Te) (B1 B2 : Bl) (ρ : Env) (s : S) : Fl := (T ρ s).fl ρ fun b s1 => if b = true then B1 ρ s1 else B2 ρ s1
theorem es_if {s1 s2 : List Stmt} (h : EvT g c T) (h1 : EvB g s1 B1) (h2 : EvB g s2 B2) : EvS g (.If c s1 s2 pos) (bIf T B1 B2) :=
  PS.imp (ps_if h h1 h2) fun D σ H h => by
    obtain ⟨m, ρ, s, rel, h⟩ := h
    refine ⟨m, ρ, s, rel, (PO_.fl h).mono fun d s1 m1 H1 ⟨r1, h1⟩ => ?_⟩
    cases d with
    | true => exact ⟨m1, ρ, s1, r1, h1⟩
    | false => exact ⟨m1, ρ, s1, r1, h1⟩

/-! targets -/
abbrev Tg := D → Env → S → Option Env
def tG (K : PySem.W.Frag) (ca : Str → Addr) (T : Tg) : TG := fun v σ H Q => ∃ m ρ s d, Rel K ca m H ρ σ s ∧ RepD K H m d v ∧ ∃ ρ', T d ρ s = some ρ' ∧ ∀ σ', Rel K ca m H ρ' σ' s → Q σ' H
abbrev Tgs := List D → Env → S → Option Env
def tGs (K : PySem.W.Frag) (ca : Str → Addr) (T : Tgs) : TGs := fun vs σ H Q => ∃ m ρ s ds, Rel K ca m H ρ σ s ∧ RepDs K H m ds vs ∧ ∃ ρ', T ds ρ s = some ρ' ∧ ∀ σ', Rel K ca m H ρ' σ' s → Q σ' H
def EvG (g : G) (e : Expr) (T : Tg) : Prop := PG g.X e (tG g.X.K g.ca T)
def EvGs (g : G) (es : List Expr) (T : Tgs) : Prop := PGs g.X es (tGs g.X.K g.ca T)
@[simp] def gNm (i : Nat) : Tg := fun d ρ _ => some (ρ.set i (some d))
@[simp] def gsNil : Tgs := fun ds ρ _ => match ds with
  | [] => some ρ
  | _ => none
@[simp] def gsCons (T : Tg) (U : Tgs) : Tgs := fun ds ρ s => match ds with
  | d :: ds => (T d ρ s).bind fun ρ' => U ds ρ' s
  | [] => none
@[simp] def gTu (n : Nat) (U : Tgs) : Tg := fun d ρ s => match viT d with
  | some ds => if ds.length = n then U ds ρ s else none
  | none => none
theorem PG.imp {X : Cx} {e : Expr} {t t' : TG} (h : PG X e t) (i : ∀ v σ H Q, t' v σ H Q → t v σ H Q) : PG X e t' := ⟨fun pins s σ H v u Q I r q => h.run pins s σ H v u Q I r (i v σ H Q q)⟩
theorem PGs.imp {X : Cx} {e : List Expr} {t t' : TGs} (h : PGs X e t) (i : ∀ v σ H Q, t' v σ H Q → t v σ H Q) : PGs X e t' := ⟨fun pins s σ H v u Q I r q => h.run pins s σ H v u Q I r (i v σ H Q q)⟩
theorem eg_nm (i : Nat) {x : Str} (hN : g.X.N.Nodup) (hi : g.X.N[i]? = some x := by rfl) (hx : Loc g.X.env.scope x := by first | exact Or.inl rfl | exact Or.inr rfl) (hf : g.X.fn x = true ∨ g.X.env.scope.names.lookup x = some .local := by first | exact .inl rfl | exact .inr rfl) : EvG g (.Name x pos) (gNm i) :=
  PG.imp (pg_name hN hi hx hf) fun v σ H Q h => by
    obtain ⟨m, ρ, s, d, rel, rd, ρ', e, q⟩ := h
    cases e
    exact q _ ⟨rel.env.set i rd, rel.sto⟩
theorem egs_nil : EvGs g [] gsNil := PGs.imp pgs_nil fun v σ H Q h => by
  obtain ⟨m, ρ, s, ds, rel, rd, ρ', e, q⟩ := h
  unfold gsNil at e
  split at e
  · cases e
    cases rd
    exact ⟨rfl, q _ rel⟩
  · cases e
theorem egs_cons {T : Tg} {U : Tgs} (h1 : EvG g e T) (h2 : EvGs g es U) (hs : (assignEach (e :: es) g.X.env).map (·.2) = assign e g.X.env :: (assignEach es g.X.env).map (·.2) := by rfl) : EvGs g (e :: es) (gsCons T U) :=
  PGs.imp (pgs_cons h1 h2 hs) fun vs σ H Q h => by
    obtain ⟨m, ρ, s, ds, rel, rd, ρ', e, q⟩ := h
    unfold gsCons at e
    split at e
    · rename_i d ds
      obtain ⟨v, r, e2, h3, h4⟩ := rd
      obtain ⟨ρ1, e3, e4⟩ := Option.bind_eq_some_iff.mp e
      exact ⟨v, r, e2, m, ρ, s, d, rel, h3, ρ1, e3, fun σ1 rel1 => ⟨m, ρ1, s, ds, rel1, h4, ρ', e4, q⟩⟩
    · cases e
theorem eg_tup {U : Tgs} {k n : Nat} (h : EvGs g es U) (hc : g.X.calm = true := by rfl) (hn : (assignEach es g.X.env).length = n := by rfl) (hst : (assignEach es g.X.env).findIdx? (·.1) = none := by rfl) : EvG g (.Tuple es k pos) (gTu n U) :=
  PG.imp (pg_tup hc h hn hst) fun v σ H Q h => by
    obtain ⟨m, ρ, s, d, rel, rd, ρ', e, q⟩ := h
    unfold gTu at e
    cases ev : viT d with
    | none => rw [ev] at e; cases e
    | some ds =>
      rw [ev] at e
      obtain ⟨a, vs, rfl, qa, ra⟩ := viT_ok rd ev
      simp only at e
      split at e
      · rename_i hl
        exact ⟨a, vs, rfl, qa, by rw [← ra.len]; exact hl, m, ρ, s, ds, rel, ra, ρ', e, q⟩
      · cases e

/-! assignments -/
@[simp] def bSet (i : Nat) (A : Ex) (ρ : Env) (s : S) : Fl := (A ρ s).fl ρ fun d s1 => .nx (ρ.set i (some d)) s1
theorem es_set (i : Nat) {x : Str} (hN : g.X.N.Nodup) (ha : EvE g e A) (hi : g.X.N[i]? = some x := by rfl) (hx : Loc g.X.env.scope x := by first | exact Or.inl rfl | exact Or.inr rfl) (hs : swapsWith e (some (.Name x pos')) pos.line g.X.env = pure false := by rfl)
    (hf : g.X.fn x = true ∨ g.X.env.scope.names.lookup x = some .local := by first | exact .inl rfl | exact .inr rfl) : EvS g (.Assign [.Name x pos'] e pos) (bSet i A) :=
  PS.imp (ps_set hN hi hx ha hs hf) fun D σ H h => by
    obtain ⟨m, ρ, s, rel, h⟩ := h
    refine ⟨m, ρ, s, rel, (PO_.fl h).mono fun d s1 m1 H1 ⟨r1, h1⟩ v rv => ?_⟩
    exact h1 m1 H1 _ (Ext.refl _ _) ⟨r1.env.set i rv, r1.sto⟩
@[simp] def bAsg (A : Ex) (T : Tg) (ρ : Env) (s : S) : Fl := (A ρ s).fl ρ fun d s1 => match T d ρ s1 with
  | some ρ' => .nx ρ' s1
  | none => .no
theorem es_asg {T : Tg} {tg : Expr} (ha : EvE g e A) (hg : EvG g tg T) (hs : swapsWithSole [tg] e pos.line g.X.env = pure false := by rfl) (hw : swappedStores [tg] e g.X.env = pure none := by rfl)
    (h1 : (assignEach [tg] g.X.env).map (·.2) = [assign tg g.X.env] := by rfl) : EvS g (.Assign [tg] e pos) (bAsg A T) :=
  PS.imp (ps_asg ha hg hs hw h1) fun D σ H h => by
    obtain ⟨m, ρ, s, rel, h⟩ := h
    refine ⟨m, ρ, s, rel, (PO_.fl h).mono fun d s1 m1 H1 ⟨r1, h1⟩ v rv => ?_⟩
    cases et : T d ρ s1 with
    | none => rw [et] at h1; exact h1.elim
    | some ρ' =>
      rw [et] at h1
      exact ⟨m1, ρ, s1, d, r1, rv, ρ', et, fun σ' r' => h1 m1 H1 σ' (Ext.refl _ _) r'⟩
/-- a, b = x, y of plain names -/
@[simp] def bPar (is : List Nat) (As : Ar) (ρ : Env) (s : S) : Fl := (As ρ s).fl ρ fun ds s1 => match is, ds with
  | [i, j], [x, y] => .nx ((ρ.set i (some x)).set j (some y)) s1
  | [i, j, l], [x, y, z] => .nx (((ρ.set i (some x)).set j (some y)).set l (some z)) s1
  | _, _ => .no
theorem es_par2 (i j : Nat) {x y : Str} {px py pt : Pos} {kt k2 pt2} (hN : g.X.N.Nodup) (ha : EvA g [a, b] As) (hc : g.X.calm = true := by rfl) (hi : g.X.N[i]? = some x := by rfl) (hj : g.X.N[j]? = some y := by rfl) (hij : i ≠ j := by decide)
    (hx : g.X.env.scope.names.lookup x = some .local := by rfl) (hy : g.X.env.scope.names.lookup y = some .local := by rfl)
    (hw : swappedStores [.Tuple [.Name x px, .Name y py] kt pt] (.Tuple [a, b] k2 pt2) g.X.env = pure (some [x, y]) := by rfl)
    (hs : swapsWithSole [.Tuple [.Name x px, .Name y py] kt pt] (.Tuple [a, b] k2 pt2) pos.line g.X.env = pure false := by rfl) :
    EvS g (.Assign [.Tuple [.Name x px, .Name y py] kt pt] (.Tuple [a, b] k2 pt2) pos) (bPar [i, j] As) :=
  PS.imp (ps_par hc hN hi hj hij hx hy ha hw hs) fun D σ H h => by
    obtain ⟨m, ρ, s, rel, h⟩ := h
    refine ⟨m, ρ, s, rel, (PO_.fl h).mono fun ds s1 m1 H1 ⟨r1, h1⟩ vs rv => ?_⟩
    match ds, rv, h1 with
    | [d1, d2], rv, h1 =>
      obtain ⟨v, w, rfl, rv1, rv2⟩ := rv.x2
      exact ⟨v, w, rfl, h1 m1 H1 _ (Ext.refl _ _) ⟨(r1.env.set i rv1).set j rv2, r1.sto⟩⟩
    | [], _, h1 => exact h1.elim
    | [_], _, h1 => exact h1.elim
    | _ :: _ :: _ :: _, _, h1 => exact h1.elim
theorem es_par3 (i j l : Nat) {x y z : Str} {px py pz pt : Pos} {kt k2 pt2} (hN : g.X.N.Nodup) (ha : EvA g [a, b, c] As) (hc : g.X.calm = true := by rfl) (hi : g.X.N[i]? = some x := by rfl) (hj : g.X.N[j]? = some y := by rfl) (hl : g.X.N[l]? = some z := by rfl) (hij : i ≠ j := by decide) (hil : i ≠ l := by decide) (hjl : j ≠ l := by decide)
    (hx : g.X.env.scope.names.lookup x = some .local := by rfl) (hy : g.X.env.scope.names.lookup y = some .local := by rfl) (hz : g.X.env.scope.names.lookup z = some .local := by rfl)
    (hw : swappedStores [.Tuple [.Name x px, .Name y py, .Name z pz] kt pt] (.Tuple [a, b, c] k2 pt2) g.X.env = pure (some [x, y, z]) := by rfl)
    (hs : swapsWithSole [.Tuple [.Name x px, .Name y py, .Name z pz] kt pt] (.Tuple [a, b, c] k2 pt2) pos.line g.X.env = pure false := by rfl) :
    EvS g (.Assign [.Tuple [.Name x px, .Name y py, .Name z pz] kt pt] (.Tuple [a, b, c] k2 pt2) pos) (bPar [i, j, l] As) :=
  PS.imp (ps_par3 hc hN hi hj hl hij hil hjl hx hy hz ha hw hs) fun D σ H h => by
    obtain ⟨m, ρ, s, rel, h⟩ := h
    refine ⟨m, ρ, s, rel, (PO_.fl h).mono fun ds s1 m1 H1 ⟨r1, h1⟩ vs rv => ?_⟩
    match ds, rv, h1 with
    | [d1, d2, d3], rv, h1 =>
      obtain ⟨v, r, rfl, rv1, rr⟩ := rv
      obtain ⟨w, u, rfl, rv2, rv3⟩ := rr.x2
      exact ⟨v, w, u, rfl, h1 m1 H1 _ (Ext.refl _ _) ⟨((r1.env.set i rv1).set j rv2).set l rv3, r1.sto⟩⟩
    | [], _, h1 => exact h1.elim
    | [_], _, h1 => exact h1.elim
    | [_, _], _, h1 => exact h1.elim
    | _ :: _ :: _ :: _ :: _, _, h1 => exact h1.elim
/-- o[i] = e, o a list -/
def putL (o i d : D) (s : S) : Option S := match o, i with
  | .loc n, .p (.int k) => match s[n]? with
    | some (.lst ds) => (ixN ds.length k).map fun j => s.set n (.lst (ds.set j d))
    | _ => none
  | _, _ => none
@[simp] def bPut (put : D → D → D → S → Option S) (A O I : Ex) (ρ : Env) (s : S) : Fl := (A ρ s).fl ρ fun d s1 => (O ρ s1).fl ρ fun o s2 => (I ρ s2).fl ρ fun i s3 => match put o i d s3 with
  | some s4 => .nx ρ s4
  | none => .no
/-- what a store by a subscript does -/
def PuS (g : G) (put : D → D → D → S → Option S) (t : TSet) : Prop := ∀ (m : List Addr) (H : Hp) (s s' : S) (o i d : D) (vo vi vd : V) (Q : Hp → Prop), StRep g.X.K g.ca m H s → RepD g.X.K H m o vo → RepD g.X.K H m i vi → RepD g.X.K H m d vd →
  put o i d s = some s' → (∀ H', Ext m H m H' → StRep g.X.K g.ca m H' s' → Q H') → t vo vi vd H Q
theorem putL_ok : PuS g putL rSetL := by
  intro m H s s' o i d vo vi vd Q st ro ri rd e h
  unfold putL at e
  split at e
  · rename_i n k
    cases es : s[n]? with
    | none => rw [es] at e; cases e
    | some c =>
      rw [es] at e
      cases c with
      | lst ds =>
        simp only at e
        cases ej : ixN ds.length k with
        | none => rw [ej] at e; cases e
        | some j =>
          rw [ej] at e
          cases e
          obtain ⟨a, ea, rfl⟩ := ro
          obtain ⟨vs, eh, rr⟩ := st.at_ n _ a es ea
          have x : Ext m H m (upd H a (.lst (vs.set j vd))) := Ext.put (List.mem_of_getElem? ea) (nf_lst eh)
          refine ⟨a, vs, k, j, rfl, ri, eh, by rw [← rr.len]; exact ej, h _ x (st.put ea ⟨_, upd_same, st.repDs x (rr.set j rd)⟩)⟩
      | _ => cases e
  · cases e
theorem es_put {put : D → D → D → S → Option S} {t : TSet} {O I : Ex} {o i : Expr} {spos : Pos} (hp : PSet g.X t) (hq : PuS g put t) (ha : EvE g e A) (ho : EvE g o O) (hi : EvE g i I)
    (has : ∀ v, assign (.Subscript o i spos) g.X.env v = (do
      let ov ← holding [v] (eval o g.X.env)
      let iv ← holding [v, ov] (eval i g.X.env)
      standAt spos
      holding [v, ov, iv] (setItem ov iv v)
      release [v, ov, iv] []) := by intro _; rfl)
    (hs : swapsWithSole [.Subscript o i spos] e pos.line g.X.env = pure false := by rfl) (hw : swappedStores [.Subscript o i spos] e g.X.env = pure none := by rfl)
    (h1 : (assignEach [.Subscript o i spos] g.X.env).map (·.2) = [assign (.Subscript o i spos) g.X.env] := by rfl) : EvS g (.Assign [.Subscript o i spos] e pos) (bPut put A O I) :=
  PS.imp (ps_asg ha (pg_sub ho hi hp has) hs hw h1) fun D σ H h => by
    obtain ⟨m, ρ, s, rel, h⟩ := h
    refine ⟨m, ρ, s, rel, (PO_.fl h).mono fun d s1 m1 H1 ⟨r1, h1⟩ v rv => ⟨m1, ρ, s1, r1, ?_⟩⟩
    have h2 := PO_.fl (σ := σ) h1
    cases e : O ρ s1 with
    | no => rw [e] at h2; exact h2
    | ex y s2 => rw [e] at h2; exact h2
    | ok od s2 =>
      rw [e] at h2
      intro m2 H2 x2 r2 ov rov
      obtain ⟨_, h3⟩ := h2 m2 H2 x2 r2
      refine ⟨m2, ρ, s2, r2, ?_⟩
      have h4 := PO_.fl (σ := σ) h3
      cases e2 : I ρ s2 with
      | no => rw [e2] at h4; exact h4
      | ex y s3 => rw [e2] at h4; exact h4
      | ok id_ s3 =>
        rw [e2] at h4
        intro m3 H3 x3 r3 iv riv
        obtain ⟨_, h5⟩ := h4 m3 H3 x3 r3
        cases ep : put od id_ d s3 with
        | none => rw [ep] at h5; exact h5.elim
        | some s4 =>
          rw [ep] at h5
          refine hq m3 H3 s3 s4 od id_ d ov iv v _ r3.sto (r2.sto.repD x3 rov) riv (r2.sto.repD x3 (r1.sto.repD x2 rv)) ep fun H' x4 st4 => ?_
          exact h5 m3 H' σ x4 (r3.ext x4 st4)
theorem es_putL {O I : Ex} {o i : Expr} {spos : Pos} (ha : EvE g e A) (ho : EvE g o O) (hi : EvE g i I)
    (has : ∀ v, assign (.Subscript o i spos) g.X.env v = (do
      let ov ← holding [v] (eval o g.X.env)
      let iv ← holding [v, ov] (eval i g.X.env)
      standAt spos
      holding [v, ov, iv] (setItem ov iv v)
      release [v, ov, iv] []) := by intro _; rfl)
    (hs : swapsWithSole [.Subscript o i spos] e pos.line g.X.env = pure false := by rfl) (hw : swappedStores [.Subscript o i spos] e g.X.env = pure none := by rfl)
    (h1 : (assignEach [.Subscript o i spos] g.X.env).map (·.2) = [assign (.Subscript o i spos) g.X.env] := by rfl) : EvS g (.Assign [.Subscript o i spos] e pos) (bPut putL A O I) := es_put set_list putL_ok ha ho hi has hs hw h1

/-! what a def promises -/
/-- an answer to a caller -/
def PA_ (K : PySem.W.Frag) (ca : Str → Addr) (m : List Addr) (H : Hp) (Q : VK) (E : XK) : Out D → Prop
  | .ok d s => ∀ m' H' v, Ext m H m' H' → StRep K ca m' H' s → RepD K H' m' d v → Q v H'
  | .ex x s => ∀ m' H' c od, Ext m H m' H' → StRep K ca m' H' s → XRep K ca H' m' x c od → E c od H'
  | .no => False
def spF (K : PySem.W.Frag) (ca : Str → Addr) (n : Nat) (F : List D → S → Out D) : Sp := fun vs H Q E => vs.length = n ∧ ∃ m ds s, StRep K ca m H s ∧ RepDs K H m ds vs ∧ PA_ K ca m H Q E (F ds s)
/-- a def that may be called: its promise is F -/
structure Callee (P : Program) (w : World) (K : PySem.W.Frag) (mg : Str → Option Value) (base : Heap) (ca : Str → Addr) (k : Nat) (x : Str) (n : Nat) (F : List D → S → Out D) : Prop where
  ex : ∃ (f : Addr) (fd : FuncData) (ps : List Str), FnOk P w K mg base (L2.CX P w) k f fd ps (spF K ca n F) ∧ mg x = some (.ref f) ∧ PySem.W.keepIn K (.ref f) = true ∧ Binds K fd ps []
abbrev G.Call (g : G) (k : Nat) (x : Str) (n : Nat) (F : List D → S → Out D) : Prop := Callee g.X.prog g.X.w g.X.K g.X.mg g.X.base g.ca k x n F
@[simp] def eF (n : Nat) (F : List D → S → Out D) (As : Ar) (ρ : Env) (s : S) : Out D := (As ρ s).bind fun ds s1 => if ds.length = n then F ds s1 else .no
theorem ev_call {k n : Nat} {x : Str} {F : List D → S → Out D} {p : Pos} (o : g.Ok) (cl : g.Call k x n F) (hk : k ≤ g.k) (ha : EvA g (e :: es) As) (hg : Gl g.X x := by rfl) (hdb : (x == ("__debug__" : Str)) = false := by decide)
    (he : starEach (e :: es) g.X.env = (false, eval e g.X.env) :: starEach es g.X.env := by rfl) (hpl : (backTo pos (starEach es g.X.env)).any (·.1) = false := by rfl) : EvE g (.Call (.Name x p) (e :: es) [] pos) (eF n F As) := by
  obtain ⟨f, fd, ps, F1, hm, hkp, hb⟩ := cl.ex
  refine PE.imp (pe_callS (E := WE g.W) F1 (o.hr.mono hk) hg hm hkp hb (passAt o.tk) ha hdb he hpl) fun σ H Q h => ?_
  obtain ⟨m, ρ, s, rel, h⟩ := h
  refine ⟨m, ρ, s, rel, (PO_.bind h).mono fun ds s1 m1 H1 ⟨r1, h1⟩ vs rv => ?_⟩
  split at h1
  · rename_i hl
    refine ⟨by rw [← rv.len]; exact hl, m1, ds, s1, r1.sto, rv, ?_⟩
    cases e : F ds s1 with
    | no => rw [e] at h1; exact h1
    | ok d s2 => rw [e] at h1; exact fun m' H' v x st r => h1 m' H' x (r1.ext x st) v r
    | ex y s2 => rw [e] at h1; exact fun m' H' c od x st r => h1 m' H' c od x (r1.ext x st) r
  · exact h1.elim
/-- what a def comes to, from its body -/
def runF (n N : Nat) (B : Bl) : List D → S → Out D := fun ds s => if ds.length = n then match B (ds.map some ++ List.replicate (N - n) none) s with
  | .rt d s' => .ok (fin s d s').1 (fin s d s').2
  | .nx _ s' => .ok (fin s (.p .non) s').1 (fin s (.p .non) s').2
  | .ex x _ s' => .ex x s'
  | _ => .no
  else .no
theorem start_rel {K : PySem.W.Frag} {m : List Addr} {H : Hp} {N : List Str} : ∀ {ds : List D} {vs : List V}, RepDs K H m ds vs → ds.length ≤ N.length → EnvRep K m H (ds.map some ++ List.replicate (N.length - ds.length) none) (L2.start N vs) := by
  intro ds vs r hl
  unfold L2.start
  refine ⟨by simp [r.len], fun i d e => ?_⟩
  by_cases hi : i < ds.length
  · rw [List.getElem?_append_left (by simpa using hi), List.getElem?_map] at e
    cases e2 : ds[i]? with
    | none => rw [e2] at e; cases e
    | some d' =>
      rw [e2] at e
      cases e
      obtain ⟨v, e3, rv⟩ := r.get e2
      refine ⟨v, ?_, rv⟩
      rw [List.getElem?_append_left (by rw [List.length_map, ← r.len]; exact hi), List.getElem?_map, e3]
      rfl
  · rw [List.getElem?_append_right (by simpa using hi), List.getElem?_replicate] at e
    split at e <;> cases e
/-- THE RULE for a def: its body's denotation -/
theorem fn_def {P : Program} {w : World} {K : PySem.W.Frag} {mg : Str → Option Value} {base : Heap} {ca : Str → Addr} {x qual : Str} {params : Arguments} {body : List Stmt} {scope : Scope} {f : Addr} {fd : FuncData} {N ps : List Str} {k : Nat} {B : Bl}
    (F : FunD K x qual params body scope [] [] f fd) (Sc : FnScope N ps scope)
    (hB : ∀ (cdv : Value) (A : Around) (outer : List PySem.Env) (s : Shared) (H : Hp) (E : XK), G.Ok ⟨cxOf (L2.CX P w) P w K mg base N qual scope f cdv A outer s H E, ca, fun c od _ H => E c od H, k⟩ →
      EvB ⟨cxOf (L2.CX P w) P w K mg base N qual scope f cdv A outer s H E, ca, fun c od _ H => E c od H, k⟩ body B) :
    FnOk P w K mg base (L2.CX P w) (k + 1) f fd ps (spF K ca ps.length (runF ps.length N.length B)) := by
  have hle : ps.length ≤ N.length := by
    have := congrArg List.length Sc.pre
    rw [List.length_take] at this
    omega
  refine F.ok Sc (fun vs H Q E h => h.1) fun cdv A outer s H vs Q E hr h => ?_
  refine ⟨_, hB cdv A outer s H E ⟨takes_of rfl rfl rfl rfl, hr⟩, ?_⟩
  obtain ⟨hl, m, ds, st, s0, rv, h⟩ := h
  unfold runF at h
  have hdl : ds.length = ps.length := by rw [rv.len]; exact hl
  rw [if_pos hdl] at h
  refine ⟨m, ds.map some ++ List.replicate (N.length - ps.length) none, st, ⟨?_, s0⟩, ?_⟩
  · rw [← hdl]
    exact start_rel rv (by omega)
  · cases e : B (ds.map some ++ List.replicate (N.length - ps.length) none) st with
    | rt d s' =>
      rw [e] at h
      intro m' H' v x st' r
      obtain ⟨m2, x2, s2, r2⟩ := fin_ok s0 x st' r
      exact h m2 H' v x2 s2 r2
    | nx ρ' s' =>
      rw [e] at h
      intro m' H' σ' x rel
      obtain ⟨m2, x2, s2, r2⟩ := fin_ok (d := .p .non) (v := .non) s0 x rel.sto rfl
      exact h m2 H' .non x2 s2 r2
    | ex y ρ' s' =>
      rw [e] at h
      exact fun m' H' σ' c od x rel q => h m' H' c od x rel.sto q
    | bk _ _ => rw [e] at h; exact h.elim
    | ct _ _ => rw [e] at h; exact h.elim
    | no => rw [e] at h; exact h.elim
end
end Mo

set_option Elab.async false
set_option linter.all false
set_option maxRecDepth 100000
set_option maxHeartbeats 4000000
namespace Mo
open PySem PySem.Spec PyProof.Rows L2
section
variable {g : G} {a b c e elt : Expr} {A B C_ : Ex} {T : Te} {pos pos' : Pos} {es : List Expr} {As : Ar} {st : Stmt} {rest body : List Stmt} {B1 B2 : Bl}

/-! targets by their slots -/
mutual
inductive Pt where
  | nm (i : Nat) | tu (ts : Pts)
inductive Pts where
  | nil | cons (t : Pt) (ts : Pts)
end
mutual
def Pt.sl : Pt → List Nat
  | .nm i => [i]
  | .tu ts => ts.sl
def Pts.sl : Pts → List Nat
  | .nil => []
  | .cons t ts => t.sl ++ ts.sl
end
mutual
def Pt.run : Pt → D → Env → Option Env
  | .nm i, d, ρ => some (ρ.set i (some d))
  | .tu ts, d, ρ => match viT d with
    | some ds => ts.run ds ρ
    | none => none
def Pts.run : Pts → List D → Env → Option Env
  | .nil, [], ρ => some ρ
  | .nil, _ :: _, _ => none
  | .cons _ _, [], _ => none
  | .cons t ts, d :: ds, ρ => (t.run d ρ).bind fun ρ' => ts.run ds ρ'
end
/-- the slots beside are as they were -/
def Besides (is : List Nat) (σ σ' : L2.St) : Prop := σ'.length = σ.length ∧ ∀ j, j ∉ is → σ'[j]? = σ[j]?
theorem Besides.refl {is : List Nat} {σ : L2.St} : Besides is σ σ := ⟨rfl, fun _ _ => rfl⟩
theorem Besides.trans {is js : List Nat} {σ σ1 σ2 : L2.St} (h : Besides is σ σ1) (h' : Besides js σ1 σ2) : Besides (is ++ js) σ σ2 :=
  ⟨h'.1.trans h.1, fun j hj => by
    simp only [List.mem_append, not_or] at hj
    rw [h'.2 j hj.2, h.2 j hj.1]⟩
def tG1 (K : PySem.W.Frag) (ca : Str → Addr) (T : Pt) : TG := fun v σ H Q => ∃ m ρ s d, Rel K ca m H ρ σ s ∧ RepD K H m d v ∧ ∃ ρ', T.run d ρ = some ρ' ∧ ∀ σ', Besides T.sl σ σ' → Rel K ca m H ρ' σ' s → Q σ' H
def tGs1 (K : PySem.W.Frag) (ca : Str → Addr) (T : Pts) : TGs := fun vs σ H Q => ∃ m ρ s ds, Rel K ca m H ρ σ s ∧ RepDs K H m ds vs ∧ ∃ ρ', T.run ds ρ = some ρ' ∧ ∀ σ', Besides T.sl σ σ' → Rel K ca m H ρ' σ' s → Q σ' H
def EvGt (g : G) (e : Expr) (T : Pt) : Prop := PG g.X e (tG1 g.X.K g.ca T)
def EvGts (g : G) (es : List Expr) (T : Pts) : Prop := PGs g.X es (tGs1 g.X.K g.ca T)
theorem et_nm (i : Nat) {x : Str} (hN : g.X.N.Nodup) (hi : g.X.N[i]? = some x := by rfl) (hx : Loc g.X.env.scope x := by first | exact Or.inl rfl | exact Or.inr rfl) (hf : g.X.fn x = true ∨ g.X.env.scope.names.lookup x = some .local := by first | exact .inl rfl | exact .inr rfl) : EvGt g (.Name x pos) (.nm i) :=
  PG.imp (pg_name hN hi hx hf) fun v σ H Q h => by
    obtain ⟨m, ρ, s, d, rel, rd, ρ', e, q⟩ := h
    cases e
    exact q _ ⟨by simp, fun j hj => by rw [List.getElem?_set_ne (by intro z; subst z; exact hj (List.mem_singleton.mpr rfl))]⟩ ⟨rel.env.set i rd, rel.sto⟩
theorem ets_nil : EvGts g [] .nil := PGs.imp pgs_nil fun v σ H Q h => by
  obtain ⟨m, ρ, s, ds, rel, rd, ρ', e, q⟩ := h
  cases ds with
  | nil => cases e; cases rd; exact ⟨rfl, q _ Besides.refl rel⟩
  | cons d ds => cases e
theorem ets_cons {T : Pt} {U : Pts} (h1 : EvGt g e T) (h2 : EvGts g es U) (hs : (assignEach (e :: es) g.X.env).map (·.2) = assign e g.X.env :: (assignEach es g.X.env).map (·.2) := by rfl) : EvGts g (e :: es) (.cons T U) :=
  PGs.imp (pgs_cons h1 h2 hs) fun vs σ H Q h => by
    obtain ⟨m, ρ, s, ds, rel, rd, ρ', e, q⟩ := h
    cases ds with
    | nil => cases e
    | cons d ds =>
      obtain ⟨v, r, e2, h3, h4⟩ := rd
      obtain ⟨ρ1, e3, e4⟩ := Option.bind_eq_some_iff.mp e
      exact ⟨v, r, e2, m, ρ, s, d, rel, h3, ρ1, e3, fun σ1 bs1 rel1 => ⟨m, ρ1, s, ds, rel1, h4, ρ', e4, fun σ2 bs2 rel2 => q σ2 (bs1.trans bs2) rel2⟩⟩
theorem et_tup {U : Pts} {k : Nat} (h : EvGts g es U) (hc : g.X.calm = true := by rfl) (hn : (assignEach es g.X.env).length = es.length := by rfl) (hU : ∀ ds ρ ρ', U.run ds ρ = some ρ' → ds.length = es.length := by intro ds ρ ρ' h; exact Mo.lenOk h rfl) (hst : (assignEach es g.X.env).findIdx? (·.1) = none := by rfl) : EvGt g (.Tuple es k pos) (.tu U) :=
  PG.imp (pg_tup hc h hn hst) fun v σ H Q h => by
    obtain ⟨m, ρ, s, d, rel, rd, ρ', e, q⟩ := h
    unfold Pt.run at e
    cases ev : viT d with
    | none => rw [ev] at e; cases e
    | some ds =>
      rw [ev] at e
      obtain ⟨a, vs, rfl, qa, ra⟩ := viT_ok rd ev
      exact ⟨a, vs, rfl, qa, by rw [← ra.len]; exact hU ds ρ ρ' e, m, ρ, s, ds, rel, ra, ρ', e, q⟩
end
def Pts.len : Pts → Nat
  | .nil => 0
  | .cons _ ts => ts.len + 1
theorem Pts.run_len : ∀ {U : Pts} {ds : List D} {ρ ρ' : Env}, U.run ds ρ = some ρ' → ds.length = U.len
  | .nil, [], _, _, _ => rfl
  | .nil, _ :: _, _, _, h => by cases h
  | .cons _ _, [], _, _, h => by cases h
  | .cons t ts, d :: ds, ρ, ρ', h => by
    obtain ⟨ρ1, e3, e4⟩ := Option.bind_eq_some_iff.mp h
    show ds.length + 1 = ts.len + 1
    rw [Pts.run_len e4]
theorem lenOk {U : Pts} {ds : List D} {ρ ρ' : Env} {n : Nat} (h : U.run ds ρ = some ρ') (e : U.len = n) : ds.length = n := e ▸ Pts.run_len h
end Mo

set_option Elab.async false
set_option linter.all false
set_option maxRecDepth 100000
set_option maxHeartbeats 4000000
namespace Mo
open PySem PySem.Spec PyProof.Rows L2
section
variable {g : G} {a b c e elt tg : Expr} {A B C_ : Ex} {T : Te} {pos pos' : Pos} {es : List Expr} {As : Ar} {st : Stmt} {rest body : List Stmt} {B1 B2 : Bl}

@[simp] def bAsgP (A : Ex) (T : Pt) (ρ : Env) (s : S) : Fl := (A ρ s).fl ρ fun d s1 => match T.run d ρ with
  | some ρ' => .nx ρ' s1
  | none => .no
theorem es_asgP {T : Pt} {tg : Expr} (ha : EvE g e A) (hg : EvGt g tg T) (hs : swapsWithSole [tg] e pos.line g.X.env = pure false := by rfl) (hw : swappedStores [tg] e g.X.env = pure none := by rfl)
    (h1 : (assignEach [tg] g.X.env).map (·.2) = [assign tg g.X.env] := by rfl) : EvS g (.Assign [tg] e pos) (bAsgP A T) :=
  PS.imp (ps_asg ha hg hs hw h1) fun D σ H h => by
    obtain ⟨m, ρ, s, rel, h⟩ := h
    refine ⟨m, ρ, s, rel, (PO_.fl h).mono fun d s1 m1 H1 ⟨r1, h1⟩ v rv => ?_⟩
    cases et : T.run d ρ with
    | none => rw [et] at h1; exact h1.elim
    | some ρ' =>
      rw [et] at h1
      exact ⟨m1, ρ, s1, d, r1, rv, ρ', et, fun σ' _ r' => h1 m1 H1 σ' (Ext.refl _ _) r'⟩

/-! what is walked -/
structure Wk where
  ds : List D
  ok : S → Bool
abbrev Sr := Env → S → Out Wk
/-- what a walk yields, while it stands -/
def JRep (K : PySem.W.Frag) (ca : Str → Addr) (m : List Addr) (H : Hp) (J : It) (k : Wk) : Prop := ∀ m' H' s', Ext m H m' H' → StRep K ca m' H' s' → k.ok s' = true → ∀ i, (k.ds.length ≤ i → J.stop i H') ∧
  ∀ d, k.ds[i]? = some d → J.go i H' ∧ ∀ x H2, J.yld i H' x H2 → Ext m' H' m' H2 ∧ StRep K ca m' H2 s' ∧ RepD K H2 m' d x
def tI (K : PySem.W.Frag) (ca : Str → Addr) (W : WX) (A : Sr) : TI := fun σ H R => ∃ m ρ s, Rel K ca m H ρ σ s ∧ PO_ K ca W m H ρ σ (fun k _ m' H' => ∀ J, JRep K ca m' H' J k → R J H') (A ρ s)
def EvI (g : G) (tg e : Expr) (A : Sr) : Prop := PI g.X tg e (tI g.X.K g.ca g.W A)
theorem PI.imp {X : Cx} {tg e : Expr} {t t' : TI} (h : PI X tg e t) (i : ∀ σ H R, t' σ H R → t σ H R) : PI X tg e t' := ⟨fun pins s σ H R I q => h.run pins s σ H R I (i σ H R q)⟩
theorem PI.or {X : Cx} {tg e : Expr} {t t' : TI} (h : PI X tg e t) (h' : PI X tg e t') : PI X tg e (fun σ H R => t σ H R ∨ t' σ H R) := ⟨fun pins s σ H R I q => q.elim (h.run pins s σ H R I) (h'.run pins s σ H R I)⟩
/-- a tuple or a list; a cell must stay as it is while it is walked -/
@[simp] def wkOf (s : S) (d : D) : Option Wk := match viT d with
  | some ds => some ⟨ds, fun _ => true⟩
  | none => match d with
    | .lst ds => some ⟨ds, fun _ => true⟩
    | .ro ds => some ⟨ds, fun _ => true⟩
    | .loc n => match s[n]? with
      | some (.lst ds) => some ⟨ds, fun s' => decide (s'[n]? = some (.lst ds))⟩
      | _ => none
    | _ => none
@[simp] def sAny (A : Ex) (ρ : Env) (s : S) : Out Wk := (A ρ s).bind fun d s1 => match wkOf s1 d with
  | some k => .ok k s1
  | none => .no
theorem jrep_tup {K : PySem.W.Frag} {ca : Str → Addr} {m : List Addr} {H : Hp} {a : Addr} {vs : List V} {ds : List D} {ok : S → Bool} (nt : NoTup m H) (q : SqT K H a vs) (r : RepDs K H m ds vs) : JRep K ca m H (Itt K a) ⟨ds, ok⟩ := by
  intro m' H' s' x st hk i
  have q' := x.sqt nt q
  have r' := r.ext x.toExtW nt
  refine ⟨fun hi => ⟨vs, q', by rw [← r.len]; exact hi⟩, fun d e => ?_⟩
  obtain ⟨v, ev, rv⟩ := r'.get e
  refine ⟨⟨vs, v, q', ev⟩, fun x2 H2 y => ?_⟩
  obtain ⟨rfl, y⟩ := y
  have := y vs q'
  rw [ev] at this
  cases this
  exact ⟨Ext.refl _ _, st, rv⟩
theorem jrep_lst {K : PySem.W.Frag} {ca : Str → Addr} {m : List Addr} {H : Hp} {a : Addr} {ds : List D} {ok : S → Bool} (nt : NoTup m H)
    (q : ∀ m' H' s', Ext m H m' H' → StRep K ca m' H' s' → ok s' = true → ∃ vs, SqL K H' a vs ∧ RepDs K H' m' ds vs) : JRep K ca m H (Itl K a) ⟨ds, ok⟩ := by
  intro m' H' s' x st hk i
  obtain ⟨vs, q', r'⟩ := q m' H' s' x st hk
  refine ⟨fun hi => ⟨vs, q', by rw [← r'.len]; exact hi⟩, fun d e => ?_⟩
  obtain ⟨v, ev, rv⟩ := r'.get e
  refine ⟨⟨vs, v, q', ev⟩, fun x2 H2 y => ?_⟩
  obtain ⟨rfl, y⟩ := y
  have := y vs q'
  rw [ev] at this
  cases this
  exact ⟨Ext.refl _ _, st, rv⟩
/-- a list by its walk: how its items stand at each turn -/
theorem wkOf_lst {K : PySem.W.Frag} {ca : Str → Addr} {m : List Addr} {H : Hp} {s : S} {d : D} {v : V} {k : Wk} (st : StRep K ca m H s) (r : RepD K H m d v) (hT : viT d = none) (e : wkOf s d = some k) :
    ∃ a vs, v = .ref a ∧ SqL K H a vs ∧ ∀ m' H' s', Ext m H m' H' → StRep K ca m' H' s' → k.ok s' = true → ∃ vs, SqL K H' a vs ∧ RepDs K H' m' k.ds vs := by
  unfold wkOf at e
  rw [hT] at e
  cases d with
  | lst ds =>
    cases e
    obtain ⟨a, vs, ev, q, rr⟩ := r
    refine ⟨a, vs, ev, SqL.of q.1, fun m' H' s' x st' _ => ?_⟩
    exact ⟨vs, SqL.of (x.lst a vs q.1 q.2), rr.ext x st.nt⟩
  | ro ds =>
    cases e
    obtain ⟨a, vs, ev, q, rr⟩ := r
    refine ⟨a, vs, ev, q.sql, fun m' H' s' x st' _ => ⟨vs, ?_, rr.ext x st.nt⟩⟩
    rcases q with ⟨q, n⟩ | q
    · exact .inl (x.keep a _ rfl q n).1
    · exact .inr q
  | loc n =>
    simp only at e
    cases es : s[n]? with
    | none => rw [es] at e; cases e
    | some c =>
      rw [es] at e
      cases c with
      | lst ds =>
        cases e
        obtain ⟨a, ea, ev⟩ := r
        obtain ⟨vs, eh, rr⟩ := st.at_ n _ a es ea
        refine ⟨a, vs, ev, SqL.of eh, fun m' H' s' x st' hk => ?_⟩
        have es' := of_decide_eq_true hk
        have ea' : m'[n]? = some a := by
          obtain ⟨t, rfl⟩ := x.pre
          rw [List.getElem?_append_left (List.getElem?_eq_some_iff.mp ea).1]; exact ea
        obtain ⟨vs', eh', rr'⟩ := st'.at_ n _ a es' ea'
        exact ⟨vs', SqL.of eh', rr'⟩
      | _ => cases e
  | _ => cases e
theorem ei_any (ha : EvE g a A) : EvI g tg a (sAny A) :=
  PI.imp (PI.or (pi_tup ha) (pi_list ha)) fun σ H R h => by
    obtain ⟨m, ρ, s, rel, h⟩ := h
    cases eA : A ρ s with
    | no => unfold sAny at h; rw [eA] at h; exact h.elim
    | ex y s1 =>
      refine .inl ⟨m, ρ, s, rel, ?_⟩
      unfold sAny at h
      rw [eA] at h ⊢
      exact h
    | ok d s1 =>
      unfold sAny at h
      rw [eA] at h
      cases ek : wkOf s1 d with
      | none => simp only [Out.bind, ek] at h; exact h.elim
      | some k =>
        simp only [Out.bind, ek] at h
        cases eT : viT d with
        | some ds =>
          refine .inl ⟨m, ρ, s, rel, ?_⟩
          rw [eA]
          intro m1 H1 x1 r1 v rv
          obtain ⟨a, vs, rfl, q, rr⟩ := viT_ok rv eT
          refine ⟨a, rfl, ⟨vs, q⟩, h m1 H1 x1 r1 _ ?_⟩
          have : k = ⟨ds, fun _ => true⟩ := by
            simp only [wkOf, eT] at ek
            exact (Option.some.inj ek).symm
          subst this
          exact jrep_tup r1.sto.nt q rr
        | none =>
          refine .inr ⟨m, ρ, s, rel, ?_⟩
          rw [eA]
          intro m1 H1 x1 r1 v rv
          obtain ⟨a, vs, rfl, q, hw⟩ := wkOf_lst r1.sto rv eT ek
          exact ⟨a, rfl, ⟨vs, q⟩, h m1 H1 x1 r1 _ (jrep_lst r1.sto.nt hw)⟩
/-- range -/
def rgD (lo c : Int) (n : Nat) : List D := (List.range n).map fun (i : Nat) => D.p (.int (lo + (i : Int) * c))
theorem rgD_get {lo c : Int} {n i : Nat} {d : D} (h : (rgD lo c n)[i]? = some d) : i < n ∧ d = .p (.int (lo + (i : Int) * c)) := by
  unfold rgD at h
  rw [List.getElem?_map] at h
  cases e : (List.range n)[i]? with
  | none => rw [e] at h; cases h
  | some j =>
    rw [e] at h
    cases h
    obtain ⟨hi, hj⟩ := List.getElem?_eq_some_iff.mp e
    simp at hi hj
    subst hj
    exact ⟨hi, rfl⟩
theorem rgD_len {lo c : Int} {n : Nat} : (rgD lo c n).length = n := by simp [rgD]
@[simp] def sRng1 (As : Ar) (ρ : Env) (s : S) : Out Wk := (As ρ s).bind fun ds s1 => match ds with
  | [.p (.int j)] => if -(2 ^ 62) ≤ j ∧ j < 2 ^ 62 then .ok ⟨rgD 0 1 j.toNat, fun _ => true⟩ s1 else .no
  | _ => .no
theorem ei_rng1 {p : Pos} (hm : g.X.mg "range" = none) (ha : EvA g [e] As) (hg : Gl g.X "range" := by rfl) (hs : starEach [e] g.X.env = [(false, eval e g.X.env)] := by rfl) : EvI g tg (.Call (.Name "range" p) [e] [] pos) (sRng1 As) :=
  PI.imp (pi_range1 hg hm ha hs) fun σ H R h => by
    obtain ⟨m, ρ, s, rel, h⟩ := h
    refine ⟨m, ρ, s, rel, (PO_.bind h).mono fun ds s1 m1 H1 ⟨r1, h1⟩ vs rv => ?_⟩
    split at h1
    · split at h1
      · rename_i hj
        obtain ⟨v, rfl, rv1⟩ := rv.x1
        cases rv1
        refine ⟨_, rfl, hj.1, hj.2, h1 m1 H1 (Ext.refl _ _) r1 _ ?_⟩
        intro m' H' s' x st hk i
        refine ⟨fun hi => (by rw [rgD_len] at hi; exact hi), fun d e => ?_⟩
        obtain ⟨hi, rfl⟩ := rgD_get e
        refine ⟨hi, fun x2 H2 y => ?_⟩
        obtain ⟨rfl, rfl⟩ := y
        refine ⟨Ext.refl _ _, st, ?_⟩
        show _ = _
        rw [Int.mul_one]
      · exact h1.elim
    · exact h1.elim
@[simp] def sRng2 (As : Ar) (ρ : Env) (s : S) : Out Wk := (As ρ s).bind fun ds s1 => match ds with
  | [.p (.int i), .p (.int j)] => if -(2 ^ 62) ≤ i ∧ i < 2 ^ 62 ∧ -(2 ^ 62) ≤ j ∧ j < 2 ^ 62 then .ok ⟨rgD i 1 (j - i).toNat, fun _ => true⟩ s1 else .no
  | _ => .no
theorem ei_rng2 {e2 : Expr} {p : Pos} (hm : g.X.mg "range" = none) (ha : EvA g [e, e2] As) (hg : Gl g.X "range" := by rfl) (hs : starEach [e, e2] g.X.env = [(false, eval e g.X.env), (false, eval e2 g.X.env)] := by rfl) (hs2 : starEach [e2] g.X.env = [(false, eval e2 g.X.env)] := by rfl) : EvI g tg (.Call (.Name "range" p) [e, e2] [] pos) (sRng2 As) :=
  PI.imp (pi_range2 hg hm ha hs hs2) fun σ H R h => by
    obtain ⟨m, ρ, s, rel, h⟩ := h
    refine ⟨m, ρ, s, rel, (PO_.bind h).mono fun ds s1 m1 H1 ⟨r1, h1⟩ vs rv => ?_⟩
    split at h1
    · split at h1
      · rename_i hj
        obtain ⟨v, w, rfl, rv1, rv2⟩ := rv.x2
        cases rv1; cases rv2
        refine ⟨_, _, rfl, hj, h1 m1 H1 (Ext.refl _ _) r1 _ ?_⟩
        intro m' H' s' x st hk i
        refine ⟨fun hi => (by rw [rgD_len] at hi; exact hi), fun d e => ?_⟩
        obtain ⟨hi, rfl⟩ := rgD_get e
        refine ⟨hi, fun x2 H2 y => ?_⟩
        obtain ⟨rfl, rfl⟩ := y
        refine ⟨Ext.refl _ _, st, ?_⟩
        show _ = _
        rw [Int.mul_one]
      · exact h1.elim
    · exact h1.elim
@[simp] def sRng3 (As : Ar) (ρ : Env) (s : S) : Out Wk := (As ρ s).bind fun ds s1 => match ds with
  | [.p (.int i), .p (.int j), .p (.int c)] => if c = -1 ∧ -(2 ^ 62) ≤ i ∧ i < 2 ^ 62 ∧ -(2 ^ 62) ≤ j ∧ j < 2 ^ 62 then .ok ⟨rgD i (-1) (i - j).toNat, fun _ => true⟩ s1 else .no
  | _ => .no
theorem ei_rng3 {e2 e3 : Expr} {p : Pos} (hm : g.X.mg "range" = none) (ha : EvA g [e, e2, e3] As) (hg : Gl g.X "range" := by rfl)
    (hs : starEach [e, e2, e3] g.X.env = (false, eval e g.X.env) :: starEach [e2, e3] g.X.env := by rfl) (hpl : (backTo pos (starEach [e2, e3] g.X.env)).any (·.1) = false := by rfl) : EvI g tg (.Call (.Name "range" p) [e, e2, e3] [] pos) (sRng3 As) :=
  PI.imp (pi_range3 hg hm ha hs hpl) fun σ H R h => by
    obtain ⟨m, ρ, s, rel, h⟩ := h
    refine ⟨m, ρ, s, rel, (PO_.bind h).mono fun ds s1 m1 H1 ⟨r1, h1⟩ vs rv => ?_⟩
    split at h1
    · split at h1
      · rename_i hj
        obtain ⟨v, r, rfl, rv1, rr⟩ := rv
        obtain ⟨w, u, rfl, rv2, rv3⟩ := rr.x2
        cases rv1; cases rv2; cases rv3
        obtain ⟨rfl, b1, b2, b3, b4⟩ := hj
        refine ⟨_, _, _, _, rfl, RgC.neg b1 b2 b3 b4, h1 m1 H1 (Ext.refl _ _) r1 _ ?_⟩
        intro m' H' s' x st hk i
        refine ⟨fun hi => (by rw [rgD_len] at hi; exact hi), fun d e => ?_⟩
        obtain ⟨hi, rfl⟩ := rgD_get e
        refine ⟨hi, fun x2 H2 y => ?_⟩
        obtain ⟨rfl, rfl⟩ := y
        exact ⟨Ext.refl _ _, st, rfl⟩
      · exact h1.elim
    · exact h1.elim

/-! for -/
/-- turn by turn -/
def forL (ok : S → Bool) (T : Pt) (B : Bl) : List D → Env → S → Fl
  | [], ρ, s => if ok s = true then .nx ρ s else .no
  | d :: ds, ρ, s => if ok s = true then match T.run d ρ with
    | none => .no
    | some ρ1 => match B ρ1 s with
      | .nx ρ2 s2 => forL ok T B ds ρ2 s2
      | .ct ρ2 s2 => forL ok T B ds ρ2 s2
      | .bk ρ2 s2 => .nx ρ2 s2
      | o => o
    else .no
@[simp] def bFor (A : Sr) (T : Pt) (B : Bl) (ρ : Env) (s : S) : Fl := (A ρ s).fl ρ fun k s1 => forL k.ok T B k.ds ρ s1
theorem drop_cons {α : Type} {l : List α} {i : Nat} {d : α} {ds : List α} (h : l.drop i = d :: ds) : l[i]? = some d ∧ l.drop (i + 1) = ds := by
  refine ⟨?_, ?_⟩
  · have := congrArg (·[0]?) h
    simpa using this
  · rw [← List.tail_drop, h]
    rfl
theorem drop_nil {α : Type} {l : List α} {i : Nat} (h : l.drop i = []) : l.length ≤ i := by simpa using h
theorem es_for {Sg : Sr} {T : Pt} {B : Bl} {iter : Expr} (hp : PassesOwn (model g.X.prog g.X.w) g.X.A g.X.env g.X.xe) (hi : EvI g tg iter Sg) (hg : EvGt g tg T) (hb : EvB g body B) (hc : g.X.calm = true := by rfl)
    (hs : ∀ x, foldedSetIterable iter g.X.env x = pure x := by intro _; rfl) : EvS g (.For tg iter body [] pos) (bFor Sg T B) :=
  PS.imp (ps_for hp hc hi hg hb hs) fun D_ σ H h => by
    obtain ⟨m, ρ, s, rel, h⟩ := h
    refine ⟨m, ρ, s, rel, (PO_.fl h).mono fun k s1 m1 H1 ⟨r1, h1⟩ J hJ => ?_⟩
    refine ⟨fun i n σ' H' => n = k.ds.length - i ∧ i ≤ k.ds.length ∧ ∃ m' ρ' s', Ext m1 H1 m' H' ∧ Rel g.X.K g.ca m' H' ρ' σ' s' ∧ PF_ g.X.K g.ca g.W m' H' D_ (forL k.ok T B (k.ds.drop i) ρ' s'), ⟨k.ds.length, by simp, Nat.zero_le _, m1, ρ, s1, Ext.refl _ _, r1, by simpa using h1⟩, ?_⟩
    rintro i n σ2 H2 ⟨rfl, hle, m2, ρ2, s2, x2, rel2, hF⟩
    cases eds : k.ds.drop i with
    | nil =>
      rw [eds] at hF
      unfold forL at hF
      split at hF
      · rename_i hok
        exact .inl ⟨((hJ m2 H2 s2 x2 rel2.sto hok) i).1 (drop_nil eds), hF m2 H2 σ2 (Ext.refl _ _) rel2⟩
      · exact hF.elim
    | cons d ds =>
      rw [eds] at hF
      obtain ⟨e1, e2⟩ := drop_cons eds
      unfold forL at hF
      split at hF
      · rename_i hok
        obtain ⟨hgo, hy⟩ := ((hJ m2 H2 s2 x2 rel2.sto hok) i).2 d e1
        have hlt : i < k.ds.length := (List.getElem?_eq_some_iff.mp e1).1
        refine .inr ⟨hgo, fun σ' H' => ∃ m' ρ' s', Ext m1 H1 m' H' ∧ Rel g.X.K g.ca m' H' ρ' σ' s' ∧ PF_ g.X.K g.ca g.W m' H' D_ (forL k.ok T B (k.ds.drop (i + 1)) ρ' s'), fun σ' H' p => ⟨_, by omega, rfl, by omega, p⟩, fun x H3 y => ?_⟩
        obtain ⟨x3, st3, rd⟩ := hy x H3 y
        cases eT : T.run d ρ2 with
        | none => rw [eT] at hF; exact hF.elim
        | some ρ3 =>
          rw [eT] at hF
          have rel3 := rel2.ext x3 st3
          refine ⟨m2, ρ2, s2, d, rel3, rd, ρ3, eT, fun σ4 _ rel4 => ⟨m2, ρ3, s2, rel4, ?_⟩⟩
          replace hF := PF_.on x3 hF
          dsimp only at hF
          have x4 := x2.trans x3
          cases eB : B ρ3 s2 with
          | nx ρ5 s5 =>
            rw [eB] at hF
            exact fun m' H' σ' x r => ⟨m', ρ5, s5, x4.trans x, r, by rw [e2]; exact PF_.on x hF⟩
          | ct ρ5 s5 =>
            rw [eB] at hF
            exact fun m' H' σ' x r => ⟨m', ρ5, s5, x4.trans x, r, by rw [e2]; exact PF_.on x hF⟩
          | bk ρ5 s5 =>
            rw [eB] at hF
            exact hF
          | rt d' s5 => rw [eB] at hF; exact hF
          | ex y' ρ5 s5 => rw [eB] at hF; exact hF
          | no => rw [eB] at hF; exact hF.elim
      · exact hF.elim

/-! while -/
def whileL (T : Te) (B : Bl) : Nat → Env → S → Fl
  | 0, _, _ => .no
  | n + 1, ρ, s => (T ρ s).fl ρ fun b s1 => if b = true then match B ρ s1 with
    | .nx ρ2 s2 => whileL T B n ρ2 s2
    | .ct ρ2 s2 => whileL T B n ρ2 s2
    | .bk ρ2 s2 => .nx ρ2 s2
    | o => o
    else .nx ρ s1
/-- n: how many turns at most -/
@[simp] def bWhile (n : Env → S → Nat) (T : Te) (B : Bl) (ρ : Env) (s : S) : Fl := whileL T B (n ρ s) ρ s
theorem es_while {B : Bl} (n : Env → S → Nat) (hp : PassesOwn (model g.X.prog g.X.w) g.X.A g.X.env g.X.xe) (ht : EvT g c T) (hb : EvB g body B) : EvS g (.While c body [] pos) (bWhile n T B) :=
  PS.imp (ps_while hp ht hb) fun D_ σ H h => by
    obtain ⟨m, ρ, s, rel, h⟩ := h
    refine ⟨fun k σ' H' => ∃ m' ρ' s', Rel g.X.K g.ca m' H' ρ' σ' s' ∧ PF_ g.X.K g.ca g.W m' H' D_ (whileL T B k ρ' s'), ⟨_, m, ρ, s, rel, h⟩, ?_⟩
    rintro k σ1 H1 ⟨m1, ρ1, s1, rel1, h1⟩
    cases k with
    | zero => exact h1.elim
    | succ k =>
      unfold whileL at h1
      refine ⟨m1, ρ1, s1, rel1, (PO_.fl h1).mono fun b s2 m2 H2 ⟨r2, h2⟩ => ?_⟩
      cases b with
      | false => exact h2 m2 H2 σ1 (Ext.refl _ _) r2
      | true =>
        rw [if_pos rfl] at h2 ⊢
        refine ⟨fun σ' H' => ∃ m' ρ' s', Rel g.X.K g.ca m' H' ρ' σ' s' ∧ PF_ g.X.K g.ca g.W m' H' D_ (whileL T B k ρ' s'), fun σ' H' p => ⟨k, Nat.lt_succ_self _, p⟩, m2, ρ1, s2, r2, ?_⟩
        cases eB : B ρ1 s2 with
        | nx ρ5 s5 =>
          rw [eB] at h2
          exact fun m' H' σ' x r => ⟨m', ρ5, s5, r, PF_.on x h2⟩
        | ct ρ5 s5 =>
          rw [eB] at h2
          exact fun m' H' σ' x r => ⟨m', ρ5, s5, r, PF_.on x h2⟩
        | bk ρ5 s5 => rw [eB] at h2; exact h2
        | rt d' s5 => rw [eB] at h2; exact h2
        | ex y' ρ5 s5 => rw [eB] at h2; exact h2
        | no => rw [eB] at h2; exact h2.elim
end
end Mo

set_option Elab.async false
set_option linter.all false
set_option maxRecDepth 100000
set_option maxHeartbeats 4000000
namespace Mo
open PySem PySem.Spec PyProof.Rows L2
/-! comprehensions -/
def Out.bindN {α β : Type} (o : Out α) (f : α → S → Out β) : Out β := match o with
  | .ok a s => f a s
  | _ => .no
@[simp] theorem Out.bindN_ok {α β : Type} (a : α) (s : S) (f : α → S → Out β) : (Out.ok a s).bindN f = f a s := rfl
@[simp] theorem Out.bindN_ex {α β : Type} (x : Xc) (s : S) (f : α → S → Out β) : (Out.ex x s).bindN f = .no := rfl
@[simp] theorem Out.bindN_no {α β : Type} (f : α → S → Out β) : (Out.no : Out α).bindN f = .no := rfl
def wipeE (ρ : Env) : List Nat → Env
  | [] => ρ
  | v :: vs => (wipeE ρ vs).set v none
/-- turn by turn; the new list is the cell k -/
def lcD (ok : S → Bool) (T : Pt) (U : Te) (A : Ex) (k : Nat) : List D → Env → S → Out Unit
  | [], _, s => if ok s = true then .ok () s else .no
  | d :: ds, ρ, s => if ok s = true then match T.run d ρ with
    | none => .no
    | some ρ1 => (U ρ1 s).bindN fun b s1 => if b = true then (A ρ1 s1).bindN fun y s2 => match s2[k]? with
        | some (.lst acc) => if acc.length < sizeLine then lcD ok T U A k ds ρ (s2.set k (.lst (acc ++ [y]))) else .no
        | _ => .no
      else lcD ok T U A k ds ρ s1
    else .no
@[simp] def tTrue (_ : Env) (s : S) : Out Bool := .ok true s
def eLc (Sg : Sr) (own : List Nat) (T : Pt) (U : Te) (A : Ex) : Ex := fun ρ s => (Sg ρ s).bind fun k s1 => (lcD k.ok T U A s1.length k.ds (wipeE ρ own) (s1 ++ [.lst []])).bindN fun _ s2 => .ok (fin s1 (.loc s1.length) s2).1 (fin s1 (.loc s1.length) s2).2
/-- the same, the list a cell that may be changed -/
def eLcC (Sg : Sr) (own : List Nat) (T : Pt) (U : Te) (A : Ex) : Ex := fun ρ s => (Sg ρ s).bind fun k s1 => (lcD k.ok T U A s1.length k.ds (wipeE ρ own) (s1 ++ [.lst []])).bindN fun _ s2 => .ok (.loc s1.length) s2
theorem wipe_get {σ : L2.St} {j : Nat} : ∀ {vs : List Nat}, (wipe σ vs)[j]? = if j ∈ vs then (if j < σ.length then some none else none) else σ[j]?
  | [] => by simp [wipe]
  | v :: vs => by
    unfold wipe
    by_cases h : v = j
    · subst h
      by_cases hl : v < σ.length
      · rw [List.getElem?_set_self (by rw [wipe_length]; exact hl)]
        simp [hl]
      · rw [List.getElem?_eq_none (by rw [List.length_set, wipe_length]; omega)]
        simp [hl]
    · rw [List.getElem?_set_ne h, wipe_get (vs := vs)]
      have : j ∈ v :: vs ↔ j ∈ vs := by simp [Ne.symm h]
      simp only [this]
theorem wipe_same {σ σ2 : L2.St} {is vs : List Nat} (h : Besides is (wipe σ vs) σ2) (hs : ∀ i ∈ is, i ∈ vs) : wipe σ2 vs = wipe σ vs := by
  apply List.ext_getElem?
  intro j
  rw [wipe_get, wipe_get]
  have hl : σ2.length = σ.length := by rw [h.1, wipe_length]
  by_cases hj : j ∈ vs
  · simp [hj, hl]
  · simp only [hj, if_false]
    rw [h.2 j fun z => hj (hs j z), wipe_get]
    simp [hj]
theorem wipeE_length (ρ : Env) : ∀ vs : List Nat, (wipeE ρ vs).length = ρ.length
  | [] => rfl
  | v :: vs => by unfold wipeE; rw [List.length_set, wipeE_length ρ vs]
theorem EnvRep.wipe {K : PySem.W.Frag} {m : List Addr} {H : Hp} {ρ : Env} {σ : L2.St} (h : EnvRep K m H ρ σ) : ∀ vs : List Nat, EnvRep K m H (wipeE ρ vs) (L2.wipe σ vs)
  | [] => h
  | v :: vs => by
    have ih := EnvRep.wipe h vs
    refine ⟨by unfold wipeE L2.wipe; simpa using ih.1, fun i d e => ?_⟩
    unfold wipeE at e
    unfold L2.wipe
    by_cases hv : v = i
    · subst hv
      by_cases hl : v < (wipeE ρ vs).length
      · rw [List.getElem?_set_self hl] at e; cases e
      · rw [List.getElem?_eq_none (by simpa using hl)] at e; cases e
    · rw [List.getElem?_set_ne hv] at e ⊢
      exact ih.2 i d e
section
variable {g : G} {a b c e elt tg iter : Expr} {A B C_ : Ex} {U : Te} {pos pos' : Pos} {es ifs : List Expr} {As : Ar} {Sg : Sr} {T : Pt} {own : List (Str × Nat)} {scope : Scope}
abbrev G.blk (g : G) (s : Shared) (H : Hp) (scope : Scope) (cl : List (Str × Addr)) (C : Addr) (fp : List Addr) : G := ⟨g.X.blk s H scope (compEnvC scope cl C g.X.env) fp, g.ca, fun _ _ _ _ => False, g.k⟩
theorem G.Ok.blk {g : G} (o : g.Ok) {s : Shared} {H : Hp} {scope : Scope} {cl : List (Str × Addr)} {C : Addr} {fp : List Addr} : (g.blk s H scope cl C fp).Ok := ⟨takes0, o.hr⟩
def EvTs (g : G) (es : List Expr) (U : Te) : Prop := PTs g.X es (tT g.X.K g.ca g.W U)
theorem PTs.imp {X : Cx} {e : List Expr} {t t' : TT} (h : PTs X e t) (i : ∀ σ H Q, t' σ H Q → t σ H Q) : PTs X e t' := ⟨fun pins s σ H Q I q => h.run pins s σ H Q I (i σ H Q q)⟩
theorem ets_no : EvTs g [] tTrue := PTs.imp pts_nil fun σ H Q h => by
  obtain ⟨m, ρ, s, rel, h⟩ := h
  exact h m H (Ext.refl _ _) rel
theorem ets_one (h : EvT g c U) : EvTs g [c] U := pts_one h
/-- the loop of a comprehension, over the layer -/
theorem lc_loop {σ : L2.St} {H1 : Hp} {m1 : List Addr} {ρ : Env} {s1 : S} {k : Wk} {J : It} {Qd : V → Hp → Prop} (r1 : Rel g.X.K g.ca m1 H1 ρ σ s1) (hJ : JRep g.X.K g.ca m1 H1 J k) (hsub : ∀ i ∈ T.sl, i ∈ own.map (·.2)) 
    (h : match lcD k.ok T U A s1.length k.ds (wipeE ρ (own.map (·.2))) (s1 ++ [.lst []]) with
      | .ok _ s2 => ∀ m' H' D0, Ext m1 H1 m' H' → StRep g.X.K g.ca m' H' s2 → m'[s1.length]? = some D0 → Qd (.ref D0) H'
      | _ => False) :
    ∀ D0, H1 D0 = none → ∃ W : Nat → Nat → Hp → Prop, (∃ m, W 0 m (upd H1 D0 (.lst []))) ∧ ∀ i m H, W i m H → (J.stop i H ∧ Qd (.ref D0) H) ∨ (J.go i H ∧ ∃ Nx : Hp → Prop, (∀ H', Nx H' → ∃ m', m' < m ∧ W (i + 1) m' H') ∧
      ∀ x H', J.yld i H x H' → tG1 g.X.K g.ca T x (L2.wipe σ (own.map (·.2))) H' fun σ2 H2 => L2.wipe σ2 (own.map (·.2)) = L2.wipe σ (own.map (·.2)) ∧ tT g.X.K g.ca (fun _ _ _ _ => False) U σ2 H2 fun b H3 =>
        if b = true then tE g.X.K g.ca (fun _ _ _ _ => False) A σ2 H3 fun y H4 => ∃ acc, H4 D0 = some (.lst acc) ∧ acc.length < sizeLine ∧ Nx (upd H4 D0 (.lst (acc ++ [y]))) else Nx H3) := by
  intro D0 hD0
  generalize hvs : own.map (·.2) = vs at *
  have st2 : StRep g.X.K g.ca (m1 ++ [D0]) (upd H1 D0 (.lst [])) (s1 ++ [.lst []]) := r1.sto.alloc hD0 ⟨[], upd_same, rfl⟩
  have x2 : Ext m1 H1 (m1 ++ [D0]) (upd H1 D0 (.lst [])) := Ext.newM r1.sto hD0
  have at0 : ∀ {m'}, (m1 ++ [D0]) <+: m' → m'[s1.length]? = some D0 := fun {m'} hp => by
    obtain ⟨t, rfl⟩ := hp
    rw [List.append_assoc, ← r1.sto.len, List.getElem?_append_right (Nat.le_refl _)]
    simp
  have env2 := (r1.env.ext x2.toExtW r1.sto.nt).wipe vs
  -- what is left to be done from turn i
  let Lf : S → List D → Prop := fun s' ds => match lcD k.ok T U A s1.length ds (wipeE ρ vs) s' with
      | .ok _ s2 => ∀ m' H' D0, Ext m1 H1 m' H' → StRep g.X.K g.ca m' H' s2 → m'[s1.length]? = some D0 → Qd (.ref D0) H'
      | _ => False
  let St' : Hp → List D → Prop := fun H' ds => ∃ m' s', Ext (m1 ++ [D0]) (upd H1 D0 (.lst [])) m' H' ∧ EnvRep g.X.K m' H' (wipeE ρ vs) (L2.wipe σ vs) ∧ StRep g.X.K g.ca m' H' s' ∧ Lf s' ds
  refine ⟨fun i n H' => n = k.ds.length - i ∧ i ≤ k.ds.length ∧ St' H' (k.ds.drop i), ⟨k.ds.length, by simp, Nat.zero_le _, _, _, Ext.refl _ _, env2, st2, by rw [List.drop_zero]; exact h⟩, ?_⟩
  rintro i n H2 ⟨rfl, hle, m2, s2, xx, env, sto, hF⟩
  have xa := x2.trans xx
  cases eds : k.ds.drop i with
  | nil =>
    rw [eds] at hF
    have hF : (match lcD k.ok T U A s1.length [] (wipeE ρ vs) s2 with
      | .ok _ s2 => ∀ m' H' D0, Ext m1 H1 m' H' → StRep g.X.K g.ca m' H' s2 → m'[s1.length]? = some D0 → Qd (.ref D0) H'
      | _ => False) := hF
    unfold lcD at hF
    split at hF
    · rename_i u s3 e3
      split at e3
      · rename_i hok
        cases e3
        exact .inl ⟨((hJ m2 H2 s2 xa sto hok) i).1 (drop_nil eds), hF m2 H2 D0 xa sto (at0 xx.pre)⟩
      · cases e3
    · exact hF.elim
  | cons d ds =>
    rw [eds] at hF
    obtain ⟨e1, e2⟩ := drop_cons eds
    have hF : (match lcD k.ok T U A s1.length (d :: ds) (wipeE ρ vs) s2 with
      | .ok _ s2 => ∀ m' H' D0, Ext m1 H1 m' H' → StRep g.X.K g.ca m' H' s2 → m'[s1.length]? = some D0 → Qd (.ref D0) H'
      | _ => False) := hF
    unfold lcD at hF
    by_cases hok : k.ok s2 = true
    · rw [if_pos hok] at hF
      obtain ⟨hgo, hy⟩ := ((hJ m2 H2 s2 xa sto hok) i).2 d e1
      have hlt : i < k.ds.length := (List.getElem?_eq_some_iff.mp e1).1
      refine .inr ⟨hgo, fun H' => St' H' (k.ds.drop (i + 1)), fun H' p => ⟨_, by omega, rfl, by omega, p⟩, fun x H3 y => ?_⟩
      obtain ⟨x3, st3, rd⟩ := hy x H3 y
      cases eT : T.run d (wipeE ρ vs) with
      | none => rw [eT] at hF; exact hF.elim
      | some ρ3 =>
        rw [eT] at hF
        dsimp only at hF
        have env3 := env.ext x3.toExtW sto.nt
        refine ⟨m2, wipeE ρ vs, s2, d, ⟨env3, st3⟩, rd, ρ3, eT, fun σ4 bs rel4 => ⟨wipe_same bs hsub, m2, ρ3, s2, rel4, ?_⟩⟩
        cases eU : U ρ3 s2 with
        | no => rw [eU] at hF; exact hF.elim
        | ex y' s4 => rw [eU] at hF; exact hF.elim
        | ok b s4 =>
          rw [eU] at hF
          intro m5 H5 x5 rel5
          have x15 : Ext (m1 ++ [D0]) (upd H1 D0 (.lst [])) m5 H5 := (xx.trans x3).trans x5
          have env5 := env3.ext x5.toExtW st3.nt
          cases b with
          | false =>
            exact iteF ⟨m5, s4, x15, env5, rel5.sto, by rw [e2]; exact hF⟩
          | true =>
            refine iteT ⟨m5, ρ3, s4, rel5, ?_⟩
            simp only [Out.bindN, if_true] at hF
            cases eA : A ρ3 s4 with
            | no => rw [eA] at hF; exact hF.elim
            | ex y' s6 => rw [eA] at hF; exact hF.elim
            | ok yd s6 =>
              rw [eA] at hF
              dsimp only at hF
              intro m7 H7 x7 rel7 yv ryv
              cases ek : s6[s1.length]? with
              | none => rw [ek] at hF; exact hF.elim
              | some cc =>
                rw [ek] at hF
                cases cc with
                | lst acc =>
                  dsimp only at hF
                  by_cases hz : acc.length < sizeLine
                  · rw [if_pos hz] at hF
                    have xl := x15.trans x7
                    have hk7 := at0 xl.pre
                    obtain ⟨accV, eH, rr⟩ := rel7.sto.at_ _ _ _ ek hk7
                    refine ⟨accV, eH, by rw [← rr.len]; exact hz, m7, _, xl.trans (Ext.put (List.mem_of_getElem? hk7) (nf_lst eH)), ?_, rel7.sto.put (c := .lst (acc ++ [yd])) hk7 ⟨_, upd_same, ?_⟩, by rw [e2]; exact hF⟩
                    · exact (env5.ext x7 rel5.sto.nt).ext (Ext.put (List.mem_of_getElem? hk7) (nf_lst eH)).toExtW rel7.sto.nt
                    · exact rel7.sto.repDs (Ext.put (List.mem_of_getElem? hk7) (nf_lst eH)).toExtW (rr.app (RepDs.one ryv))
                  · rw [if_neg hz] at hF; exact hF.elim
                | _ => exact hF.elim
    · rw [if_neg hok] at hF; exact hF.elim
theorem lc_in {Q : VK} {σ : L2.St} {H : Hp} (hsub : ∀ i ∈ T.sl, i ∈ own.map (·.2)) (h : tE g.X.K g.ca g.W (eLc Sg (own.map (·.2)) T U A) σ H Q) :
    tLc (tI g.X.K g.ca g.W Sg) (tG1 g.X.K g.ca T) (tT g.X.K g.ca (fun _ _ _ _ => False) U) (tE g.X.K g.ca (fun _ _ _ _ => False) A) (own.map (·.2)) σ H Q := by
  obtain ⟨m, ρ, s, rel, h⟩ := h
  unfold eLc at h
  refine ⟨m, ρ, s, rel, (PO_.bind h).mono fun k s1 m1 H1 ⟨r1, h1⟩ J hJ => ?_⟩
  refine lc_loop (Qd := Q) r1 hJ hsub ?_
  cases e : lcD k.ok T U A s1.length k.ds (wipeE ρ (own.map (·.2))) (s1 ++ [.lst []]) with
  | no => rw [e] at h1; exact h1
  | ex y s2 => rw [e] at h1; exact h1.elim
  | ok _ s2 =>
    rw [e] at h1
    intro m' H' D0 x st hD
    obtain ⟨m2, xm, sm, rm⟩ := fin_ok (d := .loc s1.length) (v := .ref D0) r1.sto x st ⟨D0, hD, rfl⟩
    exact h1 m2 H' xm (r1.ext xm sm) _ rm
theorem lc_inC {Q : VK} {σ : L2.St} {H : Hp} (hsub : ∀ i ∈ T.sl, i ∈ own.map (·.2)) (h : tE g.X.K g.ca g.W (eLcC Sg (own.map (·.2)) T U A) σ H Q) :
    tLc (tI g.X.K g.ca g.W Sg) (tG1 g.X.K g.ca T) (tT g.X.K g.ca (fun _ _ _ _ => False) U) (tE g.X.K g.ca (fun _ _ _ _ => False) A) (own.map (·.2)) σ H Q := by
  obtain ⟨m, ρ, s, rel, h⟩ := h
  unfold eLcC at h
  refine ⟨m, ρ, s, rel, (PO_.bind h).mono fun k s1 m1 H1 ⟨r1, h1⟩ J hJ => ?_⟩
  refine lc_loop (Qd := Q) r1 hJ hsub ?_
  cases e : lcD k.ok T U A s1.length k.ds (wipeE ρ (own.map (·.2))) (s1 ++ [.lst []]) with
  | no => rw [e] at h1; exact h1
  | ex y s2 => rw [e] at h1; exact h1.elim
  | ok _ s2 =>
    rw [e] at h1
    intro m' H' D0 x st hD
    exact h1 m' H' x (r1.ext x st) _ ⟨D0, hD, rfl⟩
/-- what a comprehension's block asks -/
structure Lc (g : G) (own : List (Str × Nat)) (scope : Scope) (tg : Expr) (T : Pt) (ifs : List Expr) (U : Te) (elt : Expr) (A : Ex) : Prop where
  ok : BlkOk g.X.N g.X.env.scope scope own
  sub : ∀ i ∈ T.sl, i ∈ own.map (·.2)
  hg : ∀ (s : Shared) (H : Hp) (C : Addr) (cl : List (Str × Addr)) (fp : List Addr), EvGt (g.blk s H scope cl C fp) tg T
  ht : ∀ (s : Shared) (H : Hp) (C : Addr) (cl : List (Str × Addr)) (fp : List Addr), EvTs (g.blk s H scope cl C fp) ifs U
  he : ∀ (s : Shared) (H : Hp) (C : Addr) (cl : List (Str × Addr)) (fp : List Addr), EvE (g.blk s H scope cl C fp) elt A
theorem ev_lc (hN : g.X.N.Nodup) (hi : EvI g tg iter Sg) (L : Lc g own scope tg T ifs U elt A) (hc : g.X.calm = true := by rfl) (hs : ∀ x, foldedSetIterable iter g.X.env x = pure x := by intro _; rfl) :
    EvE g (.ListComp elt [⟨tg, iter, ifs, 0⟩] scope pos) (eLc Sg (own.map (·.2)) T U A) :=
  PE.imp (pe_lc (g := tG1 g.X.K g.ca T) (tt := tT g.X.K g.ca (fun _ _ _ _ => False) U) (te := tE g.X.K g.ca (fun _ _ _ _ => False) A) hc hN hi L.ok L.hg L.ht L.he hs) fun σ H Q h => lc_in L.sub h
theorem ev_lcC (hN : g.X.N.Nodup) (hi : EvI g tg iter Sg) (L : Lc g own scope tg T ifs U elt A) (hc : g.X.calm = true := by rfl) (hs : ∀ x, foldedSetIterable iter g.X.env x = pure x := by intro _; rfl) :
    EvE g (.ListComp elt [⟨tg, iter, ifs, 0⟩] scope pos) (eLcC Sg (own.map (·.2)) T U A) :=
  PE.imp (pe_lc (g := tG1 g.X.K g.ca T) (tt := tT g.X.K g.ca (fun _ _ _ _ => False) U) (te := tE g.X.K g.ca (fun _ _ _ _ => False) A) hc hN hi L.ok L.hg L.ht L.he hs) fun σ H Q h => lc_inC L.sub h
end
end Mo

set_option Elab.async false
set_option linter.all false
set_option maxRecDepth 100000
set_option maxHeartbeats 4000000
namespace Mo
open PySem PySem.Spec PyProof.Rows L2
section
variable {g : G} {a b c e elt tg iter : Expr} {A B C_ : Ex} {U : Te} {pos pos' cpos apos : Pos} {es ifs : List Expr} {As : Ar} {Sg : Sr} {T : Pt} {own : List (Str × Nat)} {scope : Scope}
/-- name = [..] -/
theorem es_setLc (i : Nat) {y : Str} {py spos : Pos} (hN : g.X.N.Nodup) (hi : EvI g tg iter Sg) (L : Lc g own scope tg T ifs U elt A) (hc : g.X.calm = true := by rfl) (hy : g.X.N[i]? = some y := by rfl) (hyl : g.X.env.scope.names.lookup y = some .local := by rfl)
    (hsw : swapsWith (.ListComp elt [⟨tg, iter, ifs, 0⟩] scope pos) (some (.Name y py)) spos.line g.X.env = pure true := by exact sw_true rfl rfl rfl (by decide +kernel)) (hs : ∀ x, foldedSetIterable iter g.X.env x = pure x := by intro _; rfl) :
    EvS g (.Assign [.Name y py] (.ListComp elt [⟨tg, iter, ifs, 0⟩] scope pos) spos) (bSet i (eLc Sg (own.map (·.2)) T U A)) :=
  PS.imp (ps_setLc (g := tG1 g.X.K g.ca T) (tt := tT g.X.K g.ca (fun _ _ _ _ => False) U) (te := tE g.X.K g.ca (fun _ _ _ _ => False) A) hc hN hy hyl hsw hi L.ok L.hg L.ht L.he hs) fun D σ H h => by
    refine lc_in (Q := fun x H1 => D.nx (σ.set i (some x)) H1) L.sub ?_
    obtain ⟨m, ρ, s, rel, h⟩ := h
    refine ⟨m, ρ, s, rel, (PO_.fl h).mono fun d s1 m1 H1 ⟨r1, h1⟩ v rv => ?_⟩
    exact h1 m1 H1 _ (Ext.refl _ _) ⟨r1.env.set i rv, r1.sto⟩
/-- .. as a cell -/
theorem es_setLcC (i : Nat) {y : Str} {py spos : Pos} (hN : g.X.N.Nodup) (hi : EvI g tg iter Sg) (L : Lc g own scope tg T ifs U elt A) (hc : g.X.calm = true := by rfl) (hy : g.X.N[i]? = some y := by rfl) (hyl : g.X.env.scope.names.lookup y = some .local := by rfl)
    (hsw : swapsWith (.ListComp elt [⟨tg, iter, ifs, 0⟩] scope pos) (some (.Name y py)) spos.line g.X.env = pure true := by exact sw_true rfl rfl rfl (by decide +kernel)) (hs : ∀ x, foldedSetIterable iter g.X.env x = pure x := by intro _; rfl) :
    EvS g (.Assign [.Name y py] (.ListComp elt [⟨tg, iter, ifs, 0⟩] scope pos) spos) (bSet i (eLcC Sg (own.map (·.2)) T U A)) :=
  PS.imp (ps_setLc (g := tG1 g.X.K g.ca T) (tt := tT g.X.K g.ca (fun _ _ _ _ => False) U) (te := tE g.X.K g.ca (fun _ _ _ _ => False) A) hc hN hy hyl hsw hi L.ok L.hg L.ht L.he hs) fun D σ H h => by
    refine lc_inC (Q := fun x H1 => D.nx (σ.set i (some x)) H1) L.sub ?_
    obtain ⟨m, ρ, s, rel, h⟩ := h
    refine ⟨m, ρ, s, rel, (PO_.fl h).mono fun d s1 m1 H1 ⟨r1, h1⟩ v rv => ?_⟩
    exact h1 m1 H1 _ (Ext.refl _ _) ⟨r1.env.set i rv, r1.sto⟩

/-! len, tuple, all, any -/
@[simp] def viQ (s : S) (d : D) : Option (List D) := match viT d with
  | some ds => some ds
  | none => viL s d
theorem viQ_ok {K : PySem.W.Frag} {ca : Str → Addr} {m : List Addr} {H : Hp} {s : S} {d : D} {v : V} {ds : List D} (st : StRep K ca m H s) (r : RepD K H m d v) (h : viQ s d = some ds) : ∃ a vs, v = .ref a ∧ (SqL K H a vs ∨ SqT K H a vs) ∧ RepDs K H m ds vs := by
  unfold viQ at h
  cases eT : viT d with
  | some es =>
    rw [eT] at h; cases h
    obtain ⟨a, vs, e, q, r⟩ := viT_ok r eT
    exact ⟨a, vs, e, .inr q, r⟩
  | none =>
    rw [eT] at h
    obtain ⟨a, vs, e, q, r⟩ := viL_ok st r h
    exact ⟨a, vs, e, .inl q, r⟩
def lenQ : List D → S → Option (D × S) := fun xs s => match xs with
  | [d] => (viQ s d).map fun ds => (.p (.int ds.length), s)
  | _ => none
def lenS : List D → S → Option (D × S) := fun xs s => match xs with
  | [.p (.str z)] => if z.length ≤ sizeLine then some (.p (.int z.length), s) else none
  | _ => none
theorem lenQ_ok : CaS g lenQ (fun xs H Q => ∃ p ys, xs = [.ref p] ∧ (SqL g.X.K H p ys ∨ SqT g.X.K H p ys) ∧ Q (.int ys.length) H) := by
  intro m H s xs vs Q st rx ans
  unfold lenQ at ans
  split at ans
  · rename_i d
    obtain ⟨v, rfl, rv⟩ := rx.x1
    cases eq : viQ s d with
    | none => rw [eq] at ans; exact ans.none.elim
    | some ds =>
      rw [eq] at ans
      obtain ⟨a, ws, rfl, q, r⟩ := viQ_ok st rv eq
      exact ⟨a, ws, rfl, q, ans.same st (by rw [r.len]; rfl)⟩
  · exact ans.none.elim
theorem lenS_ok : CaS g lenS (fun xs H Q => ∃ z, xs = [.str z] ∧ z.length ≤ sizeLine ∧ Q (.int z.length) H) := by
  intro m H s xs vs Q st rx ans
  unfold lenS at ans
  split at ans
  · split at ans
    · rename_i hl
      obtain ⟨v, rfl, rv⟩ := rx.x1
      cases rv
      exact ⟨_, rfl, hl, ans.same st (v := .int _) rfl⟩
    · exact ans.none.elim
  · exact ans.none.elim
/-- a dict's keys and values -/
def viD (s : S) : D → Option (List Key × List D)
  | .dK ks ds => some (ks, ds)
  | .loc n => match s[n]? with
    | some (.dK ks ds) => some (ks, ds)
    | some (.lk ks ds) => some (ks, ds)
    | _ => none
  | _ => none
@[simp] theorem viD_p (s : S) (p : P) : viD s (.p p) = none := rfl
@[simp] theorem viD_mix (s : S) (ds : List D) : viD s (.mix ds) = none := rfl
@[simp] theorem viD_dK (s : S) (ks : List Key) (ds : List D) : viD s (.dK ks ds) = some (ks, ds) := rfl
@[simp] theorem viD_loc (s : S) (n : Nat) : viD s (.loc n) = match s[n]? with
    | some (.dK ks ds) => some (ks, ds)
    | some (.lk ks ds) => some (ks, ds)
    | _ => none := rfl
@[simp] theorem viD_lst (s : S) (ds : List D) : viD s (.lst ds) = none := rfl
@[simp] theorem viD_ro (s : S) (ds : List D) : viD s (.ro ds) = none := rfl
theorem viD_ok {K : PySem.W.Frag} {ca : Str → Addr} {m : List Addr} {H : Hp} {s : S} {d : D} {v : V} {ks : List Key} {ds : List D} (st : StRep K ca m H s) (r : RepD K H m d v) (h : viD s d = some (ks, ds)) : ∃ a vs, v = .ref a ∧ Rd H a (.dK (ks.zip vs)) ∧ ks.length = vs.length ∧ RepDs K H m ds vs := by
  cases d with
  | dK ks ds => cases h; obtain ⟨a, vs, e, ⟨q, _⟩, l, r⟩ := r; exact ⟨a, vs, e, q, l, r⟩
  | loc n =>
    obtain ⟨a, e, q⟩ := r
    cases e2 : s[n]? with
    | none => simp [viD, e2] at h
    | some c =>
      have rc := st.at_ n c a e2 e
      cases c with
      | dK es fs =>
        simp [viD, e2] at h
        obtain ⟨rfl, rfl⟩ := h
        obtain ⟨vs, ea, l, r⟩ := rc
        exact ⟨a, vs, q, .inl ea, l, r⟩
      | lk es fs =>
        simp [viD, e2] at h
        obtain ⟨rfl, rfl⟩ := h
        obtain ⟨o, vs, ea, l, r⟩ := rc
        exact ⟨a, vs, q, .inr ⟨o, ea⟩, l, r⟩
      | _ => simp [viD, e2] at h
  | _ => cases h
def bLen : List D → S → Option (D × S) := altC lenQ lenS
theorem ev_len {p : Pos} (hm : g.X.mg "len" = none) (ha : EvA g [e] As) (hg : Gl g.X "len" := by rfl) (he : starEach [e] g.X.env = (false, eval e g.X.env) :: starEach [] g.X.env := by rfl) : EvE g (.Call (.Name "len" p) [e] [] pos) (eCa bLen As) :=
  ev_b (CallR.or call_len_seq call_len_str) (lenQ_ok.alt lenS_ok) hm (by decide +kernel) ha hg (he := he) (hpl := by rfl)
/-- tuple(x) -/
def bTup : List D → S → Option (D × S) := fun xs s => match xs with
  | [d] => (viQ s d).map fun ds => (mkT ds, s)
  | _ => none
theorem bTup_ok : CaS g bTup (fun xs H Q => ∃ p ys, xs = [.ref p] ∧ ((SqL g.X.K H p ys ∧ ∀ l, H l = none → Q (.ref l) (upd H l (.tup ys))) ∨ (SqT g.X.K H p ys ∧ Q (.ref p) H))) := by
  intro m H s xs vs Q st rx ans
  unfold bTup at ans
  split at ans
  · rename_i d
    obtain ⟨v, rfl, rv⟩ := rx.x1
    cases eq : viQ s d with
    | none => rw [eq] at ans; exact ans.none.elim
    | some ds =>
      rw [eq] at ans
      obtain ⟨a, ws, rfl, q, r⟩ := viQ_ok st rv eq
      rcases q with q | q
      · refine ⟨a, ws, rfl, .inl ⟨q, fun p hp => ?_⟩⟩
        obtain ⟨d', s', e, h⟩ := ans
        cases e
        exact new_tup st r hp h
      · exact ⟨a, ws, rfl, .inr ⟨q, ans.same st (mkT_rep q r)⟩⟩
  · exact ans.none.elim
theorem ev_tuplec {p : Pos} (hm : g.X.mg "tuple" = none) (ha : EvA g [e] As) (hg : Gl g.X "tuple" := by rfl) (he : starEach [e] g.X.env = (false, eval e g.X.env) :: starEach [] g.X.env := by rfl) : EvE g (.Call (.Name "tuple" p) [e] [] pos) (eCa bTup As) :=
  ev_bt call_tuple_of bTup_ok hm (by decide +kernel) ha hg (he := he) (hpl := by rfl)
/-- list(x) -/
def bList : List D → S → Option (D × S) := fun xs s => match xs with
  | [d] => (viQ s d).map fun ds => (.lst ds, s)
  | _ => none
theorem bList_ok : CaS g bList (fun xs H Q => ∃ p ys, xs = [.ref p] ∧ (SqL g.X.K H p ys ∨ SqT g.X.K H p ys) ∧ ∀ l, H l = none → Q (.ref l) (upd H l (.lst ys))) := by
  intro m H s xs vs Q st rx ans
  unfold bList at ans
  split at ans
  · rename_i d
    obtain ⟨v, rfl, rv⟩ := rx.x1
    cases eq : viQ s d with
    | none => rw [eq] at ans; exact ans.none.elim
    | some ds =>
      rw [eq] at ans
      obtain ⟨a, ws, rfl, q, r⟩ := viQ_ok st rv eq
      refine ⟨a, ws, rfl, q, fun p hp => ?_⟩
      obtain ⟨d', s', e, h⟩ := ans
      cases e
      exact new_lst st r hp h
  · exact ans.none.elim
theorem ev_listc {p : Pos} (hm : g.X.mg "list" = none) (ha : EvA g [e] As) (hg : Gl g.X "list" := by rfl) (he : starEach [e] g.X.env = (false, eval e g.X.env) :: starEach [] g.X.env := by rfl) : EvE g (.Call (.Name "list" p) [e] [] pos) (eCa bList As) :=
  ev_bt call_list_of bList_ok hm (by decide +kernel) ha hg (he := he) (hpl := by rfl)
/-- all, any of True and False -/
def allB : List D → Option (List Bool)
  | [] => some []
  | .p (.bl b) :: ds => (allB ds).map (b :: ·)
  | _ :: _ => none
theorem allB_ok {K : PySem.W.Frag} {m : List Addr} {H : Hp} : ∀ {ds : List D} {vs : List V} {bs : List Bool}, RepDs K H m ds vs → allB ds = some bs → vs = bs.map V.bl
  | [], _, _, r, h => by cases h; cases r; rfl
  | .p (.bl b) :: ds, _, bs, r, h => by
    obtain ⟨v, r', rfl, h1, h2⟩ := r
    unfold allB at h
    cases e : allB ds with
    | none => rw [e] at h; cases h
    | some cs =>
      rw [e] at h
      cases h
      cases h1
      rw [allB_ok h2 e]
      rfl
  | .p .non :: _, _, _, _, h => by cases h
  | .p (.int _) :: _, _, _, _, h => by cases h
  | .p (.str _) :: _, _, _, _, h => by cases h
  | .p (.tup _) :: _, _, _, _, h => by cases h
  | .loc _ :: _, _, _, _, h => by cases h
  | .mix _ :: _, _, _, _, h => by cases h
  | .lst _ :: _, _, _, _, h => by cases h
  | .ro _ :: _, _, _, _, h => by cases h
  | .dK _ _ :: _, _, _, _, h => by cases h
  | .dT _ _ :: _, _, _, _, h => by cases h
@[simp] theorem allB_map : ∀ bs : List Bool, allB (bs.map fun b => D.p (.bl b)) = some bs
  | [] => rfl
  | b :: bs => by rw [List.map_cons]; unfold allB; rw [allB_map bs]; rfl
def bAll : List D → S → Option (D × S) := fun xs s => match xs with
  | [d] => (viL s d).bind fun ds => (allB ds).map fun bs => (.p (.bl (bs.all id)), s)
  | _ => none
def bAny : List D → S → Option (D × S) := fun xs s => match xs with
  | [d] => (viL s d).bind fun ds => (allB ds).map fun bs => (.p (.bl (bs.any id)), s)
  | _ => none
theorem bAll_ok : CaS g bAll (rAll g.X.K) := by
  intro m H s xs vs Q st rx ans
  unfold bAll at ans
  split at ans
  · rename_i d
    obtain ⟨v, rfl, rv⟩ := rx.x1
    cases eq : viL s d with
    | none => rw [eq] at ans; exact ans.none.elim
    | some ds =>
      rw [eq] at ans
      obtain ⟨a, ws, rfl, q, r⟩ := viL_ok st rv eq
      cases eb : allB ds with
      | none => simp only [Option.bind_some, eb] at ans; exact ans.none.elim
      | some bs =>
        simp only [Option.bind_some, eb] at ans
        have := allB_ok r eb
        subst this
        exact ⟨a, bs, rfl, q, ans.same st (v := .bl _) rfl⟩
  · exact ans.none.elim
theorem bAny_ok : CaS g bAny (rAny g.X.K) := by
  intro m H s xs vs Q st rx ans
  unfold bAny at ans
  split at ans
  · rename_i d
    obtain ⟨v, rfl, rv⟩ := rx.x1
    cases eq : viL s d with
    | none => rw [eq] at ans; exact ans.none.elim
    | some ds =>
      rw [eq] at ans
      obtain ⟨a, ws, rfl, q, r⟩ := viL_ok st rv eq
      cases eb : allB ds with
      | none => simp only [Option.bind_some, eb] at ans; exact ans.none.elim
      | some bs =>
        simp only [Option.bind_some, eb] at ans
        have := allB_ok r eb
        subst this
        exact ⟨a, bs, rfl, q, ans.same st (v := .bl _) rfl⟩
  · exact ans.none.elim
theorem ev_all {p : Pos} (hm : g.X.mg "all" = none) (ha : EvA g [e] As) (hc : g.X.calm = true := by rfl) (hg : Gl g.X "all" := by rfl) (he : starEach [e] g.X.env = (false, eval e g.X.env) :: starEach [] g.X.env := by rfl) : EvE g (.Call (.Name "all" p) [e] [] pos) (eCa bAll As) :=
  ev_b (cr_all hc) bAll_ok hm (by decide +kernel) ha hg (he := he) (hpl := by rfl)
theorem ev_any {p : Pos} (hm : g.X.mg "any" = none) (ha : EvA g [e] As) (hc : g.X.calm = true := by rfl) (hg : Gl g.X "any" := by rfl) (he : starEach [e] g.X.env = (false, eval e g.X.env) :: starEach [] g.X.env := by rfl) : EvE g (.Call (.Name "any" p) [e] [] pos) (eCa bAny As) :=
  ev_b (cr_any hc) bAny_ok hm (by decide +kernel) ha hg (he := he) (hpl := by rfl)

/-! isinstance with a built-in class -/
def tyP : P → String
  | .non => "NoneType"
  | .bl _ => "bool"
  | .int _ => "int"
  | .str _ => "str"
  | .tup _ => "tuple"
def tyD (s : S) : D → Option String
  | .p p => some (tyP p)
  | .mix _ => some "tuple"
  | .lst _ => some "list"
  | .ro _ => some "list"
  | .dK _ _ => some "dict"
  | .dT _ _ => none
  | .loc n => match s[n]? with
    | some (.lst _) => some "list"
    | some (.dK _ _) => some "dict"
    | some (.lk _ _) => some "dict"
    | _ => none
def isB (a b : String) : Bool := a == b || (a == "bool" && b == "int")
def tyNames : List String := ["NoneType", "bool", "int", "str", "tuple", "list", "dict"]
theorem kit_all : (tyNames.all fun a => tyNames.all fun b => decide (kitB a b = some (isB a b))) = true := by decide +kernel
theorem kit_at {a b : String} (ha : a ∈ tyNames) (hb : b ∈ tyNames) : kitB a b = some (isB a b) := of_decide_eq_true (List.all_eq_true.mp (List.all_eq_true.mp kit_all a ha) b hb)
theorem tyX_sqt {K : PySem.W.Frag} {H : Hp} {a : Addr} {vs : List V} (h : SqT K H a vs) : TyX K H (.ref a) (.type "tuple") := by
  rcases h with (h | ⟨o, h⟩) | ⟨o, its, n, h1, h2, _⟩
  · exact .base (.tup h)
  · exact .fTuple h
  · exact .kTuple h1 h2
theorem tyD_ok {K : PySem.W.Frag} {ca : Str → Addr} {m : List Addr} {H : Hp} {s : S} {d : D} {v : V} {t : String} (st : StRep K ca m H s) (r : RepD K H m d v) (h : tyD s d = some t) : TyX K H v (.type t) ∧ t ∈ tyNames := by
  cases d with
  | p p =>
    cases h
    cases p with
    | non => cases r; exact ⟨.base .non, (by decide : "NoneType" ∈ tyNames)⟩
    | bl b => cases r; exact ⟨.base (.bl b), (by decide : "bool" ∈ tyNames)⟩
    | int b => cases r; exact ⟨.base (.int b), (by decide : "int" ∈ tyNames)⟩
    | str b => cases r; exact ⟨.base (.str b), (by decide : "str" ∈ tyNames)⟩
    | tup ps => obtain ⟨a, vs, rfl, q, _⟩ := r; exact ⟨tyX_sqt q, (by decide : "tuple" ∈ tyNames)⟩
  | mix ds => cases h; obtain ⟨a, vs, rfl, q, _⟩ := r; exact ⟨tyX_sqt q, by decide⟩
  | lst ds => cases h; obtain ⟨a, vs, rfl, ⟨q, _⟩, _⟩ := r; exact ⟨.base (.lst q), by decide⟩
  | ro ds =>
    cases h
    obtain ⟨a, vs, rfl, q, _⟩ := r
    refine ⟨?_, by decide⟩
    rcases q with ⟨q | ⟨o, q⟩, _⟩ | ⟨o, its, n, h1, h2, _⟩
    · exact .base (.lst q)
    · exact .base (.frz q)
    · exact .kList h1 h2
  | dK ks ds =>
    cases h
    obtain ⟨a, vs, rfl, ⟨q, _⟩, _⟩ := r
    refine ⟨?_, by decide⟩
    rcases q with q | ⟨o, q⟩
    · exact .base (.dK q)
    · exact .fDict q
  | dT ks ds => cases h
  | loc n =>
    obtain ⟨a, e, rfl⟩ := r
    replace h : (match s[n]? with
      | some (.lst _) => some "list"
      | some (.dK _ _) => some "dict"
      | some (.lk _ _) => some "dict"
      | _ => none) = some t := h
    cases e2 : s[n]? with
    | none => rw [e2] at h; cases h
    | some c =>
      rw [e2] at h
      have rc := st.at_ n c a e2 e
      cases c with
      | lst ds => cases h; obtain ⟨vs, q, _⟩ := rc; exact ⟨.base (.lst q), by decide⟩
      | dK ks ds => cases h; obtain ⟨vs, q, _⟩ := rc; exact ⟨.base (.dK q), by decide⟩
      | lk ks ds => cases h; obtain ⟨o, vs, q, _⟩ := rc; exact ⟨.fDict q, by decide⟩
      | _ => cases h
@[simp] def eIsI (t : String) (A : Ex) (ρ : Env) (s : S) : Out D := (A ρ s).bind fun d s1 => match tyD s1 d with
  | some t' => .ok (.p (.bl (isB t' t))) s1
  | none => .no
theorem ev_isi (t : String) {x : Str} {p p1 : Pos} (hm : g.X.mg "isinstance" = none) (hmt : g.X.mg x = none) (ha : EvE g e A) (ht : t ∈ tyNames := by decide) (hv : bootBuiltins x = some (.type t) := by decide +kernel) (hgt : Gl g.X x := by rfl) (hg : Gl g.X "isinstance" := by rfl)
    (hn : x ≠ "__name__" := by decide) (hdb : (x == ("__debug__" : Str)) = false := by decide)
    (he : starEach [e, .Name x p1] g.X.env = (false, eval e g.X.env) :: starEach [.Name x p1] g.X.env := by rfl) : EvE g (.Call (.Name "isinstance" p) [e, .Name x p1] [] pos) (eIsI t A) :=
  PE.imp (pe_callB call_isi hg hm (by decide +kernel) (pa_cons ha (pa_cons (pe_bltn (v := .ty t) hgt hmt hv rfl hn hdb) pa_nil) he) (by decide) (by decide) he (by rfl)) fun σ H Q h => by
    obtain ⟨m, ρ, s, rel, h⟩ := h
    refine ⟨m, ρ, s, rel, (PO_.bind h).mono fun d s1 m1 H1 ⟨r1, h1⟩ v rv => ?_⟩
    cases et : tyD s1 d with
    | none => rw [et] at h1; exact h1.elim
    | some t' =>
      rw [et] at h1
      obtain ⟨tx, tn⟩ := tyD_ok r1.sto rv et
      exact ⟨v, .ty t, .type t', .type t, isB t' t, rfl, .ty t, tx, kit_ty (kit_at tn ht), h1 m1 H1 (Ext.refl _ _) r1 _ rfl⟩
end
end Mo

set_option Elab.async false
set_option linter.all false
set_option maxRecDepth 100000
set_option maxHeartbeats 4000000
namespace Mo
open PySem PySem.Spec PyProof.Rows L2
/-! dicts -/
section
variable {κ : Type} [DecidableEq κ] {α : Type}
def lkD : List κ → List α → κ → Option α
  | k' :: ks, d :: ds, k => if k' = k then some d else lkD ks ds k
  | _, _, _ => none
def putKs (ks : List κ) (k : κ) : List κ := if k ∈ ks then ks else ks ++ [k]
def putDs (ks : List κ) (ds : List α) (k : κ) (d : α) : List α := if k ∈ ks then List.zipWith (fun k' y => if k' = k then d else y) ks ds else ds ++ [d]
end
section
variable {κ : Type} [DecidableEq κ] {K : PySem.W.Frag} {H : Hp} {m : List Addr}
theorem lkD_ok : ∀ {ks : List κ} {ds : List D} {vs : List V} {k : κ}, RepDs K H m ds vs → (∀ d, lkD ks ds k = some d → ∃ v, valV (ks.zip vs) k = some v ∧ RepD K H m d v) ∧ (lkD ks ds k = none → valV (ks.zip vs) k = none)
  | [], ds, vs, k, r => ⟨fun d h => (by cases ds <;> cases h), fun _ => rfl⟩
  | k' :: ks, [], vs, k, r => by cases r; exact ⟨fun d h => (by cases h), fun _ => rfl⟩
  | k' :: ks, d :: ds, vs, k, r => by
    obtain ⟨v, r', rfl, h1, h2⟩ := r
    by_cases e : k' = k
    · refine ⟨fun d' h => ?_, fun h => ?_⟩
      · unfold lkD at h
        rw [if_pos e] at h
        cases h
        exact ⟨v, valV_pos e, h1⟩
      · unfold lkD at h
        rw [if_pos e] at h
        cases h
    · obtain ⟨i1, i2⟩ := lkD_ok (ks := ks) (k := k) h2
      refine ⟨fun d' h => ?_, fun h => ?_⟩
      · unfold lkD at h
        rw [if_neg e] at h
        obtain ⟨w, e1, e2⟩ := i1 d' h
        exact ⟨w, (valV_neg e).trans e1, e2⟩
      · unfold lkD at h
        rw [if_neg e] at h
        exact (valV_neg e).trans (i2 h)
theorem RepDs.zipPut : ∀ {ks : List κ} {ds : List D} {vs : List V} {k : κ} {d : D} {v : V}, RepDs K H m ds vs → RepD K H m d v →
    RepDs K H m (List.zipWith (fun k' y => if k' = k then d else y) ks ds) (List.zipWith (fun k' y => if k' = k then v else y) ks vs)
  | [], _, _, _, _, _, _, _ => by simp; rfl
  | _ :: _, [], _, _, _, _, r, _ => by cases r; rfl
  | k' :: ks, d' :: ds, _, k, d, v, r, h => by
    obtain ⟨w, r', rfl, h1, h2⟩ := r
    refine ⟨if k' = k then v else w, _, rfl, ?_, RepDs.zipPut h2 h⟩
    by_cases e : k' = k
    · simp only [e, if_true]; exact h
    · simp only [e, if_false]; exact h1
theorem RepDs.putDs {ks : List κ} {ds : List D} {vs : List V} {k : κ} {d : D} {v : V} (r : RepDs K H m ds vs) (h : RepD K H m d v) : RepDs K H m (Mo.putDs ks ds k d) (Mo.putDs ks vs k v) := by
  unfold Mo.putDs
  split
  · exact r.zipPut h
  · exact r.app (RepDs.one h)
theorem putK_zip : ∀ {ks : List κ} {vs : List V} {k : κ} {v : V}, ks.length = vs.length → putK (ks.zip vs) k v = (putKs ks k).zip (putDs ks vs k v) := by
  intro ks vs k v hl
  unfold putK putKs putDs
  have e1 : ((ks.zip vs).any fun kv => decide (kv.1 = k)) = decide (k ∈ ks) := by
    clear v
    induction ks generalizing vs with
    | nil => simp
    | cons k' ks ih =>
      cases vs with
      | nil => simp at hl
      | cons v' vs =>
        simp only [List.length_cons, Nat.add_right_cancel_iff] at hl
        rw [List.zip_cons_cons, List.any_cons, ih hl]
        by_cases e : k' = k
        · simp [e]
        · simp [e, Ne.symm e]
  rw [e1]
  by_cases hk : k ∈ ks
  · simp only [hk, decide_true, if_true]
    clear e1 hk
    induction ks generalizing vs with
    | nil => simp
    | cons k' ks ih =>
      cases vs with
      | nil => simp at hl
      | cons v' vs =>
        simp only [List.length_cons, Nat.add_right_cancel_iff] at hl
        rw [List.zip_cons_cons, List.map_cons, List.zipWith_cons_cons, List.zip_cons_cons, ih hl]
        by_cases e : k' = k <;> simp [e]
  · simp only [hk, decide_false, if_false, Bool.false_eq_true]
    rw [List.zip_append hl]
    rfl
theorem putX_len {ks : List κ} {vs : List V} {k : κ} {v : V} (hl : ks.length = vs.length) : (putKs ks k).length = (putDs ks vs k v).length := by
  unfold putKs putDs
  split
  · simp [hl]
  · simp [hl]
end
def keyD : D → Option Key
  | .p (.int i) => some (.inl i)
  | .p (.str x) => some (.inr x)
  | _ => none
theorem keyD_ok {K : PySem.W.Frag} {H : Hp} {m : List Addr} {d : D} {v : V} {k : Key} (r : RepD K H m d v) (h : keyD d = some k) : v = kV k := by
  unfold keyD at h
  split at h
  · cases h; cases r; rfl
  · cases h; cases r; rfl
  · cases h
section
variable {g : G} {a b c e elt tg iter : Expr} {A B C_ : Ex} {U : Te} {pos pos' cpos apos : Pos} {es ifs : List Expr} {As : Ar} {Sg : Sr} {T : Pt} {own : List (Str × Nat)} {scope : Scope}
theorem G.Ok.hu (o : g.Ok) : g.X.A.units + 1 < cLine := hu_of o.hr
/-- {} as a cell -/
@[simp] def eDNew (_ : Env) (s : S) : Out D := .ok (.loc s.length) (s ++ [.dK [] []])
theorem ev_dnew : EvE g (.Dict [] [] pos) eDNew := PE.imp pe_dnewK fun σ H Q h => by
  obtain ⟨m, ρ, s, rel, h⟩ := h
  intro p hp
  have x : Ext m H (m ++ [p]) (upd H p (.dK [])) := Ext.newM rel.sto hp
  refine h _ _ x (rel.ext x (rel.sto.alloc (c := .dK [] []) hp ⟨[], upd_same, rfl, rfl⟩)) _ ⟨p, ?_, rfl⟩
  rw [← rel.sto.len, List.getElem?_append_right (Nat.le_refl _)]
  simp
/-- d[k] -/
@[simp] def eDGet (A B : Ex) (ρ : Env) (s : S) : Out D := (A ρ s).bind fun x s1 => (B ρ s1).bind fun y s2 => match viD s2 x, keyD y with
  | some (ks, ds), some k => match lkD ks ds k with
    | some d => .ok d s2
    | none => .no
  | _, _ => .no
theorem ev_dget (o : g.Ok) (ha : EvE g a A) (hb : EvE g b B) (hs : NoSl b := by exact fun _ _ => rfl) : EvE g (.Subscript a b pos) (eDGet A B) :=
  PE.imp (pe_dget o.hu ha hb hs) fun σ H Q h => by
    obtain ⟨m, ρ, s, rel, h⟩ := h
    refine ⟨m, ρ, s, rel, (PO_.bind h).mono fun x s1 m1 H1 ⟨r1, h1⟩ v rv => ⟨m1, ρ, s1, r1, ?_⟩⟩
    have h2 := PO_.bind h1
    cases e : B ρ s1 with
    | no => rw [e] at h2; exact h2
    | ex y s2 => rw [e] at h2; exact h2
    | ok y s2 =>
      rw [e] at h2
      intro m2 H2 x2 r2 w rw_
      obtain ⟨_, h3⟩ := h2 m2 H2 x2 r2
      cases ed : viD s2 x with
      | none => rw [ed] at h3; exact h3.elim
      | some p =>
        obtain ⟨ks, ds⟩ := p
        cases ek : keyD y with
        | none => rw [ed, ek] at h3; exact h3.elim
        | some k =>
          rw [ed, ek] at h3
          dsimp only at h3
          obtain ⟨a, vs, rfl, hd, hl, rr⟩ := viD_ok r2.sto (r1.sto.repD x2 rv) ed
          cases el : lkD ks ds k with
          | none => rw [el] at h3; exact h3.elim
          | some d =>
            rw [el] at h3
            obtain ⟨u, eu, ru⟩ := (lkD_ok (k := k) rr).1 d el
            refine ⟨a, u, rfl, .inl ⟨_, k, hd, keyD_ok rw_ ek, eu.symm⟩, h3 m2 H2 (Ext.refl _ _) r2 u ru⟩
/-- k in d, k not in d -/
@[simp] def eDIn (n : Bool) (B A : Ex) (ρ : Env) (s : S) : Out D := (B ρ s).bind fun y s1 => (A ρ s1).bind fun x s2 => match viD s2 x, keyD y with
  | some (ks, ds), some k => .ok (.p (.bl (xor n (lkD ks ds k).isSome))) s2
  | _, _ => .no
theorem din_in {n : Bool} {σ : L2.St} {H : Hp} {Q : VK} (h : tE g.X.K g.ca g.W (eDIn n B A) σ H Q) : tE g.X.K g.ca g.W B σ H fun y H1 => tE g.X.K g.ca g.W A σ H1 fun x H2 => ∃ a o, x = .ref a ∧ DGet H2 a y o ∧ Q (.bl (xor n o.isSome)) H2 := by
  obtain ⟨m, ρ, s, rel, h⟩ := h
  refine ⟨m, ρ, s, rel, (PO_.bind h).mono fun y s1 m1 H1 ⟨r1, h1⟩ v rv => ⟨m1, ρ, s1, r1, ?_⟩⟩
  have h2 := PO_.bind h1
  cases e : A ρ s1 with
  | no => rw [e] at h2; exact h2
  | ex y s2 => rw [e] at h2; exact h2
  | ok x s2 =>
    rw [e] at h2
    intro m2 H2 x2 r2 w rw_
    obtain ⟨_, h3⟩ := h2 m2 H2 x2 r2
    cases ed : viD s2 x with
    | none => rw [ed] at h3; exact h3.elim
    | some p =>
      obtain ⟨ks, ds⟩ := p
      cases ek : keyD y with
      | none => rw [ed, ek] at h3; exact h3.elim
      | some k =>
        rw [ed, ek] at h3
        dsimp only at h3
        obtain ⟨a, vs, rfl, hd, hl, rr⟩ := viD_ok r2.sto rw_ ed
        refine ⟨a, _, rfl, .inl ⟨_, k, hd, keyD_ok (r1.sto.repD x2.toExtW rv) ek, rfl⟩, h3 m2 H2 (Ext.refl _ _) r2 _ ?_⟩
        have : (valV (ks.zip vs) k).isSome = (lkD ks ds k).isSome := by
          cases el : lkD ks ds k with
          | none => rw [(lkD_ok (k := k) rr).2 el]; rfl
          | some d => obtain ⟨u, eu, _⟩ := (lkD_ok (k := k) rr).1 d el; rw [eu]; rfl
        rw [this]
        rfl
theorem ev_din (o : g.Ok) (hb : EvE g b B) (ha : EvE g a A) (hm : behindInMarks .In a = false := by rfl) : EvE g (.Compare b [.In] [a] pos) (eDIn false B A) :=
  PE.imp (pe_cmp (pc_din o.hu hb ha) hm) fun σ H Q h => by
    have := din_in h
    simp only [Bool.false_xor] at this
    exact this
theorem ev_dnin (o : g.Ok) (hb : EvE g b B) (ha : EvE g a A) (hm : behindInMarks .NotIn a = false := by rfl) : EvE g (.Compare b [.NotIn] [a] pos) (eDIn true B A) :=
  PE.imp (pe_cmp (pc_dnotin o.hu hb ha) hm) fun σ H Q h => by
    have := din_in h
    simp only [Bool.true_xor] at this
    exact this
theorem tV_tE {σ : L2.St} {H : Hp} {Q : Bool → Hp → Prop} (h : tT g.X.K g.ca g.W (tV A) σ H Q) : tE g.X.K g.ca g.W A σ H fun x H1 => ∃ c, x = .bl c ∧ Q c H1 := by
  obtain ⟨m, ρ, s, rel, h⟩ := h
  refine ⟨m, ρ, s, rel, (PO_.bind h).mono fun x s1 m1 H1 ⟨r1, h1⟩ v rv => ?_⟩
  split at h1
  · exact ⟨_, rv, h1 m1 H1 (Ext.refl _ _) r1⟩
  · exact h1.elim
theorem et_din (o : g.Ok) (hb : EvE g b B) (ha : EvE g a A) (hm : behindInMarks .In a = false := by rfl) : EvT g (.Compare b [.In] [a] pos) (tV (eDIn false B A)) :=
  PT.imp (pt_cmp (pc_din o.hu hb ha) hm) fun σ H Q h => by
    have := din_in (tV_tE h)
    simp only [Bool.false_xor] at this
    exact this
theorem et_dnin (o : g.Ok) (hb : EvE g b B) (ha : EvE g a A) (hm : behindInMarks .NotIn a = false := by rfl) : EvT g (.Compare b [.NotIn] [a] pos) (tV (eDIn true B A)) :=
  PT.imp (pt_cmp (pc_dnotin o.hu hb ha) hm) fun σ H Q h => by
    have := din_in (tV_tE h)
    simp only [Bool.true_xor] at this
    exact this
/-- d[k] = v -/
def putD (x y d : D) (s : S) : Option S := match x, keyD y with
  | .loc n, some k => match s[n]? with
    | some (.dK ks ds) => if ks.length < sizeLine then some (s.set n (.dK (putKs ks k) (putDs ks ds k d))) else none
    | _ => none
  | _, _ => none
theorem es_dput {O I : Ex} {ob i : Expr} {spos : Pos} (o : g.Ok) (ha : EvE g e A) (ho : EvE g ob O) (hi : EvE g i I) (hs : swapsWith e (some (.Subscript ob i spos)) pos.line g.X.env = pure false := by rfl) : EvS g (.Assign [.Subscript ob i spos] e pos) (bPut putD A O I) :=
  PS.imp (ps_dput o.hu ho hi ha hs) fun D σ H h => by
    obtain ⟨m, ρ, s, rel, h⟩ := h
    refine ⟨m, ρ, s, rel, (PO_.fl h).mono fun d s1 m1 H1 ⟨r1, h1⟩ v rv => ⟨m1, ρ, s1, r1, ?_⟩⟩
    have h2 := PO_.fl (σ := σ) h1
    cases e : O ρ s1 with
    | no => rw [e] at h2; exact h2
    | ex y s2 => rw [e] at h2; exact h2
    | ok od s2 =>
      rw [e] at h2
      intro m2 H2 x2 r2 ov rov
      obtain ⟨_, h3⟩ := h2 m2 H2 x2 r2
      refine ⟨m2, ρ, s2, r2, ?_⟩
      have h4 := PO_.fl (σ := σ) h3
      cases e2 : I ρ s2 with
      | no => rw [e2] at h4; exact h4
      | ex y s3 => rw [e2] at h4; exact h4
      | ok id_ s3 =>
        rw [e2] at h4
        intro m3 H3 x3 r3 iv riv
        obtain ⟨_, h5⟩ := h4 m3 H3 x3 r3
        cases ep : putD od id_ d s3 with
        | none => rw [ep] at h5; exact h5.elim
        | some s4 =>
          rw [ep] at h5
          unfold putD at ep
          split at ep
          · rename_i n k ek
            cases es : s3[n]? with
            | none => rw [es] at ep; cases ep
            | some cc =>
              rw [es] at ep
              cases cc with
              | dK ks ds =>
                dsimp only at ep
                split at ep
                · rename_i hz
                  cases ep
                  obtain ⟨a, ea, rfl⟩ := r2.sto.repD x3.toExtW rov
                  obtain ⟨vs, eh, hl, rr⟩ := r3.sto.at_ n _ a es ea
                  have rd := r2.sto.repD x3.toExtW (r1.sto.repD x2 rv)
                  have xp : Ext m3 H3 m3 (upd H3 a (.dK (putK (ks.zip vs) k v))) := Ext.put (List.mem_of_getElem? ea) (nf_dK eh)
                  refine ⟨a, _, rfl, .inl ⟨_, k, eh, keyD_ok riv ek, by rw [List.length_zip, ← hl]; simpa using hz, rfl⟩, h5 m3 _ σ xp (r3.ext xp ?_)⟩
                  refine r3.sto.put (c := .dK (putKs ks k) (putDs ks ds k d)) ea ⟨putDs ks vs k v, ?_, putX_len hl, r3.sto.repDs xp (rr.putDs rd)⟩
                  rw [putK_zip hl]
                  exact upd_same
                · cases ep
              | _ => cases ep
          · cases ep
/-- dict(d): a copy, a cell -/
def bDict : List D → S → Option (D × S) := fun xs s => match xs with
  | [d] => (viD s d).map fun p => (.loc s.length, s ++ [.dK p.1 p.2])
  | _ => none
theorem bDict_ok : CaS g bDict (fun xs H Q => ∃ (a : Addr) (kvs : List (Key × V)), xs = [.ref a] ∧ Rd H a (.dK kvs) ∧ ∀ p, H p = none → Q (.ref p) (upd H p (.dK kvs))) := by
  intro m H s xs vs Q st rx ans
  unfold bDict at ans
  split at ans
  · rename_i d
    obtain ⟨v, rfl, rv⟩ := rx.x1
    cases eq : viD s d with
    | none => rw [eq] at ans; exact ans.none.elim
    | some q =>
      obtain ⟨ks, ds⟩ := q
      rw [eq] at ans
      obtain ⟨a, ws, rfl, q, hl, r⟩ := viD_ok st rv eq
      refine ⟨a, _, rfl, q, fun p hp => ?_⟩
      obtain ⟨d', s', e, h⟩ := ans
      cases e
      have x : Ext m H (m ++ [p]) (upd H p (.dK (ks.zip ws))) := Ext.newM st hp
      refine h _ _ _ x (st.alloc (c := .dK ks ds) hp ⟨ws, upd_same, hl, st.repDs x r⟩) ⟨p, ?_, rfl⟩
      rw [← st.len, List.getElem?_append_right (Nat.le_refl _)]
      simp
  · exact ans.none.elim
theorem ev_dictc {p : Pos} (hm : g.X.mg "dict" = none) (ha : EvA g [e] As) (hg : Gl g.X "dict" := by rfl) (he : starEach [e] g.X.env = (false, eval e g.X.env) :: starEach [] g.X.env := by rfl) : EvE g (.Call (.Name "dict" p) [e] [] pos) (eCa bDict As) :=
  ev_bt call_dictD bDict_ok hm (by decide +kernel) ha hg (he := he) (hpl := by rfl)
end
/-! sorted texts -/
def leS (a b : Str) : Bool := !ltCps b.cps.toList a.cps.toList
theorem ltCps_irr : ∀ a : List Nat, ltCps a a = false
  | [] => rfl
  | x :: r => by simp [ltCps, ltCps_irr r]
theorem ltCps_tri : ∀ a b : List Nat, ltCps a b = false → ltCps b a = false → a = b
  | [], [], _, _ => rfl
  | [], _ :: _, h, _ => by simp [ltCps] at h
  | _ :: _, [], _, h => by simp [ltCps] at h
  | x :: r, y :: t, h1, h2 => by
    simp only [ltCps, Bool.or_eq_false_iff, decide_eq_false_iff_not, Bool.and_eq_false_iff, beq_eq_false_iff_ne] at h1 h2
    have hxy : x = y := by omega
    subst hxy
    have a1 : ltCps r t = false := by rcases h1.2 with h | h; exact absurd rfl h; exact h
    have a2 : ltCps t r = false := by rcases h2.2 with h | h; exact absurd rfl h; exact h
    rw [ltCps_tri r t a1 a2]
theorem ltCps_trans : ∀ a b c : List Nat, ltCps a b = true → ltCps b c = true → ltCps a c = true
  | [], [], _, h, _ => by simp [ltCps] at h
  | _ :: _, [], _, h, _ => by simp [ltCps] at h
  | _, _ :: _, [], _, h => by simp [ltCps] at h
  | [], _ :: _, _ :: _, _, _ => rfl
  | x :: r, y :: t, z :: u, h1, h2 => by
    simp only [ltCps, Bool.or_eq_true, decide_eq_true_eq, Bool.and_eq_true, beq_iff_eq] at h1 h2 ⊢
    rcases h1 with h1 | ⟨e1, h1⟩ <;> rcases h2 with h2 | ⟨e2, h2⟩
    · exact .inl (by omega)
    · exact .inl (by omega)
    · exact .inl (by omega)
    · exact .inr ⟨by omega, ltCps_trans r t u h1 h2⟩
theorem leS_anti {a b : Str} (h1 : leS a b = true) (h2 : leS b a = true) : a = b := by
  unfold leS at h1 h2
  simp only [Bool.not_eq_true'] at h1 h2
  have e := ltCps_tri _ _ h2 h1
  obtain ⟨⟨l⟩⟩ := a
  obtain ⟨⟨r⟩⟩ := b
  simp at e
  rw [e]
theorem leS_total (a b : Str) : (leS a b || leS b a) = true := by
  unfold leS
  cases h : ltCps b.cps.toList a.cps.toList with
  | false => rfl
  | true =>
    cases h2 : ltCps a.cps.toList b.cps.toList with
    | false => rfl
    | true =>
      have := ltCps_trans _ _ _ h h2
      rw [ltCps_irr] at this
      cases this
theorem leS_trans (a b c : Str) (h1 : leS a b = true) (h2 : leS b c = true) : leS a c = true := by
  unfold leS at *
  simp only [Bool.not_eq_true'] at *
  cases h : ltCps c.cps.toList a.cps.toList with
  | false => rfl
  | true =>
    -- c < a; not b < a, not c < b
    cases hab : ltCps a.cps.toList b.cps.toList with
    | true =>
      have := ltCps_trans _ _ _ h hab
      rw [h2] at this; cases this
    | false =>
      have e := ltCps_tri _ _ hab h1
      rw [e] at h
      rw [h] at h2; cases h2
def srtS (l : List Str) : List Str := l.mergeSort leS
theorem srtS_perm (l : List Str) : (srtS l).Perm l := List.mergeSort_perm l leS
theorem srtS_pw (l : List Str) : (srtS l).Pairwise (fun a b => leS a b = true) := List.pairwise_mergeSort leS_trans leS_total l
theorem risingS_pw : ∀ (p : Str) (l : List Str), risingS p l = true → (p :: l).Pairwise (fun a b => leS a b = true)
  | p, [], _ => by simp
  | p, x :: r, h => by
    obtain ⟨h1, h2⟩ := Bool.and_eq_true_iff.mp (show (!ltCps x.cps.toList p.cps.toList && risingS x r) = true from h)
    have ih := risingS_pw x r h2
    refine List.pairwise_cons.mpr ⟨fun b hb => ?_, ih⟩
    rcases List.mem_cons.mp hb with rfl | hb
    · exact h1
    · exact leS_trans p x b h1 ((List.pairwise_cons.mp ih).1 b hb)
theorem sortedS_pw : ∀ (l : List Str), sortedS l = true → l.Pairwise (fun a b => leS a b = true)
  | [], _ => .nil
  | x :: r, h => risingS_pw x r h
theorem srtS_eq {l ys : List Str} (hp : ys.Perm l) (hs : sortedS ys = true) : ys = srtS l :=
  List.Perm.eq_of_pairwise (le := fun a b => leS a b = true) (fun a b _ _ h1 h2 => leS_anti h1 h2) (sortedS_pw ys hs) (srtS_pw l) (hp.trans (srtS_perm l).symm)
def strKs : List Key → Option (List Str)
  | [] => some []
  | .inr x :: ks => (strKs ks).map (x :: ·)
  | .inl _ :: _ => none
theorem strKs_ok : ∀ {ks : List Key} {xs : List Str}, strKs ks = some xs → ks = xs.map Sum.inr
  | [], _, h => by cases h; rfl
  | .inl _ :: _, _, h => by cases h
  | .inr x :: ks, _, h => by
    unfold strKs at h
    cases e : strKs ks with
    | none => rw [e] at h; cases h
    | some ys => rw [e] at h; cases h; rw [strKs_ok e]; rfl
@[simp] theorem strKs_map : ∀ xs : List Str, strKs (xs.map Sum.inr) = some xs
  | [] => rfl
  | x :: xs => by rw [List.map_cons]; unfold strKs; rw [strKs_map xs]; rfl
section
variable {g : G} {a b c e elt tg iter : Expr} {A B C_ : Ex} {pos : Pos} {es : List Expr} {As : Ar}
theorem RepDs.strs {K : PySem.W.Frag} {H : Hp} {m : List Addr} : ∀ xs : List Str, RepDs K H m (xs.map fun x => D.p (.str x)) (xs.map V.str)
  | [] => rfl
  | x :: xs => ⟨.str x, _, rfl, rfl, RepDs.strs xs⟩
/-- sorted(d) of a dict with text keys -/
def bSortD : List D → S → Option (D × S) := fun xs s => match xs with
  | [d] => (viD s d).bind fun p => (strKs p.1).bind fun ks => if ks.length < 64 then some (.lst ((srtS ks).map fun x => .p (.str x)), s) else none
  | _ => none
theorem bSortD_ok : CaS g bSortD (fun xs H Q => ∃ (a : Addr) (kvs : List (Key × V)) (ks : List Str), xs = [.ref a] ∧ Rd H a (.dK kvs) ∧ kvs.map (·.1) = ks.map Sum.inr ∧ ks.length < 64 ∧
    ∀ ys p, ys.Perm ks → sortedS ys = true → H p = none → Q (.ref p) (upd H p (.lst (ys.map V.str)))) := by
  intro m H s xs vs Q st rx ans
  unfold bSortD at ans
  split at ans
  · rename_i d
    obtain ⟨v, rfl, rv⟩ := rx.x1
    cases eq : viD s d with
    | none => rw [eq] at ans; exact ans.none.elim
    | some q =>
      obtain ⟨ks, ds⟩ := q
      rw [eq] at ans
      simp only [Option.bind_some] at ans
      cases ek : strKs ks with
      | none => rw [ek] at ans; exact ans.none.elim
      | some xs =>
        rw [ek] at ans
        simp only [Option.bind_some] at ans
        obtain ⟨a, ws, rfl, q, hl, r⟩ := viD_ok st rv eq
        split at ans
        · rename_i h64
          refine ⟨a, _, xs, rfl, q, ?_, h64, fun ys p hp hs hn => ?_⟩
          · rw [List.map_fst_zip (by rw [hl]; exact Nat.le_refl _)]
            exact strKs_ok ek
          · have := srtS_eq hp hs
            subst this
            obtain ⟨d', s', e, h⟩ := ans
            cases e
            exact new_lst st (RepDs.strs _) hn h
        · exact ans.none.elim
  · exact ans.none.elim
theorem ev_sortD {p : Pos} (hm : g.X.mg "sorted" = none) (ha : EvA g [e] As) (hc : g.X.calm = true := by rfl) (hg : Gl g.X "sorted" := by rfl) (he : starEach [e] g.X.env = (false, eval e g.X.env) :: starEach [] g.X.env := by rfl) : EvE g (.Call (.Name "sorted" p) [e] [] pos) (eCa bSortD As) :=
  ev_b (call_sortedD hc) bSortD_ok hm (by decide +kernel) ha hg (he := he) (hpl := by rfl)
end
end Mo

set_option Elab.async false
set_option linter.all false
set_option maxRecDepth 100000
set_option maxHeartbeats 4000000
namespace PySem
open Sem (wp)
open AutoSeq1 (wpAny_loadPart')
set_option maxHeartbeats 4000000 in
theorem moEnumNewT (l : Addr) (items : Array Value) (n : Nat) (dct : Option Addr) (sl : Array (Option Value)) :
    Meets (Builtin.«enumerate.__new__» ⟨[.type "enumerate", .ref l], []⟩) (fun _ R s => s.heap.get? l = some { cls := .type "tuple", dict := dct, data := .seq items n, slots := sl } ∧
      R (.ok (.ret (.ref (s.heap.push { cls := .type "tuple_iterator", data := .fields #[.ref l, .int 0 0] }).objs.size)))
        { s with heap := (s.heap.push { cls := .type "tuple_iterator", data := .fields #[.ref l, .int 0 0] }).push { cls := .type "enumerate", data := .fields #[.none, .bool false, .ref s.heap.objs.size, rawInt 0, .none, .none] } }) :=
  .of_wp fun prog w A R s h => by
    obtain ⟨hp, g, d, tk, os⟩ := s; obtain ⟨hl, h⟩ := h
    have hsub := sub_enumerate
    have hL : Heap.IsTuple (Shared.heap ⟨hp, g, d, tk, os⟩) l items := ⟨_, hl, rfl, n, rfl⟩
    wp_walk using wpAny_loadPart' hl
    refine wpAny_stack_any fun st => wpAny_pure ?_
    split
    · rename_i c _ _ _ _ _
      cases (c == Value.type "enumerate")
      · wp_walk using wpAny_loadPart' hl, wpAny_pyIter_tuple hL
        exact ⟨_, rfl, h⟩
      · wp_walk using wpAny_loadPart' hl, wpAny_pyIter_tuple hL
        exact ⟨_, rfl, h⟩
    · wp_walk using wpAny_loadPart' hl, wpAny_pyIter_tuple hL
      exact ⟨_, rfl, h⟩
section
variable {prog : Program} {w : World} {A : Around} {E : Value → Shared → Prop} {s : Shared}
theorem moCallEnumT {l : Addr} {items : Array Value} {Q : Value → Shared → Prop} (hL : s.heap.IsTuple l items)
    (h : ∀ h', IsEnum h' (s.heap.objs.size + 1) s.heap.objs.size 0 .none → h'.IsTupleIter s.heap.objs.size l 0 → h'.objs.size = s.heap.objs.size + 2 →
      (∀ b o, s.heap.get? b = some o → h'.get? b = some o) → Q (.ref (s.heap.objs.size + 1)) { s with heap := h' }) :
    wpAny (model prog w) A (call (.type "enumerate") [.ref l]) Q E s := by
  obtain ⟨⟨c, dct, dt, sl⟩, hl, hc, n, hd⟩ := hL
  replace hc : c = .type "tuple" := hc
  replace hd : dt = .seq items n := hd
  subst hc hd
  refine callType_new F.called_enumerate (by decide) (F.typeCall_enumerate_1 _) (F.newCall_enumerate_1 _) (fun obj => F.args_object_init_2 obj _) F.entry_enumerate_new
    (moEnumNewT l items n dct sl) ⟨hl, ?_⟩
  have hz : (s.heap.push { cls := .type "tuple_iterator", data := .fields #[.ref l, .int 0 0] }).objs.size = s.heap.objs.size + 1 := Heap.size_push ..
  show _ ∧ _
  rw [hz]
  have he : IsEnum ((s.heap.push { cls := .type "tuple_iterator", data := .fields #[.ref l, .int 0 0] }).push
      { cls := .type "enumerate", data := .fields #[.none, .bool false, .ref s.heap.objs.size, rawInt 0, .none, .none] }) (s.heap.objs.size + 1) s.heap.objs.size 0 .none := by
    have := Heap.get?_push_size (s.heap.push { cls := .type "tuple_iterator", data := .fields #[.ref l, .int 0 0] })
      (o := { cls := .type "enumerate", data := .fields #[.none, .bool false, .ref s.heap.objs.size, rawInt 0, .none, .none] }) rfl
    rw [hz] at this; exact this
  refine ⟨⟨_, he, rfl⟩, h _ he ⟨_, Heap.get?_push_of_some _ (Heap.get?_push_size _ rfl), rfl, rfl⟩ (by rw [Heap.size_push, hz]) fun b o x => Heap.get?_push_of_some _ (Heap.get?_push_of_some _ x)⟩
end
end PySem
namespace Mo
open PySem PySem.Spec PyProof.Rows L2
/-- the tuple at a, each item in a new pair with its number -/
def IteT (K : PySem.W.Frag) (a : Addr) : It :=
  ⟨fun i H => ∃ (xs : List V) (x : V), SqT K H a xs ∧ xs[i]? = some x, fun i H v H' => ∃ T x, v = .ref T ∧ H T = none ∧ H' = upd H T (.tup [.int (i : Nat), x]) ∧ ∀ xs, SqT K H a xs → xs[i]? = some x, fun i H => ∃ xs : List V, SqT K H a xs ∧ xs.length ≤ i⟩
theorem turn_enumT {P : Program} {w : World} {K : PySem.W.Frag} {elts : List Expr} {kk : Nat} {tpos : Pos} (a e it : Addr) :
    Turn P w K (.Tuple elts kk tpos) (IteT K a) [e, it] e (fun i h => (∃ old, IsEnum h e it ((i : Nat) : Int) old) ∧ h.IsTupleIter it a i ∧ e ≠ it) where
  mem := by simp
  obj := fun i h st b hb => by
    obtain ⟨⟨old, he⟩, ⟨o, ho, hc, hd⟩, _⟩ := st
    have e' : b = e ∨ b = it := by simpa using hb
    rcases e' with z | z
    · rw [z]; exact ⟨_, he, fun v q => nomatch q⟩
    · rw [z]; exact ⟨o, ho, fun v q => by rw [hd] at q; cases q⟩
  keep := fun i h h' st k => let ⟨⟨old, he⟩, hi, hne⟩ := st; ⟨⟨old, k e (by simp) _ he⟩, hi.at fun o q => k it (by simp) o q, hne⟩
  item := by
    intro X hP hw hK hc i pins s σ H E I hf st hg
    subst hP hw hK
    obtain ⟨⟨old, he⟩, hit, hne⟩ := st
    obtain ⟨xs, x, hq, hx⟩ := hg
    obtain ⟨its, rv, p, hz⟩ := I.tuple hq
    obtain ⟨u, hu, ru⟩ := rv.get hx
    have hel : e < s.heap.objs.size := Heap.lt_size he
    have hil : it < s.heap.objs.size := by obtain ⟨_, q, _⟩ := hit; exact Heap.lt_size q
    have hai : a ≠ it := fun z => by
      subst z
      obtain ⟨o1, e1, c1, _⟩ := show s.heap.IsTuple a its.toArray from p
      obtain ⟨o2, e2, c2, _⟩ := hit
      rw [e1] at e2; cases e2; rw [c1] at c2; exact absurd (Value.type.inj c2) (by decide)
    have hea : e ≠ a := fun z => by
      subst z
      obtain ⟨o1, e1, c1, _⟩ := show s.heap.IsTuple e its.toArray from p
      rw [show s.heap.get? e = _ from he] at e1; cases e1; exact absurd (Value.type.inj c1) (by decide)
    refine wpAny_pyNext_enum_itemD (Draws.tuple (A := X.A.in1) (I.ok.hd hc) it a hai its.toArray) he ⟨hit, p⟩ ?_ hne (by simp [hne, hea]) fun v h' tk hv ho hst hT hsz hk => ?_
    · have := (List.getElem?_eq_some_iff.mp hu).1
      simpa using this
    have hvu : v = u := by
      rw [show (its.toArray[i]? = some v) = (its[i]? = some v) by simp] at hv
      rw [hu] at hv; exact (Option.some.inj hv).symm
    subst hvu
    refine ⟨_, rfl, wpAny_letOwnedTupleGo_enum (s := { s with heap := h', toks := tk + 1 }) ho fun h'' he' sb => ?_⟩
    have hT2 : h''.get? s.heap.objs.size = some { cls := .type "tuple", data := .seq #[.int i tk, v] } := (sb.2 _ (Nat.ne_of_gt hel)).trans hT
    have new : ObjOk X.prog X.w (upd H s.heap.objs.size (.tup [.int (i : Nat), x])) h'' s.heap.objs.size (.tup [.int (i : Nat), x]) :=
      ⟨by show 2 ≤ sizeLine; decide, [.int i tk, v], .cons ⟨_, rfl⟩ (.cons ru .nil), ⟨_, hT2, rfl, _, rfl⟩⟩
    have I1 : Inv X pins σ (upd H s.heap.objs.size (.tup [.int (i : Nat), x])) { s with heap := h'', toks := tk + 1 } :=
      I.turnedNew (ch := [e, it]) (fun b ob hb q => (sb.2 b (fun z => hb (by simp [z]))).trans (hk b ob (fun z => hb (by simp [z])) (fun z => hb (by simp [z])) q)) hf (Nat.le_refl _) new
    refine ⟨.ref s.heap.objs.size, _, I1, rfl, ⟨_, x, rfl, I.hok.fresh (Nat.le_refl _), rfl, fun ys hy => by rw [I.tuple_inj hy hq]; exact hx⟩, ⟨⟨v, ?_⟩, hst.1.at fun o q => (sb.2 it (Ne.symm hne)).trans q, hne⟩, fun b hb => ?_⟩
    · have e1 : ((i + 1 : Nat) : Int) = (i : Int) + 1 := by omega
      rw [e1]; exact he'
    · have hb' : b < s.heap.objs.size := by
        have e' : b = e ∨ b = it := by simpa using hb
        rcases e' with z | z
        · rw [z]; exact hel
        · rw [z]; exact hil
      rw [upd_ne (Nat.ne_of_lt hb')]
      exact (hf b hb).1
  done := by
    intro X hP hw hK hc i pins s σ H E I hf st hg
    subst hP hw hK
    obtain ⟨⟨old, he⟩, hit, hne⟩ := st
    obtain ⟨xs, hq, hx⟩ := hg
    obtain ⟨its, rv, p, hz⟩ := I.tuple hq
    obtain ⟨f0, f1, f2, f3, f4, f5⟩ := hf it (by simp)
    have hl := rv.length
    unfold pyNext
    have hT : s.TypeIs (.ref e) "enumerate" := ⟨_, he, rfl⟩
    refine wpAny_bind (wpAny_attempt (wpAny_callSpecial?_slot (name := Str.ofString "__next__") hT F.slot_enumerate_next
      (wpAny_call_entry F.slot_enumerate_next hT F.entry_enumerate_next ?_ (F.args_enumerate_next_1 _))))
    show wpAny _ _ (field (.ref e) 2 >>= _) _ _ _
    refine wpAny_bind (wpAny_field he rfl (x := .ref it) rfl ?_)
    refine wpAny_bind (wpAny_nextOf_tuple_end (A := X.A.in1) (I.ok.hd hc) hit (show s.heap.IsTuple a its.toArray from p) (by simp; omega) fun h' x he' hx' => ?_)
    obtain ⟨o, ho, hcl⟩ := hx'
    refine wpAny_bind (wpAny_isInstance (T := "StopIteration") (b := true) ⟨o, ho, hcl⟩ isSubtype_stop ?_)
    exact wpAny_pure ⟨rfl, I.turned (t' := s.toks) (fun b o hb q => he' b o hb q) f0 f1 f3 f4 f5⟩
  self := fun A i s Q E st h => let ⟨⟨_, he⟩, _⟩ := st; wpAny_pyIter_enum he h
def iEnumT (K : PySem.W.Frag) (ta : TA) : TI := fun σ H R => ta σ H fun vs H1 => ∃ a xs, vs = [.ref a] ∧ SqT K H1 a xs ∧ R (IteT K a) H1
theorem pi_enumT {X : Cx} {e : Expr} {ta : TA} {p pos tpos : Pos} {elts : List Expr} {kk : Nat} (hg : Gl X "enumerate") (hm : X.mg "enumerate" = none) (ha : PA X [e] ta) (hs : starEach [e] X.env = [(false, eval e X.env)] := by rfl) :
    PI X (.Tuple elts kk tpos) (.Call (.Name "enumerate" p) [e] [] pos) (iEnumT X.K ta) := by
  refine ⟨fun pins s σ H R I h => ?_⟩
  refine Call_ (ld_blt I hg hm boot_enumerate (PyProof.Rows.callWith_type1 (thn (ha.run pos pins s σ H _ I h) fun us s1 ⟨vs, H1, I1, r1, q1⟩ => ?_) hs rfl))
  obtain ⟨a, xs, ex, hq, q⟩ := q1
  subst ex
  cases r1 with
  | cons r rr =>
    cases rr
    cases r
    obtain ⟨its, rv, p', hz⟩ := I1.tuple hq
    refine moCallEnumT (show s1.heap.IsTuple a its.toArray from p') fun h' he hit hsz hk => wpAny_pyIter_enum he ?_
    have I2 : Inv X pins σ H1 { s1 with heap := h' } := I1.kept (t' := s1.toks) hk
    refine ⟨s1.heap.objs.size + 1, [s1.heap.objs.size + 1, s1.heap.objs.size], _, _, H1, rfl, I2, turn_enumT a (s1.heap.objs.size + 1) s1.heap.objs.size, ⟨⟨.none, he⟩, hit, Nat.succ_ne_self _⟩, fun b hb => ?_, q⟩
    have e' : b = s1.heap.objs.size + 1 ∨ b = s1.heap.objs.size := by simpa using hb
    have hle : s1.heap.objs.size ≤ b := by
      rcases e' with z | z
      · rw [z]; exact Nat.le_add_right _ _
      · rw [z]; exact Nat.le_refl _
    exact I1.fpOk hle (I1.hok.fresh hle)
end Mo

set_option Elab.async false
set_option linter.all false
set_option maxRecDepth 100000
set_option maxHeartbeats 4000000
namespace Mo
open PySem PySem.Spec PyProof.Rows L2
section
variable {g : G} {a b c e o elt tg iter : Expr} {A B C_ O : Ex} {U : Te} {pos pos' cpos apos : Pos} {es ifs : List Expr} {As : Ar} {Sg : Sr} {T : Pt} {own : List (Str × Nat)} {scope : Scope}
/-! methods of builtin things -/
structure MeS (g : G) (T : String) (ty : S → D → Bool) (f : D → List D → S → Option (D × S)) (r : V → List V → Hp → VK → Prop) : Prop where
  ty : ∀ (m : List Addr) (H : Hp) (s : S) (x : D) (v : V), StRep g.X.K g.ca m H s → RepD g.X.K H m x v → ty s x = true → tyV g.X.K T v H
  run : ∀ (m : List Addr) (H : Hp) (s : S) (x : D) (xs : List D) (v : V) (vs : List V) (Q : VK), StRep g.X.K g.ca m H s → RepD g.X.K H m x v → RepDs g.X.K H m xs vs → Ans g m H Q (f x xs s) → r v vs H Q
@[simp] def eMe (ty : S → D → Bool) (f : D → List D → S → Option (D × S)) (O : Ex) (As : Ar) (ρ : Env) (s : S) : Out D := (O ρ s).bind fun o s1 => if ty s1 o = true then (As ρ s1).bind fun ds s2 => ofO (f o ds s2) else .no
theorem me_in {T : String} {ty : S → D → Bool} {f : D → List D → S → Option (D × S)} {r : V → List V → Hp → VK → Prop} (q : MeS g T ty f r) {σ : L2.St} {H : Hp} {Q : VK} (h : tE g.X.K g.ca g.W (eMe ty f O As) σ H Q) :
    tBM g.X.K T r (tE g.X.K g.ca g.W O) (tA g.X.K g.ca g.W As) σ H Q := by
  obtain ⟨m, ρ, s, rel, h⟩ := h
  refine ⟨m, ρ, s, rel, (PO_.bind h).mono fun x s1 m1 H1 ⟨r1, h1⟩ v rv => ?_⟩
  split at h1
  · rename_i ht
    refine ⟨q.ty m1 H1 s1 x v r1.sto rv ht, m1, ρ, s1, r1, ?_⟩
    have h2 := PO_.bind h1
    cases e : As ρ s1 with
    | no => rw [e] at h2; exact h2
    | ex y s2 => rw [e] at h2; exact h2
    | ok ds s2 =>
      rw [e] at h2
      intro m2 H2 x2 r2 vs rvs
      obtain ⟨_, h3⟩ := h2 m2 H2 x2 r2
      exact q.run m2 H2 s2 x ds v vs Q r2.sto (r1.sto.repD x2.toExtW rv) rvs (ans_of r2 h3)
  · exact h1.elim
/-! list.append -/
@[simp] def isL (s : S) (x : D) : Bool := (viL s x).isSome
def appL : D → List D → S → Option (D × S) := fun o ds s => match o, ds with
  | .loc n, [d] => match s[n]? with
    | some (.lst es) => if es.length < sizeLine then some (.p .non, s.set n (.lst (es ++ [d]))) else none
    | _ => none
  | _, _ => none
theorem isL_ty {m : List Addr} {H : Hp} {s : S} {x : D} {v : V} (st : StRep g.X.K g.ca m H s) (r : RepD g.X.K H m x v) (h : isL s x = true) : tyV g.X.K "list" v H := by
  obtain ⟨ds, e⟩ := Option.isSome_iff_exists.mp h
  obtain ⟨a, vs, rfl, q, _⟩ := viL_ok st r e
  exact .inl ⟨rfl, vs, q⟩
theorem appL_ok : MeS g "list" isL appL rAppend := ⟨fun m H s x v st r h => isL_ty st r h, fun m H s x xs v vs Q st r rs ans => by
  obtain ⟨d, s', e, h⟩ := ans
  unfold appL at e
  split at e
  · rename_i n d1
    cases es : s[n]? with
    | none => rw [es] at e; cases e
    | some c =>
      rw [es] at e
      cases c with
      | lst ds =>
        simp only at e
        split at e
        · rename_i hz
          cases e
          obtain ⟨a, ea, rfl⟩ := r
          obtain ⟨us, eh, rr⟩ := st.at_ n _ a es ea
          obtain ⟨w, rfl, rw1⟩ := rs.x1
          have x : Ext m H m (upd H a (.lst (us ++ [w]))) := Ext.put (List.mem_of_getElem? ea) (nf_lst eh)
          exact ⟨a, us, w, rfl, rfl, eh, by rw [← rr.len]; exact hz, h m _ .non x (st.put (c := .lst (ds ++ [d1])) ea ⟨_, upd_same, st.repDs x.toExtW (rr.app (RepDs.one rw1))⟩) rfl⟩
        · cases e
      | _ => cases e
  · cases e⟩
theorem mtM_R {X : Cx} {id : String} {r : V → List V → Hp → VK → Prop} (h : MtM X id r) : MtR X id r := h
theorem ev_app (ho : EvE g o O) (ha : EvA g [e] As) (hbase : attributeBase o "append" g.X.env (eval o g.X.env) = eval o g.X.env := by rfl)
    (hfew : ((backTo cpos (starEach [e] g.X.env)).all (fun x => !x.1) && (backToKw cpos (keywordEach [] g.X.env)).all (fun x => x.1.isSome)
      && decide (([e] : List Expr).length + ([] : List Keyword).length + (if ([] : List Keyword).isEmpty then 0 else 1) < 30)) = true := by rfl)
    (hline : (apos.endLine == cpos.line) = true := by rfl) (hs : starEach [e] g.X.env = (false, eval e g.X.env) :: starEach [] g.X.env := by rfl) :
    EvE g (.Call (.Attribute o "append" apos) [e] [] cpos) (eMe isL appL O As) :=
  PE.imp (pe_bm F.plainAttrs_list F.slot_list_append F.type_list_append (mtM_R mt_append) ho ha hbase hfew hline hs rfl) fun σ H Q h => me_in appL_ok h
/-! enumerate -/
def enF : Nat → List D → List D
  | _, [] => []
  | i, d :: ds => mkT [.p (.int (i : Nat)), d] :: enF (i + 1) ds
theorem enF_len : ∀ (ds : List D) (i : Nat), (enF i ds).length = ds.length
  | [], _ => rfl
  | d :: ds, i => by simp [enF, enF_len ds]
theorem enF_get : ∀ {ds : List D} {j i : Nat} {y : D}, (enF j ds)[i]? = some y → ∃ d, ds[i]? = some d ∧ y = mkT [.p (.int ((j + i : Nat) : Int)), d]
  | [], _, _, _, h => by simp [enF] at h
  | d :: ds, j, 0, y, h => by simp [enF] at h; exact ⟨d, rfl, h.symm⟩
  | d :: ds, j, i + 1, y, h => by
    obtain ⟨d', e1, e2⟩ := enF_get (ds := ds) (j := j + 1) (i := i) (y := y) (by simpa [enF] using h)
    exact ⟨d', by simpa using e1, by rw [e2]; congr 4; omega⟩
@[simp] def sEnum (As : Ar) (ρ : Env) (s : S) : Out Wk := (As ρ s).bind fun xs s1 => match xs with
  | [d] => match wkOf s1 d with
    | some k => .ok ⟨enF 0 k.ds, k.ok⟩ s1
    | none => .no
  | _ => .no
theorem new_pair {m : List Addr} {H : Hp} {s : S} {p : Addr} {xs : List V} {ds : List D} {K : PySem.W.Frag} {ca : Str → Addr} (st : StRep K ca m H s) (r : RepDs K H m ds xs) (hp : H p = none) :
    Ext m H m (upd H p (.tup xs)) ∧ StRep K ca m (upd H p (.tup xs)) s ∧ RepD K (upd H p (.tup xs)) m (mkT ds) (.ref p) := by
  have x : Ext m H m (upd H p (.tup xs)) := Ext.new st hp
  exact ⟨x, st.updNew hp, mkT_rep (SqT.of upd_same) (st.repDs x.toExtW r)⟩
theorem jrep_enT {K : PySem.W.Frag} {ca : Str → Addr} {m : List Addr} {H : Hp} {a : Addr} {vs : List V} {ds : List D} {ok : S → Bool} (nt : NoTup m H) (q : SqT K H a vs) (r : RepDs K H m ds vs) : JRep K ca m H (IteT K a) ⟨enF 0 ds, ok⟩ := by
  intro m' H' s' x st hk i
  have q' := x.sqt nt q
  have r' := r.ext x.toExtW nt
  refine ⟨fun hi => ⟨vs, q', by rw [← r.len, ← enF_len ds 0]; exact hi⟩, fun d e => ?_⟩
  obtain ⟨d', e1, rfl⟩ := enF_get e
  obtain ⟨v, ev, rv⟩ := r'.get e1
  refine ⟨⟨vs, v, q', ev⟩, fun x2 H2 y => ?_⟩
  obtain ⟨T, w, rfl, hT, rfl, y⟩ := y
  have := y vs q'
  rw [ev] at this
  cases this
  rw [Nat.zero_add]
  exact new_pair st ⟨_, _, rfl, rfl, RepDs.one rv⟩ hT
theorem jrep_enL {K : PySem.W.Frag} {ca : Str → Addr} {m : List Addr} {H : Hp} {a : Addr} {ds : List D} {ok : S → Bool}
    (q : ∀ m' H' s', Ext m H m' H' → StRep K ca m' H' s' → ok s' = true → ∃ vs, SqL K H' a vs ∧ RepDs K H' m' ds vs) : JRep K ca m H (Ite K a) ⟨enF 0 ds, ok⟩ := by
  intro m' H' s' x st hk i
  obtain ⟨vs, q', r'⟩ := q m' H' s' x st hk
  refine ⟨fun hi => ⟨vs, q', by rw [← r'.len, ← enF_len ds 0]; exact hi⟩, fun d e => ?_⟩
  obtain ⟨d', e1, rfl⟩ := enF_get e
  obtain ⟨v, ev, rv⟩ := r'.get e1
  refine ⟨⟨vs, v, q', ev⟩, fun x2 H2 y => ?_⟩
  obtain ⟨T, w, rfl, hT, rfl, y⟩ := y
  have := y vs q'
  rw [ev] at this
  cases this
  rw [Nat.zero_add]
  exact new_pair st ⟨_, _, rfl, rfl, RepDs.one rv⟩ hT
theorem ei_enum {p tpos : Pos} {elts : List Expr} {kk : Nat} (hm : g.X.mg "enumerate" = none) (ha : EvA g [e] As) (hg : Gl g.X "enumerate" := by rfl) (hs : starEach [e] g.X.env = [(false, eval e g.X.env)] := by rfl) :
    EvI g (.Tuple elts kk tpos) (.Call (.Name "enumerate" p) [e] [] pos) (sEnum As) :=
  PI.imp (PI.or (pi_enumT hg hm ha hs) (pi_enum hg hm ha hs)) fun σ H R h => by
    obtain ⟨m, ρ, s, rel, h⟩ := h
    have wrong : ∀ {xs : List D} {s1 : S}, As ρ s = .ok xs s1 → ∃ d k, xs = [d] ∧ wkOf s1 d = some k := fun {xs s1} e => by
      unfold sEnum at h
      rw [e] at h
      match xs, h with
      | [d], h =>
        cases ek : wkOf s1 d with
        | none => simp only [Out.bind, ek] at h; exact h.elim
        | some k => exact ⟨d, k, rfl, ek⟩
      | [], h => exact h.elim
      | _ :: _ :: _, h => exact h.elim
    cases eA : As ρ s with
    | no => unfold sEnum at h; rw [eA] at h; exact h.elim
    | ex y s1 =>
      refine .inl ⟨m, ρ, s, rel, ?_⟩
      unfold sEnum at h
      rw [eA] at h ⊢
      exact h
    | ok xs s1 =>
      obtain ⟨d, k, rfl, ek⟩ := wrong eA
      unfold sEnum at h
      rw [eA] at h
      simp only [Out.bind, ek] at h
      cases eT : viT d with
      | some ds =>
        refine .inl ⟨m, ρ, s, rel, ?_⟩
        rw [eA]
        intro m1 H1 x1 r1 vs rvs
        obtain ⟨v, rfl, rv⟩ := rvs.x1
        obtain ⟨a, vs, rfl, q, rr⟩ := viT_ok rv eT
        refine ⟨a, vs, rfl, q, h m1 H1 x1 r1 _ ?_⟩
        have : k = ⟨ds, fun _ => true⟩ := by
          simp only [wkOf, eT] at ek
          exact (Option.some.inj ek).symm
        subst this
        exact jrep_enT r1.sto.nt q rr
      | none =>
        refine .inr ⟨m, ρ, s, rel, ?_⟩
        rw [eA]
        intro m1 H1 x1 r1 vs rvs
        obtain ⟨v, rfl, rv⟩ := rvs.x1
        obtain ⟨a, vs, rfl, q, hw⟩ := wkOf_lst r1.sto rv eT ek
        exact ⟨a, vs, rfl, q, h m1 H1 x1 r1 _ (jrep_enL hw)⟩
end

/-! a dict's keys, walked by a comprehension, the dict in a slot -/
@[simp] def kD : Key → D
  | .inl i => .p (.int i)
  | .inr x => .p (.str x)
theorem kD_ok {K : PySem.W.Frag} {H : Hp} {m : List Addr} (k : Key) : RepD K H m (kD k) (kV k) := by
  cases k <;> rfl
def lockS (s : S) : D → List Key → List D → S
  | .loc n, ks, ds => s.set n (.lk ks ds)
  | _, _, _ => s
def unlockS (s : S) : D → List Key → List D → Option S
  | .loc n, ks, ds => if s[n]? = some (.lk ks ds) then some (s.set n (.dK ks ds)) else none
  | _, _, _ => some s
def isLk (s : S) : D → Bool
  | .loc n => match s[n]? with
    | some (.dK _ _) => true
    | _ => false
  | _ => true
def eLcK (i : Nat) (own : List Nat) (T : Pt) (U : Te) (A : Ex) : Ex := fun ρ s => match ρ[i]? with
  | some (some d) => match viD s d with
    | some (ks, ds) => if isLk s d = true then (lcD (fun _ => true) T U A s.length (ks.map kD) (wipeE ρ own) (lockS s d ks ds ++ [.lst []])).bindN fun _ s2 =>
        match unlockS (fin (lockS s d ks ds) (.loc s.length) s2).2 d ks ds with
        | some s3 => .ok (fin (lockS s d ks ds) (.loc s.length) s2).1 s3
        | none => .no
      else .no
    | none => .no
  | _ => .no
section
variable {K : PySem.W.Frag} {ca : Str → Addr} {m m' : List Addr} {H H' : Hp} {s s' : S} {a : Addr} {ks : List Key} {ds : List D} {vs : List V} {od : Obj}
theorem Ext.lock {u : HO} (h : H a = some u) (hu : ¬ Fx u) (hl : ∀ xs, u ≠ .lst xs) : Ext m H m (upd H a (.frz od u)) :=
  ⟨⟨List.prefix_refl _, fun b w p q n => ⟨by
      by_cases hb : b = a
      · subst hb
        rcases q with q | ⟨o, q⟩
        · rw [h] at q; cases q; exact .inr ⟨od, upd_same⟩
        · rw [h] at q; cases q; exact absurd trivial hu
      · rcases q with q | ⟨o, q⟩
        · exact .inl ((upd_ne hb).trans q)
        · exact .inr ⟨o, (upd_ne hb).trans q⟩, n⟩, fun b xs q n => by
      have hb : b ≠ a := fun z => by rw [z, h] at q; cases q; exact absurd rfl (hl _)
      exact (upd_ne hb).trans q⟩, fun b w hw q => by
      have hb : b ≠ a := fun z => by rw [z, h] at q; cases q; exact hu hw
      exact (upd_ne hb).trans q⟩
theorem ExtW.unlock {u : HO} (h : H a = some (.frz od u)) : ExtW m H m (upd H a u) :=
  ⟨List.prefix_refl _, fun b w p q n => ⟨by
      by_cases hb : b = a
      · subst hb
        rcases q with q | ⟨o, q⟩
        · rw [h] at q; cases q; exact absurd p (by simp [pl])
        · rw [h] at q; cases q; exact .inl upd_same
      · rcases q with q | ⟨o, q⟩
        · exact .inl ((upd_ne hb).trans q)
        · exact .inr ⟨o, (upd_ne hb).trans q⟩, n⟩, fun b xs q n => by
      have hb : b ≠ a := fun z => by rw [z, h] at q; cases q
      exact (upd_ne hb).trans q⟩
/-- locked, gone on, unlocked -/
theorem Ext.round {u : HO} (h : H a = some u) (hu : ¬ Fx u) (hl : ∀ xs, u ≠ .lst xs) (x : Ext m (upd H a (.frz od u)) m' H') : Ext m H m' (upd H' a u) := by
  have y := (Ext.lock (m := m) (od := od) h hu hl).trans x
  have ha : H' a = some (.frz od u) := x.frz a od u upd_same
  exact ⟨y.toExtW.trans (ExtW.unlock ha), fun b w hw q => by
    have hb : b ≠ a := fun z => by rw [z, h] at q; cases q; exact hu hw
    exact (upd_ne hb).trans (y.fx b w hw q)⟩
theorem zip_inj {α β : Type} : ∀ {ks : List α} {vs ws : List β}, ks.length = vs.length → ks.length = ws.length → ks.zip vs = ks.zip ws → vs = ws
  | [], [], [], _, _, _ => rfl
  | k :: ks, v :: vs, w :: ws, h1, h2, e => by
    simp only [List.zip_cons_cons, List.cons.injEq, Prod.mk.injEq] at e
    rw [e.1.2, zip_inj (by simpa using h1) (by simpa using h2) e.2]
  | [], [], _ :: _, _, h, _ => by simp at h
  | [], _ :: _, _, h, _, _ => by simp at h
  | _ :: _, [], _, h, _, _ => by simp at h
  | _ :: _, _ :: _, [], _, h, _ => by simp at h
/-- the dict that d stands for is locked -/
theorem lock_ok {d : D} (st : StRep K ca m H s) (r : RepD K H m d (.ref a)) (e : viD s d = some (ks, ds)) (hl : ks.length = vs.length) (rr : RepDs K H m ds vs) (h : H a = some (.dK (ks.zip vs))) :
    StRep K ca m (upd H a (.frz od (.dK (ks.zip vs)))) (lockS s d ks ds) := by
  have x : Ext m H m (upd H a (.frz od (.dK (ks.zip vs)))) := Ext.lock h (fun z => z) (fun _ z => nomatch z)
  cases d with
  | loc n =>
    obtain ⟨b, eb, q⟩ := r
    cases q
    exact st.put (c := .lk ks ds) eb ⟨od, vs, upd_same, hl, st.repDs x.toExtW rr⟩
  | dK ks' ds' =>
    obtain ⟨b, vs', q, ⟨_, n⟩, _⟩ := r
    cases q
    exact st.same x.toExtW fun b hb => upd_ne fun z => n (z ▸ hb)
  | _ => cases e
theorem unlock_ok {d : D} {H0 : Hp} {m0 : List Addr} {s3 : S} {y : D} {v : V} (hpre : m0 <+: m) (r : RepD K H0 m0 d (.ref a)) (hn : a ∉ m0 → a ∉ m) (e : unlockS s d ks ds = some s3) (hl : ks.length = vs.length) (h : H a = some (.frz od (.dK (ks.zip vs)))) (st : StRep K ca m H s)
    (ev : ∃ s0, viD s0 d = some (ks, ds)) (ry : RepD K H m y v) :
    StRep K ca m (upd H a (.dK (ks.zip vs))) s3 ∧ RepD K (upd H a (.dK (ks.zip vs))) m y v := by
  have x : ExtW m H m (upd H a (.dK (ks.zip vs))) := ExtW.unlock h
  refine ⟨?_, st.repD x ry⟩
  obtain ⟨s0, ev⟩ := ev
  cases d with
  | loc n =>
    obtain ⟨b, eb, q⟩ := r
    cases q
    have eb' : m[n]? = some a := by
      obtain ⟨t, rfl⟩ := hpre
      rw [List.getElem?_append_left (List.getElem?_eq_some_iff.mp eb).1]; exact eb
    simp only [unlockS] at e
    split at e
    · rename_i en
      cases e
      obtain ⟨o, ws, eh, hl2, rr⟩ := st.at_ n _ a en eb'
      rw [h] at eh
      have : ks.zip vs = ks.zip ws := by injection eh with z; injection z with z1 z2; injection z2
      have := zip_inj hl hl2 this
      subst this
      exact st.put (c := .dK ks ds) eb' ⟨vs, upd_same, hl, st.repDs x rr⟩
    · cases e
  | dK ks' ds' =>
    obtain ⟨b, vs', q, ⟨_, n⟩, _⟩ := r
    cases q
    cases e
    exact st.same x fun b hb => upd_ne fun z => hn n (z ▸ hb)
  | _ => cases ev
theorem jrep_keys {ok : S → Bool} {o : Obj} (h : H a = some (.frz o (.dK (ks.zip vs)))) (hl : ks.length = vs.length) : JRep K ca m H (Itk a o (ks.zip vs)) ⟨ks.map kD, ok⟩ := by
  intro m' H' s' x st hk i
  have h' := x.frz a o _ h
  have hz : (ks.zip vs).length = ks.length := by rw [List.length_zip]; omega
  refine ⟨fun hi => ⟨h', by rw [hz]; simpa using hi⟩, fun d e => ?_⟩
  rw [List.getElem?_map] at e
  cases ek : ks[i]? with
  | none => rw [ek] at e; cases e
  | some k =>
    rw [ek] at e
    cases e
    have hi := (List.getElem?_eq_some_iff.mp ek).1
    refine ⟨⟨h', by rw [hz]; exact hi⟩, fun x2 H2 y => ?_⟩
    obtain ⟨rfl, k', v', e2, rfl⟩ := y
    have : k' = k := by
      have e3 : (ks.zip vs)[i]? = some (k', v') := e2
      rw [List.getElem?_zip_eq_some] at e3
      rw [e3.1] at ek
      exact Option.some.inj ek
    subst this
    exact ⟨Ext.refl _ _, st, kD_ok _⟩
end
section
variable {g : G} {a b c e o elt tg iter : Expr} {A B C_ O : Ex} {U : Te} {pos pos' cpos apos : Pos} {es ifs : List Expr} {As : Ar} {Sg : Sr} {T : Pt} {own : List (Str × Nat)} {scope : Scope}
theorem PE.or {X : Cx} {e : Expr} {t t' : TE} (h : PE X e t) (h' : PE X e t') : PE X e (fun σ H Q => t σ H Q ∨ t' σ H Q) := ⟨fun pins s σ H Q I q => q.elim (h.run pins s σ H Q I) (h'.run pins s σ H Q I)⟩
/-- the comprehension's own words, the dict locked -/
theorem lck_in {i : Nat} {m : List Addr} {ρ : Env} {s : S} {σ : L2.St} {H : Hp} {Qd : VK} {ad : Addr} {od : Obj} {ks : List Key} {vs : List V} (hsub : ∀ j ∈ T.sl, j ∈ own.map (·.2)) (rel : Rel g.X.K g.ca m H ρ σ s) (ev : σ[i]? = some (some (.ref ad))) (hd : H ad = some (.frz od (.dK (ks.zip vs)))) (hl : ks.length = vs.length)
    (h : match lcD (fun _ => true) T U A s.length (ks.map kD) (wipeE ρ (own.map (·.2))) (s ++ [.lst []]) with
      | .ok _ s2 => ∀ m' H' D0, Ext m H m' H' → StRep g.X.K g.ca m' H' s2 → m'[s.length]? = some D0 → Qd (.ref D0) H'
      | _ => False) :
    tLc (iKeys (tVar i)) (tG1 g.X.K g.ca T) (tT g.X.K g.ca (fun _ _ _ _ => False) U) (tE g.X.K g.ca (fun _ _ _ _ => False) A) (own.map (·.2)) σ H Qd :=
  ⟨_, ev, ad, od, rfl, .inl ⟨_, hd, lc_loop (g := g) (Qd := Qd) (k := ⟨ks.map kD, fun _ => true⟩) rel (jrep_keys hd hl) hsub h⟩⟩
theorem ev_lcK (i : Nat) {x : Str} {px : Pos} (hN : g.X.N.Nodup) (L : Lc g own scope tg T ifs U elt A) (hx : g.X.N[i]? = some x := by rfl) (hv : Vis g.X.env.scope x := by first | exact Or.inl rfl | exact Or.inr (Or.inl rfl) | exact Or.inr (Or.inr rfl)) (hdb : (x == ("__debug__" : Str)) = false := by decide)
    (hcd : (x == ("__classdict__" : Str)) = false := by decide) (hc : g.X.calm = true := by rfl) (hs : ∀ y, foldedSetIterable (.Name x px) g.X.env y = pure y := by intro _; rfl) :
    EvE g (.ListComp elt [⟨tg, .Name x px, ifs, 0⟩] scope pos) (eLcK i (own.map (·.2)) T U A) := by
  have P0 := pe_lc (g := tG1 g.X.K g.ca T) (tt := tT g.X.K g.ca (fun _ _ _ _ => False) U) (te := tE g.X.K g.ca (fun _ _ _ _ => False) A) (pos := pos) hc hN (pi_keys (pe_var (i := i) (pos := px) hx hv hdb hcd)) L.ok L.hg L.ht L.he hs
  refine PE.imp (PE.or P0 (pe_lock P0)) fun σ H Q h => ?_
  obtain ⟨m, ρ, s, rel, h⟩ := h
  unfold eLcK at h
  cases ei : ρ[i]? with
  | none => rw [ei] at h; exact h.elim
  | some od =>
    cases od with
    | none => rw [ei] at h; exact h.elim
    | some d =>
      rw [ei] at h
      obtain ⟨v, ev, rv⟩ := rel.env.2 i d ei
      cases ed : viD s d with
      | none => simp only [ed] at h; exact h.elim
      | some p =>
        obtain ⟨ks, ds⟩ := p
        obtain ⟨ad, vs, rfl, hr, hl, rr⟩ := viD_ok rel.sto rv ed
        simp only [ed] at h
        by_cases hk : isLk s d = true
        · rw [if_pos hk] at h
          rcases hr with hr | ⟨o, hr⟩
          · -- not locked yet
            refine .inr ⟨ad, _, hr, trivial, fun od => ?_⟩
            have x0 : Ext m H m (upd H ad (.frz od (.dK (ks.zip vs)))) := Ext.lock hr (fun z => z) (fun _ z => nomatch z)
            have st1 : StRep g.X.K g.ca m (upd H ad (.frz od (.dK (ks.zip vs)))) (lockS s d ks ds) := lock_ok rel.sto rv ed hl rr hr
            have rel1 := rel.ext x0 st1
            have hsl : (lockS s d ks ds).length = s.length := by rw [← st1.len, rel.sto.len]
            refine lck_in (g := g) L.sub rel1 ev upd_same hl ?_
            rw [hsl]
            cases e : lcD (fun _ => true) T U A s.length (ks.map kD) (wipeE ρ (own.map (·.2))) (lockS s d ks ds ++ [.lst []]) with
            | no => rw [e] at h; exact h
            | ex y s2 => rw [e] at h; exact h.elim
            | ok _ s2 =>
              rw [e] at h
              simp only [Out.bindN] at h
              intro m' H' D0 x st hD
              obtain ⟨m2, xm, sm, rm⟩ := fin_ok (d := .loc s.length) (v := .ref D0) st1 x st ⟨D0, hD, rfl⟩
              have ha : H' ad = some (.frz od (.dK (ks.zip vs))) := xm.frz ad od _ upd_same
              refine ⟨ha, ?_⟩
              cases eu : unlockS (fin (lockS s d ks ds) (.loc s.length) s2).2 d ks ds with
              | none => rw [eu] at h; exact h.elim
              | some s3 =>
                rw [eu] at h
                have hn : ad ∉ m → ad ∉ m2 := fun hn => (xm.keep ad (.dK (ks.zip vs)) rfl (.inr ⟨od, upd_same⟩) hn).2
                obtain ⟨sf, rf⟩ := unlock_ok xm.pre rv hn eu hl ha sm ⟨s, ed⟩ rm
                have xr := Ext.round hr (fun z => z) (fun _ z => nomatch z) xm
                exact h m2 _ xr (rel.ext xr sf) _ rf
          · -- locked before: a value
            refine .inl ?_
            have hd : lockS s d ks ds = s ∧ ∀ q, unlockS q d ks ds = some q := by
              cases d with
              | loc n =>
                obtain ⟨a', ea, q⟩ := rv
                cases q
                simp only [isLk] at hk
                cases es : s[n]? with
                | none => rw [es] at hk; cases hk
                | some c =>
                  rw [es] at hk
                  cases c with
                  | dK a1 a2 =>
                    obtain ⟨us, eh, _⟩ := rel.sto.at_ n _ _ es ea
                    rw [hr] at eh; cases eh
                  | _ => cases hk
              | dK a1 a2 => exact ⟨rfl, fun _ => rfl⟩
              | _ => cases ed
            rw [hd.1] at h
            refine lck_in (g := g) L.sub rel ev hr hl ?_
            cases e : lcD (fun _ => true) T U A s.length (ks.map kD) (wipeE ρ (own.map (·.2))) (s ++ [.lst []]) with
            | no => rw [e] at h; exact h
            | ex y s2 => rw [e] at h; exact h.elim
            | ok _ s2 =>
              rw [e] at h
              simp only [Out.bindN, hd.2] at h
              intro m' H' D0 x st hD
              obtain ⟨m2, xm, sm, rm⟩ := fin_ok (d := .loc s.length) (v := .ref D0) rel.sto x st ⟨D0, hD, rfl⟩
              exact h m2 H' xm (rel.ext xm sm) _ rm
        · rw [if_neg hk] at h; exact h.elim

/-! calls by keywords -/
/-- the values in the parameters' order -/
def arr {α : Type} [Inhabited α] (pi : List Nat) (xs : List α) : List α := pi.map fun i => xs.getD i default
instance : Inhabited V := ⟨.non⟩
instance : Inhabited Value := ⟨.none⟩
structure KwCallee (P : Program) (w : World) (K : PySem.W.Frag) (mg : Str → Option Value) (base : Heap) (ca : Str → Addr) (k : Nat) (x : Str) (n : Nat) (F : List D → S → Out D) (j : Nat) (ks : List Str) (pi : List Nat) : Prop where
  ex : ∃ (f : Addr) (fd : FuncData) (ps : List Str), FnOk P w K mg base (L2.CX P w) k f fd ps (spF K ca n F) ∧ mg x = some (.ref f) ∧ PySem.W.keepIn K (.ref f) = true ∧ 
    ∀ (s : Shared) (us ws : List Value), K.In s.heap → us.length = j → ws.length = ks.length → BindsTo s fd ⟨us, ks.zip ws⟩ (ps.zip (arr pi (us ++ ws)))
  lt : ∀ i ∈ pi, i < j + ks.length
abbrev G.KwCall (g : G) (k : Nat) (x : Str) (n : Nat) (F : List D → S → Out D) (j : Nat) (ks : List Str) (pi : List Nat) : Prop := KwCallee g.X.prog g.X.w g.X.K g.X.mg g.X.base g.ca k x n F j ks pi
def EvK (g : G) (kws : List Keyword) (A : Ar) : Prop := PK g.X kws (tA g.X.K g.ca g.W A)
theorem PK.imp {X : Cx} {e : List Keyword} {t t' : TA} (h : PK X e t) (i : ∀ σ H Q, t' σ H Q → t σ H Q) : PK X e t' := ⟨fun pos pins s σ H Q I q => h.run pos pins s σ H Q I (i σ H Q q)⟩
theorem tcons_in {σ : L2.St} {H : Hp} {Q : List V → Hp → Prop} (h : tA g.X.K g.ca g.W (aCons A As) σ H Q) : tCons (tE g.X.K g.ca g.W A) (tA g.X.K g.ca g.W As) σ H Q := by
  obtain ⟨m, ρ, s, rel, h⟩ := h
  refine ⟨m, ρ, s, rel, (PO_.bind h).mono fun x s1 m1 H1 ⟨r1, h1⟩ v rv => ⟨m1, ρ, s1, r1, ?_⟩⟩
  have h2 := PO_.bind h1
  cases e : As ρ s1 with
  | no => rw [e] at h2; exact h2
  | ex y s2 => rw [e] at h2; exact h2
  | ok ys s2 =>
    rw [e] at h2
    intro m2 H2 x2 r2 ws rw_
    obtain ⟨_, h3⟩ := h2 m2 H2 x2 r2
    exact h3 m2 H2 (Ext.refl _ _) r2 _ ⟨_, _, rfl, r1.sto.repD x2.toExtW rv, rw_⟩
theorem ek_nil : EvK g [] aNil := PK.imp pk_nil fun σ H Q h => by
  obtain ⟨m, ρ, s, rel, h⟩ := h
  exact h m H (Ext.refl _ _) rel [] rfl
theorem ek_cons {nm : Option Str} {kpos : Pos} {kws : List Keyword} (h : EvE g a A) (h' : EvK g kws As) : EvK g (⟨nm, a, kpos⟩ :: kws) (aCons A As) := PK.imp (pk_cons h h') fun _ _ _ q => tcons_in q
@[simp] def eFK (n : Nat) (F : List D → S → Out D) (pi : List Nat) (As Bs : Ar) (ρ : Env) (s : S) : Out D := (As ρ s).bind fun ds s1 => (Bs ρ s1).bind fun es s2 => if ds.length + es.length = n then F (arr pi (ds ++ es)) s2 else .no
theorem arr_rep {K : PySem.W.Frag} {H : Hp} {m : List Addr} {ds : List D} {vs : List V} (r : RepDs K H m ds vs) : ∀ {pi : List Nat}, (∀ i ∈ pi, i < ds.length) → RepDs K H m (arr pi ds) (arr pi vs)
  | [], _ => rfl
  | i :: pi, h => by
    refine ⟨vs.getD i default, arr pi vs, rfl, ?_, arr_rep r fun j hj => h j (List.mem_cons_of_mem _ hj)⟩
    have hi := h i (List.mem_cons_self ..)
    obtain ⟨v, ev, rv⟩ := r.get (i := i) (d := ds[i]) (List.getElem?_eq_getElem hi)
    show RepD K H m (ds.getD i default) (vs.getD i default)
    rw [List.getD_eq_getElem?_getD, List.getD_eq_getElem?_getD, ev, List.getElem?_eq_getElem hi]
    exact rv
theorem arr_vals {vs : List V} {us : List Value} (r : Vals vs us) : ∀ {pi : List Nat}, (∀ i ∈ pi, i < vs.length) → Vals (arr pi vs) (arr pi us)
  | [], _ => .nil
  | i :: pi, h => by
    have hi := h i (List.mem_cons_self ..)
    obtain ⟨u, eu, ru⟩ := r.get (i := i) (x := vs[i]) (List.getElem?_eq_getElem hi)
    refine .cons (?_ : RelV (vs.getD i default) (us.getD i default)) (arr_vals r fun j hj => h j (List.mem_cons_of_mem _ hj))
    rw [List.getD_eq_getElem?_getD, List.getD_eq_getElem?_getD, eu, List.getElem?_eq_getElem hi]
    exact ru
theorem run_fnKw {X : Cx} {CX : CXT} {k j : Nat} {f : Addr} {fd : FuncData} {ps ks : List Str} {sp : Sp} {E : L2.St → XK} {pi : List Nat} {pins : List (Addr × Obj)} {σ : L2.St} {H : Hp} {s : Shared} {Q : VK} {us ws : List Value} {vs zs : List V} (F : FnOk X.prog X.w X.K X.mg X.base CX k f fd ps sp) (hr : Room k X.A)
    (hb : ∀ (s : Shared) (us ws : List Value), X.K.In s.heap → us.length = j → ws.length = ks.length → BindsTo s fd ⟨us, ks.zip ws⟩ (ps.zip (arr pi (us ++ ws)))) (hx : PassesAt CX X σ (E σ)) (hpi : ∀ i ∈ pi, i < j + ks.length)
    (I : Inv X pins σ H s) (r : Vals vs us) (rz : Vals zs ws) (l1 : vs.length = j) (l2 : zs.length = ks.length) (h : sp (arr pi (vs ++ zs)) H Q (E σ)) : wpAny (model X.prog X.w) X.A (call (.ref f) us (ks.zip ws)) (EP X pins σ Q) X.xe s := by
  have b := hb s us ws I.kIn (r.length.symm.trans l1) (rz.length.symm.trans l2)
  refine wpAny_call (codeAny_mono (F.run X.A X.stack s H ⟨us, ks.zip ws⟩ (arr pi (us ++ ws)) (arr pi (vs ++ zs)) Q (E σ) hr I.env0 b (arr_vals (r.append rz) fun i hi => by rw [List.length_append, l1, l2]; exact hpi i hi) h) fun r s' hq => ?_)
  cases r with
  | error e => exact hx pins H s e s' I hq
  | ok fl =>
    cases fl with
    | ret u => exact I.after hq
    | next => exact False.elim hq
    | brk => exact False.elim hq
    | cont => exact False.elim hq
theorem kw_in {k j n : Nat} {ks : List Str} {pi : List Nat} {F : List D → S → Out D} {As Bs : Ar} {f : Addr} {fd : FuncData} {ps : List Str} (hn : n = j + ks.length) (hj : pi.length = n) (hpi : ∀ i ∈ pi, i < j + ks.length) {σ : L2.St} {H : Hp} {Q : VK} 
    (h : tE g.X.K g.ca g.W (eFK n F pi As Bs) σ H Q) : tA g.X.K g.ca g.W As σ H fun vs H1 => tA g.X.K g.ca g.W Bs σ H1 fun zs H2 => (vs.length + zs.length = n → spF g.X.K g.ca n F (arr pi (vs ++ zs)) H2 Q (WE g.W σ)) ∧ vs.length + zs.length = n := by
  obtain ⟨m, ρ, s, rel, h⟩ := h
  refine ⟨m, ρ, s, rel, (PO_.bind h).mono fun ds s1 m1 H1 ⟨r1, h1⟩ vs rv => ⟨m1, ρ, s1, r1, ?_⟩⟩
  have h2 := PO_.bind h1
  cases e : Bs ρ s1 with
  | no => rw [e] at h2; exact h2
  | ex y s2 => rw [e] at h2; exact h2
  | ok es s2 =>
    rw [e] at h2
    intro m2 H2 x2 r2 ws rw_
    obtain ⟨_, h3⟩ := h2 m2 H2 x2 r2
    split at h3
    · rename_i hl
      have rv2 := r1.sto.repDs x2.toExtW rv
      refine ⟨fun _ => ⟨by simp [arr, hj], m2, arr pi (ds ++ es), s2, r2.sto, arr_rep (rv2.app rw_) fun i hi => ?_, ?_⟩, by rw [← rv2.len, ← rw_.len]; exact hl⟩
      · rw [List.length_append, hl, hn]; exact hpi i hi
      · cases e : F (arr pi (ds ++ es)) s2 with
        | no => rw [e] at h3; exact h3
        | ok d s3 => rw [e] at h3; exact fun m' H' v x st r => h3 m' H' x (r2.ext x st) v r
        | ex y s3 => rw [e] at h3; exact fun m' H' c od x st r => h3 m' H' c od x (r2.ext x st) r
    · exact h3.elim
/-- f(k = e, ..) -/
theorem ev_callK0 {k n : Nat} {x : Str} {F : List D → S → Out D} {p : Pos} {kws : List Keyword} {ks : List Str} {pi : List Nat} {Bs : Ar} (o : g.Ok) (cl : g.KwCall k x n F 0 ks pi) (hk : k ≤ g.k) (hkw : EvK g kws Bs) (hn : n = 0 + ks.length := by rfl) (hj : pi.length = n := by rfl) (hg : Gl g.X x := by rfl) (hdb : (x == ("__debug__" : Str)) = false := by decide)
    (hall : (backToKw pos (keywordEach kws g.X.env)).all (·.1.isSome) = true := by rfl) (hks : (backToKw pos (keywordEach kws g.X.env)).filterMap (·.1) = ks := by rfl)
    (hpl : ((backTo pos (starEach [] g.X.env)).any (·.1) || (backToKw pos (keywordEach kws g.X.env)).any (·.1.isNone)) = false := by rfl) : EvE g (.Call (.Name x p) [] kws pos) (eFK n F pi aNil Bs) := by
  obtain ⟨f, fd, ps, F1, hm, hkp, hb⟩ := cl.ex
  refine ⟨fun pins s σ H Q I h => ?_⟩
  obtain h' := kw_in (k := k) (f := f) (fd := fd) (ps := ps) hn hj cl.lt h
  refine wpAny_Call_Name_kw (ld_glob I hg hm ?_ hdb)
  refine PySem.W.callWith_KW0 (h₀ := g.X.base) I.ok.mod.kin hkp hall ?_ hpl
  obtain ⟨m, ρ, s0, rel, h'⟩ := h'
  have h'' := h' m H (Ext.refl _ _) rel [] rfl
  refine thn (hkw.run pos pins s σ H _ I h'') fun ws s2 ⟨zs, H2, I2, rz, q2, l2⟩ => ⟨I2.kIn, ?_⟩
  rw [hks]
  exact run_fnKw (E := WE g.W) F1 (o.hr.mono hk) hb (passAt o.tk σ) cl.lt I2 .nil rz rfl (by simpa [hn] using l2) (q2 l2)
/-- f(e, .., k = e, ..) -/
theorem ev_callK {k j n : Nat} {x : Str} {F : List D → S → Out D} {p : Pos} {kws : List Keyword} {ks : List Str} {pi : List Nat} {Bs : Ar} (o : g.Ok) (cl : g.KwCall k x n F j ks pi) (hk : k ≤ g.k) (ha : EvA g (e :: es) As) (hkw : EvK g kws Bs) (hl : ∀ ρ s ds s', As ρ s = .ok ds s' → ds.length = j) (hn : n = j + ks.length := by rfl) (hj : pi.length = n := by rfl) (hg : Gl g.X x := by rfl) (hdb : (x == ("__debug__" : Str)) = false := by decide)
    (hall : (backToKw pos (keywordEach kws g.X.env)).all (·.1.isSome) = true := by rfl) (hks : (backToKw pos (keywordEach kws g.X.env)).filterMap (·.1) = ks := by rfl) (he : starEach (e :: es) g.X.env = (false, eval e g.X.env) :: starEach es g.X.env := by rfl)
    (hpl : ((backTo pos (starEach (e :: es) g.X.env)).any (·.1) || (backToKw pos (keywordEach kws g.X.env)).any (·.1.isNone)) = false := by rfl) : EvE g (.Call (.Name x p) (e :: es) kws pos) (eFK n F pi As Bs) := by
  obtain ⟨f, fd, ps, F1, hm, hkp, hb⟩ := cl.ex
  refine ⟨fun pins s σ H Q I h => ?_⟩
  obtain h' := kw_in (k := k) (f := f) (fd := fd) (ps := ps) hn hj cl.lt h
  refine wpAny_Call_Name_kw (ld_glob I hg hm ?_ hdb)
  have h2 : tA g.X.K g.ca g.W As σ H fun vs H1 => vs.length = j ∧ tA g.X.K g.ca g.W Bs σ H1 fun zs H2 => (vs.length + zs.length = n → spF g.X.K g.ca n F (arr pi (vs ++ zs)) H2 Q (WE g.W σ)) ∧ vs.length + zs.length = n := by
    obtain ⟨m, ρ, s0, rel, h'⟩ := h'
    refine ⟨m, ρ, s0, rel, ?_⟩
    cases eA : As ρ s0 with
    | no => rw [eA] at h'; exact h'
    | ex y s1 => rw [eA] at h'; exact h'
    | ok ds s1 =>
      rw [eA] at h'
      intro m1 H1 x1 r1 vs rvs
      exact ⟨by rw [← rvs.len]; exact hl ρ s0 ds s1 eA, h' m1 H1 x1 r1 vs rvs⟩
  refine PySem.W.callWith_KW (h₀ := g.X.base) I.ok.mod.kin hkp hall (thn (ha.run pos pins s σ H _ I h2) fun us s1 ⟨vs, H1, I1, r, l1, q⟩ => ?_) hpl he
  refine thn (hkw.run pos pins s1 σ H1 _ I1 q) fun ws s2 ⟨zs, H2, I2, rz, q2, l2⟩ => ⟨I2.kIn, ?_⟩
  rw [hks]
  exact run_fnKw (E := WE g.W) F1 (o.hr.mono hk) hb (passAt o.tk σ) cl.lt I2 r rz l1 (by omega) (q2 l2)
end
end Mo

set_option Elab.async false
set_option linter.all false
set_option maxRecDepth 100000
set_option maxHeartbeats 4000000
/-! own exceptions whose __init__ says super().__init__(..) and keeps its parameters as fields -/
namespace Mo
open PySem PySem.Spec PyProof.Rows L2
/-- the context of such an __init__ -/
def cxI (P : Program) (w : World) (K : PySem.W.Frag) (mg : Str → Option Value) (base : Heap) (N : List Str) (qual : Str) (scope : Scope) (f cda cc : Addr) (A : Around) (outer : List PySem.Env) (s : Shared) (H : Hp) (E : XK) : Cx where
  prog := P
  w := w
  K := K
  mg := mg
  base := base
  A := A.deeper (PySem.W.ksEnv qual scope s.heap.objs.size f (.ref cda) cc)
  N := N
  s_0 := s
  H_0 := H
  env := PySem.W.ksEnv qual scope s.heap.objs.size f (.ref cda) cc
  outer := outer
  stack := PySem.W.ksEnv qual scope s.heap.objs.size f (.ref cda) cc :: outer
  ex := []
  calm := true
  fn := fun x => x != "__class__"
  pn := []
  xe := fun e s' => wpAny (model P w) (A.deeper (PySem.W.ksEnv qual scope s.heap.objs.size f (.ref cda) cc)) (leaving (PySem.W.ksEnv qual scope s.heap.objs.size f (.ref cda) cc) e) (fun _ s'' => L2.CX P w outer H s E e s'') (fun e' s'' => L2.CX P w outer H s E e' s'') s'
/-- names of such an __init__ -/
structure InScope (N : List Str) (sc : Scope) : Prop where
  kind : sc.kind = .function
  co : sc.isCoroutine = false
  gen : sc.isGenerator = false
  nd : N.Nodup
  par : ∀ x ∈ N, sc.names.lookup x = some .local
  nocell : ∀ y ∈ sc.names, y.2 ≠ .cell
  free : ∀ y ∈ sc.names, y.2 = .free → y.1 = ("__class__" : Str)
  hks : sc.names.lookup ("super" : Str) = some .globalImplicit
  hkc : sc.names.lookup ("__class__" : Str) = some .free
/-- what the written part says of the class at C and of its __init__ -/
structure InK (P : Program) (K : PySem.W.Frag) (mg : Str → Option Value) (C f cda cc : Addr) (qual : Str) (params : Arguments) (body : List Stmt) (scope : Scope) (fd : FuncData) (fs : List Str) : Prop where
  lk : ∃ oc od dV kV doc pm an ct osl, K.lookup f = some ⟨oc, od, .func fd, osl⟩ ∧ fd = PySem.W.ksFn "__init__" qual params body scope dV kV doc pm an (.ref cda) ct cc ∧ dV = .none
  hcd : PySem.W.codeIn K (.ref cda) qual = true
  code : ∃ ccl cdd vs ccs file tf, K.lookup cda = some ⟨ccl, cdd, .fields vs, ccs⟩ ∧ vs[2]? = some (.str file tf) ∧ ((P.main.file : Str) == file) = true
  cell : ∃ cl cld csl, K.lookup cc = some ⟨cl, cld, .cell (some (.ref C)), csl⟩
  T : OexC K C
  sub : PySem.W.mroIn K C (.ref C) = some true
  sup : PySem.W.ks_superIn K C C "__init__" = some (some (.builtin "ValueError.__init__"))
  isVE : PySem.W.subIn K (.ref C) (.type "ValueError") = some true
  noany : PySem.W.nsIn K cStatics "thirdparty.any" = some none
  top : (P.main.scope.names.lookup ("super" : Str)).isSome = false
  hm : mg "super" = none
  init : PySem.W.findIn K (.ref C) "__init__" = some (some (.ref f))
  tI : PySem.W.typeIn K (.ref f) = some (.type "function")
  fld : ∀ x ∈ fs, PySem.W.findIn K (.ref C) x = some none
theorem lookup_rev {x : Str} {v : Value} : ∀ {P : List Str} {us : List Value} {i : Nat}, P.Nodup → P[i]? = some x → us[i]? = some v → (P.zip us).reverse.lookup x = some v
  | [], _, _, _, h, _ => by simp at h
  | _ :: _, [], _, _, _, h => by simp at h
  | p :: P, u :: us, 0, nd, h1, h2 => by
    simp at h1 h2
    subst h1 h2
    rw [List.zip_cons_cons, List.reverse_cons, List.lookup_append]
    have : (P.zip us).reverse.lookup p = none := by
      rw [List.lookup_eq_none_iff]
      intro q hq
      have := List.of_mem_zip (List.mem_reverse.mp hq)
      have hne : p ≠ q.1 := fun e => (List.nodup_cons.mp nd).1 (e ▸ this.1)
      simpa using hne
    rw [this]
    simp [List.lookup]
  | p :: P, u :: us, i + 1, nd, h1, h2 => by
    rw [List.zip_cons_cons, List.reverse_cons, List.lookup_append, lookup_rev (List.nodup_cons.mp nd).2 (by simpa using h1) (by simpa using h2)]
    rfl
theorem inv_init {P : Program} {w : World} {K : PySem.W.Frag} {mg : Str → Option Value} {base : Heap} {ps : List Str} {qual : Str} {scope : Scope} {f cda cc : Addr} {A : Around} {outer : List PySem.Env} {s : Shared} {H : Hp} {E : XK} {us : List Value} {vs : List V} {h1 : Heap} {tk : Nat}
    (S : InScope ps scope) (hd : A.handled = none) (e0 : Env0 P w K mg base A outer s H) (hl : vs.length = ps.length) (r : Vals vs us) (hcc : ∃ v, base.IsCell cc (some v)) (hns : h1.Ns s.heap.objs.size (fun x => (ps.zip us).reverse.lookup x)) (hk : ∀ b o, s.heap.get? b = some o → h1.get? b = some o) :
    Inv (cxI P w K mg base ps qual scope f cda cc A outer s H E) [] (vs.map some) H { s with heap := h1, toks := tk } := by
  have cl : ∀ {x : Str} {c : Addr}, ([(("__class__" : Str), cc)] : List (Str × Addr)).lookup x = some c → x = "__class__" ∧ c = cc := fun {x c} h => by
    have e := PySem.mem_of_lookup h
    simp at e
    exact e
  obtain ⟨cv, co, hco, hcd⟩ := hcc
  have hc0 := e0.bs cc _ hco
  have noA : ∀ b : Addr, b ∉ (cxI P w K mg base ps qual scope f cda cc A outer s H E).ex := fun b z => absurd (show b ∈ ([] : List Addr) from z) (by simp)
  refine ⟨⟨e0.mod, S.kind, rfl, rfl, Nat.le_refl _, fun y z c h1 h2 => by rw [(cl h1).1, (cl h2).1], fun y hy => ?_, fun y c hfn h => ?_, fun _ => hd, Around.frames_deeper e0.frames, .inr ⟨rfl, rfl⟩, fun b z => absurd z (noA b), e0.bs, e0.bsz, fun b _ _ => noA b, fun b z => absurd z (noA b), e0.funs, e0.frf⟩,
    rfl, e0.bare, Un.kept hk, ⟨_, hns, fun i y v h1 h2 h3 => ?_⟩, fun y c h => ?_, e0.hok.fresh (Nat.le_refl _), fun y c h => ?_, fun p hp => absurd (show p ∈ ([] : List (Addr × Obj)) from hp) (by simp), e0.hok.kept hk, ?_⟩
  · have hy : scope.names.lookup y = some .cell ∨ scope.names.lookup y = some .free := hy
    rcases hy with hy | hy
    · exact absurd rfl (S.nocell _ (PySem.mem_of_lookup hy))
    · refine ⟨cc, ?_⟩
      have := S.free _ (PySem.mem_of_lookup hy) rfl
      show ([(("__class__" : Str), cc)] : List (Str × Addr)).lookup y = some cc
      rw [show y = ("__class__" : Str) from this]
      rfl
  · have := (cl h).1
    subst this
    have hfn : (("__class__" : Str) != ("__class__" : Str)) = true := hfn
    simp at hfn
  · rw [List.getElem?_map] at h2
    cases e : vs[i]? with
    | none => rw [e] at h2; cases h2
    | some a =>
      rw [e] at h2
      cases h2
      obtain ⟨u, hu, rv⟩ := r.get e
      exact ⟨u, rv, .inl ⟨S.par y (List.mem_of_getElem? h1), lookup_rev S.nd h1 hu⟩⟩
  · rw [(cl h).2]
    exact ⟨_, co, hk _ _ hc0.1, hcd⟩
  · rw [(cl h).2]
    exact hc0.2
  · show (vs.map some).length = ps.length
    rw [List.length_map, hl]
/-- the fields stored, the last first -/
def accF : List Str → List V → List (Str × V) → List (Str × V)
  | f :: fs, w :: ws, a => accF fs ws ((f, w) :: a)
  | _, _, a => a
/-- what __init__ promises -/
def spI (K : PySem.W.Frag) (C : Addr) (fs : List Str) : Sp := fun vs H Q _ => ∃ a ws, vs = .ref a :: ws ∧ ws.length = fs.length ∧ H a = some (exo a C none) ∧
  ∀ d H2, H d = none → d ≠ a → H2 a = some (exo a C (some d)) → H2 d = some (exd d (accF fs ws [])) → (∀ b, b ≠ a → b ≠ d → H2 b = H b) → Q .non H2
/-- the stores -/
def tSts (K : PySem.W.Frag) : List Str → Nat → TS
  | [], _ => tNext
  | f :: fs, i => tSeq (tOst K f (tVar 0) (tVar i)) (tSts K fs (i + 1))
theorem sts_run {K : PySem.W.Frag} {C a : Addr} (T : OexC K C) {D : Ends} {σ : L2.St} {H0 : Hp} (h0 : σ[0]? = some (some (.ref a))) {d : Addr} (hda : d ≠ a) : ∀ {fs : List Str} {ws : List V} {i : Nat} {acc : List (Str × V)} {H : Hp},
    (∀ x ∈ fs, PySem.W.findIn K (.ref C) x = some none) → fs.length = ws.length → (∀ j w, ws[j]? = some w → σ[i + j]? = some (some w)) → acc.length + fs.length ≤ 900 → H a = some (exo a C (some d)) → H d = some (exd d acc) → (∀ b, b ≠ a → b ≠ d → H b = H0 b) →
    (∀ H2, H2 a = some (exo a C (some d)) → H2 d = some (exd d (accF fs ws acc)) → (∀ b, b ≠ a → b ≠ d → H2 b = H0 b) → D.nx σ H2) → tSts K fs i D σ H
  | [], [], i, acc, H, hf, hl, hσ, hz, ea, ed, hb, h => h H ea ed hb
  | [], _ :: _, _, _, _, _, hl, _, _, _, _, _, _ => by simp at hl
  | _ :: _, [], _, _, _, _, hl, _, _, _, _, _, _ => by simp at hl
  | f :: fs, w :: ws, i, acc, H, hf, hl, hσ, hz, ea, ed, hb, h => by
    refine ⟨w, by simpa using hσ 0 w rfl, .ref a, h0, a, C, rfl, T, hf f (List.mem_cons_self ..), .inr ⟨d, acc, ea, ed, by simp at hz; omega, ?_⟩⟩
    refine sts_run T h0 hda (fs := fs) (ws := ws) (i := i + 1) (acc := (f, w) :: acc) (fun x hx => hf x (List.mem_cons_of_mem _ hx)) (by simpa using hl) (fun j w' e => ?_) (by simp at hz ⊢; omega) ((upd_ne (Ne.symm hda)).trans ea) upd_same (fun b h1 h2 => (upd_ne h2).trans (hb b h1 h2)) h
    have := hσ (j + 1) w' (by simpa using e)
    rw [show i + 1 + j = i + (j + 1) by omega]
    exact this
/-- the first store makes the dict -/
theorem sts_first {K : PySem.W.Frag} {C a : Addr} (T : OexC K C) {D : Ends} {σ : L2.St} {H : Hp} (h0 : σ[0]? = some (some (.ref a))) {f : Str} {fs : List Str} {ws : List V} (hf : ∀ x ∈ f :: fs, PySem.W.findIn K (.ref C) x = some none) (hl : (f :: fs).length = ws.length) (hσ : ∀ j w, ws[j]? = some w → σ[1 + j]? = some (some w)) (hz : (f :: fs).length ≤ 900)
    (ea : H a = some (exo a C none)) (h : ∀ d H2, H d = none → d ≠ a → H2 a = some (exo a C (some d)) → H2 d = some (exd d (accF (f :: fs) ws [])) → (∀ b, b ≠ a → b ≠ d → H2 b = H b) → D.nx σ H2) : tSts K (f :: fs) 1 D σ H := by
  match ws, hl, hσ, h with
  | [], hl, _, _ => simp at hl
  | w :: ws, hl, hσ, h =>
    refine ⟨w, by simpa using hσ 0 w rfl, .ref a, h0, a, C, rfl, T, hf f (List.mem_cons_self ..), .inl ⟨ea, fun d nd hda => ?_⟩⟩
    refine sts_run (H0 := H) T h0 hda (fs := fs) (ws := ws) (i := 2) (acc := [(f, w)]) (fun x hx => hf x (List.mem_cons_of_mem _ hx)) (by simpa using hl) (fun j w' e => ?_) (by simp at hz ⊢; omega) upd_same ((upd_ne hda).trans upd_same) (fun b h1 h2 => (upd_ne h1).trans (upd_ne h2)) fun H2 e1 e2 e3 => h d H2 nd hda e1 e2 e3
    have := hσ (j + 1) w' (by simpa using e)
    rw [show 2 + j = 1 + (j + 1) by omega]
    exact this
/-- ValueError.__init__, bound, called -/
theorem veinit_bound {X : Cx} {pins : List (Addr × Obj)} {σ : L2.St} {H : Hp} {s : Shared} {a C u : Addr} {us : List Value} {Q : Value → Shared → Prop} {A : Around} {E : Value → Shared → Prop} (T : OexC X.K C) (I : Inv X pins σ H s) (e : H a = some (exo a C none)) (hu : s.heap.get? u = some (PySem.W.kxs_mw "ValueError.__init__" a)) (hl : us.length ≤ sizeLine)
    (h : ∀ s', Inv X pins σ H s' → Q .none s') : wpAny (model X.prog X.w) A (call (.ref u) us) Q E s := by
  obtain ⟨nm, q, N, bs, bm, sn, sub, ab, col, dd, k0, k1, k2, k3, k5, hC, hbm⟩ := T.cls
  obtain ⟨t1, ho⟩ := exo_at I.hok e
  have hCs := I.kIn _ _ hC
  have fin : ∀ h', (∀ b o, b ≠ a → s.heap.get? b = some o → h'.get? b = some o) → h'.get? a = some ({ cls := .ref C, dict := none, data := .fields #[.ref s.heap.objs.size, .none, .none, .none, .bool false, .none] } : Obj) → Q .none { s with heap := h' } := fun h' k hx => by
    have J := I.write (t' := s.toks) (x := a) (e := a) (o := exo a C none) (by rw [e]; exact True.intro) (.inl rfl) k ⟨_, hx⟩ (exo_ok hx)
    have eu : upd H a (exo a C none) = H := by
      funext b
      by_cases hb : b = a
      · rw [hb, upd_same, e]
      · rw [upd_ne hb]
    rw [eu] at J
    exact h _ J
  obtain ⟨hh, g, d, tk, os⟩ := s
  refine wpAny_call (codeAny_of_tree ?_)
  show wpAny _ A.in1 (callAny (.ref u) ⟨us, []⟩) _ _ _
  simp only [callAny]
  refine wpAny_bind (wpAny_load hu ?_)
  simp only [PySem.W.kxs_mw, show (Value.type "method-wrapper" == Value.type "method" || Value.type "method-wrapper" == Value.type "builtin_function_or_method" || Value.type "method-wrapper" == Value.type "method-wrapper") = true by decide, if_true]
  refine PySem.W.KFB.if_so (by decide) ?_
  refine wpAny_bind (PySem.W.check_bound_init F.excBase_ValueError.toExcCallFacts hCs ho rfl ?_)
  refine wpAny_bind (wpAny_pure (wpAny_pure ?_))
  refine ⟨plainId_quiet F.excBase_ValueError.init.plain _, codeAny_builtin F.excBase_ValueError.initEntry ?_⟩
  exact PySem.W.exc_init_tree (cls := .ref C) (t0 := t1) (dv := none) (c2 := .none) (c3 := .none) (b4 := .bool false) ho hl fun h' k e' _ => fin h' k e'
end Mo

set_option Elab.async false
set_option linter.all false
set_option maxRecDepth 100000
set_option maxHeartbeats 4000000
namespace Mo
open PySem PySem.Spec PyProof.Rows L2
theorem fn_init {P : Program} {w : World} {K : PySem.W.Frag} {mg : Str → Option Value} {base : Heap} {C f cda cc : Addr} {qual : Str} {params : Arguments} {scope : Scope} {fd : FuncData} {f0 : Str} {fs : List Str} {self : Str} {pargs : List Str} {p0 p1 apos cpos pos : Pos} {e : Expr} {es : List Expr} {rest : List Stmt} {ar : Arg}
    (D : InK P K mg C f cda cc qual params (.Expr (.Call (.Attribute (.Call (.Name "super" p0) [] [] p1) "__init__" apos) (e :: es) [] cpos) pos :: rest) scope fd (f0 :: fs)) (S : InScope (self :: pargs) scope) (hp : (params.posonlyargs ++ params.args).head? = some ar) (har : ar.arg = self) (hself : (self == ("__classdict__" : Str)) = false)
    (hin : K.In base) (hpl : pargs.length = (f0 :: fs).length) (hz : (f0 :: fs).length ≤ 900)
    (ha : ∀ (A : Around) (outer : List PySem.Env) (s : Shared) (H : Hp) (E : XK), ∃ ta, PA (cxI P w K mg base (self :: pargs) qual scope f cda cc A outer s H E) (e :: es) ta ∧ ∀ σ H Q, (∀ vs, vs.length ≤ 900 → Q vs H) → (∃ ws : List V, ws.length = pargs.length ∧ ∀ j w, ws[j]? = some w → σ[1 + j]? = some (some w)) → ta σ H Q)
    (hr : ∀ (A : Around) (outer : List PySem.Env) (s : Shared) (H : Hp) (E : XK), PSs (cxI P w K mg base (self :: pargs) qual scope f cda cc A outer s H E) rest (tSts K (f0 :: fs) 1))
    (hs : ∀ env : PySem.Env, starEach (e :: es) env = (false, eval e env) :: starEach es env := by intro _; rfl) (hpls : ∀ env : PySem.Env, (backTo cpos (starEach es env)).any (·.1) = false := by intro _; rfl)
    (hexp : ∀ env : PySem.Env, swapsWith (.Call (.Attribute (.Call (.Name "super" p0) [] [] p1) "__init__" apos) (e :: es) [] cpos) none pos.line env = pure false := by intro _; rfl)
    (hcall : ∃ pl, ∀ env : PySem.Env, eval (.Call (.Attribute (.Call (.Name "super" p0) [] [] p1) "__init__" apos) (e :: es) [] cpos) env = (do
      let ov ← attributeBase (.Call (.Name "super" p0) [] [] p1) "__init__" env (eval (.Call (.Name "super" p0) [] [] p1) env)
      standAt apos.atName
      let (f, first) ← holding [ov] (getMethod ov "__init__" pl)
      callWith cpos f first (backTo cpos (starEach (e :: es) env)) []) := by exact ⟨_, fun _ => rfl⟩) :
    FnOk P w K mg base (L2.CX P w) 1 f fd (self :: pargs) (spI K C (f0 :: fs)) := by
  obtain ⟨oc, od, dV, kV, doc, pm, an, ct, osl, lk, rfl, rfl⟩ := D.lk
  obtain ⟨pl, hcall⟩ := hcall
  refine ⟨fun vs H Q E h => ?_, fun A outer s H args us vs Q E hrm e0 hb r hsp => ?_⟩
  · obtain ⟨a, ws, rfl, hl, _⟩ := h
    simp [hl, hpl]
  have hlv : vs.length = (self :: pargs).length := by
    obtain ⟨a, ws, rfl, hl, _⟩ := hsp
    simp [hl, hpl]
  have KX : K.In s.heap := e0.mod.kin.keeps fun b o e => (e0.bs b o e).1
  have lim : s.heap.NoLimit := e0.mod.nolimit.keeps fun b o e => (e0.bs b o e).1
  obtain ⟨cl, cld, csl, hcell⟩ := D.cell
  obtain ⟨ccl, cdd, cvs, ccs, file, tf, hcode, hfile, hmain⟩ := D.code
  refine PySem.ks_codeAny_call_defAt hrm.depth (KX _ _ lk) rfl lim (PySem.W.codeRec_of KX D.hcd) rfl hb S.nocell (fun y hy => S.par y.1 (List.of_mem_zip hy).1) (fun h₀ hns hk => ?_) S.co S.gen S.kind
  obtain ⟨a, ws, rfl, hl, ea, hQ⟩ := hsp
  -- the context
  let X := cxI P w K mg base (self :: pargs) qual scope f cda cc A outer s H E
  have hcc : ∃ v, base.IsCell cc (some v) := ⟨_, _, hin _ _ hcell, rfl⟩
  have I : Inv X [] ((V.ref a :: ws).map some) H { s with heap := h₀, toks := s.toks + ((self :: pargs).zip us).length } := inv_init S hrm.hd e0 hlv r hcc hns hk
  have hσ0 : ((V.ref a :: ws).map some)[0]? = some (some (V.ref a)) := rfl
  have hσ : ∀ j w, ws[j]? = some w → ((V.ref a :: ws).map some)[1 + j]? = some (some w) := fun j w' e' => by
    rw [List.getElem?_map, show 1 + j = j + 1 by omega, List.getElem?_cons_succ, e']
    rfl
  have fin : ∀ {σ' : L2.St} {H' : Hp} {v : V} {u : Value} {s' : Shared}, Inv X [] σ' H' s' → RelV v u → Q v H' → CE outer P w H s Q u s' :=
    fun {σ' H' v u s'} J rv q => ⟨v, H', J.os, J.bare, J.base, J.hok, rv, q⟩
  -- the stores
  have stores : ∀ s', Inv X [] ((V.ref a :: ws).map some) H s' → wpAny (model P w) X.A (execs rest X.env) (fun fl s' => CR (L2.CX P w) outer P w H s Q E (.ok (.ret (match fl with | .ret v => v | _ => .none))) s') X.xe s' := fun s' J => by
    refine thn ((hr A outer s H E).run [] s' _ H { nx := fun _ H' => Q .non H', rt := Q } J ?_) fun fl s2 hs2 => ?_
    · exact sts_first (C := C) D.T (D := { nx := fun _ H' => Q .non H', rt := Q }) hσ0 D.fld hl.symm hσ hz ea fun d H2 h1 h2 h3 h4 h5 => hQ d H2 h1 h2 h3 h4 h5
    · cases fl with
      | ret u =>
        obtain ⟨v, σ', H', J, rv, q⟩ := hs2
        exact fin J rv q
      | next =>
        obtain ⟨σ', H', J, q⟩ := hs2
        exact fin (v := V.non) (u := Value.none) J rfl q
      | brk =>
        obtain ⟨_, _, _, q⟩ := hs2
        exact False.elim q
      | cont =>
        obtain ⟨_, _, _, q⟩ := hs2
        exact False.elim q
  refine PySem.ks_wpAt_execs_cons (PySem.ks_wpAt_Expr_any ?_ (show interactive X.env = false from by unfold interactive; rw [show X.env.scope.kind = ScopeKind.function from S.kind] <;> rfl) (hexp _))
  refine PySem.ks_wpAt_MethodCall (pl := pl) ?_ (hcall _)
  -- super()
  obtain ⟨mL, hnL, hlL⟩ := I.loc
  obtain ⟨uS, ruS, lS⟩ := hlL 0 self (V.ref a) rfl hσ0 (.inl (S.par self (List.mem_cons_self ..)))
  obtain rfl : uS = Value.ref a := ruS
  have hmS : mL self = some (.ref a) := by
    rcases lS with ⟨_, h⟩ | ⟨h, _⟩
    · exact h
    · have h2 : scope.names.lookup self = some .local := S.par self (List.mem_cons_self ..)
      have h3 : scope.names.lookup self = some .cell ∨ scope.names.lookup self = some .free := h
      rw [h2] at h3
      rcases h3 with h3 | h3 <;> cases h3
  have KI := I.kIn
  obtain ⟨t1, ho⟩ := exo_at I.hok ea
  obtain ⟨nm, q, N, bs, bm, sn, sub, ab, col, dd, k0, k1, k2, k3, k5, hC, hbm⟩ := D.T.cls
  have hcl : PySem.W.clsIn K C = some { name := nm, bases := bs, mro := .ref C :: bm, ns := N, qualname := q, hasDict := true, slotNames := sn, subclasses := sub, abstract := ab, collection := col, hasDel := false } := by unfold PySem.W.clsIn; rw [hC] <;> rfl
  have IA : PySem.W.InstAt h₀ a { cls := .ref C, dict := none, data := .fields #[.ref t1, .none, .none, .none, .bool false, .none] } C none := ⟨ho, rfl, rfl, trivial⟩
  obtain ⟨mb, hb1, hb2⟩ := e0.mod.blt
  have bk : ∀ b o, base.get? b = some o → h₀.get? b = some o := fun b o e => I.bk b o e
  refine PySem.ks_wpAt_super_base (env := X.env) S.hks S.hkc (by decide) rfl (KI _ _ lk) rfl hp rfl (KI _ _ hcode) rfl hfile hmain D.top ?_
  refine PySem.W.ks_loadName_global S.kind S.hks (Calls.loadGlobal_builtin (env := X.env) (mg := mg) (mb := mb) (e0.mod.glob.keeps bk) D.hm (hb1.keeps bk) ((hb2 _ (by decide)).trans (show bootBuiltins ("super" : Str) = some (.type "super") from by first | rfl | kernel_rfl)) ⟨rfl, ?_⟩)
  refine wpAny_loadName_free S.kind S.hkc (c := cc) rfl ⟨_, KI _ _ hcell, rfl⟩ ?_
  rw [har]
  refine wpAny_loadName_local S.kind (S.par self (List.mem_cons_self ..)) hnL hmS ?_
  have hCs := KI _ _ hC
  refine PySem.ks_wpAny_isType_cls hCs rfl ⟨rfl, ?_⟩
  refine PySem.ks_wpAny_call_super hCs rfl ho rfl (fun c e => by cases e) (PySem.W.looks_mroIn KI D.sub) (fun h' hso hk' => ?_)
  have I2 : Inv X [] ((V.ref a :: ws).map some) H { s with heap := h', toks := s.toks + ((self :: pargs).zip us).length } := I.kept (t' := s.toks + ((self :: pargs).zip us).length) hk'
  have KI2 := I2.kIn
  have ho2 := hk' _ _ ho
  have IA2 : PySem.W.InstAt h' a { cls := .ref C, dict := none, data := .fields #[.ref t1, .none, .none, .none, .bool false, .none] } C none := ⟨ho2, rfl, rfl, trivial⟩
  have hmro : PySem.W.Looks (model P w) h' (mroOf (.ref C)) (.ref C :: bm) := (PySem.W.looks_clsIn KI2 hcl).andThen .now
  have hsup : PySem.W.alongIn K "__init__" (((Value.ref C :: bm).dropWhile (· != .ref C)).drop 1) = some (some (.builtin "ValueError.__init__")) := by
    have z := D.sup
    unfold PySem.W.ks_superIn at z
    rw [hcl] at z
    exact z
  refine PySem.W.kxs_getMethod PySem.W.kxs_ValueError hso (PySem.W.looks_opaque KI2 D.noany) hmro rfl KI2 hsup (IA2.type.andThen (PySem.W.looks_subIn KI2 D.isVE)) (PySem.W.ks_ne KI2 IA2 hcl) (by decide) ?_
  have hk3 : ∀ b o, h'.get? b = some o → (h'.push (PySem.W.kxs_mw "ValueError.__init__" a)).get? b = some o := fun b o e => Heap.get?_push_of_some _ e
  have I3 := I2.kept (t' := s.toks + ((self :: pargs).zip us).length + 1) hk3
  have hu : (h'.push (PySem.W.kxs_mw "ValueError.__init__" a)).get? h'.objs.size = some (PySem.W.kxs_mw "ValueError.__init__" a) := Heap.get?_push_at rfl rfl
  -- the wrapper is pinned
  have I4 : Inv X [(h'.objs.size, PySem.W.kxs_mw "ValueError.__init__" a)] ((V.ref a :: ws).map some) H { s with heap := h'.push (PySem.W.kxs_mw "ValueError.__init__" a), toks := s.toks + ((self :: pargs).zip us).length + 1 } :=
    ClX.pin_new (t' := s.toks + ((self :: pargs).zip us).length + 1) (s := { s with heap := h', toks := s.toks + ((self :: pargs).zip us).length }) I2 hk3 (Nat.le_refl _) hu fun v q => nomatch q
  obtain ⟨ta, hta, htr⟩ := ha A outer s H E
  refine PySem.W.kxs_callWith (i := "ValueError.__init__") (x := a) (by rw [hs]; show (false || (backTo cpos (starEach es X.env)).any (·.1)) = false; rw [hpls] <;> rfl) ?_
  have hA := hta.run cpos _ _ _ H (fun vs H' => vs.length ≤ 900 ∧ H' = H) I4 (htr _ _ _ (fun vs hv => ⟨hv, rfl⟩) ⟨ws, by rw [hl, hpl], hσ⟩)
  rw [hs] at hA ⊢
  refine Calls.evalArgs_plain (thn hA fun us' s5 hu5 => ?_)
  obtain ⟨vs', H5, I5, r5, hv5, rfl⟩ := hu5
  have hu5 := (I5.pin (h'.objs.size, PySem.W.kxs_mw "ValueError.__init__" a) (List.mem_append_right _ List.mem_cons_self)).1
  refine ⟨hu5, ?_⟩
  have I6 : Inv X [] ((V.ref a :: ws).map some) H5 s5 := ClX.unpin I5
  show wpAny _ _ (call (.ref h'.objs.size) us' []) _ _ _
  exact veinit_bound D.T I6 ea hu5 (by rw [← r5.length, sizeLine_eq]; omega) fun s' J => wpAt_of_wpAny (stores s' J)
end Mo

set_option Elab.async false
set_option linter.all false
set_option maxRecDepth 100000
set_option maxHeartbeats 4000000
/-! raise, try -/
namespace Mo
open PySem PySem.Spec PyProof.Rows L2
/-- an exception class that may be made: n parameters, kept as fields -/
structure ExcOk (P : Program) (w : World) (K : PySem.W.Frag) (mg : Str → Option Value) (base : Heap) (ca : Str → Addr) (k : Nat) (x : Str) (fs : List Str) : Prop where
  T : OexC K (ca x)
  hm : mg x = some (.ref (ca x))
  ex : ∃ (f : Addr) (fd : FuncData) (ps : List Str), FnOk P w K mg base (L2.CX P w) k f fd ps (spI K (ca x) fs) ∧ PySem.W.findIn K (.ref (ca x)) "__init__" = some (some (.ref f)) ∧ PySem.W.typeIn K (.ref f) = some (.type "function") ∧ Binds K fd ps []
abbrev G.Exc (g : G) (k : Nat) (x : Str) (fs : List Str) : Prop := ExcOk g.X.prog g.X.w g.X.K g.X.mg g.X.base g.ca k x fs
@[simp] def bRaise (x : Str) (fs : List Str) (As : Ar) (ρ : Env) (s : S) : Fl := (As ρ s).fl ρ fun ds s1 => if ds.length = fs.length ∧ ds.length ≤ 900 ∧ fs.Nodup then .ex ⟨x, fs.zip ds⟩ ρ s1 else .no
theorem accF_lookup {K : PySem.W.Frag} {H : Hp} {m : List Addr} : ∀ {fs : List Str} {ds : List D} {vs : List V} {acc : List (Str × V)} {f : Str} {dv : D}, fs.Nodup → fs.length = ds.length → RepDs K H m ds vs → (fs.zip ds).lookup f = some dv → ∃ v, (accF fs vs acc).lookup f = some v ∧ RepD K H m dv v
  | [], _, _, _, _, _, _, _, _, h => by simp at h
  | _ :: _, [], _, _, _, _, _, hl, _, _ => by simp at hl
  | f' :: fs, d :: ds, vs, acc, f, dv, nd, hl, r, h => by
    obtain ⟨v, r', rfl, h1, h2⟩ := r
    rw [List.zip_cons_cons] at h
    have past : ∀ {fs : List Str} {ws : List V} {acc : List (Str × V)}, f ∉ fs → (accF fs ws acc).lookup f = acc.lookup f := by
      intro fs
      induction fs with
      | nil => intro ws acc _; cases ws <;> rfl
      | cons g fs ih =>
        intro ws acc hn
        cases ws with
        | nil => rfl
        | cons w ws =>
          simp only [List.mem_cons, not_or] at hn
          show (accF fs ws ((g, w) :: acc)).lookup f = _
          rw [ih hn.2, lookup_put, if_neg hn.1]
    by_cases e : f = f'
    · subst e
      have : dv = d := by simpa [List.lookup] using h.symm
      subst this
      refine ⟨v, ?_, h1⟩
      show (accF fs r' ((f, v) :: acc)).lookup f = _
      rw [past (List.nodup_cons.mp nd).1, lookup_put, if_pos rfl]
    · have e' : (f == f') = false := by simpa using e
      rw [List.lookup, e'] at h
      exact accF_lookup (acc := (f', v) :: acc) (List.nodup_cons.mp nd).2 (by simpa using hl) h2 h
section
variable {g : G} {a b c e o elt tg iter : Expr} {A B C_ O : Ex} {U : Te} {pos pos' cpos apos : Pos} {es ifs : List Expr} {As : Ar} {Sg : Sr} {T : Pt} {own : List (Str × Nat)} {scope : Scope}
theorem es_raise {k : Nat} {x : Str} {fs : List Str} {p : Pos} (o : g.Ok) (cl : g.Exc k x fs) (hk : k + 1 ≤ g.k) (ha : EvA g (e :: es) As) (hc : g.X.calm = true := by rfl) (hg : Gl g.X x := by rfl) (hdb : (x == ("__debug__" : Str)) = false := by decide)
    (he : starEach (e :: es) g.X.env = (false, eval e g.X.env) :: starEach es g.X.env := by rfl) (hpl : (backTo cpos (starEach es g.X.env)).any (·.1) = false := by rfl) : EvS g (.Raise (some (.Call (.Name x p) (e :: es) [] cpos)) none pos) (bRaise x fs As) := by
  obtain ⟨f, fd, ps, F1, hi, ht, hb⟩ := cl.ex
  have hx : Passes (L2.CX g.X.prog g.X.w) g.X (fun _ _ _ => False) := fun pins σ H s e s' I c => passes_call o.tk (fun _ _ _ _ z => z.elim) pins σ H s e s' I c
  refine PS.imp (ps_raise hc o.tk (pmk_oex cl.T hi ht F1 (o.hr.mono hk) hb .nil hx hg cl.hm ha hdb he hpl)) fun D σ H h => ?_
  obtain ⟨m, ρ, s, rel, h⟩ := h
  refine ⟨m, ρ, s, rel, (PO_.fl h).mono fun ds s1 m1 H1 ⟨r1, h1⟩ vs rv => ?_⟩
  split at h1
  · rename_i hl
    obtain ⟨hl, hz, nd⟩ := hl
    refine ⟨by rw [← rv.len]; omega, fun ad had => ⟨ad, vs, by simp, by rw [← rv.len]; exact hl, upd_same, fun d H2 hd hda e1 e2 e3 => ⟨rfl, d, _, e1, e2, ?_, ?_⟩⟩⟩
    · rw [upd_ne hda] at hd; exact hd
    · rw [upd_ne hda] at hd
      have key : ∀ b, b ≠ ad → b ≠ d → upd (del H2 ad) d (.xd (accF fs vs [])) b = H1 b := fun b n1 n2 => by
        rw [upd_ne n2, del_ne n1, e3 b n1 n2, upd_ne n1]
      have ne1 : ∀ {b : Addr} {u : HO}, H1 b = some u → b ≠ ad ∧ b ≠ d := fun {b u} q => ⟨fun z => (by rw [z, had] at q; cases q), fun z => (by rw [z, hd] at q; cases q)⟩
      have x : Ext m1 H1 m1 (upd (del H2 ad) d (.xd (accF fs vs []))) := ⟨⟨List.prefix_refl _, fun b u p q n => ⟨by
          rcases q with q | ⟨o, q⟩
          · exact .inl ((key b (ne1 q).1 (ne1 q).2).trans q)
          · exact .inr ⟨o, (key b (ne1 q).1 (ne1 q).2).trans q⟩, n⟩, fun b us q n => (key b (ne1 q).1 (ne1 q).2).trans q⟩, fun b u _ q => (key b (ne1 q).1 (ne1 q).2).trans q⟩
      have st : StRep g.X.K g.ca m1 (upd (del H2 ad) d (.xd (accF fs vs []))) s1 := r1.sto.same x.toExtW fun b hb => by
        obtain ⟨u, q⟩ := r1.sto.here hb
        exact key b (ne1 q).1 (ne1 q).2
      refine h1 m1 _ σ _ _ x (r1.ext x st) ⟨rfl, .inr ⟨d, _, rfl, upd_same, fun f' dv hf => ?_⟩⟩
      obtain ⟨v, l, rv'⟩ := accF_lookup (acc := []) nd hl.symm rv hf
      exact ⟨v, l, r1.sto.repD x.toExtW rv'⟩
  · exact h1.elim
/-! try .. except x as n: return (..) -/
/-- what a suite hands back: constants, the exception's fields -/
inductive XI where
  | c (p : P) | f (n : Str)
def xiD (x : Xc) : XI → Option D
  | .c p => some (.p p)
  | .f n => x.fs.lookup n
def xiDs (x : Xc) : List XI → Option (List D)
  | [] => some []
  | i :: is => (xiD x i).bind fun d => (xiDs x is).map (d :: ·)
theorem xiDs_len {x : Xc} : ∀ {is : List XI} {ds : List D}, xiDs x is = some ds → ds.length = is.length
  | [], _, h => by cases h; rfl
  | i :: is, ds, h => by
    cases e1 : xiD x i with
    | none => simp [xiDs, e1] at h
    | some d =>
      cases e2 : xiDs x is with
      | none => simp [xiDs, e1, e2] at h
      | some ds' =>
        simp [xiDs, e1, e2] at h
        subst h
        simp [xiDs_len e2]
def atomV : P → Option V
  | .non => some .non
  | .bl b => some (.bl b)
  | .int i => some (.int i)
  | .str x => some (.str x)
  | .tup _ => none
/-- the value that a suite's expression has -/
inductive XV where
  | one (i : XI) | tup (is : List XI)
def xvD (x : Xc) : XV → Option D
  | .one i => xiD x i
  | .tup is => (xiDs x is).map mkT
/-- in a suite: an item's reading -/
structure XiE (X : Cx) (i : Nat) (cc : Addr) (e : Expr) (t : XI) : Prop where
  run : ∀ (a : Addr) (oe : Obj) (cls : Value) (d : Option Addr) (pn : List (Addr × Obj)), Zc cls d oe → (∃ vs, oe.data = .fields vs) → ∃ te : TE, PE (X.suite a ((a, oe) :: pn)) e te ∧
    ∀ (σ : L2.St) (H : Hp) (Q : VK) (ca : Str → Addr) (m : List Addr) (x : Xc) (dv : D), σ[i]? = some (some (.ref a)) → XRep X.K ca H m x cls d → cc = ca x.cls → xiD x t = some dv → (∀ v, RepD X.K H m dv v → Q v H) → te σ H Q
structure XiA (X : Cx) (i : Nat) (cc : Addr) (es : List Expr) (ts : List XI) : Prop where
  run : ∀ (a : Addr) (oe : Obj) (cls : Value) (d : Option Addr) (pn : List (Addr × Obj)), Zc cls d oe → (∃ vs, oe.data = .fields vs) → ∃ ta : TA, PA (X.suite a ((a, oe) :: pn)) es ta ∧
    ∀ (σ : L2.St) (H : Hp) (Q : List V → Hp → Prop) (ca : Str → Addr) (m : List Addr) (x : Xc) (ds : List D), σ[i]? = some (some (.ref a)) → XRep X.K ca H m x cls d → cc = ca x.cls → xiDs x ts = some ds → (∀ vs, RepDs X.K H m ds vs → Q vs H) → ta σ H Q
theorem xi_c {X : Cx} {i : Nat} {cc : Addr} {p : P} {v : V} (h : ∀ X : Cx, PE X e (tC v)) (hp : ∀ (K : PySem.W.Frag) (H : Hp), RepP K H p v) : XiE X i cc e (.c p) :=
  ⟨fun a oe cls d pn hz hf => ⟨_, h _, fun σ H Q ca m x dv hσ hx hcc e q => by cases e; exact q _ (hp _ _)⟩⟩
theorem xi_str {X : Cx} {i : Nat} {cc : Addr} {z : Str} {j} : XiE X i cc (.Constant (.str z) j pos) (.c (.str z)) := xi_c (fun _ => pe_str) fun _ _ => rfl
theorem xi_non {X : Cx} {i : Nat} {cc : Addr} {j} : XiE X i cc (.Constant .none j pos) (.c .non) := xi_c (fun _ => pe_non) fun _ _ => rfl
theorem xi_bl {X : Cx} {i : Nat} {cc : Addr} {b : Bool} {j} : XiE X i cc (.Constant (.bool b) j pos) (.c (.bl b)) := xi_c (fun _ => pe_bl) fun _ _ => rfl
theorem xi_int {X : Cx} {i : Nat} {cc : Addr} {b : Int} {j} : XiE X i cc (.Constant (.int b) j pos) (.c (.int b)) := xi_c (fun _ => pe_int) fun _ _ => rfl
theorem xi_f {X : Cx} {i : Nat} {cc : Addr} {n y : Str} {py : Pos} (T : XfC X.K cc) (hno : PySem.W.findIn X.K (.ref cc) n = some none) (hN : X.N[i]? = some y := by rfl) (hv : Vis X.env.scope y := by first | exact Or.inl rfl | exact Or.inr (Or.inl rfl) | exact Or.inr (Or.inr rfl)) (hd : (y == ("__debug__" : Str)) = false := by decide) (hcd : (y == ("__classdict__" : Str)) = false := by decide)
    (hb : attributeBase (.Name y py) n X.env (eval (.Name y py) X.env) = eval (.Name y py) X.env := by rfl) : XiE X i cc (.Attribute (.Name y py) n pos) (.f n) :=
  ⟨fun a oe cls d pn hz hf => ⟨_, pe_xf (X := X) (C := cc) T hno hz hf (pe_var (i := i) (X := X.suite a ((a, oe) :: pn)) hN hv hd hcd) hb, fun σ H Q ca m x dv hσ hx hcc e q => by
    obtain ⟨h1, h2⟩ := hx
    rcases h2 with h2 | ⟨dd, fs, rfl, hd, hl⟩
    · have e : x.fs.lookup n = some dv := e
      rw [h2] at e; cases e
    · obtain ⟨v, lv, rv⟩ := hl n dv e
      exact ⟨_, hσ, rfl, by rw [h1, hcc], dd, fs, v, rfl, hd, lv, q v rv⟩⟩⟩
theorem xa_nil {X : Cx} {i : Nat} {cc : Addr} : XiA X i cc [] [] := ⟨fun a oe cls d pn hz hf => ⟨_, pa_nil, fun σ H Q ca m x ds hσ hx hcc e q => by cases e; exact q [] rfl⟩⟩
theorem xa_cons {X : Cx} {i : Nat} {cc : Addr} {t : XI} {ts : List XI} (h : XiE X i cc e t) (h' : XiA X i cc es ts) (hs : starEach (e :: es) X.env = (false, eval e X.env) :: starEach es X.env := by rfl) : XiA X i cc (e :: es) (t :: ts) :=
  ⟨fun a oe cls d pn hz hf => by
    obtain ⟨te, pe, he⟩ := h.run a oe cls d pn hz hf
    obtain ⟨ta, pa, ha⟩ := h'.run a oe cls d pn hz hf
    refine ⟨_, pa_cons pe pa hs, fun σ H Q ca m x ds hσ hx hcc e q => ?_⟩
    cases e1 : xiD x t with
    | none => simp [xiDs, e1] at e
    | some d1 =>
      cases e2 : xiDs x ts with
      | none => simp [xiDs, e1, e2] at e
      | some ds' =>
        simp [xiDs, e1, e2] at e
        subst e
        exact he σ H _ ca m x d1 hσ hx hcc e1 fun v rv => ha σ H _ ca m x ds' hσ hx hcc e2 fun vs rvs => q _ ⟨v, vs, rfl, rv, rvs⟩⟩
structure XvE (X : Cx) (i : Nat) (cc : Addr) (e : Expr) (t : XV) : Prop where
  run : ∀ (a : Addr) (oe : Obj) (cls : Value) (d : Option Addr) (pn : List (Addr × Obj)), Zc cls d oe → (∃ vs, oe.data = .fields vs) → ∃ te : TE, PE (X.suite a ((a, oe) :: pn)) e te ∧
    ∀ (σ : L2.St) (H : Hp) (Q : VK) (ca : Str → Addr) (m : List Addr) (s : S) (x : Xc) (dv : D), σ[i]? = some (some (.ref a)) → StRep X.K ca m H s → XRep X.K ca H m x cls d → cc = ca x.cls → xvD x t = some dv → (∀ H' v, Ext m H m H' → StRep X.K ca m H' s → RepD X.K H' m dv v → Q v H') → te σ H Q
theorem xv_one {X : Cx} {i : Nat} {cc : Addr} {t : XI} (h : XiE X i cc e t) : XvE X i cc e (.one t) :=
  ⟨fun a oe cls d pn hz hf => by
    obtain ⟨te, pe, he⟩ := h.run a oe cls d pn hz hf
    exact ⟨te, pe, fun σ H Q ca m s x dv hσ st hx hcc e q => he σ H Q ca m x dv hσ hx hcc e fun v rv => q H v (Ext.refl _ _) st rv⟩⟩
theorem xv_tup {X : Cx} {i : Nat} {cc : Addr} {ts : List XI} {k : Nat} (h : XiA X i cc es ts) (hz : ts.length ≤ 1000 := by decide) : XvE X i cc (.Tuple es k pos) (.tup ts) :=
  ⟨fun a oe cls d pn hzc hf => by
    obtain ⟨ta, pa, ha⟩ := h.run a oe cls d pn hzc hf
    refine ⟨_, pe_tup pa, fun σ H Q ca m s x dv hσ st hx hcc e q => ?_⟩
    cases e1 : xiDs x ts with
    | none => simp [xvD, e1] at e
    | some ds =>
      simp [xvD, e1] at e
      subst e
      refine ha σ H _ ca m x ds hσ hx hcc e1 fun vs rvs => ⟨?_, fun p hp => ?_⟩
      · rw [← rvs.len, xiDs_len e1, sizeLine_eq]
        omega
      · obtain ⟨x1, st1, r1⟩ := new_pair st rvs hp
        exact q _ _ x1 st1 r1⟩
/-- one clause -/
@[simp] def bTryR (i : Nat) (B : Bl) (ex : Str → Option Bool) (c : Str) (t : XV) (ρ : Env) (s : S) : Fl := match B ρ s with
  | .ex x ρ' s' => match ex x.cls with
    | some true => if x.cls = c ∧ i < ρ'.length then match xvD x t with
        | some d => .rt d s'
        | none => .no
      else .no
    | some false => .ex x ρ' s'
    | none => .no
  | o => o
/-- the body's context -/
abbrev G.tr (g : G) (W : WX) (pn : List (Addr × Obj)) (xe : Value → Shared → Prop) : G := ⟨g.X.tr pn xe, g.ca, W, g.k⟩
theorem G.Ok.tr {g : G} (o : g.Ok) {W : WX} {pn : List (Addr × Obj)} {xe : Value → Shared → Prop} (tk : Takes (g.X.tr pn xe) W) : (g.tr W pn xe).Ok := ⟨tk, o.hr⟩
theorem es_tryR {B : Bl} {ex : Str → Option Bool} {c x y : Str} {i : Nat} {t : XV} {np pos2 rpos : Pos} {body : List Stmt} (o : g.Ok) (hN : g.X.N.Nodup) (hi : g.X.N[i]? = some y) (hy : g.X.env.kindOf y = some .local) (hg : Gl g.X x) (hdb : (x == ("__debug__" : Str)) = false) (hm : g.X.mg x = some (.ref (g.ca x)))
    (hex : ∀ z b, ex z = some b → PySem.W.exmOne g.X.K (.ref (g.ca z)) (.ref (g.ca x)) = some b) (hb : ∀ (W : WX) (pn : List (Addr × Obj)) (xe : Value → Shared → Prop), (g.tr W pn xe).Ok → PassesOwn (model g.X.prog g.X.w) g.X.A g.X.env xe → EvB (g.tr W pn xe) body B)
    (hv : XvE g.X i (g.ca c) e t) (hs : g.X.stack = g.X.env :: g.X.outer := by rfl) (hf : g.X.env.frame = some g.X.env.locals := by rfl) :
    EvS g (.Try body [.ExceptHandler (some (.Name x np)) (some y) [.Return (some e) rpos] pos2] [] [] pos) (bTryR i B ex c t) := by
  refine PS.imp (ps_try_as (c := .ref (g.ca x)) (i := i) (tb := fun W => tS g.X.K g.ca W B) (ts := fun a cls d D σ H => ∃ m s x dv, σ[i]? = some (some (.ref a)) ∧ StRep g.X.K g.ca m H s ∧ XRep g.X.K g.ca H m x cls d ∧ g.ca c = g.ca x.cls ∧ xvD x t = some dv ∧ ∀ H' v, Ext m H m H' → StRep g.X.K g.ca m H' s → RepD g.X.K H' m dv v → D.rt v H') hs hf hN hi hy ⟨hg, hdb, .inl hm⟩ o.tk
    (fun W pn xe tk pa => hb W pn xe (o.tr tk) pa) fun a oe cls d pn hz hfl => ?_) fun D σ H h => ?_
  · obtain ⟨te, pe, hte⟩ := hv.run a oe cls d pn hz hfl
    exact PSs.imp (pss_one (ps_ret pe)) fun D σ H h => by
      obtain ⟨m, s, x, dv, h1, h2, h3, h4, h5, h6⟩ := h
      exact hte σ H _ g.ca m s x dv h1 h2 h3 h4 h5 h6
  · obtain ⟨m, ρ, s, rel, h⟩ := h
    refine ⟨m, ρ, s, rel, ?_⟩
    unfold bTryR at h
    cases eB : B ρ s with
    | ex z ρ' s' =>
      rw [eB] at h
      simp only at h
      cases ez : ex z.cls with
      | none => rw [ez] at h; exact h.elim
      | some b =>
        rw [ez] at h
        intro m' H' σ' cv od x r q
        have hcv : cv = .ref (g.ca z.cls) := q.1
        refine ⟨b, by rw [hcv]; exact hex _ _ ez, fun hb a ha => ?_, fun hb => ?_⟩
        · subst hb
          simp only at h
          split at h
          · rename_i hzc
            cases ev : xvD z t with
            | none => rw [ev] at h; exact h.elim
            | some dv =>
              rw [ev] at h
              refine ⟨m', s', z, dv, ?_, r.sto, q, by rw [hzc.1], ev, fun H2 v x2 st2 r2 => h m' H2 v (x.trans x2) st2 r2⟩
              have hl : i < σ'.length := by rw [← r.env.1]; exact hzc.2
              rw [List.getElem?_set_self hl]
          · exact h.elim
        · subst hb
          exact h m' H' σ' cv od x r q
    | nx ρ' s' => rw [eB] at h; exact h
    | rt d s' => rw [eB] at h; exact h
    | bk ρ' s' => rw [eB] at h; exact h
    | ct ρ' s' => rw [eB] at h; exact h
    | no => rw [eB] at h; exact h.elim
end
end Mo

set_option Elab.async false
set_option linter.all false
set_option maxRecDepth 100000
set_option maxHeartbeats 4000000
/-! one reading or another; in -/
namespace Mo
open PySem PySem.Spec PyProof.Rows L2
@[simp] def orE (A B : Ex) (ρ : Env) (s : S) : Out D := match A ρ s with
  | .no => B ρ s
  | o => o
@[simp] def orT (A B : Te) (ρ : Env) (s : S) : Out Bool := match A ρ s with
  | .no => B ρ s
  | o => o
@[simp] def orB (A B : Bl) (ρ : Env) (s : S) : Fl := match A ρ s with
  | .no => B ρ s
  | o => o
section
variable {g : G} {a b c e o elt tg iter : Expr} {A B C_ O : Ex} {T U : Te} {pos pos' cpos apos : Pos} {es ifs : List Expr} {As : Ar} {st : Stmt} {B1 B2 : Bl}
theorem ev_or2 (h : EvE g e A) (h' : EvE g e B) : EvE g e (orE A B) := PE.imp (PE.or h h') fun σ H Q q => by
  obtain ⟨m, ρ, s, rel, q⟩ := q
  unfold orE at q
  cases eA : A ρ s with
  | no => rw [eA] at q; exact .inr ⟨m, ρ, s, rel, q⟩
  | ok d s1 => rw [eA] at q; exact .inl ⟨m, ρ, s, rel, by rw [eA]; exact q⟩
  | ex x s1 => rw [eA] at q; exact .inl ⟨m, ρ, s, rel, by rw [eA]; exact q⟩
theorem PT.or {X : Cx} {e : Expr} {t t' : TT} (h : PT X e t) (h' : PT X e t') : PT X e (fun σ H Q => t σ H Q ∨ t' σ H Q) := ⟨fun pins s σ H Q I q => q.elim (h.run pins s σ H Q I) (h'.run pins s σ H Q I)⟩
theorem PS.or {X : Cx} {e : Stmt} {t t' : TS} (h : PS X e t) (h' : PS X e t') : PS X e (fun D σ H => t D σ H ∨ t' D σ H) := ⟨fun pins s σ H D I q => q.elim (h.run pins s σ H D I) (h'.run pins s σ H D I)⟩
theorem et_or2 (h : EvT g e T) (h' : EvT g e U) : EvT g e (orT T U) := PT.imp (PT.or h h') fun σ H Q q => by
  obtain ⟨m, ρ, s, rel, q⟩ := q
  unfold orT at q
  cases eA : T ρ s with
  | no => rw [eA] at q; exact .inr ⟨m, ρ, s, rel, q⟩
  | ok d s1 => rw [eA] at q; exact .inl ⟨m, ρ, s, rel, by rw [eA]; exact q⟩
  | ex x s1 => rw [eA] at q; exact .inl ⟨m, ρ, s, rel, by rw [eA]; exact q⟩
theorem es_or2 (h : EvS g st B1) (h' : EvS g st B2) : EvS g st (orB B1 B2) := PS.imp (PS.or h h') fun D σ H q => by
  obtain ⟨m, ρ, s, rel, q⟩ := q
  unfold orB at q
  cases eA : B1 ρ s with
  | no => rw [eA] at q; exact .inr ⟨m, ρ, s, rel, q⟩
  | _ => rw [eA] at q; exact .inl ⟨m, ρ, s, rel, by rw [eA]; exact q⟩
/-! x in a list of data -/
theorem DpAll.ofPs {K : PySem.W.Frag} {H : Hp} {m : List Addr} {ps : List P} {vs : List V} (r : RepDs K H m (ps.map D.p) vs) : DpAll K H vs (toPDs ps) := dps_of (RepPs.ofD r)
theorem toPDs_map : ∀ ps : List P, toPDs ps = ps.map toPD
  | [] => rfl
  | p :: ps => by unfold toPDs; rw [toPDs_map ps]; rfl
def inD (n : Bool) : D → D → S → Option (D × S) := fun x y s => match x, (viL s y).bind allP with
  | .p a, some ps => if (shp a && SeqAt.shaped (.list (toPDs ps))) = true then some (.p (.bl (xor n (ps.any fun z => eqP z a))), s) else none
  | _, _ => none
theorem inD_pre {m : List Addr} {H : Hp} {s : S} {x y : D} {vx vy : V} {n : Bool} {Q : VK} (st : StRep g.X.K g.ca m H s) (rx : RepD g.X.K H m x vx) (ry : RepD g.X.K H m y vy) (ans : Ans g m H Q (inD n x y s)) :
    ∃ d ds, Dp g.X.K H vx d ∧ Dp g.X.K H vy (.list ds) ∧ SeqAt.shaped d = true ∧ SeqAt.shaped (.list ds) = true ∧ Q (.bl (xor n (ds.any fun z => PyData.eqv z d))) H := by
  unfold inD at ans
  split at ans
  · rename_i a ps e
    split at ans
    · rename_i hs
      obtain ⟨h1, h2⟩ := Bool.and_eq_true_iff.mp hs
      cases ev : viL s y with
      | none => rw [ev] at e; cases e
      | some ds =>
        rw [ev] at e
        have := allP_eq (show allP ds = some ps from e)
        subst this
        obtain ⟨ad, vs, rfl, q, rr⟩ := viL_ok st ry ev
        refine ⟨_, _, dp_of rx, .lst q (DpAll.ofPs rr), h1, h2, ?_⟩
        have : ((toPDs ps).any fun z => PyData.eqv z (toPD a)) = ps.any fun z => eqP z a := by rw [toPDs_map, List.any_map]; rfl
        rw [this]
        exact ans.same st (v := .bl _) rfl
    · exact ans.none.elim
  · exact ans.none.elim
theorem inD_ok : OpS g (inD false) (rInD g.X.K) := fun m H s x y vx vy Q st rx ry ans => by
  obtain ⟨d, ds, h1, h2, h3, h4, h5⟩ := inD_pre st rx ry ans
  exact ⟨d, ds, h1, h2, h3, h4, by simpa using h5⟩
theorem ninD_ok : OpS g (inD true) (rNotInD g.X.K) := fun m H s x y vx vy Q st rx ry ans => by
  obtain ⟨d, ds, h1, h2, h3, h4, h5⟩ := inD_pre st rx ry ans
  exact ⟨d, ds, h1, h2, h3, h4, by simpa using h5⟩
theorem G.Ok.hu65 (o : g.Ok) : g.X.A.units + 65 < cLine := by have := o.hr.un; omega
theorem ev_inD (o : g.Ok) (ha : EvE g a A) (hb : EvE g b B) (hm : behindInMarks .In b = false := by rfl) : EvE g (.Compare a [.In] [b] pos) (eOp (inD false) A B) := ev_cmp (op_inD o.hu65) inD_ok ha hb hm
theorem ev_ninD (o : g.Ok) (ha : EvE g a A) (hb : EvE g b B) (hm : behindInMarks .NotIn b = false := by rfl) : EvE g (.Compare a [.NotIn] [b] pos) (eOp (inD true) A B) := ev_cmp (op_notInD o.hu65) ninD_ok ha hb hm
theorem et_inD (o : g.Ok) (ha : EvE g a A) (hb : EvE g b B) (hm : behindInMarks .In b = false := by rfl) : EvT g (.Compare a [.In] [b] pos) (tV (eOp (inD false) A B)) := et_cmp (op_inD o.hu65) inD_ok ha hb hm
theorem et_ninD (o : g.Ok) (ha : EvE g a A) (hb : EvE g b B) (hm : behindInMarks .NotIn b = false := by rfl) : EvT g (.Compare a [.NotIn] [b] pos) (tV (eOp (inD true) A B)) := et_cmp (op_notInD o.hu65) ninD_ok ha hb hm
@[simp] def eSub (A B : Ex) : Ex := orE (eOp dIx A B) (eDGet A B)
theorem ev_subs (o : g.Ok) (ha : EvE g a A) (hb : EvE g b B) (hs : PlainIx b := by exact fun _ _ => rfl) (hs' : NoSl b := by exact fun _ _ => rfl) : EvE g (.Subscript a b pos) (eSub A B) := ev_or2 (ev_ix ha hb hs) (ev_dget o ha hb hs')
@[simp] def eIn (n : Bool) (A B : Ex) : Ex := orE (eOp (inD n) A B) (eDIn n A B)
@[simp] def tIn (n : Bool) (A B : Ex) : Te := orT (tV (eOp (inD n) A B)) (tV (eDIn n A B))
theorem ev_in (o : g.Ok) (ha : EvE g a A) (hb : EvE g b B) (hm : behindInMarks .In b = false := by rfl) : EvE g (.Compare a [.In] [b] pos) (eIn false A B) := ev_or2 (ev_inD o ha hb hm) (ev_din o ha hb hm)
theorem ev_nin (o : g.Ok) (ha : EvE g a A) (hb : EvE g b B) (hm : behindInMarks .NotIn b = false := by rfl) : EvE g (.Compare a [.NotIn] [b] pos) (eIn true A B) := ev_or2 (ev_ninD o ha hb hm) (ev_dnin o ha hb hm)
theorem et_in (o : g.Ok) (ha : EvE g a A) (hb : EvE g b B) (hm : behindInMarks .In b = false := by rfl) : EvT g (.Compare a [.In] [b] pos) (tIn false A B) := et_or2 (et_inD o ha hb hm) (et_din o ha hb hm)
theorem et_nin (o : g.Ok) (ha : EvE g a A) (hb : EvE g b B) (hm : behindInMarks .NotIn b = false := by rfl) : EvT g (.Compare a [.NotIn] [b] pos) (tIn true A B) := et_or2 (et_ninD o ha hb hm) (et_dnin o ha hb hm)
end
end Mo

set_option Elab.async false
set_option linter.all false
set_option maxRecDepth 100000
set_option maxHeartbeats 4000000
namespace Mo
open PySem PySem.Spec PyProof.Rows L2
theorem fn_no {P : Program} {w : World} {K : PySem.W.Frag} {mg : Str → Option Value} {base : Heap} {ca : Str → Addr} {CX : CXT} {k n : Nat} {f : Addr} {fd : FuncData} {ps : List Str} (h : ps.length = n) : FnOk P w K mg base CX k f fd ps (spF K ca n fun _ _ => .no) :=
  ⟨fun vs H Q E h' => by rw [h]; exact h'.1, fun A outer s H args us vs Q E _ _ _ _ h' => by
    obtain ⟨_, m, ds, st, _, _, e⟩ := h'
    exact e.elim⟩
theorem ex_of {K : PySem.W.Frag} {ca : Str → Addr} {x : Str} (e : PySem.W.exmOne K (.ref (ca x)) (.ref (ca x)) = some true) : ∀ z b, (fun z : Str => if z = x then some true else none) z = some b → PySem.W.exmOne K (.ref (ca z)) (.ref (ca x)) = some b := fun z b h => by
  by_cases hz : z = x
  · subst hz
    simp at h
    subst h
    exact e
  · simp [hz] at h
end Mo
namespace Mo
open PySem PySem.Spec PyProof.Rows L2
theorem lc_mk {g : G} {own : List (Str × Nat)} {scope : Scope} {tg : Expr} {T : Pt} {ifs : List Expr} {U : Te} {elt : Expr} {A : Ex} (o : g.Ok) (ok : BlkOk g.X.N g.X.env.scope scope own) (sub : ∀ i ∈ T.sl, i ∈ own.map (·.2))
    (hg : ∀ (s : Shared) (H : Hp) (C : Addr) (cl : List (Str × Addr)) (fp : List Addr), EvGt (g.blk s H scope cl C fp) tg T) (ht : ∀ (s : Shared) (H : Hp) (C : Addr) (cl : List (Str × Addr)) (fp : List Addr), (g.blk s H scope cl C fp).Ok → EvTs (g.blk s H scope cl C fp) ifs U)
    (he : ∀ (s : Shared) (H : Hp) (C : Addr) (cl : List (Str × Addr)) (fp : List Addr), (g.blk s H scope cl C fp).Ok → EvE (g.blk s H scope cl C fp) elt A) : Lc g own scope tg T ifs U elt A :=
  ⟨ok, sub, hg, fun s H C cl fp => ht s H C cl fp o.blk, fun s H C cl fp => he s H C cl fp o.blk⟩
end Mo

set_option Elab.async false
set_option linter.all false
set_option maxRecDepth 100000
set_option maxHeartbeats 4000000
/-! plain lemmas about the layer's denotations -/
namespace Mo
open PySem
theorem chk_refl (k : Nat) : ∀ s : S, chk k s s = true
  | [] => rfl
  | c :: s => by simp [chk, chk_refl k s]
theorem chk_app (k : Nat) : ∀ s t : S, chk k s (s ++ t) = true
  | [], t => rfl
  | c :: s, t => by simp [chk, chk_app k s t]
@[simp] theorem clD_p (k : Nat) (p : P) : clD k (.p p) = true := rfl
@[simp] theorem clDs_map (k : Nat) : ∀ ps : List P, clDs k (ps.map D.p) = true
  | [] => rfl
  | p :: ps => by simp [clDs, clDs_map k ps]
theorem clDs_all {k : Nat} : ∀ {ds : List D}, (∀ d ∈ ds, clD k d = true) → clDs k ds = true
  | [], _ => rfl
  | d :: ds, h => by
    unfold clDs
    rw [h d (List.mem_cons_self ..), clDs_all fun e he => h e (List.mem_cons_of_mem _ he)]
    rfl
@[simp] theorem frzD_p (k : Nat) (s : S) (p : P) : frzD k s (.p p) = .p p := rfl
@[simp] theorem fin_p (s : S) (p : P) : fin s (.p p) s = (.p p, s) := by
  unfold fin
  simp [chk_refl]
@[simp] theorem fin_pa (s t : S) (p : P) : fin s (.p p) (s ++ t) = (.p p, s) := by
  unfold fin
  simp [chk_app]
theorem fin_pk {s s' : S} {p : P} (h : chk s.length s s' = true) : fin s (.p p) s' = (.p p, s'.take s.length) := by
  unfold fin
  simp [h]
theorem fin_new {s : S} {ds : List D} (h : clDs s.length ds = true) : fin s (.loc s.length) (s ++ [.lst ds]) = (.lst ds, s) := by
  have e : frzD s.length (s ++ [.lst ds]) (.loc s.length) = .lst ds := by simp [frzD, frz1]
  unfold fin
  rw [e]
  simp [clD, h, chk_app]
@[simp] theorem mkT_map (ps : List P) : mkT (ps.map D.p) = .p (.tup ps) := by simp [mkT]
@[simp] theorem mkT_nil : mkT [] = .p (.tup []) := rfl
/-- a loop that goes on or ends -/
def runSt {α β γ : Type} (stp : β → α → Sum β γ) : β → List α → Sum β γ
  | b, [] => .inl b
  | b, x :: l => match stp b x with
    | .inl b' => runSt stp b' l
    | .inr c => .inr c
/-- a plain end -/
def Fl.ends : Fl → Prop
  | .rt _ _ => True
  | .ex _ _ _ => True
  | _ => False
theorem forL_run {α β γ : Type} {g : α → D} {ok : S → Bool} {T : Pt} {B : Bl} {stp : β → α → Sum β γ} {I : β → Env → S → Prop} {R : γ → Fl → Prop} (hok : ∀ b ρ s, I b ρ s → ok s = true) : ∀ {l : List α},
    (∀ b x ρ s, x ∈ l → I b ρ s → ∃ ρ1, T.run (g x) ρ = some ρ1 ∧ match stp b x with
      | .inl b' => ∃ ρ2 s2, (B ρ1 s = .nx ρ2 s2 ∨ B ρ1 s = .ct ρ2 s2) ∧ I b' ρ2 s2
      | .inr c => R c (B ρ1 s) ∧ (B ρ1 s).ends) →
    ∀ {b : β} {ρ : Env} {s : S}, I b ρ s → match runSt stp b l with
      | .inl b' => ∃ ρ' s', forL ok T B (l.map g) ρ s = .nx ρ' s' ∧ I b' ρ' s'
      | .inr c => R c (forL ok T B (l.map g) ρ s)
  | [], _, b, ρ, s, h => ⟨ρ, s, by simp [forL, hok b ρ s h], h⟩
  | x :: l, hst, b, ρ, s, h => by
    obtain ⟨ρ1, e1, h1⟩ := hst b x ρ s (List.mem_cons_self ..) h
    have ih := fun {b' : β} {ρ' : Env} {s' : S} (h' : I b' ρ' s') => forL_run hok (l := l) (fun b x ρ s hx => hst b x ρ s (List.mem_cons_of_mem _ hx)) h'
    unfold runSt
    cases e2 : stp b x with
    | inl b' =>
      rw [e2] at h1
      obtain ⟨ρ2, s2, h2, h3⟩ := h1
      have := ih h3
      simp only at this ⊢
      have e : forL ok T B ((x :: l).map g) ρ s = forL ok T B (l.map g) ρ2 s2 := by
        rcases h2 with h2 | h2 <;> simp only [List.map_cons, forL, hok b ρ s h, e1, h2, if_true]
      rw [e]
      exact this
    | inr c =>
      rw [e2] at h1
      simp only at h1 ⊢
      have e : forL ok T B ((x :: l).map g) ρ s = B ρ1 s := by
        simp only [List.map_cons, forL, hok b ρ s h, e1, if_true]
        cases hB : B ρ1 s with
        | rt d s' => simp only
        | ex y ρ' s' => simp only
        | nx _ _ => rw [hB] at h1; exact h1.2.elim
        | bk _ _ => rw [hB] at h1; exact h1.2.elim
        | ct _ _ => rw [hB] at h1; exact h1.2.elim
        | no => rfl
      rw [e]
      exact h1.1
theorem lcD_pure {α : Type} {g : α → D} {u : α → Bool} {y : α → D} {ok : S → Bool} {T : Pt} {U : Te} {A : Ex} {ρ : Env} {s : S} (hok : ∀ s', ok s' = true) : ∀ {l : List α} {acc : List D},
    (∀ x ∈ l, ∃ ρx, T.run (g x) ρ = some ρx ∧ (∀ acc, U ρx (s ++ [.lst acc]) = .ok (u x) (s ++ [.lst acc])) ∧ (u x = true → ∀ acc, A ρx (s ++ [.lst acc]) = .ok (y x) (s ++ [.lst acc]))) → acc.length + l.length ≤ 1000000 →
    lcD ok T U A s.length (l.map g) ρ (s ++ [.lst acc]) = .ok () (s ++ [.lst (acc ++ (l.filter u).map y)])
  | [], acc, _, _ => by simp [lcD, hok]
  | x :: l, acc, h, hz => by
    obtain ⟨ρx, e1, e2, e3⟩ := h x (List.mem_cons_self ..)
    have ih := fun {acc : List D} (hz : acc.length + l.length ≤ 1000000) => lcD_pure (y := y) (u := u) hok (l := l) (acc := acc) (fun z hz => h z (List.mem_cons_of_mem _ hz)) hz
    rw [List.map_cons]
    unfold lcD
    rw [if_pos (hok _), e1]
    simp only [e2, Out.bindN]
    cases hu : u x with
    | false =>
      simp only [Bool.false_eq_true, if_false]
      rw [ih (by simp at hz; omega), List.filter_cons_of_neg (by simp [hu])]
    | true =>
      simp only [if_true, e3 hu]
      have : (s ++ [C.lst acc])[s.length]? = some (.lst acc) := by simp
      rw [this]
      simp only
      rw [if_pos (by rw [sizeLine_eq]; simp at hz; omega)]
      have e : (s ++ [C.lst acc]).set s.length (.lst (acc ++ [y x])) = s ++ [.lst (acc ++ [y x])] := by simp
      rw [e, ih (by simp at hz ⊢; omega), List.filter_cons_of_pos (by simp [hu])]
      simp
/-- a comprehension whose parts leave the store as it is -/
theorem eLc_pure {α : Type} {g : α → D} {u : α → Bool} {y : α → D} {Sg : Sr} {own : List Nat} {T : Pt} {U : Te} {A : Ex} {ρ : Env} {s : S} {ok : S → Bool} {l : List α} (hs : Sg ρ s = .ok ⟨l.map g, ok⟩ s) (hok : ∀ s', ok s' = true)
    (h : ∀ x ∈ l, ∃ ρx, T.run (g x) (wipeE ρ own) = some ρx ∧ (∀ acc, U ρx (s ++ [.lst acc]) = .ok (u x) (s ++ [.lst acc])) ∧ (u x = true → ∀ acc, A ρx (s ++ [.lst acc]) = .ok (y x) (s ++ [.lst acc]))) (hz : l.length ≤ 1000000)
    (hc : ∀ x ∈ l, clD s.length (y x) = true) : eLc Sg own T U A ρ s = .ok (.lst ((l.filter u).map y)) s := by
  unfold eLc
  rw [hs]
  simp only [Out.bind]
  rw [lcD_pure (y := y) (u := u) hok h (by simpa using hz)]
  simp only [Out.bindN, List.nil_append]
  rw [fin_new (clDs_all fun d hd => by
    obtain ⟨x, hx, rfl⟩ := List.mem_map.mp hd
    exact hc x (List.mem_filter.mp hx).1)]
end Mo

set_option Elab.async false
set_option linter.all false
set_option maxRecDepth 100000
set_option maxHeartbeats 4000000
/-! operations on plain values, as simp lemmas -/
namespace Mo
open PySem L2
@[simp] theorem dAdd_int (a b : Int) (s : S) : dAdd (.p (.int a)) (.p (.int b)) s = some (.p (.int (a + b)), s) := by simp [dAdd, addI]
theorem dAdd_str (a b : Str) (s : S) (h : a.length + b.length ≤ 1000000) : dAdd (.p (.str a)) (.p (.str b)) s = some (.p (.str (a ++ b)), s) := by
  have : a.length + b.length ≤ sizeLine := by rw [sizeLine_eq]; omega
  simp [dAdd, addI, addS, this]
theorem dAdd_tup (a b : List P) (s : S) (h : a.length + b.length ≤ 1000000) : dAdd (.p (.tup a)) (.p (.tup b)) s = some (.p (.tup (a ++ b)), s) := by
  have : a.length + b.length ≤ sizeLine := by rw [sizeLine_eq]; omega
  have e : mkT (a.map D.p ++ b.map D.p) = .p (.tup (a ++ b)) := by rw [← List.map_append, mkT_map]
  simp [dAdd, addI, addS, addT, this, e]
@[simp] theorem dSub_int (a b : Int) (s : S) : dSub (.p (.int a)) (.p (.int b)) s = some (.p (.int (a - b)), s) := by simp [dSub]
theorem dMod_int (a b : Int) (s : S) (h : 0 < b) : dMod (.p (.int a)) (.p (.int b)) s = some (.p (.int (a % b)), s) := by simp [dMod, h]
theorem dDiv_int (a b : Int) (s : S) (h : 0 < b) (h2 : b < 1073741824) : dDiv (.p (.int a)) (.p (.int b)) s = some (.p (.int (a / b)), s) := by simp [dDiv, h, h2]
theorem dMul_int (a b : Int) (s : S) (h : -(2 ^ 64) < b) (h2 : b < 2 ^ 64) : dMul (.p (.int a)) (.p (.int b)) s = some (.p (.int (a * b)), s) := by
  have e : cMul a b = true := by unfold cMul; rw [decide_eq_true h, decide_eq_true h2]; simp
  simp [dMul, e]
@[simp] theorem dLe_int (a b : Int) (s : S) : dLe (.p (.int a)) (.p (.int b)) s = some (.p (.bl (decide (a ≤ b))), s) := by simp [dLe]
@[simp] theorem dLt_int (a b : Int) (s : S) : dLt (.p (.int a)) (.p (.int b)) s = some (.p (.bl (decide (a < b))), s) := by simp [dLt]
@[simp] theorem dGt_int (a b : Int) (s : S) : dGt (.p (.int a)) (.p (.int b)) s = some (.p (.bl (decide (b < a))), s) := by simp [dGt]
@[simp] theorem dGe_int (a b : Int) (s : S) : dGe (.p (.int a)) (.p (.int b)) s = some (.p (.bl (decide (b ≤ a))), s) := by simp [dGe]
@[simp] theorem dEq_str (a b : Str) (s : S) : dEq (.p (.str a)) (.p (.str b)) s = some (.p (.bl (decide (a = b))), s) := by simp [dEq, scP]
@[simp] theorem dEq_int (a b : Int) (s : S) : dEq (.p (.int a)) (.p (.int b)) s = some (.p (.bl (decide (a = b))), s) := by simp [dEq, scP]
@[simp] theorem dEq_bl (a b : Bool) (s : S) : dEq (.p (.bl a)) (.p (.bl b)) s = some (.p (.bl (decide (a = b))), s) := by simp [dEq, scP]
@[simp] theorem dNe_str (a b : Str) (s : S) : dNe (.p (.str a)) (.p (.str b)) s = some (.p (.bl (!decide (a = b))), s) := by simp [dNe, scP]
theorem ixT_at {ps : List P} {i : Int} {p : P} (s : S) (h : atI (ps.map D.p) i = some (.p p)) : dIx (.p (.tup ps)) (.p (.int i)) s = some (.p p, s) := by simp [dIx, ixT, h]
theorem atI_nat {α : Type} {l : List α} {n : Nat} {x : α} (h : l[n]? = some x) : atI l (n : Int) = some x := by
  have hn := (List.getElem?_eq_some_iff.mp h).1
  unfold atI ixN
  rw [if_pos (by omega), if_pos (by omega)]
  simpa using h
theorem atI_int {α : Type} {l : List α} {i : Int} {x : α} (h0 : 0 ≤ i) (h : l[i.toNat]? = some x) : atI l i = some x := by
  have := atI_nat h
  rwa [Int.toNat_of_nonneg h0] at this
theorem atI_last {α : Type} {l : List α} {x : α} : atI (l ++ [x]) (-1) = some x := by
  unfold atI ixN
  rw [if_neg (by omega), if_pos (by simp; omega)]
  have : (-1 + ((l ++ [x]).length : Int)).toNat = l.length := by simp; omega
  rw [this]
  simp
@[simp] theorem dIx_0 (a : P) (l : List P) (s : S) : dIx (.p (.tup (a :: l))) (.p (.int 0)) s = some (.p a, s) := ixT_at s (atI_nat (n := 0) rfl)
@[simp] theorem dIx_1 (a b : P) (l : List P) (s : S) : dIx (.p (.tup (a :: b :: l))) (.p (.int 1)) s = some (.p b, s) := ixT_at s (atI_nat (n := 1) rfl)
@[simp] theorem dIx_2 (a b c : P) (l : List P) (s : S) : dIx (.p (.tup (a :: b :: c :: l))) (.p (.int 2)) s = some (.p c, s) := ixT_at s (atI_nat (n := 2) rfl)
@[simp] theorem dIx_3 (a b c d : P) (l : List P) (s : S) : dIx (.p (.tup (a :: b :: c :: d :: l))) (.p (.int 3)) s = some (.p d, s) := ixT_at s (atI_nat (n := 3) rfl)
@[simp] theorem dIx_4 (a b c d e : P) (l : List P) (s : S) : dIx (.p (.tup (a :: b :: c :: d :: e :: l))) (.p (.int 4)) s = some (.p e, s) := ixT_at s (atI_nat (n := 4) rfl)
theorem dIx_n {ps : List P} {i : Int} {p : P} (s : S) (h0 : 0 ≤ i) (h : ps[i.toNat]? = some p) : dIx (.p (.tup ps)) (.p (.int i)) s = some (.p p, s) := ixT_at s (atI_int h0 (by rw [List.getElem?_map, h]; rfl))
@[simp] theorem bTup_lst (ds : List D) (s : S) : bTup [.lst ds] s = some (mkT ds, s) := by simp [bTup]
@[simp] theorem bTup_tup (ps : List P) (s : S) : bTup [.p (.tup ps)] s = some (.p (.tup ps), s) := by simp [bTup]
theorem bTup_loc {n : Nat} {ds : List D} {s : S} (h : s[n]? = some (.lst ds)) : bTup [.loc n] s = some (mkT ds, s) := by simp [bTup, h]
@[simp] theorem bLen_tup (ps : List P) (s : S) : bLen [.p (.tup ps)] s = some (.p (.int ps.length), s) := by simp [bLen, altC, lenQ]
@[simp] theorem bLen_lst (ds : List D) (s : S) : bLen [.lst ds] s = some (.p (.int ds.length), s) := by simp [bLen, altC, lenQ]
theorem bLen_loc {n : Nat} {ds : List D} {s : S} (h : s[n]? = some (.lst ds)) : bLen [.loc n] s = some (.p (.int ds.length), s) := by simp [bLen, altC, lenQ, h]
theorem sIx_int {n d : Nat} {i : Int} (h : 0 ≤ i) : HT.sIx n d (some i) = min i.toNat n := by
  have := HT.sIx_nat n d i.toNat
  rwa [Int.toNat_of_nonneg h] at this
theorem cut_to {ds : List D} {i : Int} (h : 0 ≤ i) : cutD ds none (some i) = ds.take i.toNat := by
  unfold cutD
  rw [sIx_int h, HT.sIx_none]
  simp only [List.drop_zero, Nat.sub_zero]
  by_cases hl : i.toNat ≤ ds.length
  · rw [Nat.min_eq_left hl]
  · rw [Nat.min_eq_right (by omega), List.take_of_length_le (by omega), List.take_of_length_le (by omega)]
theorem cut_from {ds : List D} {i : Int} (h : 0 ≤ i) : cutD ds (some i) none = ds.drop i.toNat := by
  unfold cutD
  rw [sIx_int h, HT.sIx_none]
  by_cases hl : i.toNat ≤ ds.length
  · rw [Nat.min_eq_left hl, List.take_of_length_le (by simp)]
  · rw [Nat.min_eq_right (by omega), List.drop_of_length_le (by omega), List.drop_of_length_le (by omega)]
    simp
theorem sl_to (ps : List P) {i : Int} (s : S) (h : 0 ≤ i) : dSl (.p (.tup ps)) none (some i) s = some (.p (.tup (ps.take i.toNat)), s) := by
  have e : mkT ((ps.map D.p).take i.toNat) = .p (.tup (ps.take i.toNat)) := by rw [← List.map_take, mkT_map]
  simp [dSl, slT, cut_to h, e]
theorem sl_from (ps : List P) {i : Int} (s : S) (h : 0 ≤ i) : dSl (.p (.tup ps)) (some i) none s = some (.p (.tup (ps.drop i.toNat)), s) := by
  have e : mkT ((ps.map D.p).drop i.toNat) = .p (.tup (ps.drop i.toNat)) := by rw [← List.map_drop, mkT_map]
  simp [dSl, slT, cut_from h, e]
@[simp] theorem isN_none : isN (.p .non) = true := rfl
@[simp] theorem isN_str (x : Str) : isN (.p (.str x)) = false := rfl
@[simp] theorem isN_int (x : Int) : isN (.p (.int x)) = false := rfl
@[simp] theorem isN_tup (x : List P) : isN (.p (.tup x)) = false := rfl
@[simp] theorem isN_loc (x : Nat) : isN (.loc x) = false := rfl
@[simp] theorem isN_dK (x : List Key) (y : List D) : isN (.dK x y) = false := rfl
end Mo

set_option Elab.async false
set_option linter.all false
set_option maxRecDepth 100000
set_option maxHeartbeats 1000000
/-! a def's run from its body's run -/
namespace Mo
open PySem L2
theorem runF_rt {n N : Nat} {B : Bl} {ds : List D} {ρ : Env} {s s' : S} {d : D} (hl : ds.length = n) (hρ : ds.map some ++ List.replicate (N - n) none = ρ) (h : B ρ s = .rt d s') : runF n N B ds s = .ok (fin s d s').1 (fin s d s').2 := by
  subst hρ
  unfold runF
  rw [if_pos hl, h]
theorem runF_nx {n N : Nat} {B : Bl} {ds : List D} {ρ ρ' : Env} {s s' : S} (hl : ds.length = n) (hρ : ds.map some ++ List.replicate (N - n) none = ρ) (h : B ρ s = .nx ρ' s') : runF n N B ds s = .ok (fin s (.p .non) s').1 (fin s (.p .non) s').2 := by
  subst hρ
  unfold runF
  rw [if_pos hl, h]
theorem runF_ex {n N : Nat} {B : Bl} {ds : List D} {ρ ρ' : Env} {s s' : S} {x : Xc} (hl : ds.length = n) (hρ : ds.map some ++ List.replicate (N - n) none = ρ) (h : B ρ s = .ex x ρ' s') : runF n N B ds s = .ex x s' := by
  subst hρ
  unfold runF
  rw [if_pos hl, h]
theorem sRng1_ok {As : Ar} {ρ : Env} {s s1 : S} {L : Int} (h : As ρ s = .ok [.p (.int L)] s1) (h1 : -1000000000000 ≤ L) (h2 : L ≤ 1000000000000) : sRng1 As ρ s = .ok ⟨rgD 0 1 L.toNat, fun _ => true⟩ s1 := by
  rw [sRng1, h, Out.bind_ok]
  exact if_pos ⟨by omega, by omega⟩
end Mo

set_option Elab.async false
set_option linter.all false
set_option maxRecDepth 100000
set_option maxHeartbeats 2000000
/-! the head's facts for own exceptions: a Hook of our own -/
namespace Mo
open PySem PySem.Spec PyProof.Rows L2
/-- the j-th statement of a class -/
def clsAt (s : Stmt) (j : Nat) : Stmt := match s with
  | .ClassDef _ _ _ b _ _ _ _ _ _ _ => b.getD j (.Pass ⟨0, 0, 0, 0⟩)
  | _ => .Pass ⟨0, 0, 0, 0⟩
/-- an exception's class: its __init__, its fields -/
structure XcD where
  name : Str
  qual : Str
  params : Arguments
  body : List Stmt
  scope : Scope
  fs : List Str
def xcF (K : PySem.W.Frag) (x : Str) : Addr := He.ma K (He.ga K x) "__init__"
def cloC (l : List (Str × Addr)) : Addr := match l with
  | [(_, c)] => c
  | _ => 0
abbrev FnX : Type := Option (Str × Str × Arguments × FuncBody × Scope × Addr × List Str × Value × Addr)
def xcObs (K : PySem.W.Frag) (d : XcD) : FnX := match K.lookup (xcF K d.name) with
  | some ⟨_, _, .func fd, _⟩ => some (fd.name, fd.qualname, fd.params, fd.body, fd.scope, fd.globals, fd.closure.map (·.1), fd.defaults, fd.builtins)
  | _ => none
def XcD.val (d : XcD) : FnX := some ("__init__", d.qual, d.params, .stmts d.body, d.scope, mainGlobals, ["__class__"], .none, builtinsNs)
def oexB (K : PySem.W.Frag) (C : Addr) : Bool := (match K.lookup C with
  | some ⟨.type t, _, .cls cd, sl⟩ => decide (t = "type") && ((match cd.mro with
    | .ref c :: bm => decide (c = C) && PySem.HandSPX.refsVE bm
    | _ => false) && (cd.hasDict && (!cd.hasDel && (match sl.toList with
    | [_, _, _, _, some (.builtin i), _] => decide (i = "ValueError.__new__")
    | _ => false))))
  | _ => false) && (He.eqO (PySem.W.findIn K (.ref C) "__setattr__") (some (some (.builtin "object.__setattr__"))) && (decide (PySem.W.subIn K (.ref C) (.type "BaseException") = some true) && (decide (PySem.W.typeIn K (.ref C) = some (.type "type")) && PySem.W.keepIn K (.ref C))))
theorem oex_ok {K : PySem.W.Frag} {C : Addr} (h : oexB K C = true) : OexC K C := by
  obtain ⟨h1, h⟩ := He.ba h
  obtain ⟨h2, h⟩ := He.ba h
  obtain ⟨h3, h⟩ := He.ba h
  obtain ⟨h4, h5⟩ := He.ba h
  refine ⟨?_, He.eqO_ok h2, of_decide_eq_true h3, of_decide_eq_true h4, h5⟩
  split at h1
  · rename_i t dd cd sl e
    obtain ⟨a1, g1⟩ := He.ba h1
    clear h1
    obtain ⟨a2, g2⟩ := He.ba g1
    clear g1
    obtain ⟨a3, g3⟩ := He.ba g2
    clear g2
    obtain ⟨a4, a5⟩ := He.ba g3
    clear g3
    obtain ⟨nm, bs, mro, N, q, hd, sn, sub, ab, col, del⟩ := cd
    obtain ⟨sl⟩ := sl
    have a1 := of_decide_eq_true a1
    subst a1
    simp only at a2 a3 a4 a5
    split at a2
    · rename_i c bm
      obtain ⟨b1, b2⟩ := He.ba a2
      have b1 := of_decide_eq_true b1
      subst b1
      subst a3
      have a4 : del = false := by simpa using a4
      subst a4
      split at a5
      · rename_i k0 k1 k2 k3 i k5
        have a5 := of_decide_eq_true a5
        subst a5
        exact ⟨nm, q, N, bs, bm, sn, sub, ab, col, dd, k0, k1, k2, k3, k5, e, b2⟩
      · cases a5
    · cases a2
  · cases h1
def fileB (fl : Str) (K : PySem.W.Frag) (cd : Value) : Bool := match cd with
  | .ref a => (match K.lookup a with
    | some ⟨_, _, .fields vs, _⟩ => (match vs[2]? with
      | some (Value.str f _) => (fl == f)
      | _ => false)
    | _ => false)
  | _ => false
def xcB (fl : Str) (K : PySem.W.Frag) (d : XcD) : Bool :=
  He.eqO (PySem.W.findIn K (.ref (He.ga K d.name)) "__init__") (some (some (.ref (xcF K d.name)))) && (decide (PySem.W.typeIn K (.ref (xcF K d.name)) = some (.type "function")) &&
  ((match K.lookup (xcF K d.name) with
    | some ⟨_, _, .func fd, _⟩ => PySem.W.codeIn K fd.code d.qual && (fileB fl K fd.code && (match K.lookup (cloC fd.closure) with
      | some ⟨_, _, .cell (some (.ref c)), _⟩ => decide (c = He.ga K d.name)
      | _ => false))
    | _ => false) && (oexB K (He.ga K d.name) && (decide (PySem.W.mroIn K (He.ga K d.name) (.ref (He.ga K d.name)) = some true) &&
  (He.eqO (PySem.W.ks_superIn K (He.ga K d.name) (He.ga K d.name) "__init__") (some (some (.builtin "ValueError.__init__"))) && (decide (PySem.W.subIn K (.ref (He.ga K d.name)) (.type "ValueError") = some true) &&
  (He.eqO (PySem.W.nsIn K cStatics "thirdparty.any") (some none) && (d.fs.all (fun x => He.eqO (PySem.W.findIn K (.ref (He.ga K d.name)) x) (some none)) && (xfB K (He.ga K d.name) && decide (PySem.W.exmOne K (.ref (He.ga K d.name)) (.ref (He.ga K d.name)) = some true))))))))))
theorem xc_ok {P : Program} {K : PySem.W.Frag} {mg : Str → Option Value} {d : XcD} {fl : Str} (e : xcObs K d = d.val) (c : xcB fl K d = true) (hfl : (P.main.file : Str) = fl) (htop : (P.main.scope.names.lookup ("super" : Str)).isSome = false) (hm : mg "super" = none) :
    (∃ f cda cc fd, InK P K mg (He.ga K d.name) f cda cc d.qual d.params d.body d.scope fd d.fs) ∧ XfC K (He.ga K d.name) ∧ PySem.W.exmOne K (.ref (He.ga K d.name)) (.ref (He.ga K d.name)) = some true := by
  obtain ⟨c1, c⟩ := He.ba c
  obtain ⟨c2, c⟩ := He.ba c
  obtain ⟨c3, c⟩ := He.ba c
  obtain ⟨c4, c⟩ := He.ba c
  obtain ⟨c5, c⟩ := He.ba c
  obtain ⟨c6, c⟩ := He.ba c
  obtain ⟨c7, c⟩ := He.ba c
  obtain ⟨c8, c⟩ := He.ba c
  obtain ⟨c9, c⟩ := He.ba c
  obtain ⟨c10, c11⟩ := He.ba c
  refine ⟨?_, xfB_ok c10, of_decide_eq_true c11⟩
  unfold xcObs at e
  cases q : K.lookup (xcF K d.name) with
  | none => rw [q] at c3; cases c3
  | some o =>
    obtain ⟨oc, od, dt, osl⟩ := o
    rw [q] at c3 e
    cases dt with
    | func fd =>
      obtain ⟨n1, n2, n3, n4, n5, n6, n7, n8, n9, n10, n11, n12, n13, n14, n15⟩ := fd
      simp only at c3 e
      have e2 : (some (n1, n2, n3, n4, n5, n6, n7.map (·.1), n8, n15) : FnX) = d.val := e
      unfold XcD.val at e2
      simp only [Option.some.injEq, Prod.mk.injEq] at e2
      obtain ⟨h1, h2, h3, h4, h5, h6, h7, h8, h9⟩ := e2
      subst h1 h2 h3 h4 h5 h6 h8 h9
      obtain ⟨k1, k2⟩ := He.ba c3
      obtain ⟨k4, k3⟩ := He.ba k2
      clear k2
      match n7, h7 with
      | [(y, cc)], h7 =>
        simp only [List.map_cons, List.map_nil, List.cons.injEq, and_true] at h7
        subst h7
        unfold fileB at k4
        split at k4
        · rename_i cda
          refine ⟨_, cda, cc, _, ⟨⟨oc, od, .none, n9, n10, n11, n12, n14, osl, q, rfl, rfl⟩, k1, ?_, ?_, oex_ok c4, of_decide_eq_true c5, He.eqO_ok c6, of_decide_eq_true c7, He.eqO_ok c8, htop, hm, He.eqO_ok c1, of_decide_eq_true c2, fun x hx => He.eqO_ok (List.all_eq_true.mp c9 x hx)⟩⟩
          · split at k4
            · rename_i ccl cdd vs ccs ek
              split at k4
              · rename_i file tf ev
                exact ⟨ccl, cdd, vs, ccs, file, tf, ek, ev, by rw [hfl]; exact k4⟩
              · cases k4
            · cases k4
          · simp only [cloC] at k3
            split at k3
            · rename_i cl cld c' csl ek
              have k3 := of_decide_eq_true k3
              subst k3
              exact ⟨cl, cld, csl, ek⟩
            · cases k3
        · cases k4
    | _ => cases c3
/-! the Hook -/
abbrev AlX : Type := Bool × List He.FnW × List FnX
def obsX (fl : Str) (fa : List He.Fa) (fn : List He.DefD) (xs : List XcD) (K : PySem.W.Frag) : AlX := ((fa.all fun f => f.ok K) && ((fn.all fun d => d.ok K) && xs.all fun d => xcB fl K d), fn.map fun d => He.fnW K d.at_, xs.map fun d => xcObs K d)
def valX (fn : List He.DefD) (xs : List XcD) : AlX := (true, fn.map He.DefD.val, xs.map XcD.val)
def SaysX (fl : Str) (fa : List He.Fa) (fn : List He.DefD) (xs : List XcD) (K : PySem.W.Frag) : Prop := obsX fl fa fn xs K = valX fn xs
def obsXG (n : Nat) (fl : Str) (fa : List He.Fa) (fn : List He.DefD) (xs : List XcD) (g : Addr → Option Obj) : AlX := obsX fl fa fn xs (He.frG g (cStatics :: He.asD g n))
def hookX (n : Nat) (fl : Str) (fa : List He.Fa) (fn : List He.DefD) (xs : List XcD) : PySem.W.Hook where
  α := AlX
  obs := fun s => obsXG n fl fa fn xs s.heap.get?
  val := fun _ => valX fn xs
  says := fun _ h => ∃ K : PySem.W.Frag, K.In h ∧ SaysX fl fa fn xs K
  of := fun _ _ e => ⟨_, He.frG_in, e⟩
  keeps := fun _ _ _ ⟨K, hK, c⟩ k => ⟨K, PySem.W.Frag.In.keeps hK k, c⟩
theorem obsXG_eq {n : Nat} {fl : Str} {fa : List He.Fa} {fn : List He.DefD} {xs : List XcD} {g : Addr → Option Obj} {s : Shared} (h : ∀ a, g a = s.heap.get? a) : obsXG n fl fa fn xs g = (hookX n fl fa fn xs).obs s := by
  have e : g = s.heap.get? := funext h
  rw [e] <;> rfl
section
variable {fl : Str} {fa : List He.Fa} {fn : List He.DefD} {xs : List XcD} {K : PySem.W.Frag}
theorem SaysX.fact (c : SaysX fl fa fn xs K) (i : Nat) {f : He.Fa} (h : fa[i]? = some f := by rfl) : f.ok K = true := by
  have c1 := (He.ba (show ((fa.all fun f => f.ok K) && ((fn.all fun d => d.ok K) && xs.all fun d => xcB fl K d)) = true from congrArg (fun z : AlX => z.1) c)).1
  exact List.all_eq_true.mp c1 f (List.mem_of_getElem? h)
theorem SaysX.def_ (c : SaysX fl fa fn xs K) (i : Nat) {d : He.DefD} (h : fn[i]? = some d := by rfl) : ∃ fd, FunD K d.name d.qual d.params d.body d.scope (d.dvs K) (d.kws K) (He.fAd K d.at_) fd := by
  have c2 := (He.ba (He.ba (show ((fa.all fun f => f.ok K) && ((fn.all fun d => d.ok K) && xs.all fun d => xcB fl K d)) = true from congrArg (fun z : AlX => z.1) c)).2).1
  have e : fn.map (fun d => He.fnW K d.at_) = fn.map He.DefD.val := congrArg (fun z : AlX => z.2.1) c
  have e2 : (fn.map fun d => He.fnW K d.at_)[i]? = (fn.map He.DefD.val)[i]? := by rw [e]
  rw [List.getElem?_map, List.getElem?_map, h] at e2
  exact He.DefD.funD (Option.some.inj e2) (List.all_eq_true.mp c2 d (List.mem_of_getElem? h))
theorem SaysX.exc (c : SaysX fl fa fn xs K) (i : Nat) {d : XcD} (h : xs[i]? = some d := by rfl) : xcObs K d = d.val ∧ xcB fl K d = true := by
  have c2 := (He.ba (He.ba (show ((fa.all fun f => f.ok K) && ((fn.all fun d => d.ok K) && xs.all fun d => xcB fl K d)) = true from congrArg (fun z : AlX => z.1) c)).2).2
  have e : xs.map (fun d => xcObs K d) = xs.map XcD.val := congrArg (fun z : AlX => z.2.2) c
  have e2 : (xs.map fun d => xcObs K d)[i]? = (xs.map XcD.val)[i]? := by rw [e]
  rw [List.getElem?_map, List.getElem?_map, h] at e2
  exact ⟨Option.some.inj e2, List.all_eq_true.mp c2 d (List.mem_of_getElem? h)⟩
end
/-- the law's end -/
def spLaw (K : PySem.W.Frag) (ca : Str → Addr) (F : List D → S → Out D) : Sp := spF K ca 1 F
theorem law_end {K : PySem.W.Frag} {ca : Str → Addr} {F : List D → S → Out D} {H : Hp} {a : Addr} {ns : List Int} (hS : SqL K H a (ns.map V.int)) (h : ∃ s, F [.ro (ns.map fun i => .p (.int i))] [] = .ok (.p (.bl true)) s) :
    spF K ca 1 F [.ref a] H (fun v _ => v = .bl true) (fun _ _ _ => False) := by
  obtain ⟨s, h⟩ := h
  refine ⟨rfl, [], [.ro (ns.map fun i => .p (.int i))], [], ⟨rfl, List.nodup_nil, fun n c b e1 _ => by simp at e1⟩, ⟨.ref a, [], rfl, ⟨a, ns.map V.int, rfl, ?_, ?_⟩, rfl⟩, ?_⟩
  · rcases hS with hS | hS
    · exact .inl ⟨hS, by simp⟩
    · exact .inr hS
  · have key : ∀ ns : List Int, RepDs K H [] (ns.map fun i => D.p (.int i)) (ns.map V.int) := by
      intro ns
      induction ns with
      | nil => rfl
      | cons n ns ih => exact ⟨.int n, _, rfl, rfl, ih⟩
    exact key ns
  · rw [h]
    intro m' H' v _ _ r
    exact r
end Mo
namespace Mo
open PySem PySem.Spec PyProof.Rows L2
/-- the law over such a head, whatever may be raised on the way -/
theorem walk_mo {l : PySem.W.OpenLaw} {n k : Nat} {q : Program} {loose : List Str} {XP : (Str → Option Value) → Heap → Prop} {YP : World → Heap → Prop} {d : DefRec} {x : Str} (hn : l.most = some n) (hn2 : n ≤ sizeLine) (hdf : d.params.defaults = []) (hr : Room k callerA)
    (F : ∀ (w : World) (mg : Str → Option Value) (fa : Addr) (h : Heap), YP w h → h.Ns mainGlobals mg → mg d.name = some (.ref fa) → ∃ (K : PySem.W.Frag) (fd : FuncData) (ca : Str → Addr) (G : List D → S → Out D), K.In h ∧ (∀ (s : Shared) (u : Value), BindsTo s fd ⟨[u], []⟩ [(x, u)]) ∧
      (∀ ns : List Int, ns.length ≤ n → ∃ s, G [.ro (ns.map fun i => .p (.int i))] [] = .ok (.p (.bl true)) s) ∧ ∀ base : Heap, K.In base → base.Ns mainGlobals mg → FnOk l.prog w K mg base (L2.CX l.prog w) k fa fd [x] (spF K ca 1 G)) :
    PySem.W.WalkO q loose XP YP l.row.toRowW d [] (fun f vs => PySem.call f vs) :=
  Att.attach_call hn hdf fun w _ s₁ mg mb fa _ _ _ _ a vs ns G Y _ _ _ hmg hobj hints hlen hg => by
    obtain ⟨K, fd, ca, g, KX, hb, hsp, hF⟩ := F w mg fa _ Y G.T.g hmg
    refine law_call KX G.T.g G.T.b G.T.builtins G.T.nolimit hg hobj hints (Nat.le_trans hlen hn2) hr hF hb (fun H _ hS => law_end hS (hsp ns hlen)) fun H e s' hx => ?_
    obtain ⟨_, _, _, _, _, _, _, _, _, _, _, _, no⟩ := hx
    exact no
theorem bindsKw {K : PySem.W.Frag} {x qual : Str} {params : Arguments} {body : List Stmt} {scope : Scope} {kws : List (Str × V)} {f : Addr} {fd : FuncData} {ps ks : List Str} {pi : List Nat} {j : Nat} (F : FunD K x qual params body scope [] kws f fd)
    (h : ∀ (kV doc pm : Value) (an : Option Addr) (cdv ct : Value) (us ws : List Value), us.length = j → ws.length = ks.length → bindArgs (PySem.W.fnOf x qual params body scope .none kV doc pm an cdv ct) ⟨us, ks.zip ws⟩ = pure (ps.zip (arr pi (us ++ ws)))) :
    ∀ (s : Shared) (us ws : List Value), K.In s.heap → us.length = j → ws.length = ks.length → BindsTo s fd ⟨us, ks.zip ws⟩ (ps.zip (arr pi (us ++ ws))) := fun s us ws _ l1 l2 => by
  obtain ⟨oc, od, dV, kV, doc, pm, an, cdv, ct, osl, rfl, lk, hcd, hD, hK⟩ := F.ex
  rcases hD with ⟨_, rfl⟩ | ⟨e, _⟩
  · exact .of_eq (h kV doc pm an cdv ct us ws l1 l2)
  · exact absurd rfl e
theorem excOk_of {P : Program} {w : World} {K : PySem.W.Frag} {mg : Str → Option Value} {base : Heap} {ca : Str → Addr} {x : Str} {f cda cc : Addr} {fd : FuncData} {qual : Str} {params : Arguments} {body : List Stmt} {scope : Scope} {ps fs : List Str} (hm : mg x = some (.ref (ca x)))
    (D : InK P K mg (ca x) f cda cc qual params body scope fd fs) (F : FnOk P w K mg base (L2.CX P w) 1 f fd ps (spI K (ca x) fs))
    (hb : ∀ (kV doc pm : Value) (an : Option Addr) (cdv ct : Value) (cc : Addr) (us : List Value), us.length = ps.length → bindArgs (PySem.W.ksFn "__init__" qual params body scope .none kV doc pm an cdv ct cc) ⟨us, []⟩ = pure (ps.zip us)) : ExcOk P w K mg base ca 1 x fs := by
  refine ⟨D.T, hm, f, fd, ps, F, D.init, D.tI, ?_⟩
  obtain ⟨oc, od, dV, kV, doc, pm, an, ct, osl, lk, rfl, rfl⟩ := D.lk
  exact .all (hb kV doc pm an _ ct cc)
end Mo

set_option Elab.async false
set_option linter.all false
set_option maxRecDepth 100000
set_option maxHeartbeats 1000000
/-! what a block asks, name by name: conditions drawn from the denotations -/
namespace Mo
open PySem L2
def wO {α : Type} (o : Out α) (Q : α → S → Prop) (E : Xc → S → Prop) : Prop := match o with
  | .ok a s => Q a s
  | .ex x s => E x s
  | .no => False
@[simp] theorem wO_ok {α : Type} (a : α) (s : S) (Q : α → S → Prop) (E : Xc → S → Prop) : wO (.ok a s) Q E = Q a s := rfl
@[simp] theorem wO_ex {α : Type} (x : Xc) (s : S) (Q : α → S → Prop) (E : Xc → S → Prop) : wO (.ex x s) Q E = E x s := rfl
@[simp] theorem wO_no {α : Type} (Q : α → S → Prop) (E : Xc → S → Prop) : wO .no Q E = False := rfl
theorem wO.mono {α : Type} {o : Out α} {Q Q' : α → S → Prop} {E E' : Xc → S → Prop} (h : wO o Q E) (h1 : ∀ a s, Q a s → Q' a s) (h2 : ∀ x s, E x s → E' x s) : wO o Q' E' := by
  cases o with
  | ok a s => exact h1 _ _ h
  | ex x s => exact h2 _ _ h
  | no => exact h
theorem wO.bind {α β : Type} {o : Out α} {f : α → S → Out β} {Q : β → S → Prop} {E : Xc → S → Prop} (h : wO o (fun a s => wO (f a s) Q E) E) : wO (o.bind f) Q E := by
  cases o with
  | ok a s => exact h
  | ex x s => exact h
  | no => exact h
theorem wO.of {α : Type} {o : Out α} {Q : α → S → Prop} (h : wO o Q fun _ _ => False) : ∃ a s, o = .ok a s ∧ Q a s := by
  cases o with
  | ok a s => exact ⟨a, s, rfl, h⟩
  | ex x s => exact h.elim
  | no => exact h.elim
def vO {α : Type} (o : Option (α × S)) (k : α → S → Prop) : Prop := match o with
  | some (d, s) => k d s
  | none => False
@[simp] theorem vO_some {α : Type} (d : α) (s : S) (k : α → S → Prop) : vO (some (d, s)) k = k d s := rfl
@[simp] theorem vO_none {α : Type} (k : α → S → Prop) : vO none k = False := rfl
theorem vO_eq {α : Type} {o : Option (α × S)} {d : α} {s : S} {k : α → S → Prop} (e : o = some (d, s)) (h : k d s) : vO o k := by rw [e]; exact h
def vP (o : Option S) (k : S → Prop) : Prop := match o with
  | some s => k s
  | none => False
@[simp] theorem vP_some (s : S) (k : S → Prop) : vP (some s) k = k s := rfl
def vI (d : D) (k : Int → Prop) : Prop := match d with
  | .p (.int i) => k i
  | _ => False
@[simp] theorem vI_int (i : Int) (k : Int → Prop) : vI (.p (.int i)) k = k i := rfl
def vBl (d : D) (k : Bool → Prop) : Prop := match d with
  | .p (.bl b) => k b
  | _ => False
@[simp] theorem vBl_bl (b : Bool) (k : Bool → Prop) : vBl (.p (.bl b)) k = k b := rfl
/-- one way or the other, then k -/
def vC {α : Type} (b : Bool) (A B : (α → S → Prop) → Prop) (k : α → S → Prop) : Prop := if b = true then A k else B k
@[simp] theorem vC_true {α : Type} (A B : (α → S → Prop) → Prop) (k : α → S → Prop) : vC true A B k = A k := rfl
@[simp] theorem vC_false {α : Type} (A B : (α → S → Prop) → Prop) (k : α → S → Prop) : vC false A B k = B k := rfl
def vT (d : D) (k : List D → Prop) : Prop := match viT d with
  | some ds => k ds
  | none => False
theorem vT_eq {d : D} {ds : List D} {k : List D → Prop} (e : viT d = some ds) (h : k ds) : vT d k := by unfold vT; rw [e]; exact h
@[simp] theorem vT_tup (ps : List P) (k : List D → Prop) : vT (.p (.tup ps)) k = k (ps.map D.p) := rfl
def vH (ds : List D) (k : D → List D → Prop) : Prop := match ds with
  | d :: r => k d r
  | [] => False
@[simp] theorem vH_cons (d : D) (r : List D) (k : D → List D → Prop) : vH (d :: r) k = k d r := rfl
def vN (ds : List D) (k : Unit → Prop) : Prop := match ds with
  | [] => k ()
  | _ => False
@[simp] theorem vN_nil (k : Unit → Prop) : vN [] k = k () := rfl
def vTy (s : S) (d : D) (k : String → Prop) : Prop := match tyD s d with
  | some t => k t
  | none => False
@[simp] theorem vTy_p (s : S) (p : P) (k : String → Prop) : vTy s (.p p) k = k (tyP p) := rfl
/-- x[y] of a list, a tuple, a text, a dict -/
def dGet (x y : D) (s : S) : Option (D × S) := match viD s x, keyD y with
  | some (ks, ds), some k => match lkD ks ds k with
    | some d => some (d, s)
    | none => none
  | _, _ => none
def dSb (x y : D) (s : S) : Option (D × S) := match dIx x y s with
  | some r => some r
  | none => dGet x y s
theorem dSb_ix {x y d : D} {s s' : S} (h : dIx x y s = some (d, s')) : dSb x y s = some (d, s') := by unfold dSb; rw [h]
@[simp] theorem dSb_0 (a : P) (l : List P) (s : S) : dSb (.p (.tup (a :: l))) (.p (.int 0)) s = some (.p a, s) := dSb_ix (dIx_0 ..)
@[simp] theorem dSb_1 (a b : P) (l : List P) (s : S) : dSb (.p (.tup (a :: b :: l))) (.p (.int 1)) s = some (.p b, s) := dSb_ix (dIx_1 ..)
@[simp] theorem dSb_2 (a b c : P) (l : List P) (s : S) : dSb (.p (.tup (a :: b :: c :: l))) (.p (.int 2)) s = some (.p c, s) := dSb_ix (dIx_2 ..)
@[simp] theorem dSb_3 (a b c d : P) (l : List P) (s : S) : dSb (.p (.tup (a :: b :: c :: d :: l))) (.p (.int 3)) s = some (.p d, s) := dSb_ix (dIx_3 ..)
@[simp] theorem dSb_4 (a b c d e : P) (l : List P) (s : S) : dSb (.p (.tup (a :: b :: c :: d :: e :: l))) (.p (.int 4)) s = some (.p e, s) := dSb_ix (dIx_4 ..)
/-- x in y -/
def dInn (n : Bool) (x y : D) (s : S) : Option (D × S) := match inD n x y s with
  | some r => some r
  | none => match viD s y, keyD x with
    | some (ks, ds), some k => some (.p (.bl (xor n (lkD ks ds k).isSome)), s)
    | _, _ => none
def putA (o i d : D) (s : S) : Option S := match putL o i d s with
  | some r => some r
  | none => putD o i d s

/-! what is known of the slots -/
def Ap (a ρ : Env) : Prop := a.length = ρ.length ∧ ∀ (i : Nat) (d : D), a[i]? = some (some d) → ρ[i]? = some (some d)
theorem Ap.refl (a : Env) : Ap a a := ⟨rfl, fun _ _ h => h⟩
theorem Ap.set {a ρ : Env} (h : Ap a ρ) (i : Nat) (x : Option D) : Ap (a.set i x) (ρ.set i x) := by
  refine ⟨by simp [h.1], fun j d hj => ?_⟩
  by_cases e : i = j
  · subst e
    by_cases hl : i < a.length
    · rw [List.getElem?_set_self hl] at hj
      rw [List.getElem?_set_self (h.1 ▸ hl)]; exact hj
    · rw [List.getElem?_eq_none (by simp; omega)] at hj; cases hj
  · rw [List.getElem?_set_ne e] at hj ⊢
    exact h.2 j d hj
theorem Ap.wipe {a ρ : Env} (h : Ap a ρ) : ∀ own : List Nat, Ap (wipeE a own) (wipeE ρ own)
  | [] => h
  | v :: vs => (Ap.wipe h vs).set v none
inductive LeE : Env → Env → Prop
  | nil : LeE [] []
  | n {b a : Env} {x : Option D} : LeE b a → LeE (none :: b) (x :: a)
  | s {b a : Env} {d : D} : LeE b a → LeE (some d :: b) (some d :: a)
theorem LeE.ap {b a : Env} (h : LeE b a) : Ap b a := by
  induction h with
  | nil => exact Ap.refl _
  | n h ih =>
    refine ⟨by simp [ih.1], fun i d e => ?_⟩
    cases i with
    | zero => simp at e
    | succ i => simpa using ih.2 i d (by simpa using e)
  | s h ih =>
    refine ⟨by simp [ih.1], fun i d e => ?_⟩
    cases i with
    | zero => simpa using e
    | succ i => simpa using ih.2 i d (by simpa using e)
theorem Ap.trans {a b ρ : Env} (h : Ap a b) (h' : Ap b ρ) : Ap a ρ := ⟨h.1.trans h'.1, fun i d e => h'.2 i d (h.2 i d e)⟩

/-! expressions, tests, argument lists -/
abbrev Wt (α : Type) := S → (α → S → Prop) → (Xc → S → Prop) → Prop
def VE {α : Type} (a : Env) (A : Env → S → Out α) (w : Wt α) : Prop := ∀ ρ s Q E, Ap a ρ → w s Q E → wO (A ρ s) Q E
/-- .. and how many -/
def VA (n : Nat) (a : Env) (As : Ar) (w : Wt (List D)) : Prop := VE a As w ∧ ∀ ρ s xs s', As ρ s = .ok xs s' → xs.length = n
section
variable {a : Env} {A B : Ex} {wa wb : Wt D} {T U : Te} {wt wu : Wt Bool} {As : Ar} {ws : Wt (List D)} {n : Nat}
theorem ve_var {i : Nat} {d : D} (h : a[i]? = some (some d)) : VE a (eVar i) (fun s Q _ => Q d s) := fun ρ s Q E hp q => by
  have e := hp.2 i d h
  simp only [eVar, e]
  exact q
theorem ve_c {p : P} : VE a (eC p) (fun s Q _ => Q (.p p) s) := fun ρ s Q E hp q => q
theorem ve_op {f : D → D → S → Option (D × S)} (ha : VE a A wa) (hb : VE a B wb) : VE a (eOp f A B) (fun s Q E => wa s (fun x s1 => wb s1 (fun y s2 => vO (f x y s2) Q) E) E) := fun ρ s Q E hp q => by
  refine (ha ρ s _ _ hp q).mono (fun x s1 q1 => ?_) (fun _ _ h => h) |> wO.bind
  refine (hb ρ s1 _ _ hp q1).mono (fun y s2 q2 => ?_) (fun _ _ h => h) |> wO.bind
  cases e : f x y s2 with
  | none => rw [e] at q2; exact q2
  | some r => obtain ⟨d, s3⟩ := r; rw [e] at q2; exact q2
theorem ve_neg (ha : VE a A wa) : VE a (eNeg A) (fun s Q E => wa s (fun x s1 => vI x fun i => Q (.p (.int (-i))) s1) E) := fun ρ s Q E hp q => by
  refine (ha ρ s _ _ hp q).mono (fun x s1 q1 => ?_) (fun _ _ h => h) |> wO.bind
  unfold vI at q1
  split at q1
  · exact q1
  · exact q1.elim
theorem ve_not (ha : VE a A wa) : VE a (eNot A) (fun s Q E => wa s (fun x s1 => vBl x fun b => Q (.p (.bl (!b))) s1) E) := fun ρ s Q E hp q => by
  refine (ha ρ s _ _ hp q).mono (fun x s1 q1 => ?_) (fun _ _ h => h) |> wO.bind
  unfold vBl at q1
  split at q1
  · exact q1
  · exact q1.elim
theorem ve_isN (ha : VE a A wa) : VE a (eIsN A) (fun s Q E => wa s (fun x s1 => Q (.p (.bl (isN x))) s1) E) := fun ρ s Q E hp q =>
  (ha ρ s _ _ hp q).mono (fun x s1 q1 => q1) (fun _ _ h => h) |> wO.bind
theorem ve_notN (ha : VE a A wa) : VE a (eNotN A) (fun s Q E => wa s (fun x s1 => Q (.p (.bl (!isN x))) s1) E) := fun ρ s Q E hp q =>
  (ha ρ s _ _ hp q).mono (fun x s1 q1 => q1) (fun _ _ h => h) |> wO.bind
theorem ve_isI {t : String} (ha : VE a A wa) : VE a (eIsI t A) (fun s Q E => wa s (fun x s1 => vTy s1 x fun t' => Q (.p (.bl (isB t' t))) s1) E) := fun ρ s Q E hp q => by
  refine (ha ρ s _ _ hp q).mono (fun x s1 q1 => ?_) (fun _ _ h => h) |> wO.bind
  unfold vTy at q1
  split at q1
  · rename_i e; try rw [e]
    exact q1
  · exact q1.elim
theorem ve_tV (ha : VE a A wa) : VE a (tV A) (fun s Q E => wa s (fun x s1 => vBl x fun b => Q b s1) E) := fun ρ s Q E hp q => by
  refine (ha ρ s _ _ hp q).mono (fun x s1 q1 => ?_) (fun _ _ h => h) |> wO.bind
  unfold vBl at q1
  split at q1
  · exact q1
  · exact q1.elim
theorem ve_tTrue : VE a tTrue (fun s Q _ => Q true s) := fun ρ s Q E hp q => q
theorem ve_tNot (ht : VE a T wt) : VE a (tNot_ T) (fun s Q E => wt s (fun b s1 => Q (!b) s1) E) := fun ρ s Q E hp q =>
  (ht ρ s _ _ hp q).mono (fun x s1 q1 => q1) (fun _ _ h => h) |> wO.bind
theorem ve_tAnd (ht : VE a T wt) (hu : VE a U wu) : VE a (tAnd_ T U) (fun s Q E => wt s (fun b s1 => vC b (fun j => wu s1 j E) (fun j => j false s1) Q) E) := fun ρ s Q E hp q => by
  refine (ht ρ s _ _ hp q).mono (fun b s1 q1 => ?_) (fun _ _ h => h) |> wO.bind
  cases b with
  | true => exact hu ρ s1 _ _ hp q1
  | false => exact q1
theorem ve_tOr (ht : VE a T wt) (hu : VE a U wu) : VE a (tOr_ T U) (fun s Q E => wt s (fun b s1 => vC b (fun j => j true s1) (fun j => wu s1 j E) Q) E) := fun ρ s Q E hp q => by
  refine (ht ρ s _ _ hp q).mono (fun b s1 q1 => ?_) (fun _ _ h => h) |> wO.bind
  cases b with
  | true => exact q1
  | false => exact hu ρ s1 _ _ hp q1
theorem ve_and (ha : VE a A wa) (hb : VE a B wb) : VE a (eAnd A B) (fun s Q E => wa s (fun x s1 => vBl x fun b => vC b (fun j => wb s1 j E) (fun j => j (.p (.bl false)) s1) Q) E) := fun ρ s Q E hp q => by
  refine (ha ρ s _ _ hp q).mono (fun x s1 q1 => ?_) (fun _ _ h => h) |> wO.bind
  unfold vBl at q1
  split at q1
  · rename_i b
    cases b with
    | true => exact hb ρ s1 _ _ hp q1
    | false => exact q1
  · exact q1.elim
theorem ve_or (ha : VE a A wa) (hb : VE a B wb) : VE a (eOr A B) (fun s Q E => wa s (fun x s1 => vBl x fun b => vC b (fun j => j (.p (.bl true)) s1) (fun j => wb s1 j E) Q) E) := fun ρ s Q E hp q => by
  refine (ha ρ s _ _ hp q).mono (fun x s1 q1 => ?_) (fun _ _ h => h) |> wO.bind
  unfold vBl at q1
  split at q1
  · rename_i b
    cases b with
    | true => exact q1
    | false => exact hb ρ s1 _ _ hp q1
  · exact q1.elim
theorem ve_if (ht : VE a T wt) (ha : VE a A wa) (hb : VE a B wb) : VE a (eIf T A B) (fun s Q E => wt s (fun b s1 => vC b (fun j => wa s1 j E) (fun j => wb s1 j E) Q) E) := fun ρ s Q E hp q => by
  refine (ht ρ s _ _ hp q).mono (fun b s1 q1 => ?_) (fun _ _ h => h) |> wO.bind
  cases b with
  | true => exact ha ρ s1 _ _ hp q1
  | false => exact hb ρ s1 _ _ hp q1
theorem va_nil : VA 0 a aNil (fun s Q _ => Q [] s) := ⟨fun ρ s Q E hp q => q, fun ρ s xs s' e => by cases e; rfl⟩
theorem va_cons (ha : VE a A wa) (hs : VA n a As ws) : VA (n + 1) a (aCons A As) (fun s Q E => wa s (fun x s1 => ws s1 (fun xs s2 => Q (x :: xs) s2) E) E) := by
  refine ⟨fun ρ s Q E hp q => ?_, fun ρ s xs s' e => ?_⟩
  · refine (ha ρ s _ _ hp q).mono (fun x s1 q1 => ?_) (fun _ _ h => h) |> wO.bind
    exact (hs.1 ρ s1 _ _ hp q1).mono (fun xs s2 q2 => q2) (fun _ _ h => h) |> wO.bind
  · unfold aCons at e
    cases ea : A ρ s with
    | no => rw [ea] at e; cases e
    | ex x s1 => rw [ea] at e; cases e
    | ok x s1 =>
      rw [ea] at e
      simp only [Out.bind_ok] at e
      cases es : As ρ s1 with
      | no => rw [es] at e; cases e
      | ex x s1 => rw [es] at e; cases e
      | ok ys s2 =>
        rw [es] at e
        cases e
        simp [hs.2 ρ s1 ys _ es]
theorem ve_tup (hs : VA n a As ws) (hn : n ≤ 1000 := by decide) : VE a (eTup As) (fun s Q E => ws s (fun xs s1 => Q (mkT xs) s1) E) := fun ρ s Q E hp q => by
  have h := hs.1 ρ s _ _ hp q
  unfold eTup
  cases e : As ρ s with
  | no => rw [e] at h; exact h
  | ex x s1 => rw [e] at h; exact h
  | ok xs s1 =>
    rw [e] at h
    have hl := hs.2 ρ s xs s1 e
    simp only [Out.bind_ok]
    rw [if_pos (by rw [sizeLine_eq]; omega)]
    exact h
theorem ve_lst (hs : VA n a As ws) (hn : n ≤ 1000 := by decide) : VE a (eLst As) (fun s Q E => ws s (fun xs s1 => Q (.lst xs) s1) E) := fun ρ s Q E hp q => by
  have h := hs.1 ρ s _ _ hp q
  unfold eLst
  cases e : As ρ s with
  | no => rw [e] at h; exact h
  | ex x s1 => rw [e] at h; exact h
  | ok xs s1 =>
    rw [e] at h
    have hl := hs.2 ρ s xs s1 e
    simp only [Out.bind_ok]
    rw [if_pos (by rw [sizeLine_eq]; omega)]
    exact h
theorem ve_lstC (hs : VA n a As ws) (hn : n ≤ 1000 := by decide) : VE a (eLstC As) (fun s Q E => ws s (fun xs s1 => Q (.loc s1.length) (s1 ++ [.lst xs])) E) := fun ρ s Q E hp q => by
  have h := hs.1 ρ s _ _ hp q
  unfold eLstC
  cases e : As ρ s with
  | no => rw [e] at h; exact h
  | ex x s1 => rw [e] at h; exact h
  | ok xs s1 =>
    rw [e] at h
    have hl := hs.2 ρ s xs s1 e
    simp only [Out.bind_ok]
    rw [if_pos (by rw [sizeLine_eq]; omega)]
    exact h
theorem ve_dnew : VE a eDNew (fun s Q _ => Q (.loc s.length) (s ++ [.dK [] []])) := fun ρ s Q E hp q => q
theorem ve_call {F : List D → S → Out D} (hs : VA n a As ws) : VE a (eF n F As) (fun s Q E => ws s (fun xs s1 => wO (F xs s1) Q E) E) := fun ρ s Q E hp q => by
  have h := hs.1 ρ s _ _ hp q
  unfold eF
  cases e : As ρ s with
  | no => rw [e] at h; exact h
  | ex x s1 => rw [e] at h; exact h
  | ok xs s1 =>
    rw [e] at h
    simp only [Out.bind_ok]
    rw [if_pos (hs.2 ρ s xs s1 e)]
    exact h
theorem ve_callK {F : List D → S → Out D} {pi : List Nat} {m k : Nat} {Bs : Ar} {ws' : Wt (List D)} (hs : VA n a As ws) (hs' : VA m a Bs ws') (hk : k = n + m := by rfl) : VE a (eFK k F pi As Bs) (fun s Q E => ws s (fun xs s1 => ws' s1 (fun ys s2 => wO (F (arr pi (xs ++ ys)) s2) Q E) E) E) := fun ρ s Q E hp q => by
  have h := hs.1 ρ s _ _ hp q
  unfold eFK
  cases e : As ρ s with
  | no => rw [e] at h; exact h
  | ex x s1 => rw [e] at h; exact h
  | ok xs s1 =>
    rw [e] at h
    simp only [Out.bind_ok]
    have h' := hs'.1 ρ s1 _ _ hp h
    cases e' : Bs ρ s1 with
    | no => rw [e'] at h'; exact h'
    | ex x s1 => rw [e'] at h'; exact h'
    | ok ys s2 =>
      rw [e'] at h'
      simp only [Out.bind_ok]
      rw [if_pos (by rw [hs.2 ρ s xs s1 e, hs'.2 ρ s1 ys s2 e', hk])]
      exact h'
theorem ve_ca {f : List D → S → Option (D × S)} (hs : VA n a As ws) : VE a (eCa f As) (fun s Q E => ws s (fun xs s1 => vO (f xs s1) Q) E) := fun ρ s Q E hp q => by
  refine (hs.1 ρ s _ _ hp q).mono (fun xs s1 q1 => ?_) (fun _ _ h => h) |> wO.bind
  cases e : f xs s1 with
  | none => rw [e] at q1; exact q1
  | some r => obtain ⟨d, s3⟩ := r; rw [e] at q1; exact q1
theorem ve_me {ty : S → D → Bool} {f : D → List D → S → Option (D × S)} (ha : VE a A wa) (hs : VA n a As ws) : VE a (eMe ty f A As) (fun s Q E => wa s (fun o s1 => ty s1 o = true ∧ ws s1 (fun xs s2 => vO (f o xs s2) Q) E) E) := fun ρ s Q E hp q => by
  refine (ha ρ s _ _ hp q).mono (fun o s1 q1 => ?_) (fun _ _ h => h) |> wO.bind
  rw [if_pos q1.1]
  refine (hs.1 ρ s1 _ _ hp q1.2).mono (fun xs s2 q2 => ?_) (fun _ _ h => h) |> wO.bind
  cases e : f o xs s2 with
  | none => rw [e] at q2; exact q2
  | some r => obtain ⟨d, s3⟩ := r; rw [e] at q2; exact q2
theorem ve_sub (ha : VE a A wa) (hb : VE a B wb) : VE a (eSub A B) (fun s Q E => wa s (fun x s1 => wb s1 (fun y s2 => vO (dSb x y s2) Q) E) E) := fun ρ s Q E hp q => by
  have h := ha ρ s _ _ hp q
  unfold eSub orE eOp eDGet
  cases e : A ρ s with
  | no => rw [e] at h; exact h.elim
  | ex x s1 => rw [e] at h; exact h
  | ok x s1 =>
    rw [e] at h
    have h' := hb ρ s1 _ _ hp h
    simp only [Out.bind_ok]
    cases e' : B ρ s1 with
    | no => rw [e'] at h'; exact h'.elim
    | ex x s1 => rw [e'] at h'; exact h'
    | ok y s2 =>
      rw [e'] at h'
      simp only [Out.bind_ok]
      replace h' : vO (dSb x y s2) Q := h'
      unfold dSb at h'
      cases ei : dIx x y s2 with
      | some r => obtain ⟨d, s3⟩ := r; rw [ei] at h'; exact h'
      | none =>
        rw [ei] at h'
        simp only [ofO] at h' ⊢
        unfold dGet at h'
        split at h'
        · rename_i ks ds k e1 e2
          try simp only [e1, e2]
          cases e3 : lkD ks ds k with
          | none => rw [e3] at h'; exact h'
          | some d => rw [e3] at h'; exact h'
        · exact h'.elim
theorem ve_in {n : Bool} (ha : VE a A wa) (hb : VE a B wb) : VE a (eIn n A B) (fun s Q E => wa s (fun x s1 => wb s1 (fun y s2 => vO (dInn n x y s2) Q) E) E) := fun ρ s Q E hp q => by
  have h := ha ρ s _ _ hp q
  unfold eIn orE eOp eDIn
  cases e : A ρ s with
  | no => rw [e] at h; exact h.elim
  | ex x s1 => rw [e] at h; exact h
  | ok x s1 =>
    rw [e] at h
    have h' := hb ρ s1 _ _ hp h
    simp only [Out.bind_ok]
    cases e' : B ρ s1 with
    | no => rw [e'] at h'; exact h'.elim
    | ex x s1 => rw [e'] at h'; exact h'
    | ok y s2 =>
      rw [e'] at h'
      simp only [Out.bind_ok]
      replace h' : vO (dInn n x y s2) Q := h'
      unfold dInn at h'
      cases ei : inD n x y s2 with
      | some r => obtain ⟨d, s3⟩ := r; rw [ei] at h'; exact h'
      | none =>
        rw [ei] at h'
        simp only [ofO] at h' ⊢
        split at h'
        · rename_i ks ds k e1 e2
          try simp only [e1, e2]
          exact h'
        · exact h'.elim
theorem ve_tIn {n : Bool} (ha : VE a A wa) (hb : VE a B wb) : VE a (tIn n A B) (fun s Q E => wa s (fun x s1 => wb s1 (fun y s2 => vO (dInn n x y s2) fun d s3 => vBl d fun b => Q b s3) E) E) := fun ρ s Q E hp q => by
  have h := ha ρ s _ _ hp q
  unfold tIn orT tV eOp eDIn
  cases e : A ρ s with
  | no => rw [e] at h; exact h.elim
  | ex x s1 => rw [e] at h; exact h
  | ok x s1 =>
    rw [e] at h
    have h' := hb ρ s1 _ _ hp h
    simp only [Out.bind_ok]
    cases e' : B ρ s1 with
    | no => rw [e'] at h'; exact h'.elim
    | ex x s1 => rw [e'] at h'; exact h'
    | ok y s2 =>
      rw [e'] at h'
      simp only [Out.bind_ok]
      replace h' : vO (dInn n x y s2) (fun d s3 => vBl d fun b => Q b s3) := h'
      unfold dInn at h'
      cases ei : inD n x y s2 with
      | some r =>
        obtain ⟨d, s3⟩ := r
        rw [ei] at h'
        simp only [ofO, Out.bind_ok, vO_some] at h' ⊢
        unfold vBl at h'
        split at h'
        · exact h'
        · exact h'.elim
      | none =>
        rw [ei] at h'
        simp only [ofO, Out.bind_no] at h' ⊢
        split at h'
        · rename_i ks ds k e1 e2
          try simp only [e1, e2, Out.bind_ok]
          exact h'
        · exact h'.elim
theorem vp_no : VE a pNo (fun s Q _ => Q none s) := fun ρ s Q E hp q => q
theorem vp_so (ha : VE a A wa) : VE a (pSo A) (fun s Q E => wa s (fun x s1 => vI x fun i => Q (some i) s1) E) := fun ρ s Q E hp q => by
  refine (ha ρ s _ _ hp q).mono (fun x s1 q1 => ?_) (fun _ _ h => h) |> wO.bind
  unfold vI at q1
  split at q1
  · exact q1
  · exact q1.elim
theorem ve_sl {Pl Ph : Pa} {wl wh : Wt (Option Int)} (ha : VE a A wa) (hl : VE a Pl wl) (hh : VE a Ph wh) : VE a (eSl A Pl Ph) (fun s Q E => wa s (fun x s1 => wl s1 (fun lo s2 => wh s2 (fun hi s3 => vO (dSl x lo hi s3) Q) E) E) E) := fun ρ s Q E hp q => by
  refine (ha ρ s _ _ hp q).mono (fun x s1 q1 => ?_) (fun _ _ h => h) |> wO.bind
  refine (hl ρ s1 _ _ hp q1).mono (fun lo s2 q2 => ?_) (fun _ _ h => h) |> wO.bind
  refine (hh ρ s2 _ _ hp q2).mono (fun hi s3 q3 => ?_) (fun _ _ h => h) |> wO.bind
  cases e : dSl x lo hi s3 with
  | none => rw [e] at q3; exact q3
  | some r => obtain ⟨d, s3⟩ := r; rw [e] at q3; exact q3

/-! what is walked -/
def vW (o : Option Wk) (k : Wk → Prop) : Prop := match o with
  | some w => k w
  | none => False
@[simp] theorem vW_some (w : Wk) (k : Wk → Prop) : vW (some w) k = k w := rfl
/-- range(..) -/
def rgOf : List D → Option Wk
  | [.p (.int j)] => if -1000000000000 ≤ j ∧ j ≤ 1000000000000 then some ⟨rgD 0 1 j.toNat, fun _ => true⟩ else none
  | [.p (.int i), .p (.int j)] => if -1000000000000 ≤ i ∧ i ≤ 1000000000000 ∧ -1000000000000 ≤ j ∧ j ≤ 1000000000000 then some ⟨rgD i 1 (j - i).toNat, fun _ => true⟩ else none
  | [.p (.int i), .p (.int j), .p (.int c)] => if c = -1 ∧ -1000000000000 ≤ i ∧ i ≤ 1000000000000 ∧ -1000000000000 ≤ j ∧ j ≤ 1000000000000 then some ⟨rgD i (-1) (i - j).toNat, fun _ => true⟩ else none
  | _ => none
theorem vs_any (ha : VE a A wa) : VE a (sAny A) (fun s Q E => wa s (fun x s1 => vW (wkOf s1 x) fun k => Q k s1) E) := fun ρ s Q E hp q => by
  refine (ha ρ s _ _ hp q).mono (fun x s1 q1 => ?_) (fun _ _ h => h) |> wO.bind
  unfold vW at q1
  split at q1
  · rename_i e; try rw [e]
    exact q1
  · exact q1.elim
theorem vs_rng1 (hs : VA 1 a As ws) : VE a (sRng1 As) (fun s Q E => ws s (fun xs s1 => vW (rgOf xs) fun k => Q k s1) E) := fun ρ s Q E hp q => by
  have q0 := hs.1 ρ s _ _ hp q
  replace q0 : wO (As ρ s) (fun xs s1 => xs.length = 1 ∧ vW (rgOf xs) fun k => Q k s1) E := by
    cases e : As ρ s with
    | no => rw [e] at q0; exact q0
    | ex x s1 => rw [e] at q0; exact q0
    | ok xs s1 => rw [e] at q0; exact ⟨hs.2 ρ s xs s1 e, q0⟩
  refine q0.mono (fun xs s1 q1 => ?_) (fun _ _ h => h) |> wO.bind
  obtain ⟨hl, q1⟩ := q1
  match xs, hl with
  | [x], _ =>
    unfold vW rgOf at q1
    split at q1
    · rename_i e
      split at e
      · rename_i h
        injection h with h1 h2
        subst h1
        split at e
        · cases e
          rename_i j hb
          simp only
          rw [if_pos (by omega)]
          exact q1
        · cases e
      · rename_i h; cases h
      · rename_i h; cases h
      · cases e
    · exact q1.elim
theorem vs_rng2 (hs : VA 2 a As ws) : VE a (sRng2 As) (fun s Q E => ws s (fun xs s1 => vW (rgOf xs) fun k => Q k s1) E) := fun ρ s Q E hp q => by
  have q0 := hs.1 ρ s _ _ hp q
  replace q0 : wO (As ρ s) (fun xs s1 => xs.length = 2 ∧ vW (rgOf xs) fun k => Q k s1) E := by
    cases e : As ρ s with
    | no => rw [e] at q0; exact q0
    | ex x s1 => rw [e] at q0; exact q0
    | ok xs s1 => rw [e] at q0; exact ⟨hs.2 ρ s xs s1 e, q0⟩
  refine q0.mono (fun xs s1 q1 => ?_) (fun _ _ h => h) |> wO.bind
  obtain ⟨hl, q1⟩ := q1
  match xs, hl with
  | [x, y], _ =>
    unfold vW rgOf at q1
    split at q1
    · rename_i e
      split at e
      · rename_i h; cases h
      · rename_i h
        injection h with h1 h2
        injection h2 with h2 h3
        subst h1 h2
        split at e
        · cases e
          rename_i j hb
          simp only
          rw [if_pos (by omega)]
          exact q1
        · cases e
      · rename_i h; cases h
      · cases e
    · exact q1.elim
theorem vs_rng3 (hs : VA 3 a As ws) : VE a (sRng3 As) (fun s Q E => ws s (fun xs s1 => vW (rgOf xs) fun k => Q k s1) E) := fun ρ s Q E hp q => by
  have q0 := hs.1 ρ s _ _ hp q
  replace q0 : wO (As ρ s) (fun xs s1 => xs.length = 3 ∧ vW (rgOf xs) fun k => Q k s1) E := by
    cases e : As ρ s with
    | no => rw [e] at q0; exact q0
    | ex x s1 => rw [e] at q0; exact q0
    | ok xs s1 => rw [e] at q0; exact ⟨hs.2 ρ s xs s1 e, q0⟩
  refine q0.mono (fun xs s1 q1 => ?_) (fun _ _ h => h) |> wO.bind
  obtain ⟨hl, q1⟩ := q1
  match xs, hl with
  | [x, y, z], _ =>
    unfold vW rgOf at q1
    split at q1
    · rename_i e
      split at e
      · rename_i h; cases h
      · rename_i h; cases h
      · rename_i h
        injection h with h1 h2
        injection h2 with h2 h3
        injection h3 with h3 h4
        subst h1 h2 h3
        split at e
        · cases e
          rename_i j hb
          simp only
          rw [if_pos (by omega)]
          exact q1
        · cases e
      · cases e
    · exact q1.elim
theorem vs_enum (hs : VA n a As ws) : VE a (sEnum As) (fun s Q E => ws s (fun xs s1 => vH xs fun x r => vN r fun _ => vW (wkOf s1 x) fun k => Q ⟨enF 0 k.ds, k.ok⟩ s1) E) := fun ρ s Q E hp q => by
  refine (hs.1 ρ s _ _ hp q).mono (fun xs s1 q1 => ?_) (fun _ _ h => h) |> wO.bind
  match xs, q1 with
  | [x], q1 =>
    simp only [vH_cons, vN_nil] at q1
    unfold vW at q1
    split at q1
    · rename_i e; simp only [e]; exact q1
    · exact q1.elim
end
end Mo

set_option Elab.async false
set_option linter.all false
set_option maxRecDepth 100000
set_option maxHeartbeats 1000000
/-! .. of blocks: targets, statements, loops, comprehensions, a def's run -/
namespace Mo
open PySem L2
/-! targets -/
def VG (a : Env) (T : Pt) {X : Type} (w : D → (X → Prop) → Prop) (fo : X → Env) : Prop := ∀ d ρ k, Ap a ρ → w d k → ∃ x ρ', T.run d ρ = some ρ' ∧ Ap (fo x) ρ' ∧ ρ'.length = ρ.length ∧ k x
def VGs (a : Env) (T : Pts) {X : Type} (w : List D → (X → Prop) → Prop) (fo : X → Env) : Prop := ∀ ds ρ k, Ap a ρ → w ds k → ∃ x ρ', T.run ds ρ = some ρ' ∧ Ap (fo x) ρ' ∧ ρ'.length = ρ.length ∧ k x
theorem vg_nm {a : Env} {i : Nat} : VG a (.nm i) (fun d (k : D → Prop) => k d) (fun d => a.set i (some d)) := fun d ρ k hp h => ⟨d, _, rfl, hp.set i (some d), by simp, h⟩
theorem vg_tu {a : Env} {ts : Pts} {X : Type} {w : List D → (X → Prop) → Prop} {fo : X → Env} (h : VGs a ts w fo) : VG a (.tu ts) (fun d k => vT d fun ds => w ds k) fo := fun d ρ k hp q => by
  replace q : vT d fun ds => w ds k := q
  unfold vT at q
  split at q
  · rename_i ds e
    obtain ⟨x, ρ', e1, h1, h2, h3⟩ := h ds ρ k hp q
    exact ⟨x, ρ', by simp only [Pt.run, e]; exact e1, h1, h2, h3⟩
  · exact q.elim
theorem vgs_nil {a : Env} : VGs a .nil (fun ds (k : Unit → Prop) => vN ds k) (fun _ => a) := fun ds ρ k hp q => by
  match ds, q with
  | [], q => exact ⟨(), ρ, rfl, hp, rfl, q⟩
theorem vgs_cons {a : Env} {t : Pt} {ts : Pts} {X Y : Type} {w : D → (X → Prop) → Prop} {fo : X → Env} {w2 : X → List D → (Y → Prop) → Prop} {fo2 : X → Y → Env} (h : VG a t w fo) (h2 : ∀ x, VGs (fo x) ts (w2 x) (fo2 x)) :
    VGs a (.cons t ts) (fun ds (k : X × Y → Prop) => vH ds fun d r => w d fun x => w2 x r fun y => k (x, y)) (fun p => fo2 p.1 p.2) := fun ds ρ k hp q => by
  match ds, q with
  | d :: r, q =>
    simp only [vH_cons] at q
    obtain ⟨x, ρ1, e1, p1, l1, q1⟩ := h d ρ _ hp q
    obtain ⟨y, ρ2, e2, p2, l2, q2⟩ := h2 x r ρ1 _ p1 q1
    exact ⟨(x, y), ρ2, by simp only [Pts.run, e1, Option.bind_some, e2], p2, l2.trans l1, q2⟩

/-! blocks -/
def wF {β γ : Type} (fo : β → Env) (fl : γ → Env) (L : Nat) (o : Fl) (n : β → S → Prop) (r : D → S → Prop) (b c : γ → S → Prop) (e : Xc → S → Prop) : Prop := match o with
  | .nx ρ s => ∃ x, Ap (fo x) ρ ∧ ρ.length = L ∧ n x s
  | .rt d s => r d s
  | .bk ρ s => ∃ x, Ap (fl x) ρ ∧ ρ.length = L ∧ b x s
  | .ct ρ s => ∃ x, Ap (fl x) ρ ∧ ρ.length = L ∧ c x s
  | .ex x ρ s => ρ.length = L ∧ e x s
  | .no => False
abbrev Wb (β γ : Type) := S → (β → S → Prop) → (D → S → Prop) → (γ → S → Prop) → (γ → S → Prop) → (Xc → S → Prop) → Prop
def VB {β γ : Type} (a : Env) (B : Bl) (fo : β → Env) (fl : γ → Env) (w : Wb β γ) : Prop := ∀ ρ s n r b c e, Ap a ρ → w s n r b c e → wF fo fl ρ.length (B ρ s) n r b c e
section
variable {β γ δ : Type} {a : Env} {fo : β → Env} {fl : γ → Env} {A : Ex} {wa : Wt D} {T : Te} {wt : Wt Bool} {R : Bl} {As : Ar} {ws : Wt (List D)} {n : Nat}
theorem wF_fl {α : Type} {ρ : Env} {o : Out α} {f : α → S → Fl} {n : β → S → Prop} {r : D → S → Prop} {b c : γ → S → Prop} {e : Xc → S → Prop} (h : wO o (fun x s1 => wF fo fl ρ.length (f x s1) n r b c e) e) : wF fo fl ρ.length (o.fl ρ f) n r b c e := by
  cases o with
  | ok a s => exact h
  | ex x s => exact ⟨rfl, h⟩
  | no => exact h.elim
/-- one statement, then the rest: how it goes on is told by env and store -/
theorem wF_then {fo' : δ → Env} {L : Nat} {o : Fl} {R : Env → S → Fl} {n : β → S → Prop} {n' : δ → S → Prop} {r : D → S → Prop} {b c : γ → S → Prop} {e : Xc → S → Prop} (h : wF fo' fl L o n' r b c e)
    (h' : ∀ x ρ s, Ap (fo' x) ρ → ρ.length = L → n' x s → wF fo fl L (R ρ s) n r b c e) : wF fo fl L (o.then_ R) n r b c e := by
  cases o with
  | nx ρ s =>
    obtain ⟨x, h1, h2, h3⟩ := h
    exact h' x ρ s h1 h2 h3
  | rt d s => exact h
  | bk ρ s => exact h
  | ct ρ s => exact h
  | ex x ρ s => exact h
  | no => exact h.elim
theorem vb_end {x : β} (h : LeE (fo x) a) : VB a bNil fo fl (fun s n _ _ _ _ => n x s) := fun ρ s n r b c e hp q => ⟨x, h.ap.trans hp, rfl, q⟩
theorem vb_one {w : Wb β γ} (h : VB a (bSeq R bNil) fo fl w) : VB a R fo fl w := fun ρ s n r b c e hp q => by
  have := h ρ s n r b c e hp q
  unfold bSeq at this
  cases e : R ρ s with
  | _ => rw [e] at this; exact this
theorem vb_set {i : Nat} {wr : D → Wb β γ} (ha : VE a A wa) (hr : ∀ d, VB (a.set i (some d)) R fo fl (wr d)) : VB a (bSeq (bSet i A) R) fo fl (fun s n r b c e => wa s (fun d s1 => wr d s1 n r b c e) e) := fun ρ s n r b c e hp q => by
  unfold bSeq bSet
  refine wF_then (fo' := fun d => a.set i (some d)) (n' := fun d s1 => wr d s1 n r b c e) (wF_fl ((ha ρ s _ _ hp q).mono (fun d s1 q1 => ?_) fun _ _ h => h)) fun d ρ1 s1 p1 l1 q1 => l1 ▸ hr d ρ1 s1 n r b c e p1 q1
  exact ⟨d, hp.set i (some d), by simp, q1⟩
theorem vb_ret (ha : VE a A wa) : VB a (bSeq (bRet A) R) fo fl (fun s _ r _ _ e => wa s r e) := fun ρ s n r b c e hp q => by
  unfold bSeq bRet
  refine wF_then (fo' := fo) (n' := fun _ _ => False) (wF_fl ((ha ρ s _ _ hp q).mono (fun d s1 q1 => q1) fun _ _ h => h)) fun d ρ1 s1 p1 l1 q1 => q1.elim
theorem vb_retN : VB a (bSeq bRetN R) fo fl (fun s _ r _ _ _ => r (.p .non) s) := fun ρ s n r b c e hp q => q
theorem vb_brk {x : γ} (h : LeE (fl x) a) : VB a (bSeq bBrk R) fo fl (fun s _ _ b _ _ => b x s) := fun ρ s n r b c e hp q => ⟨x, h.ap.trans hp, rfl, q⟩
theorem vb_cont {x : γ} (h : LeE (fl x) a) : VB a (bSeq bCont R) fo fl (fun s _ _ _ c _ => c x s) := fun ρ s n r b c e hp q => ⟨x, h.ap.trans hp, rfl, q⟩
theorem vb_drop {wr : Wb β γ} (ha : VE a A wa) (hr : VB a R fo fl wr) : VB a (bSeq (bDrop A) R) fo fl (fun s n r b c e => wa s (fun _ s1 => wr s1 n r b c e) e) := fun ρ s n r b c e hp q => by
  unfold bSeq bDrop
  refine wF_then (fo' := fun _ : Unit => a) (n' := fun _ s1 => wr s1 n r b c e) (wF_fl ((ha ρ s _ _ hp q).mono (fun d s1 q1 => ?_) fun _ _ h => h)) fun d ρ1 s1 p1 l1 q1 => l1 ▸ hr ρ1 s1 n r b c e p1 q1
  exact ⟨(), hp, rfl, q1⟩
theorem vb_pass {wr : Wb β γ} (hr : VB a R fo fl wr) : VB a (bSeq bNil R) fo fl wr := fun ρ s n r b c e hp q => hr ρ s n r b c e hp q
theorem vb_asg {T : Pt} {X : Type} {wg : D → (X → Prop) → Prop} {fg : X → Env} {wr : X → Wb β γ} (ha : VE a A wa) (hg : VG a T wg fg) (hr : ∀ x, VB (fg x) R fo fl (wr x)) : VB a (bSeq (bAsgP A T) R) fo fl (fun s n r b c e => wa s (fun d s1 => wg d fun x => wr x s1 n r b c e) e) := fun ρ s n r b c e hp q => by
  unfold bSeq bAsgP
  refine wF_then (fo' := fg) (n' := fun x s1 => wr x s1 n r b c e) (wF_fl ((ha ρ s _ _ hp q).mono (fun d s1 q1 => ?_) fun _ _ h => h)) fun x ρ1 s1 p1 l1 q1 => l1 ▸ hr x ρ1 s1 n r b c e p1 q1
  obtain ⟨x, ρ', e1, p1, l1, k1⟩ := hg d ρ _ hp q1
  rw [e1]
  exact ⟨x, p1, l1, k1⟩
theorem vb_par2 {i j : Nat} {wr : D → D → Wb β γ} (hs : VA 2 a As ws) (hr : ∀ x y, VB ((a.set i (some x)).set j (some y)) R fo fl (wr x y)) : VB a (bSeq (bPar [i, j] As) R) fo fl (fun s n r b c e => ws s (fun xs s1 => vH xs fun x q => vH q fun y q' => vN q' fun _ => wr x y s1 n r b c e) e) := fun ρ s n r b c e hp q => by
  unfold bSeq bPar
  refine wF_then (fo' := fun p : D × D => (a.set i (some p.1)).set j (some p.2)) (n' := fun p s1 => wr p.1 p.2 s1 n r b c e) (wF_fl ((hs.1 ρ s _ _ hp q).mono (fun xs s1 q1 => ?_) fun _ _ h => h)) fun x ρ1 s1 p1 l1 q1 => l1 ▸ hr x.1 x.2 ρ1 s1 n r b c e p1 q1
  match xs, q1 with
  | [x, y], q1 => exact ⟨(x, y), (hp.set i (some x)).set j (some y), by simp, q1⟩
theorem vb_par3 {i j k : Nat} {wr : D → D → D → Wb β γ} (hs : VA 3 a As ws) (hr : ∀ x y z, VB (((a.set i (some x)).set j (some y)).set k (some z)) R fo fl (wr x y z)) : VB a (bSeq (bPar [i, j, k] As) R) fo fl (fun s n r b c e => ws s (fun xs s1 => vH xs fun x q => vH q fun y q' => vH q' fun z q'' => vN q'' fun _ => wr x y z s1 n r b c e) e) := fun ρ s n r b c e hp q => by
  unfold bSeq bPar
  refine wF_then (fo' := fun p : D × D × D => ((a.set i (some p.1)).set j (some p.2.1)).set k (some p.2.2)) (n' := fun p s1 => wr p.1 p.2.1 p.2.2 s1 n r b c e) (wF_fl ((hs.1 ρ s _ _ hp q).mono (fun xs s1 q1 => ?_) fun _ _ h => h)) fun x ρ1 s1 p1 l1 q1 => l1 ▸ hr x.1 x.2.1 x.2.2 ρ1 s1 n r b c e p1 q1
  match xs, q1 with
  | [x, y, z], q1 => exact ⟨(x, y, z), ((hp.set i (some x)).set j (some y)).set k (some z), by simp, q1⟩
/-- both ways meet again: j tells what is wanted then -/
theorem vb_if {fo' : δ → Env} {B1 B2 : Bl} {w1 w2 : Wb δ γ} {wr : δ → Wb β γ} (ht : VE a T wt) (h1 : VB a B1 fo' fl w1) (h2 : VB a B2 fo' fl w2) (hr : ∀ x, VB (fo' x) R fo fl (wr x)) :
    VB a (bSeq (bIf T B1 B2) R) fo fl (fun s n r b c e => wt s (fun t s1 => vC t (fun j => w1 s1 j r b c e) (fun j => w2 s1 j r b c e) (fun x s2 => wr x s2 n r b c e)) e) := fun ρ s n r b c e hp q => by
  unfold bSeq bIf
  refine wF_then (fo' := fo') (n' := fun x s2 => wr x s2 n r b c e) (wF_fl ((ht ρ s _ _ hp q).mono (fun t s1 q1 => ?_) fun _ _ h => h)) fun x ρ1 s1 p1 l1 q1 => l1 ▸ hr x ρ1 s1 n r b c e p1 q1
  cases t with
  | true => exact h1 ρ s1 _ r b c e hp q1
  | false => exact h2 ρ s1 _ r b c e hp q1
/-- one way ends there -/
theorem vb_ifR {B1 : Bl} {w1 : Wb Empty γ} {wr : Wb β γ} {f0 : Empty → Env} (ht : VE a T wt) (h1 : VB a B1 f0 fl w1) (hr : VB a R fo fl wr) :
    VB a (bSeq (bIf T B1 bNil) R) fo fl (fun s n r b c e => wt s (fun t s1 => if t = true then w1 s1 (fun x _ => nomatch x) r b c e else wr s1 n r b c e) e) := fun ρ s n r b c e hp q => by
  unfold bSeq bIf
  refine wF_then (fo' := fun _ : Unit => a) (n' := fun _ s2 => wr s2 n r b c e) (wF_fl ((ht ρ s _ _ hp q).mono (fun t s1 q1 => ?_) fun _ _ h => h)) fun x ρ1 s1 p1 l1 q1 => l1 ▸ hr ρ1 s1 n r b c e p1 q1
  cases t with
  | true =>
    rw [if_pos rfl] at q1 ⊢
    have := h1 ρ s1 _ r b c e hp q1
    cases eo : B1 ρ s1 with
    | nx ρ' s' => rw [eo] at this; obtain ⟨x, _⟩ := this; exact nomatch x
    | _ => rw [eo] at this; exact this
  | false => rw [if_neg Bool.false_ne_true] at q1 ⊢; exact ⟨(), hp, rfl, q1⟩
theorem vb_raise {x : Str} {fs : List Str} (hs : VA n a As ws) (h : n = fs.length ∧ n ≤ 900 ∧ fs.Nodup := by decide +kernel) : VB a (bSeq (bRaise x fs As) R) fo fl (fun s _ _ _ _ e => ws s (fun ds s1 => e ⟨x, fs.zip ds⟩ s1) e) := fun ρ s n' r b c e hp q => by
  unfold bSeq bRaise
  refine wF_then (fo' := fo) (n' := fun _ _ => False) (wF_fl ?_) fun d ρ1 s1 p1 l1 q1 => q1.elim
  have q1 := hs.1 ρ s _ _ hp q
  cases e1 : As ρ s with
  | no => rw [e1] at q1; exact q1
  | ex y s1 => rw [e1] at q1; exact q1
  | ok xs s1 =>
    rw [e1] at q1
    have hl := hs.2 ρ s xs s1 e1
    show wF fo fl ρ.length (if _ then _ else _) _ _ _ _ _
    rw [if_pos ⟨hl.trans h.1, by omega, h.2.2⟩]
    exact ⟨rfl, q1⟩
/-- x[i] = v -/
theorem vb_put {O I : Ex} {wo wi : Wt D} {wr : Wb β γ} (ha : VE a A wa) (ho : VE a O wo) (hi : VE a I wi) (hr : VB a R fo fl wr) :
    VB a (bSeq (orB (bPut putL A O I) (bPut putD A O I)) R) fo fl (fun s n r b c e => wa s (fun d s1 => wo s1 (fun o s2 => wi s2 (fun i s3 => vP (putA o i d s3) fun s4 => wr s4 n r b c e) e) e) e) := fun ρ s n r b c e hp q => by
  unfold bSeq
  refine wF_then (fo' := fun _ : Unit => a) (n' := fun _ s2 => wr s2 n r b c e) ?_ fun x ρ1 s1 p1 l1 q1 => l1 ▸ hr ρ1 s1 n r b c e p1 q1
  unfold orB bPut
  have h1 := ha ρ s _ _ hp q
  cases e1 : A ρ s with
  | no => rw [e1] at h1; exact h1.elim
  | ex x s1 => rw [e1] at h1; exact ⟨rfl, h1⟩
  | ok d s1 =>
    rw [e1] at h1
    simp only [Out.fl_ok]
    have h2 := ho ρ s1 _ _ hp h1
    cases e2 : O ρ s1 with
    | no => rw [e2] at h2; exact h2.elim
    | ex x s1 => rw [e2] at h2; exact ⟨rfl, h2⟩
    | ok o s2 =>
      rw [e2] at h2
      simp only [Out.fl_ok]
      have h3 := hi ρ s2 _ _ hp h2
      cases e3 : I ρ s2 with
      | no => rw [e3] at h3; exact h3.elim
      | ex x s1 => rw [e3] at h3; exact ⟨rfl, h3⟩
      | ok i s3 =>
        rw [e3] at h3
        simp only [Out.fl_ok]
        replace h3 : vP (putA o i d s3) fun s4 => wr s4 n r b c e := h3
        unfold putA at h3
        cases e4 : putL o i d s3 with
        | some s4 => rw [e4] at h3; exact ⟨(), hp, rfl, h3⟩
        | none =>
          rw [e4] at h3
          simp only at h3 ⊢
          cases e5 : putD o i d s3 with
          | some s4 => rw [e5] at h3; exact ⟨(), hp, rfl, h3⟩
          | none => rw [e5] at h3; exact h3.elim
/-- a for: I tells what holds before each turn (of what is left, what is carried, the store) -/
def vFor {γ : Type} (k : Wk) (b0 : γ) (s : S) (body : D → γ → S → (γ → S → Prop) → (γ → S → Prop) → Prop) (post : γ → S → Prop) : Prop :=
  ∃ I : List D → γ → S → Prop, I k.ds b0 s ∧ (∀ l b t, I l b t → k.ok t = true) ∧ (∀ d l b t, I (d :: l) b t → body d b t (I l) post) ∧ ∀ b t, I [] b t → post b t
theorem vb_for {Sg : Sr} {wsg : Wt Wk} {T : Pt} {X : Type} {fl' : δ → Env} {wg : δ → D → (X → Prop) → Prop} {fg : δ → X → Env} {B : Bl} {wb : δ → X → Wb δ δ} {wr : δ → Wb β γ} {b0 : δ} (hs : VE a Sg wsg) (h0 : LeE (fl' b0) a) (hg : ∀ b, VG (fl' b) T (wg b) (fg b)) (hb : ∀ b x, VB (fg b x) B fl' fl' (wb b x)) (hr : ∀ b, VB (fl' b) R fo fl (wr b)) :
    VB a (bSeq (bFor Sg T B) R) fo fl (fun s n r b c e => wsg s (fun k s1 => vFor k b0 s1 (fun d y t nx bk => wg y d fun x => wb y x t nx r bk nx e) (fun y t => wr y t n r b c e)) e) := fun ρ s n r b c e hp q => by
  unfold bSeq bFor
  refine wF_then (fo' := fl') (n' := fun y t => wr y t n r b c e) (wF_fl ((hs ρ s _ _ hp q).mono (fun k s1 q1 => ?_) fun _ _ h => h)) fun x ρ1 s1 p1 l1 q1 => l1 ▸ hr x ρ1 s1 n r b c e p1 q1
  obtain ⟨I, i0, iok, ist, iend⟩ := q1
  have key : ∀ (l : List D) (y : δ) (ρ1 : Env) (t : S), Ap (fl' y) ρ1 → ρ1.length = ρ.length → I l y t → wF fl' fl ρ.length (forL k.ok T B l ρ1 t) (fun y t => wr y t n r b c e) r b c e := by
    intro l
    induction l with
    | nil =>
      intro y ρ1 t p1 l1 hi
      unfold forL
      rw [if_pos (iok _ _ _ hi)]
      exact ⟨y, p1, l1, iend y t hi⟩
    | cons d l ih =>
      intro y ρ1 t p1 l1 hi
      unfold forL
      rw [if_pos (iok _ _ _ hi)]
      obtain ⟨x, ρ2, e2, p2, l2, q2⟩ := hg y d ρ1 _ p1 (ist d l y t hi)
      rw [e2]
      have q3 := hb y x ρ2 t _ _ _ _ _ p2 q2
      simp only
      cases e3 : B ρ2 t with
      | nx ρ3 t3 => rw [e3] at q3; obtain ⟨y', p3, l3, i3⟩ := q3; exact ih y' ρ3 t3 p3 (by rw [l3, l2, l1]) i3
      | ct ρ3 t3 => rw [e3] at q3; obtain ⟨y', p3, l3, i3⟩ := q3; exact ih y' ρ3 t3 p3 (by rw [l3, l2, l1]) i3
      | bk ρ3 t3 => rw [e3] at q3; obtain ⟨y', p3, l3, i3⟩ := q3; exact ⟨y', p3, by rw [l3, l2, l1], i3⟩
      | rt d' t3 => rw [e3] at q3; exact q3
      | ex x' ρ3 t3 => rw [e3] at q3; exact ⟨by rw [q3.1, l2, l1], q3.2⟩
      | no => rw [e3] at q3; exact q3.elim
  have p0 := h0.ap.trans hp
  exact key k.ds b0 ρ s1 p0 rfl i0
/-- a while: I tells what holds before each test, n how many turns at most -/
def vWhile {γ : Type} (m : Nat) (b0 : γ) (s : S) (test : γ → S → (Bool → S → Prop) → Prop) (body : γ → S → (γ → S → Prop) → (γ → S → Prop) → Prop) (post : γ → S → Prop) : Prop :=
  ∃ I : Nat → γ → S → Prop, (∃ n, n < m ∧ I n b0 s) ∧ ∀ n y t, I n y t → test y t fun b t1 => if b = true then 0 < n ∧ body y t1 (I (n - 1)) post else post y t1
theorem vb_while {m : Nat} {fl' : δ → Env} {B : Bl} {T : Te} {wt : δ → Wt Bool} {wb : δ → Wb δ δ} {wr : δ → Wb β γ} {b0 : δ} (h0 : LeE (fl' b0) a) (ht : ∀ b, VE (fl' b) T (wt b)) (hb : ∀ b, VB (fl' b) B fl' fl' (wb b)) (hr : ∀ b, VB (fl' b) R fo fl (wr b)) :
    VB a (bSeq (bWhile (fun _ _ => m) T B) R) fo fl (fun s n r b c e => vWhile m b0 s (fun y t k => wt y t k e) (fun y t nx bk => wb y t nx r bk nx e) (fun y t => wr y t n r b c e)) := fun ρ s n r b c e hp q => by
  unfold bSeq bWhile
  refine wF_then (fo' := fl') (n' := fun y t => wr y t n r b c e) ?_ fun x ρ1 s1 p1 l1 q1 => l1 ▸ hr x ρ1 s1 n r b c e p1 q1
  obtain ⟨I, ⟨k0, hk0, i0⟩, ist⟩ := q
  have key : ∀ (m k : Nat) (y : δ) (ρ1 : Env) (t : S), k < m → Ap (fl' y) ρ1 → ρ1.length = ρ.length → I k y t → wF fl' fl ρ.length (whileL T B m ρ1 t) (fun y t => wr y t n r b c e) r b c e := by
    intro m
    induction m with
    | zero => intro k y ρ1 t hk; omega
    | succ m ih =>
      intro k y ρ1 t hk p1 l1 hi
      unfold whileL
      rw [← l1]
      refine wF_fl ((ht y ρ1 t _ _ p1 (ist k y t hi)).mono (fun v t1 q1 => ?_) fun _ _ h => h)
      rw [l1]
      cases v with
      | false =>
        rw [if_neg Bool.false_ne_true] at q1 ⊢
        exact ⟨y, p1, l1, q1⟩
      | true =>
        rw [if_pos rfl] at q1 ⊢
        have q3 := hb y ρ1 t1 _ _ _ _ _ p1 q1.2
        cases e3 : B ρ1 t1 with
        | nx ρ3 t3 => rw [e3] at q3; obtain ⟨y', p3, l3, i3⟩ := q3; exact ih (k - 1) y' ρ3 t3 (by omega) p3 (by rw [l3, l1]) i3
        | ct ρ3 t3 => rw [e3] at q3; obtain ⟨y', p3, l3, i3⟩ := q3; exact ih (k - 1) y' ρ3 t3 (by omega) p3 (by rw [l3, l1]) i3
        | bk ρ3 t3 => rw [e3] at q3; obtain ⟨y', p3, l3, i3⟩ := q3; exact ⟨y', p3, by rw [l3, l1], i3⟩
        | rt d' t3 => rw [e3] at q3; exact q3
        | ex x' ρ3 t3 => rw [e3] at q3; exact ⟨by rw [q3.1, l1], q3.2⟩
        | no => rw [e3] at q3; exact q3.elim
  exact key m k0 b0 ρ s hk0 (h0.ap.trans hp) rfl i0
/-- try: B except c as x: return t -/
def vX (ex : Str → Option Bool) (c : Str) (t : XV) (r : D → S → Prop) (e : Xc → S → Prop) (x : Xc) (s : S) : Prop := match ex x.cls with
  | some true => x.cls = c ∧ match xvD x t with
    | some d => r d s
    | none => False
  | some false => e x s
  | none => False
theorem vb_tryR {i : Nat} {B : Bl} {ex : Str → Option Bool} {c : Str} {t : XV} {fo' : δ → Env} {w1 : Wb δ γ} {wr : δ → Wb β γ} (hi : i < a.length) (h1 : VB a B fo' fl w1) (hr : ∀ x, VB (fo' x) R fo fl (wr x)) :
    VB a (bSeq (bTryR i B ex c t) R) fo fl (fun s n r b c' e => w1 s (fun x s2 => wr x s2 n r b c' e) r b c' (vX ex c t r e)) := fun ρ s n r b c' e hp q => by
  unfold bSeq
  refine wF_then (fo' := fo') (n' := fun x s2 => wr x s2 n r b c' e) ?_ fun x ρ1 s1 p1 l1 q1 => l1 ▸ hr x ρ1 s1 n r b c' e p1 q1
  have h := h1 ρ s _ r b c' _ hp q
  unfold bTryR
  cases e1 : B ρ s with
  | ex x ρ' s' =>
    rw [e1] at h
    obtain ⟨hl, h⟩ := h
    unfold vX at h
    simp only
    split at h
    · rename_i ee
      try rw [ee]
      try simp only
      rw [if_pos ⟨h.1, by rw [hl, ← hp.1]; exact hi⟩]
      have h2 := h.2
      split at h2
      · rename_i ed
        try rw [ed]
        exact h2
      · exact h2.elim
    · rename_i ee
      try rw [ee]
      exact ⟨hl, h⟩
    · exact h.elim
  | _ => rw [e1] at h; exact h

/-! comprehensions -/
/-- I tells what holds before each turn (of what is left, what is kept so far, the store with the list that grows) -/
def vLcI (k : Wk) (s : S) (bd : D → S → (Option D → S → Prop) → Prop) (I : List D → List D → S → Prop) : Prop :=
  I k.ds [] (s ++ [.lst []]) ∧ (∀ l acc t, I l acc t → k.ok t = true) ∧ ∀ d l acc t, I (d :: l) acc t → bd d t fun o t' => match o with
    | none => I l acc t'
    | some y => t'[s.length]? = some (.lst acc) ∧ acc.length < 1000000 ∧ I l (acc ++ [y]) (t'.set s.length (.lst (acc ++ [y])))
def vLc (k : Wk) (s : S) (bd : D → S → (Option D → S → Prop) → Prop) (Q : D → S → Prop) : Prop :=
  ∃ I : List D → List D → S → Prop, vLcI k s bd I ∧ ∀ acc t, I [] acc t → Q (fin s (.loc s.length) t).1 (fin s (.loc s.length) t).2
def vLcC (k : Wk) (s : S) (bd : D → S → (Option D → S → Prop) → Prop) (Q : D → S → Prop) : Prop :=
  ∃ I : List D → List D → S → Prop, vLcI k s bd I ∧ ∀ acc t, I [] acc t → Q (.loc s.length) t
theorem lc_run {k : Wk} {s : S} {T : Pt} {U : Te} {X : Type} {aw : Env} {wg : D → (X → Prop) → Prop} {fg : X → Env} {wu : X → Wt Bool} {we : X → Wt D} {I : List D → List D → S → Prop} (hg : VG aw T wg fg) (hu : ∀ x, VE (fg x) U (wu x)) (he : ∀ x, VE (fg x) A (we x))
    (h : vLcI k s (fun d t j => wg d fun x => wu x t (fun b t1 => vC b (fun j' => we x t1 j' fun _ _ => False) (fun _ => j none t1) (fun y t2 => j (some y) t2)) fun _ _ => False) I) {ρ : Env} (hp : Ap aw ρ) : ∃ acc t, lcD k.ok T U A s.length k.ds ρ (s ++ [.lst []]) = .ok () t ∧ I [] acc t := by
  obtain ⟨i0, iok, ist⟩ := h
  have key : ∀ (l acc : List D) (t : S), I l acc t → ∃ acc' t', lcD k.ok T U A s.length l ρ t = .ok () t' ∧ I [] acc' t' := by
    intro l
    induction l with
    | nil =>
      intro acc t hi
      refine ⟨acc, t, ?_, hi⟩
      unfold lcD
      rw [if_pos (iok _ _ _ hi)]
    | cons d l ih =>
      intro acc t hi
      obtain ⟨x, ρ1, e1, p1, l1, q1⟩ := hg d ρ _ hp (ist d l acc t hi)
      obtain ⟨b, t1, e2, q2⟩ := (hu x ρ1 t _ _ p1 q1).of
      unfold lcD
      rw [if_pos (iok _ _ _ hi), e1]
      simp only [e2, Out.bindN_ok]
      cases b with
      | false =>
        rw [if_neg Bool.false_ne_true]
        exact ih acc t1 q2
      | true =>
        rw [if_pos rfl]
        obtain ⟨y, t2, e3, q3⟩ := (he x ρ1 t1 _ _ p1 q2).of
        obtain ⟨e4, hz, q4⟩ := q3
        simp only [e3, Out.bindN_ok, e4]
        rw [if_pos (by rw [sizeLine_eq]; omega)]
        exact ih _ _ q4
  exact key k.ds [] _ i0
theorem ve_lc {Sg : Sr} {wsg : Wt Wk} {own : List Nat} {T : Pt} {U : Te} {X : Type} {wg : D → (X → Prop) → Prop} {fg : X → Env} {wu : X → Wt Bool} {we : X → Wt D} (hs : VE a Sg wsg) (hg : VG (wipeE a own) T wg fg) (hu : ∀ x, VE (fg x) U (wu x)) (he : ∀ x, VE (fg x) A (we x)) :
    VE a (eLc Sg own T U A) (fun s Q E => wsg s (fun k s1 => vLc k s1 (fun d t j => wg d fun x => wu x t (fun b t1 => vC b (fun j' => we x t1 j' fun _ _ => False) (fun _ => j none t1) (fun y t2 => j (some y) t2)) fun _ _ => False) Q) E) := fun ρ s Q E hp q => by
  unfold eLc
  refine wO.bind ((hs ρ s _ _ hp q).mono (fun k s1 q1 => ?_) fun _ _ h => h)
  obtain ⟨I, h, hq⟩ := q1
  obtain ⟨acc, t, e, hi⟩ := lc_run hg hu he h (hp.wipe own)
  rw [e]
  exact hq acc t hi
theorem ve_lcC {Sg : Sr} {wsg : Wt Wk} {own : List Nat} {T : Pt} {U : Te} {X : Type} {wg : D → (X → Prop) → Prop} {fg : X → Env} {wu : X → Wt Bool} {we : X → Wt D} (hs : VE a Sg wsg) (hg : VG (wipeE a own) T wg fg) (hu : ∀ x, VE (fg x) U (wu x)) (he : ∀ x, VE (fg x) A (we x)) :
    VE a (eLcC Sg own T U A) (fun s Q E => wsg s (fun k s1 => vLcC k s1 (fun d t j => wg d fun x => wu x t (fun b t1 => vC b (fun j' => we x t1 j' fun _ _ => False) (fun _ => j none t1) (fun y t2 => j (some y) t2)) fun _ _ => False) Q) E) := fun ρ s Q E hp q => by
  unfold eLcC
  refine wO.bind ((hs ρ s _ _ hp q).mono (fun k s1 q1 => ?_) fun _ _ h => h)
  obtain ⟨I, h, hq⟩ := q1
  obtain ⟨acc, t, e, hi⟩ := lc_run hg hu he h (hp.wipe own)
  rw [e]
  exact hq acc t hi
/-- a list of things whose parts leave the store as it is -/
theorem vLc_pure {α : Type} {g : α → D} {u : α → Bool} {y : α → D} {k : Wk} {s : S} {bd : D → S → (Option D → S → Prop) → Prop} {Q : D → S → Prop} {l : List α} (hk : k.ds = l.map g) (hok : ∀ acc, k.ok (s ++ [.lst acc]) = true)
    (h : ∀ x ∈ l, ∀ acc (j : Option D → S → Prop), (j (if u x = true then some (y x) else none) (s ++ [.lst acc])) → bd (g x) (s ++ [.lst acc]) j) (hz : l.length ≤ 1000000) (hc : ∀ x ∈ l, clD s.length (y x) = true) (q : Q (.lst ((l.filter u).map y)) s) : vLc k s bd Q := by
  refine ⟨fun r acc t => ∃ l1 l2, l = l1 ++ l2 ∧ r = l2.map g ∧ acc = (l1.filter u).map y ∧ t = s ++ [.lst acc], ⟨⟨[], l, rfl, hk, rfl, rfl⟩, ?_, ?_⟩, ?_⟩
  · rintro r acc t ⟨l1, l2, _, _, _, rfl⟩
    exact hok acc
  · rintro d r acc t ⟨l1, l2, e1, e2, e3, rfl⟩
    cases l2 with
    | nil => cases e2
    | cons x l2 =>
      injection e2 with e2 e4
      subst e2
      refine h x (by rw [e1]; simp) acc _ ?_
      cases hu : u x with
      | false =>
        simp only [Bool.false_eq_true, if_false]
        exact ⟨l1 ++ [x], l2, by simp [e1], e4, by simp [e3, hu], trivial⟩
      | true =>
        simp only [if_true]
        have hln : acc.length ≤ l1.length := by rw [e3, List.length_map]; exact List.length_filter_le ..
        have hll : l.length = l1.length + (l2.length + 1) := by rw [e1]; simp
        refine ⟨by simp, by omega, l1 ++ [x], l2, by simp [e1], e4, by simp [e3, hu], ?_⟩
        simp
  · rintro acc t ⟨l1, l2, e1, e2, e3, rfl⟩
    have : l2 = [] := by cases l2 with | nil => rfl | cons _ _ => cases e2
    subst this
    rw [List.append_nil] at e1
    subst e1
    rw [fin_new (clDs_all fun d hd => by
      rw [e3] at hd
      obtain ⟨x, hx, rfl⟩ := List.mem_map.mp hd
      exact hc x (List.mem_filter.mp hx).1)]
    rw [e3]
    exact q
/-- .. over a dict's keys, the dict in a slot -/
def vLcK (d : D) (s : S) (bd : D → S → (Option D → S → Prop) → Prop) (Q : D → S → Prop) : Prop := ∃ ks ds, viD s d = some (ks, ds) ∧ isLk s d = true ∧
  ∃ I : List D → List D → S → Prop, vLcI ⟨ks.map kD, fun _ => true⟩ (lockS s d ks ds) bd I ∧ ∀ acc t, I [] acc t → ∃ s3, unlockS (fin (lockS s d ks ds) (.loc s.length) t).2 d ks ds = some s3 ∧ Q (fin (lockS s d ks ds) (.loc s.length) t).1 s3
theorem lockS_len (s : S) (d : D) (ks : List Key) (ds : List D) : (lockS s d ks ds).length = s.length := by
  cases d <;> simp [lockS]
theorem ve_lcK {i : Nat} {d : D} {own : List Nat} {T : Pt} {U : Te} {X : Type} {wg : D → (X → Prop) → Prop} {fg : X → Env} {wu : X → Wt Bool} {we : X → Wt D} (hi : a[i]? = some (some d)) (hg : VG (wipeE a own) T wg fg) (hu : ∀ x, VE (fg x) U (wu x)) (he : ∀ x, VE (fg x) A (we x)) :
    VE a (eLcK i own T U A) (fun s Q _ => vLcK d s (fun d t j => wg d fun x => wu x t (fun b t1 => vC b (fun j' => we x t1 j' fun _ _ => False) (fun _ => j none t1) (fun y t2 => j (some y) t2)) fun _ _ => False) Q) := fun ρ s Q E hp q => by
  obtain ⟨ks, ds, e1, e2, I, h, hq⟩ := q
  have e0 := hp.2 i d hi
  obtain ⟨acc, t, e, hi⟩ := lc_run hg hu he h (hp.wipe own)
  obtain ⟨s3, e3, q3⟩ := hq acc t hi
  unfold eLcK
  rw [lockS_len] at e
  simp only [e0, e1, e2, if_true, e, Out.bindN_ok, e3]
  exact q3

/-! a def's run -/
theorem vf_run {n N : Nat} {B : Bl} {ds : List D} {a : Env} {w : Wb Unit Empty} {f0 : Empty → Env} {s : S} {Q : D → S → Prop} {E : Xc → S → Prop} (hl : ds.length = n) (ha : ds.map some ++ List.replicate (N - n) none = a) (h : VB a B (fun _ => List.replicate a.length none) f0 w)
    (q : w s (fun _ s' => Q (fin s (.p .non) s').1 (fin s (.p .non) s').2) (fun d s' => Q (fin s d s').1 (fin s d s').2) (fun x _ => nomatch x) (fun x _ => nomatch x) E) : wO (runF n N B ds s) Q E := by
  have h := h a s _ _ _ _ _ (Ap.refl a) q
  cases e : B a s with
  | nx ρ s' => rw [e] at h; rw [runF_nx hl ha e]; obtain ⟨x, _, _, h⟩ := h; exact h
  | rt d s' => rw [e] at h; rw [runF_rt hl ha e]; exact h
  | ex x ρ s' => rw [e] at h; rw [runF_ex hl ha e]; exact h.2
  | bk ρ s' => rw [e] at h; obtain ⟨x, _⟩ := h; exact nomatch x
  | ct ρ s' => rw [e] at h; obtain ⟨x, _⟩ := h; exact nomatch x
  | no => rw [e] at h; exact h.elim
theorem LeE.rep : ∀ a : Env, LeE (List.replicate a.length none) a
  | [] => .nil
  | _ :: a => .n (LeE.rep a)
end
end Mo

set_option Elab.async false
set_option linter.all false
set_option maxRecDepth 100000
set_option maxHeartbeats 1000000
/-! for proofs over the conditions -/
namespace Mo
open PySem L2
/-- both ways lead to P, and from P it goes on -/
theorem vC_join {α : Type} {b : Bool} {A B : (α → S → Prop) → Prop} {k : α → S → Prop} (P : α → S → Prop) (hk : ∀ d s, P d s → k d s) (h : ∀ k' : α → S → Prop, (∀ d s, P d s → k' d s) → (b = true → A k') ∧ (b = false → B k')) : vC b A B k := by
  obtain ⟨h1, h2⟩ := h k hk
  cases b with
  | true => exact h1 rfl
  | false => exact h2 rfl
theorem wO_eq {α : Type} {o : Out α} {a : α} {s : S} {Q : α → S → Prop} {E : Xc → S → Prop} (e : o = .ok a s) (h : Q a s) : wO o Q E := by rw [e]; exact h
theorem vP_eq {o : Option S} {s : S} {k : S → Prop} (e : o = some s) (h : k s) : vP o k := by rw [e]; exact h
theorem vW_eq {o : Option Wk} {w : Wk} {k : Wk → Prop} (e : o = some w) (h : k w) : vW o k := by rw [e]; exact h
def gI (k : Nat) : D := .p (.int (k : Nat))
theorem rgOf_nat {n : Nat} (h : n ≤ 1000000) : rgOf [.p (.int (n : Nat))] = some ⟨(List.range n).map gI, fun _ => true⟩ := by
  show (if _ then _ else _) = _
  rw [if_pos ⟨by omega, by omega⟩]
  congr 2
  unfold rgD gI
  rw [Int.toNat_natCast]
  apply List.map_congr_left
  intro i _
  congr 2
  omega
theorem rgOf_int {i : Int} (h0 : 0 ≤ i) (h : i ≤ 1000000) : rgOf [.p (.int i)] = some ⟨(List.range i.toNat).map gI, fun _ => true⟩ := by
  have := rgOf_nat (n := i.toNat) (by omega)
  rwa [Int.toNat_of_nonneg h0] at this
theorem wkOf_lst' (s : S) (ds : List D) : wkOf s (.lst ds) = some ⟨ds, fun _ => true⟩ := rfl
theorem wkOf_tup' (s : S) (ps : List P) : wkOf s (.p (.tup ps)) = some ⟨ps.map D.p, fun _ => true⟩ := rfl
/-- a for over a list of things, each turn keeps the invariant -/
theorem vFor_list {α γ : Type} {g : α → D} {k : Wk} {b0 : γ} {s : S} {body : D → γ → S → (γ → S → Prop) → (γ → S → Prop) → Prop} {post : γ → S → Prop} {l : List α} (hk : k.ds = l.map g) (I : List α → List α → γ → S → Prop) (hok : ∀ t, k.ok t = true)
    (h0 : I [] l b0 s) (hs : ∀ pre x suf b t (nx : γ → S → Prop), l = pre ++ x :: suf → I pre (x :: suf) b t → (∀ b' t', I (pre ++ [x]) suf b' t' → nx b' t') → body (g x) b t nx post) (he : ∀ b t, I l [] b t → post b t) : vFor k b0 s body post := by
  refine ⟨fun r b t => ∃ pre suf, l = pre ++ suf ∧ r = suf.map g ∧ I pre suf b t, ⟨[], l, rfl, hk, h0⟩, fun _ _ t _ => hok t, ?_, ?_⟩
  · rintro d r b t ⟨pre, suf, e1, e2, i⟩
    cases suf with
    | nil => cases e2
    | cons x suf =>
      injection e2 with e2 e3
      subst e2
      exact hs pre x suf b t _ e1 i fun b' t' i' => ⟨pre ++ [x], suf, by simp [e1], e3, i'⟩
  · rintro b t ⟨pre, suf, e1, e2, i⟩
    have : suf = [] := by cases suf with | nil => rfl | cons _ _ => cases e2
    subst this
    rw [List.append_nil] at e1
    subst e1
    exact he b t i
theorem bMin2_i (i j : Int) (s : S) : bMin2 [.p (.int i), .p (.int j)] s = some (.p (.int (if j < i then j else i)), s) := rfl
end Mo

set_option Elab.async false
set_option linter.all false
set_option maxRecDepth 100000
namespace K77
open PySem Mo
def bl_found_holding_0 : Bl := (bIf (tV (eOp dEq (eVar 2) (eVar 1))) (bRet (eTup (aCons (eVar 3) (aCons (eVar 4) aNil)))) bNil)
def b_found_holding : Bl := (bSeq (bFor (sAny (eVar 0)) (.tu (.cons (.nm 2) (.cons (.nm 3) (.cons (.nm 4) .nil)))) bl_found_holding_0)
   (bRet (eC .non)))
def F_found_holding : List D → S → Out D := runF 2 5 b_found_holding
def ca_with_holding_0 : Ex := (eIf (tV (eOp dEq (eVar 3) (eVar 1))) (eOp dAdd (eTup (aCons (eVar 3) aNil)) (eVar 2)) (eTup (aCons (eVar 3) (aCons (eVar 4) (aCons (eVar 5) aNil)))))
def b_with_holding : Bl := (bRet (eCa bTup (aCons (eLc (sAny (eVar 0)) [3, 4, 5] (.tu (.cons (.nm 3) (.cons (.nm 4) (.cons (.nm 5) .nil)))) tTrue ca_with_holding_0) aNil)))
def F_with_holding : List D → S → Out D := runF 3 6 b_with_holding
def bl_offer_of_0 : Bl := (bIf (tV (eOp dEq (eSub (eVar 2) (eC (.int 0))) (eVar 1))) (bRet (eVar 2)) bNil)
def b_offer_of : Bl := (bSeq (bFor (sAny (eSub (eVar 0) (eC (.int 2)))) (.nm 2) bl_offer_of_0)
   (bRet (eC .non)))
def F_offer_of : List D → S → Out D := runF 2 3 b_offer_of
def b_fits : Bl := (bSeq (bAsgP (eVar 0) (.tu (.cons (.nm 2) (.cons (.nm 3) (.cons (.nm 4) (.cons (.nm 5) (.cons (.nm 6) .nil)))))))
   (bRet (eAnd (eOp dEq (eSub (eVar 1) (eC (.int 0))) (eVar 2)) (eAnd (eOp dLe (eVar 3) (eSub (eVar 1) (eC (.int 1)))) (eOr (eIsN (eVar 4)) (eOp dLe (eSub (eVar 1) (eC (.int 1))) (eVar 4)))))))
def F_fits : List D → S → Out D := runF 2 7 b_fits
def b_behind : Bl := (bRet (eTup (aCons (eSub (eVar 0) (eC (.int 3))) (aCons (eOp dAdd (eSub (eVar 1) (eC (.int 1))) (eSub (eVar 0) (eC (.int 4)))) aNil))))
def F_behind : List D → S → Out D := runF 2 2 b_behind
def b_other_is_wrong : Bl := (bSeq (bIf (tV (eIsN (eSub (eVar 0) (eC (.int 2))))) (bRet (eOp dNe (eVar 3) (eC (.str "")))) bNil)
   (bRet (eOr (eOp dEq (eVar 3) (eC (.str ""))) (eOr (eOp dEq (eVar 3) (eVar 2)) (eIsN (eF 2 F_found_holding (aCons (eVar 1) (aCons (eVar 3) aNil))))))))
def F_other_is_wrong : List D → S → Out D := runF 4 4 b_other_is_wrong
def b_deal_word : Bl := (bSeq (bAsgP (eVar 2) (.tu (.cons (.nm 4) (.cons (.nm 5) (.cons (.nm 6) .nil)))))
   (bSeq (bSet 3 (eF 2 F_offer_of (aCons (eVar 0) (aCons (eVar 4) aNil))))
   (bSeq (bIf (tV (eIsN (eVar 3))) (bRet (eC (.str "offer"))) bNil)
   (bSeq (bIf (tV (eIsN (eF 2 F_found_holding (aCons (eVar 1) (aCons (eVar 5) aNil))))) (bRet (eC (.str "one"))) bNil)
   (bSeq (bIf (tV (eF 4 F_other_is_wrong (aCons (eVar 3) (aCons (eVar 1) (aCons (eVar 5) (aCons (eVar 6) aNil)))))) (bRet (eC (.str "other"))) bNil)
   (bSeq (bIf (tNot_ (tV (eF 2 F_fits (aCons (eSub (eVar 3) (eC (.int 1))) (aCons (eF 2 F_found_holding (aCons (eVar 1) (aCons (eVar 5) aNil))) aNil))))) (bRet (eC (.str "fit"))) bNil)
   (bRet (eIf (tOr_ (tV (eOp dEq (eVar 6) (eC (.str "")))) (tV (eF 2 F_fits (aCons (eSub (eVar 3) (eC (.int 2))) (aCons (eF 2 F_found_holding (aCons (eVar 1) (aCons (eVar 6) aNil))) aNil))))) (eC .non) (eC (.str "fit"))))))))))
def F_deal_word : List D → S → Out D := runF 3 7 b_deal_word
def b_done_deal : Bl := (bSeq (bAsgP (eVar 2) (.tu (.cons (.nm 6) (.cons (.nm 7) (.cons (.nm 8) .nil)))))
   (bSeq (bSet 3 (eF 2 F_offer_of (aCons (eVar 0) (aCons (eVar 6) aNil))))
   (bSeq (bSet 4 (eF 2 F_found_holding (aCons (eVar 1) (aCons (eVar 7) aNil))))
   (bSeq (bSet 5 (eF 3 F_with_holding (aCons (eVar 1) (aCons (eVar 7) (aCons (eF 2 F_behind (aCons (eSub (eVar 3) (eC (.int 1))) (aCons (eVar 4) aNil))) aNil)))))
   (bRet (eIf (tV (eOp dEq (eVar 8) (eC (.str "")))) (eVar 5) (eF 3 F_with_holding (aCons (eVar 5) (aCons (eVar 8) (aCons (eF 2 F_behind (aCons (eSub (eVar 3) (eC (.int 2))) (aCons (eF 2 F_found_holding (aCons (eVar 1) (aCons (eVar 8) aNil))) aNil))) aNil))))))))))
def F_done_deal : List D → S → Out D := runF 3 9 b_done_deal
def bl_row_walk_0 : Bl := (bSeq (bSet 6 (eF 3 F_deal_word (aCons (eVar 0) (aCons (eSub (eVar 3) (eNeg (eC (.int 1)))) (aCons (eVar 5) aNil)))))
   (bSeq (bIf (tV (eNotN (eVar 6))) (bRaise "BadRow" ["place", "word"] (aCons (eVar 4) (aCons (eVar 6) aNil))) bNil)
   (bDrop (eMe isL appL (eVar 3) (aCons (eF 3 F_done_deal (aCons (eVar 0) (aCons (eSub (eVar 3) (eNeg (eC (.int 1)))) (aCons (eVar 5) aNil)))) aNil)))))
def b_row_walk : Bl := (bSeq (bSet 3 (eLstC (aCons (eVar 1) aNil)))
   (bSeq (bFor (sEnum (aCons (eVar 2) aNil)) (.tu (.cons (.nm 4) (.cons (.nm 5) .nil))) bl_row_walk_0)
   (bRet (eVar 3))))
def F_row_walk : List D → S → Out D := runF 3 7 b_row_walk
def b_run_row : Bl := (bRet (eSub (eF 3 F_row_walk (aCons (eVar 0) (aCons (eVar 1) (aCons (eVar 2) aNil)))) (eNeg (eC (.int 1)))))
def F_run_row : List D → S → Out D := runF 3 3 b_run_row
def b_row_fault : Bl := (bSeq (bTryR 3 (bDrop (eF 3 F_run_row (aCons (eVar 0) (aCons (eVar 1) (aCons (eVar 2) aNil))))) (fun z => if z = "BadRow" then some true else none) "BadRow" (.tup [(.f "place"), (.f "word")]))
   (bRet (eC .non)))
def F_row_fault : List D → S → Out D := runF 3 4 b_row_fault
def ca_comes_behind_0 : Ex := (eTup (aCons (eVar 5) (aCons (eVar 6) aNil)))
def b_comes_behind : Bl := (bRet (eIn false (eVar 3) (eLc (sAny (eF 3 F_run_row (aCons (eVar 0) (aCons (eVar 1) (aCons (eVar 2) aNil))))) [4, 5, 6] (.tu (.cons (.nm 4) (.cons (.nm 5) (.cons (.nm 6) .nil)))) tTrue ca_comes_behind_0)))
def F_comes_behind : List D → S → Out D := runF 4 7 b_comes_behind
def b_does : Bl := (bRet (eAnd (eIsN (eF 3 F_row_fault (aCons (eVar 0) (aCons (eVar 1) (aCons (eVar 2) aNil))))) (eF 4 F_comes_behind (aCons (eVar 0) (aCons (eVar 1) (aCons (eVar 2) (aCons (eVar 3) aNil)))))))
def F_does : List D → S → Out D := runF 4 4 b_does
def b_is_needed : Bl := (bRet (eNot (eF 4 F_does (aCons (eVar 0) (aCons (eVar 1) (aCons (eOp dAdd (eSl (eVar 2) pNo (pSo (eVar 3))) (eSl (eVar 2) (pSo (eOp dAdd (eVar 3) (eC (.int 1)))) pNo)) (aCons (eVar 4) aNil)))))))
def F_is_needed : List D → S → Out D := runF 5 5 b_is_needed
def bl_needed_row_0 : Bl := (bIf (tNot_ (tV (eF 5 F_is_needed (aCons (eVar 0) (aCons (eVar 1) (aCons (eVar 4) (aCons (eVar 5) (aCons (eVar 3) aNil)))))))) (bSet 4 (eOp dAdd (eSl (eVar 4) pNo (pSo (eVar 5))) (eSl (eVar 4) (pSo (eOp dAdd (eVar 5) (eC (.int 1)))) pNo))) bNil)
def b_needed_row : Bl := (bSeq (bSet 4 (eCa bTup (aCons (eVar 2) aNil)))
   (bSeq (bFor (sRng3 (aCons (eOp dSub (eCa bLen (aCons (eVar 2) aNil)) (eC (.int 1))) (aCons (eNeg (eC (.int 1))) (aCons (eNeg (eC (.int 1))) aNil)))) (.nm 5) bl_needed_row_0)
   (bRet (eVar 4))))
def F_needed_row : List D → S → Out D := runF 4 6 b_needed_row
def ca__law_knife_0 : Ex := (eOp dMod (eCa bInt (aCons (eCa bAbs (aCons (eCa bInt (aCons (eVar 3) aNil)) aNil)) aNil)) (eC (.int 949021)))
def ca__law_knife_1 : Ex := (eCa bInt (aCons (eCa bAbs (aCons (eCa bInt (aCons (eVar 3) aNil)) aNil)) aNil))
def cu__law_knife_2 : Te := (tV (eOp dGe (eCa bAbs (aCons (eCa bInt (aCons (eVar 3) aNil)) aNil)) (eOp dPow (eC (.int 10)) (eC (.int 18)))))
def b__law_knife : Bl := (bSeq (bSet 1 (eOp dAdd (eLc (sAny (eSl (eVar 0) pNo (pSo (eC (.int 57))))) [3] (.nm 3) tTrue ca__law_knife_0) (eLst (aCons (eOp dAdd (eOp dMod (eCa bLen (aCons (eVar 0) aNil)) (eC (.int 33))) (eC (.int 77))) aNil))))
   (bSeq (bSet 2 (eLcC (sAny (eSl (eVar 0) pNo (pSo (eC (.int 57))))) [3] (.nm 3) cu__law_knife_2 ca__law_knife_1))
   (bRet (eLstC (aCons (eC (.int 7)) (aCons (eC (.int 77023)) (aCons (eVar 1) (aCons (eVar 2) aNil))))))))
def F__law_knife : List D → S → Out D := runF 1 4 b__law_knife
def b__law_cut : Bl := (bSeq (orB (bPut putL (eOp dAdd (eSub (eVar 0) (eC (.int 0))) (eC (.int 1))) (eVar 0) (eC (.int 0))) (bPut putD (eOp dAdd (eSub (eVar 0) (eC (.int 0))) (eC (.int 1))) (eVar 0) (eC (.int 0))))
   (bSeq (bIf (tAnd_ (tV (eOp dGt (eCa bLen (aCons (eSub (eVar 0) (eC (.int 3))) aNil)) (eC (.int 0)))) (tV (eOp dGt (eSub (eSub (eVar 0) (eC (.int 3))) (eC (.int 0))) (eC (.int 0))))) (bSeq (bSet 2 (eCa bInt (aCons (eSub (eSub (eVar 0) (eC (.int 3))) (eC (.int 0))) aNil)))
   (bSeq (orB (bPut putL (eOp dDiv (eVar 2) (eOp dAdd (eVar 1) (eC (.int 1)))) (eSub (eVar 0) (eC (.int 3))) (eC (.int 0))) (bPut putD (eOp dDiv (eVar 2) (eOp dAdd (eVar 1) (eC (.int 1)))) (eSub (eVar 0) (eC (.int 3))) (eC (.int 0))))
   (bRet (eOp dMod (eCa bInt (aCons (eVar 2) aNil)) (eVar 1))))) bNil)
   (bSeq (orB (bPut putL (eOp dMod (eCa bInt (aCons (eOp dAdd (eOp dAdd (eOp dMul (eSub (eVar 0) (eC (.int 1))) (eC (.int 307))) (eOp dMul (eSub (eSub (eVar 0) (eC (.int 2))) (eOp dMod (eSub (eVar 0) (eC (.int 0))) (eCa bLen (aCons (eSub (eVar 0) (eC (.int 2))) aNil)))) (eC (.int 113)))) (eOp dMul (eSub (eVar 0) (eC (.int 0))) (eC (.int 5171)))) aNil)) (eC (.int 949021))) (eVar 0) (eC (.int 1))) (bPut putD (eOp dMod (eCa bInt (aCons (eOp dAdd (eOp dAdd (eOp dMul (eSub (eVar 0) (eC (.int 1))) (eC (.int 307))) (eOp dMul (eSub (eSub (eVar 0) (eC (.int 2))) (eOp dMod (eSub (eVar 0) (eC (.int 0))) (eCa bLen (aCons (eSub (eVar 0) (eC (.int 2))) aNil)))) (eC (.int 113)))) (eOp dMul (eSub (eVar 0) (eC (.int 0))) (eC (.int 5171)))) aNil)) (eC (.int 949021))) (eVar 0) (eC (.int 1))))
   (bRet (eOp dMod (eCa bInt (aCons (eOp dDiv (eSub (eVar 0) (eC (.int 1))) (eC (.int 18))) aNil)) (eVar 1))))))
def F__law_cut : List D → S → Out D := runF 2 3 b__law_cut
def b__law_edge : Bl := (bSeq (bSet 3 (eOp dMod (eCa bInt (aCons (eOp dAdd (eOp dDiv (eSub (eSub (eVar 0) (eC (.int 2))) (eOp dMod (eOp dAdd (eOp dMul (eVar 1) (eC (.int 7))) (eC (.int 2))) (eCa bLen (aCons (eSub (eVar 0) (eC (.int 2))) aNil)))) (eC (.int 5))) (eVar 1)) aNil)) (eC (.int 7))))
   (bSeq (bIf (tV (eOp dEq (eVar 3) (eC (.int 3)))) (bRet (eOp dSub (eVar 2) (eC (.int 1)))) bNil)
   (bSeq (bIf (tV (eOp dEq (eVar 3) (eC (.int 6)))) (bRet (eC (.int 0))) bNil)
   (bRet (eF 2 F__law_cut (aCons (eVar 0) (aCons (eVar 2) aNil)))))))
def F__law_edge : List D → S → Out D := runF 3 4 b__law_edge
def b__law_side : Bl := (bSeq (bSet 2 (eSub (eTup (aCons (eC (.int 0)) (aCons (eC (.int 0)) (aCons (eC (.int 0)) (aCons (eC (.int 1)) (aCons (eC (.int 2)) aNil)))))) (eF 2 F__law_cut (aCons (eVar 0) (aCons (eC (.int 5)) aNil)))))
   (bSeq (bSet 3 (eSub (eTup (aCons (eC .non) (aCons (eC .non) (aCons (eC .non) (aCons (eOp dAdd (eVar 2) (eC (.int 3))) aNil))))) (eF 2 F__law_cut (aCons (eVar 0) (aCons (eC (.int 4)) aNil)))))
   (bSeq (bSet 4 (eSub (eTup (aCons (eC (.int 0)) (aCons (eC (.int 1)) (aCons (eNeg (eC (.int 1))) (aCons (eC (.int 2)) (aCons (eNeg (eC (.int 2))) aNil)))))) (eF 3 F__law_edge (aCons (eVar 0) (aCons (eC (.int 1)) (aCons (eC (.int 5)) aNil))))))
   (bRet (eTup (aCons (eSub (eVar 1) (eF 2 F__law_cut (aCons (eVar 0) (aCons (eCa bLen (aCons (eVar 1) aNil)) aNil)))) (aCons (eVar 2) (aCons (eVar 3) (aCons (eSub (eVar 1) (eF 2 F__law_cut (aCons (eVar 0) (aCons (eCa bLen (aCons (eVar 1) aNil)) aNil)))) (aCons (eCa bMax2 (aCons (eVar 4) (aCons (eNeg (eVar 2)) aNil))) aNil))))))))))
def F__law_side : List D → S → Out D := runF 2 5 b__law_side
def bl__law_market_0 : Bl := (bDrop (eMe isL appL (eVar 2) (aCons (eTup (aCons (eOp dAdd (eC (.str "n")) (eCa bStr (aCons (eVar 3) aNil))) (aCons (eF 2 F__law_side (aCons (eVar 0) (aCons (eVar 1) aNil))) (aCons (eIf (tV (eOp dEq (eF 2 F__law_cut (aCons (eVar 0) (aCons (eC (.int 2)) aNil))) (eC (.int 0)))) (eC .non) (eF 2 F__law_side (aCons (eVar 0) (aCons (eVar 1) aNil)))) aNil)))) aNil)))
def b__law_market : Bl := (bSeq (bSet 1 (eSl (eTup (aCons (eC (.str "bun")) (aCons (eC (.str "egg")) (aCons (eC (.str "tea")) aNil)))) pNo (pSo (eOp dAdd (eC (.int 1)) (eF 3 F__law_edge (aCons (eVar 0) (aCons (eC (.int 2)) (aCons (eC (.int 3)) aNil))))))))
   (bSeq (bSet 2 (eLstC (aCons (eTup (aCons (eC (.str "idle")) (aCons (eTup (aCons (eSub (eVar 1) (eC (.int 0))) (aCons (eC (.int 0)) (aCons (eC .non) (aCons (eSub (eVar 1) (eC (.int 0))) (aCons (eC (.int 0)) aNil)))))) (aCons (eC .non) aNil)))) aNil)))
   (bSeq (bFor (sRng1 (aCons (eOp dAdd (eC (.int 1)) (eF 3 F__law_edge (aCons (eVar 0) (aCons (eC (.int 3)) (aCons (eC (.int 4)) aNil))))) aNil)) (.nm 3) bl__law_market_0)
   (bRet (eTup (aCons (eVar 1) (aCons (eTup (aCons (eTup (aCons (eSub (eVar 1) (eC (.int 0))) (aCons (eC (.int 0)) aNil))) aNil)) (aCons (eCa bTup (aCons (eVar 2) aNil)) aNil))))))))
def F__law_market : List D → S → Out D := runF 1 4 b__law_market
def b__law_suits : Bl := (bRet (eAnd (eOp dEq (eSub (eVar 0) (eC (.int 0))) (eSub (eVar 1) (eC (.int 0)))) (eAnd (eOp dGe (eSub (eVar 1) (eC (.int 1))) (eSub (eVar 0) (eC (.int 1)))) (eOr (eIsN (eSub (eVar 0) (eC (.int 2)))) (eOp dGe (eSub (eVar 0) (eC (.int 2))) (eSub (eVar 1) (eC (.int 1))))))))
def F__law_suits : List D → S → Out D := runF 2 2 b__law_suits
def bl__law_next_0 : Bl := (bIf (tV (eOp dEq (eVar 3) (eSub (eVar 2) (eC (.int 0))))) (bSeq (bIf (tOr_ (tIn true (eSub (eVar 2) (eC (.int 1))) (eVar 1)) (tNot_ (tV (eF 2 F__law_suits (aCons (eVar 4) (aCons (eSub (eVar 1) (eSub (eVar 2) (eC (.int 1)))) aNil)))))) (bRet (eC .non)) bNil)
   (bSeq (bSet 6 (eCa bDict (aCons (eVar 1) aNil)))
   (bSeq (bIf (tV (eNotN (eVar 5))) (bSeq (bIf (tOr_ (tV (eOp dEq (eSub (eVar 2) (eC (.int 2))) (eSub (eVar 2) (eC (.int 1))))) (tOr_ (tIn true (eSub (eVar 2) (eC (.int 2))) (eVar 1)) (tNot_ (tV (eF 2 F__law_suits (aCons (eVar 5) (aCons (eSub (eVar 1) (eSub (eVar 2) (eC (.int 2)))) aNil))))))) (bRet (eC .non)) bNil)
   (orB (bPut putL (eTup (aCons (eSub (eVar 5) (eC (.int 3))) (aCons (eOp dAdd (eSub (eSub (eVar 1) (eSub (eVar 2) (eC (.int 2)))) (eC (.int 1))) (eSub (eVar 5) (eC (.int 4)))) aNil))) (eVar 6) (eSub (eVar 2) (eC (.int 2)))) (bPut putD (eTup (aCons (eSub (eVar 5) (eC (.int 3))) (aCons (eOp dAdd (eSub (eSub (eVar 1) (eSub (eVar 2) (eC (.int 2)))) (eC (.int 1))) (eSub (eVar 5) (eC (.int 4)))) aNil))) (eVar 6) (eSub (eVar 2) (eC (.int 2)))))) (bIf (tV (eOp dNe (eSub (eVar 2) (eC (.int 2))) (eC (.str "")))) (bRet (eC .non)) bNil))
   (bSeq (orB (bPut putL (eTup (aCons (eSub (eVar 4) (eC (.int 3))) (aCons (eOp dAdd (eSub (eSub (eVar 1) (eSub (eVar 2) (eC (.int 1)))) (eC (.int 1))) (eSub (eVar 4) (eC (.int 4)))) aNil))) (eVar 6) (eSub (eVar 2) (eC (.int 1)))) (bPut putD (eTup (aCons (eSub (eVar 4) (eC (.int 3))) (aCons (eOp dAdd (eSub (eSub (eVar 1) (eSub (eVar 2) (eC (.int 1)))) (eC (.int 1))) (eSub (eVar 4) (eC (.int 4)))) aNil))) (eVar 6) (eSub (eVar 2) (eC (.int 1)))))
   (bRet (eVar 6)))))) bNil)
def b__law_next : Bl := (bSeq (bFor (sAny (eSub (eVar 0) (eC (.int 2)))) (.tu (.cons (.nm 3) (.cons (.nm 4) (.cons (.nm 5) .nil)))) bl__law_next_0)
   (bRet (eC .non)))
def F__law_next : List D → S → Out D := runF 3 7 b__law_next
def bl__law_end_0 : Bl := (bSeq (bSet 1 (eF 3 F__law_next (aCons (eVar 0) (aCons (eVar 1) (aCons (eVar 3) aNil)))))
   (bIf (tV (eIsN (eVar 1))) (bRet (eC .non)) bNil))
def b__law_end : Bl := (bSeq (bFor (sAny (eVar 2)) (.nm 3) bl__law_end_0)
   (bRet (eVar 1)))
def F__law_end : List D → S → Out D := runF 3 4 b__law_end
def ca__law_has_0 : Ex := (eVar 5)
def cu__law_has_1 : Te := (tV (eOp dEq (eSub (eVar 4) (eVar 5)) (eVar 3)))
def b__law_has : Bl := (bSeq (bSet 4 (eF 3 F__law_end (aCons (eVar 0) (aCons (eVar 1) (aCons (eVar 2) aNil)))))
   (bRet (eAnd (eNotN (eVar 4)) (eOp dGt (eCa bLen (aCons (eLcK 4 [5] (.nm 5) cu__law_has_1 ca__law_has_0) aNil)) (eC (.int 0))))))
def F__law_has : List D → S → Out D := runF 4 6 b__law_has
def ca__law_row_0 : Ex := (eVar 12)
def cu__law_row_1 : Te := (tV (eF 2 F__law_suits (aCons (eVar 10) (aCons (eSub (eVar 6) (eVar 12)) aNil))))
def ca__law_row_2 : Ex := (eVar 14)
def cu__law_row_3 : Te := (tAnd_ (tV (eNotN (eVar 11))) (tAnd_ (tV (eOp dNe (eVar 14) (eVar 12))) (tV (eF 2 F__law_suits (aCons (eVar 11) (aCons (eSub (eVar 6) (eVar 14)) aNil))))))
def bl__law_row_4 : Bl := (bSeq (bAsgP (eSub (eSub (eVar 1) (eC (.int 2))) (eF 2 F__law_cut (aCons (eVar 0) (aCons (eCa bLen (aCons (eSub (eVar 1) (eC (.int 2))) aNil)) aNil)))) (.tu (.cons (.nm 9) (.cons (.nm 10) (.cons (.nm 11) .nil)))))
   (bSeq (bSet 8 (eLc (sAny (eVar 7)) [12] (.nm 12) cu__law_row_1 ca__law_row_0))
   (bIf (tV (eOp dGt (eCa bLen (aCons (eVar 8) aNil)) (eC (.int 0)))) (bSeq (bSet 12 (eSub (eVar 8) (eF 2 F__law_cut (aCons (eVar 0) (aCons (eCa bLen (aCons (eVar 8) aNil)) aNil)))))
   (bSeq (bSet 13 (eLc (sAny (eVar 7)) [14] (.nm 14) cu__law_row_3 ca__law_row_2))
   (bIf (tOr_ (tV (eIsN (eVar 11))) (tV (eOp dGt (eCa bLen (aCons (eVar 13) aNil)) (eC (.int 0))))) (bSeq (bSet 5 (eOp dAdd (eVar 5) (eTup (aCons (eTup (aCons (eVar 9) (aCons (eVar 12) (aCons (eIf (tV (eIsN (eVar 11))) (eC (.str "")) (eSub (eVar 13) (eF 2 F__law_cut (aCons (eVar 0) (aCons (eCa bLen (aCons (eVar 13) aNil)) aNil))))) aNil)))) aNil))))
   (bSet 6 (eF 3 F__law_next (aCons (eVar 1) (aCons (eVar 6) (aCons (eSub (eVar 5) (eOp dSub (eCa bLen (aCons (eVar 5) aNil)) (eC (.int 1)))) aNil)))))) bNil))) bNil)))
def b__law_row : Bl := (bSeq (bAsgP (eTup (aCons (eTup aNil) (aCons (eVar 2) (aCons (eCa bSortD (aCons (eVar 2) aNil)) aNil)))) (.tu (.cons (.nm 5) (.cons (.nm 6) (.cons (.nm 7) .nil)))))
   (bSeq (bFor (sRng1 (aCons (eVar 3) aNil)) (.nm 4) bl__law_row_4)
   (bRet (eVar 5))))
def F__law_row : List D → S → Out D := runF 4 15 b__law_row
def bl__law_stays_0 : Bl := (bSeq (bSet 5 (eOp dAdd (eSl (eVar 2) pNo (pSo (eVar 4))) (eSl (eVar 2) (pSo (eOp dAdd (eVar 4) (eC (.int 1)))) pNo)))
   (bSeq (bIf (tV (eF 4 F__law_has (aCons (eVar 0) (aCons (eVar 1) (aCons (eVar 5) (aCons (eVar 3) aNil)))))) (bSet 2 (eVar 5)) bNil)
   (bSet 4 (eOp dSub (eVar 4) (eC (.int 1))))))
def tl__law_stays_1 : Te := (tV (eOp dGe (eVar 4) (eC (.int 0))))
def fu__law_stays_2 : Mo.Env → S → Nat := (fun (ρ : Mo.Env) (_ : S) => match (ρ[4]? : Option (Option D)) with | some (some (.p (.int i))) => (i + 2).toNat | _ => 0)
def b__law_stays : Bl := (bSeq (bSet 4 (eOp dSub (eCa bLen (aCons (eVar 2) aNil)) (eC (.int 1))))
   (bSeq (bWhile fu__law_stays_2 tl__law_stays_1 bl__law_stays_0)
   (bRet (eVar 2))))
def F__law_stays : List D → S → Out D := runF 4 6 b__law_stays
def ca__law_same_0 (F0 : List D → S → Out D) : Ex := (eF 2 (F0 : List D → S → Out D) (aCons (eSub (eVar 0) (eVar 2)) (aCons (eSub (eVar 1) (eVar 2)) aNil)))
def b__law_same (F0 : List D → S → Out D) : Bl := (bSeq (bIf (tV (eIsI "tuple" (eVar 1))) (bRet (eAnd (eIsI "tuple" (eVar 0)) (eAnd (eOp dEq (eCa bLen (aCons (eVar 0) aNil)) (eCa bLen (aCons (eVar 1) aNil))) (eCa bAll (aCons (eLc (sRng1 (aCons (eCa bLen (aCons (eVar 1) aNil)) aNil)) [2] (.nm 2) tTrue (ca__law_same_0 F0)) aNil))))) bNil)
   (bSeq (bIf (tV (eIsN (eVar 1))) (bRet (eIsN (eVar 0))) bNil)
   (bSeq (bIf (tV (eIsI "bool" (eVar 1))) (bRet (eAnd (eIsI "bool" (eVar 0)) (eOp dEq (eVar 0) (eVar 1)))) bNil)
   (bSeq (bIf (tV (eIsI "str" (eVar 1))) (bRet (eAnd (eIsI "str" (eVar 0)) (eOp dEq (eVar 0) (eVar 1)))) bNil)
   (bRet (eAnd (eIsI "int" (eVar 0)) (eAnd (eNot (eIsI "bool" (eVar 0))) (eOp dEq (eVar 0) (eVar 1)))))))))
def Fr__law_same : Nat → List D → S → Out D
  | 0 => fun _ _ => .no
  | j + 1 => runF 2 3 (b__law_same (Fr__law_same j))
def F__law_same : List D → S → Out D := Fr__law_same 6
def bl__law_asked_0 : Bl := (orB (bPut putL (eTup (aCons (eSub (eSub (eVar 1) (eC (.int 0))) (eF 2 F__law_cut (aCons (eVar 0) (aCons (eCa bLen (aCons (eSub (eVar 1) (eC (.int 0))) aNil)) aNil)))) (aCons (eF 3 F__law_edge (aCons (eVar 0) (aCons (eC (.int 5)) (aCons (eC (.int 6)) aNil)))) aNil))) (eVar 5) (eOp dAdd (eC (.str "v")) (eCa bStr (aCons (eVar 6) aNil)))) (bPut putD (eTup (aCons (eSub (eSub (eVar 1) (eC (.int 0))) (eF 2 F__law_cut (aCons (eVar 0) (aCons (eCa bLen (aCons (eSub (eVar 1) (eC (.int 0))) aNil)) aNil)))) (aCons (eF 3 F__law_edge (aCons (eVar 0) (aCons (eC (.int 5)) (aCons (eC (.int 6)) aNil)))) aNil))) (eVar 5) (eOp dAdd (eC (.str "v")) (eCa bStr (aCons (eVar 6) aNil)))))
def ca__law_asked_1 : Ex := (eOp dAdd (eTup (aCons (eVar 15) aNil)) (eSub (eVar 5) (eVar 15)))
def bl__law_asked_2 : Bl := (bSeq (bSet 13 (eIf (tV (eOp dLe (eCa bLen (aCons (eVar 8) aNil)) (eVar 4))) (eVar 11) (eF 2 F__law_cut (aCons (eVar 0) (aCons (eCa bLen (aCons (eVar 8) aNil)) aNil)))))
   (bSeq (bSet 14 (eNot (eF 4 F__law_has (aCons (eVar 1) (aCons (eVar 5) (aCons (eOp dAdd (eSl (eVar 8) pNo (pSo (eVar 13))) (eSl (eVar 8) (pSo (eOp dAdd (eVar 13) (eC (.int 1)))) pNo)) (aCons (eVar 10) aNil)))))))
   (bIf (tNot_ (tV (eF 2 F__law_same (aCons (eF 5 F_is_needed (aCons (eVar 1) (aCons (eVar 7) (aCons (eVar 8) (aCons (eVar 13) (aCons (eVar 10) aNil)))))) (aCons (eVar 14) aNil))))) (bRet (eC (.bl false))) bNil)))
def bl__law_asked_3 : Bl := (bSeq (bSet 14 (eNot (eF 4 F__law_has (aCons (eVar 1) (aCons (eVar 5) (aCons (eOp dAdd (eSl (eVar 12) pNo (pSo (eVar 13))) (eSl (eVar 12) (pSo (eOp dAdd (eVar 13) (eC (.int 1)))) pNo)) (aCons (eVar 10) aNil)))))))
   (bIf (tNot_ (tV (eF 2 F__law_same (aCons (eFK 5 F_is_needed [0, 1, 2, 3, 4] aNil (aCons (eVar 1) (aCons (eVar 7) (aCons (eVar 12) (aCons (eVar 13) (aCons (eVar 10) aNil)))))) (aCons (eVar 14) aNil))))) (bRet (eC (.bl false))) bNil))
def b__law_asked : Bl := (bSeq (bSet 5 eDNew)
   (bSeq (bFor (sRng1 (aCons (eVar 2) aNil)) (.nm 6) bl__law_asked_0)
   (bSeq (bSet 7 (eCa bTup (aCons (eLc (sAny (eCa bSortD (aCons (eVar 5) aNil))) [15] (.nm 15) tTrue ca__law_asked_1) aNil)))
   (bSeq (bSet 8 (eF 4 F__law_row (aCons (eVar 0) (aCons (eVar 1) (aCons (eVar 5) (aCons (eVar 3) aNil))))))
   (bSeq (bSet 9 (eF 3 F__law_end (aCons (eVar 1) (aCons (eVar 5) (aCons (eVar 8) aNil)))))
   (bSeq (bSet 10 (eSub (eVar 9) (eOp dAdd (eC (.str "v")) (eCa bStr (aCons (eF 2 F__law_cut (aCons (eVar 0) (aCons (eVar 2) aNil))) aNil)))))
   (bSeq (bFor (sRng1 (aCons (eCa bMin2 (aCons (eCa bLen (aCons (eVar 8) aNil)) (aCons (eVar 4) aNil))) aNil)) (.nm 11) bl__law_asked_2)
   (bSeq (bSet 12 (eF 4 F__law_stays (aCons (eVar 1) (aCons (eVar 5) (aCons (eVar 8) (aCons (eVar 10) aNil))))))
   (bSeq (bIf (tNot_ (tV (eF 2 F__law_same (aCons (eF 4 F_needed_row (aCons (eVar 1) (aCons (eVar 7) (aCons (eVar 8) (aCons (eVar 10) aNil))))) (aCons (eVar 12) aNil))))) (bRet (eC (.bl false))) bNil)
   (bSeq (bIf (tNot_ (tV (eF 2 F__law_same (aCons (eTup (aCons (eF 3 F_row_fault (aCons (eVar 1) (aCons (eVar 7) (aCons (eVar 12) aNil)))) (aCons (eF 4 F_comes_behind (aCons (eVar 1) (aCons (eVar 7) (aCons (eVar 12) (aCons (eVar 10) aNil))))) aNil))) (aCons (eTup (aCons (eC .non) (aCons (eC (.bl true)) aNil))) aNil))))) (bRet (eC (.bl false))) bNil)
   (bSeq (bFor (sRng1 (aCons (eCa bMin2 (aCons (eCa bLen (aCons (eVar 12) aNil)) (aCons (eC (.int 4)) aNil))) aNil)) (.nm 13) bl__law_asked_3)
   (bRet (eC (.bl true))))))))))))))
def F__law_asked : List D → S → Out D := runF 5 16 b__law_asked
def bl_law_0 : Bl := (bIf (tNot_ (tV (eF 5 F__law_asked (aCons (eVar 1) (aCons (eF 1 F__law_market (aCons (eVar 1) aNil)) (aCons (eOp dAdd (eC (.int 1)) (eF 3 F__law_edge (aCons (eVar 1) (aCons (eOp dAdd (eC (.int 6)) (eVar 2)) (aCons (eC (.int 5)) aNil))))) (aCons (eOp dAdd (eC (.int 2)) (eF 3 F__law_edge (aCons (eVar 1) (aCons (eOp dAdd (eC (.int 9)) (eVar 2)) (aCons (eC (.int 9)) aNil))))) (aCons (eC (.int 12)) aNil)))))))) (bRet (eC (.bl false))) bNil)
def b_law : Bl := (bSeq (bSet 1 (eF 1 F__law_knife (aCons (eVar 0) aNil)))
   (bSeq (bFor (sRng1 (aCons (eC (.int 3)) aNil)) (.nm 2) bl_law_0)
   (bSeq (bSet 3 (eTup (aCons (eTup (aCons (eC (.str "a")) aNil)) (aCons (eTup (aCons (eTup (aCons (eC (.str "a")) (aCons (eC (.int 0)) aNil))) aNil)) (aCons (eTup (aCons (eTup (aCons (eC (.str "down")) (aCons (eTup (aCons (eC (.str "a")) (aCons (eC (.int 1)) (aCons (eC .non) (aCons (eC (.str "a")) (aCons (eNeg (eC (.int 1))) aNil)))))) (aCons (eC .non) aNil)))) (aCons (eTup (aCons (eC (.str "up")) (aCons (eTup (aCons (eC (.str "a")) (aCons (eC (.int 0)) (aCons (eC .non) (aCons (eC (.str "a")) (aCons (eC (.int 1)) aNil)))))) (aCons (eC .non) aNil)))) aNil))) aNil)))))
   (bSeq (bAsgP (eTup (aCons (eTup (aCons (eTup (aCons (eC (.str "x")) (aCons (eC (.str "a")) (aCons (eC (.int 0)) aNil)))) (aCons (eTup (aCons (eC (.str "y")) (aCons (eC (.str "a")) (aCons (eC (.int 0)) aNil)))) aNil))) (aCons (eTup (aCons (eC (.str "up")) (aCons (eC (.str "x")) (aCons (eC (.str "")) aNil)))) (aCons (eTup (aCons (eC (.str "down")) (aCons (eC (.str "x")) (aCons (eC (.str "")) aNil)))) aNil)))) (.tu (.cons (.nm 5) (.cons (.nm 6) (.cons (.nm 7) .nil)))))
   (bSeq (bSet 4 (eTup (aCons (eF 4 F_needed_row (aCons (eVar 3) (aCons (eVar 5) (aCons (eTup (aCons (eVar 6) (aCons (eTup (aCons (eC (.str "up")) (aCons (eC (.str "y")) (aCons (eC (.str "")) aNil)))) aNil))) (aCons (eTup (aCons (eC (.str "a")) (aCons (eC (.int 1)) aNil))) aNil))))) (aCons (eF 4 F_needed_row (aCons (eVar 3) (aCons (eVar 5) (aCons (eTup (aCons (eVar 6) (aCons (eVar 7) (aCons (eVar 6) (aCons (eTup (aCons (eC (.str "up")) (aCons (eC (.str "y")) (aCons (eC (.str "")) aNil)))) aNil))))) (aCons (eTup (aCons (eC (.str "a")) (aCons (eC (.int 1)) aNil))) aNil))))) (aCons (eF 4 F_needed_row (aCons (eVar 3) (aCons (eVar 5) (aCons (eTup (aCons (eVar 6) (aCons (eVar 6) (aCons (eVar 7) aNil)))) (aCons (eTup (aCons (eC (.str "a")) (aCons (eC (.int 0)) aNil))) aNil))))) aNil)))))
   (bSeq (bIf (tNot_ (tV (eF 2 F__law_same (aCons (eVar 4) (aCons (eTup (aCons (eTup (aCons (eVar 6) aNil)) (aCons (eTup (aCons (eVar 6) (aCons (eVar 7) (aCons (eVar 6) aNil)))) (aCons (eTup aNil) aNil)))) aNil))))) (bRet (eC (.bl false))) bNil)
   (bSeq (bIf (tNot_ (tV (eF 2 F__law_same (aCons (eTup (aCons (eF 5 F_is_needed (aCons (eVar 3) (aCons (eVar 5) (aCons (eTup (aCons (eVar 6) (aCons (eVar 7) aNil))) (aCons (eC (.int 0)) (aCons (eTup (aCons (eC (.str "a")) (aCons (eC (.int 0)) aNil))) aNil)))))) (aCons (eF 5 F_is_needed (aCons (eVar 3) (aCons (eVar 5) (aCons (eTup (aCons (eVar 6) (aCons (eVar 6) aNil))) (aCons (eC (.int 0)) (aCons (eTup (aCons (eC (.str "a")) (aCons (eC (.int 2)) aNil))) aNil)))))) (aCons (eF 5 F_is_needed (aCons (eVar 3) (aCons (eVar 5) (aCons (eTup (aCons (eVar 6) (aCons (eVar 6) aNil))) (aCons (eC (.int 1)) (aCons (eTup (aCons (eC (.str "a")) (aCons (eC (.int 0)) aNil))) aNil)))))) aNil)))) (aCons (eTup (aCons (eC (.bl true)) (aCons (eC (.bl true)) (aCons (eC (.bl false)) aNil)))) aNil))))) (bRet (eC (.bl false))) bNil)
   (bRet (eOr (eOp dGt (eF 2 F__law_cut (aCons (eVar 1) (aCons (eC (.int 13)) aNil))) (eC (.int 0))) (eF 5 F__law_asked (aCons (eVar 1) (aCons (eF 1 F__law_market (aCons (eVar 1) aNil)) (aCons (eC (.int 12)) (aCons (eC (.int 60)) (aCons (eC (.int 12)) aNil)))))))))))))))
def F_law : List D → S → Out D := runF 1 8 b_law
end K77

set_option Elab.async false
set_option linter.all false
set_option maxRecDepth 100000
set_option maxHeartbeats 1000000
namespace K77
open PySem Mo
abbrev Hd := Str × Int
abbrev Fair := List (Str × Hd)
structure Side where
  good : Str
  least : Int
  most : Option Int
  after : Str
  change : Int
structure Offer where
  name : Str
  one : Side
  other : Option Side
structure Deal where
  name : Str
  one : Str
  other : Str
structure Market where
  goods : P
  starts : P
  offers : List Offer
def optP {α : Type} (g : α → P) : Option α → P
  | none => .non
  | some a => g a
def pHd (h : Hd) : P := .tup [.str h.1, .int h.2]
def pEn (e : Str × Hd) : P := .tup [.str e.1, .str e.2.1, .int e.2.2]
def pFair (f : Fair) : P := .tup (f.map pEn)
def pSide (x : Side) : P := .tup [.str x.good, .int x.least, optP .int x.most, .str x.after, .int x.change]
def pOffer (x : Offer) : P := .tup [.str x.name, pSide x.one, optP pSide x.other]
def pMarket (m : Market) : P := .tup [m.goods, m.starts, .tup (m.offers.map pOffer)]
def pDeal (x : Deal) : P := .tup [.str x.name, .str x.one, .str x.other]
def pRow (r : List Deal) : P := .tup (r.map pDeal)
/-! mirrors -/
def found (f : Fair) (t : Str) : Option Hd := match runSt (fun (_ : Unit) (e : Str × Hd) => if e.1 = t then Sum.inr e.2 else Sum.inl ()) () f with
  | .inl _ => none
  | .inr h => some h
def withH (f : Fair) (t : Str) (h : Hd) : Fair := f.map fun e => if e.1 = t then (e.1, h) else e
def offerOf (m : Market) (n : Str) : Option Offer := match runSt (fun (_ : Unit) (e : Offer) => if e.name = n then Sum.inr e else Sum.inl ()) () m.offers with
  | .inl _ => none
  | .inr h => some h
def fits (x : Side) (h : Hd) : Bool := decide (h.1 = x.good) && (decide (x.least ≤ h.2) && (match x.most with
  | none => true
  | some j => decide (h.2 ≤ j)))
def behind (x : Side) (h : Hd) : Hd := (x.after, h.2 + x.change)
/-! what the defs come to -/
theorem sz2 {n : Nat} (h : n ≤ 1000000) : n ≤ sizeLine := by rw [sizeLine_eq]; omega
theorem sz2' {n : Nat} (h : n ≤ 1000000) : n < sizeLine := by rw [sizeLine_eq]; omega
@[simp] theorem mkT_two (a b : P) : mkT [.p a, .p b] = .p (.tup [a, b]) := rfl
@[simp] theorem mkT_three (a b c : P) : mkT [.p a, .p b, .p c] = .p (.tup [a, b, c]) := rfl
@[simp] theorem mkT_one (a : P) : mkT [.p a] = .p (.tup [a]) := rfl
@[simp] theorem szl1 : 1 ≤ sizeLine := by decide
@[simp] theorem szl2 : 2 ≤ sizeLine := by decide
@[simp] theorem szl3 : 3 ≤ sizeLine := by decide
@[simp] theorem szl0 : 0 ≤ sizeLine := by decide
theorem F_found (f : Fair) (t : Str) (s : S) : F_found_holding [.p (pFair f), .p (.str t)] s = .ok (.p (optP pHd (found f t))) s := by
  have key := forL_run (g := fun e => D.p (pEn e)) (ok := fun _ => true) (T := (.tu (.cons (.nm 2) (.cons (.nm 3) (.cons (.nm 4) .nil))))) (B := bl_found_holding_0) (l := f)
    (stp := fun (_ : Unit) (e : Str × Hd) => if e.1 = t then Sum.inr e.2 else Sum.inl ()) (I := fun _ ρ s' => ∃ a b c, ρ = [some (.p (pFair f)), some (.p (.str t)), a, b, c] ∧ s' = s) (R := fun h o => o = .rt (.p (pHd h)) s) (fun _ _ _ _ => rfl)
    (fun _ e ρ s' _ h => by
      obtain ⟨a, b, c, rfl, rfl⟩ := h
      refine ⟨[some (.p (pFair f)), some (.p (.str t)), some (.p (.str e.1)), some (.p (.str e.2.1)), some (.p (.int e.2.2))], rfl, ?_⟩
      by_cases he : e.1 = t
      · simp [bl_found_holding_0, he, bIf, pHd, Fl.ends]
      · simp [bl_found_holding_0, he, bIf])
    (b := ()) (ρ := [some (.p (pFair f)), some (.p (.str t)), none, none, none]) (s := s) ⟨_, _, _, rfl, rfl⟩
  unfold found
  have e : (List.map (fun e => D.p (pEn e)) f) = List.map D.p (f.map pEn) := by simp
  rw [e] at key
  cases er : runSt (fun (_ : Unit) (e : Str × Hd) => if e.1 = t then Sum.inr e.2 else Sum.inl ()) () f with
  | inl b =>
    rw [er] at key
    obtain ⟨ρ', s', h1, a, b, c, rfl, rfl⟩ := key
    simp [F_found_holding, runF, b_found_holding, pFair] at h1 ⊢
    simp [h1, optP]
  | inr h =>
    rw [er] at key
    simp [F_found_holding, runF, b_found_holding, pFair] at key ⊢
    simp [key, optP]
end K77

set_option Elab.async false
set_option linter.all false
set_option maxRecDepth 100000
set_option maxHeartbeats 1000000
namespace K77
open PySem Mo
@[simp] theorem ix_offer0 (o : Offer) (s : S) : dIx (.p (pOffer o)) (.p (.int 0)) s = some (.p (.str o.name), s) := by simp [pOffer]
@[simp] theorem ix_offer1 (o : Offer) (s : S) : dIx (.p (pOffer o)) (.p (.int 1)) s = some (.p (pSide o.one), s) := by simp [pOffer]
@[simp] theorem ix_offer2 (o : Offer) (s : S) : dIx (.p (pOffer o)) (.p (.int 2)) s = some (.p (optP pSide o.other), s) := by simp [pOffer]
@[simp] theorem ix_market2 (o : Market) (s : S) : dIx (.p (pMarket o)) (.p (.int 2)) s = some (.p (.tup (o.offers.map pOffer)), s) := by simp [pMarket]
@[simp] theorem ix_side0 (o : Side) (s : S) : dIx (.p (pSide o)) (.p (.int 0)) s = some (.p (.str o.good), s) := by simp [pSide]
@[simp] theorem ix_side1 (o : Side) (s : S) : dIx (.p (pSide o)) (.p (.int 1)) s = some (.p (.int o.least), s) := by simp [pSide]
@[simp] theorem ix_side2 (o : Side) (s : S) : dIx (.p (pSide o)) (.p (.int 2)) s = some (.p (optP .int o.most), s) := by simp [pSide]
@[simp] theorem ix_side3 (o : Side) (s : S) : dIx (.p (pSide o)) (.p (.int 3)) s = some (.p (.str o.after), s) := by simp [pSide]
@[simp] theorem ix_side4 (o : Side) (s : S) : dIx (.p (pSide o)) (.p (.int 4)) s = some (.p (.int o.change), s) := by simp [pSide]
@[simp] theorem ix_hd0 (o : Hd) (s : S) : dIx (.p (pHd o)) (.p (.int 0)) s = some (.p (.str o.1), s) := by simp [pHd]
@[simp] theorem ix_hd1 (o : Hd) (s : S) : dIx (.p (pHd o)) (.p (.int 1)) s = some (.p (.int o.2), s) := by simp [pHd]
@[simp] theorem ix_deal0 (o : Deal) (s : S) : dIx (.p (pDeal o)) (.p (.int 0)) s = some (.p (.str o.name), s) := by simp [pDeal]
@[simp] theorem ix_deal1 (o : Deal) (s : S) : dIx (.p (pDeal o)) (.p (.int 1)) s = some (.p (.str o.one), s) := by simp [pDeal]
@[simp] theorem ix_deal2 (o : Deal) (s : S) : dIx (.p (pDeal o)) (.p (.int 2)) s = some (.p (.str o.other), s) := by simp [pDeal]
@[simp] theorem vi_deal (o : Deal) : viT (.p (pDeal o)) = some [.p (.str o.name), .p (.str o.one), .p (.str o.other)] := by simp [pDeal]
@[simp] theorem vi_offer (o : Offer) : viT (.p (pOffer o)) = some [.p (.str o.name), .p (pSide o.one), .p (optP pSide o.other)] := by simp [pOffer]
@[simp] theorem vi_side (o : Side) : viT (.p (pSide o)) = some [.p (.str o.good), .p (.int o.least), .p (optP .int o.most), .p (.str o.after), .p (.int o.change)] := by simp [pSide]
@[simp] theorem vi_en (e : Str × Hd) : viT (.p (pEn e)) = some [.p (.str e.1), .p (.str e.2.1), .p (.int e.2.2)] := by simp [pEn]
@[simp] theorem vi_fair (f : Fair) : viT (.p (pFair f)) = some (f.map fun e => .p (pEn e)) := by simp [pFair]
@[simp] theorem isN_offer (o : Offer) : isN (.p (pOffer o)) = false := rfl
@[simp] theorem isN_side (o : Side) : isN (.p (pSide o)) = false := rfl
@[simp] theorem isN_hd (o : Hd) : isN (.p (pHd o)) = false := rfl
@[simp] theorem isN_optOffer (o : Option Offer) : isN (.p (optP pOffer o)) = o.isNone := by cases o <;> rfl
@[simp] theorem isN_optSide (o : Option Side) : isN (.p (optP pSide o)) = o.isNone := by cases o <;> rfl
@[simp] theorem isN_optHd (o : Option Hd) : isN (.p (optP pHd o)) = o.isNone := by cases o <;> rfl
@[simp] theorem isN_optInt (o : Option Int) : isN (.p (optP .int o)) = o.isNone := by cases o <;> rfl
@[simp] theorem isN_optStr (o : Option Str) : isN (.p (optP .str o)) = o.isNone := by cases o <;> rfl
theorem mk_hd (a : Str) (b : Int) : mkT [.p (.str a), .p (.int b)] = .p (pHd (a, b)) := rfl
theorem F_with (f : Fair) (t : Str) (h : Hd) (s : S) (hz : f.length ≤ 1000) : F_with_holding [.p (pFair f), .p (.str t), .p (pHd h)] s = .ok (.p (pFair (withH f t h))) s := by
  have key := eLc_pure (g := fun e => D.p (pEn e)) (u := fun _ => true) (y := fun e : Str × Hd => D.p (pEn (if e.1 = t then (e.1, h) else e))) (Sg := sAny (eVar 0)) (own := [3, 4, 5]) (T := (.tu (.cons (.nm 3) (.cons (.nm 4) (.cons (.nm 5) .nil))))) (U := tTrue) (A := ca_with_holding_0)
    (ρ := [some (.p (pFair f)), some (.p (.str t)), some (.p (pHd h)), none, none, none]) (s := s) (ok := fun _ => true) (l := f) (by simp) (fun _ => rfl)
    (fun e _ => ⟨[some (.p (pFair f)), some (.p (.str t)), some (.p (pHd h)), some (.p (.str e.1)), some (.p (.str e.2.1)), some (.p (.int e.2.2))], rfl, fun _ => rfl, fun _ acc => by
      by_cases he : e.1 = t
      · simp [ca_with_holding_0, he, pEn, pHd, dAdd_tup]
      · simp [ca_with_holding_0, he, pEn]⟩) (by omega) (fun _ _ => rfl)
  have e : (List.map (fun e : Str × Hd => D.p (pEn (if e.1 = t then (e.1, h) else e))) (List.filter (fun _ => true) f)) = ((withH f t h).map pEn).map D.p := by
    rw [List.filter_eq_self.mpr (fun _ _ => rfl)]
    simp [withH]
  rw [e] at key
  simp only [F_with_holding, runF, b_with_holding, bRet, eCa, aCons, aNil, List.length_cons, List.length_nil, List.map_cons, List.map_nil, List.replicate, List.cons_append, List.nil_append, if_true, Nat.reduceAdd, Nat.reduceSub, key, Out.bind, bTup_lst, mkT_map, ofO, Out.fl, fin_p]
  rfl
theorem F_offer (m : Market) (n : Str) (s : S) : F_offer_of [.p (pMarket m), .p (.str n)] s = .ok (.p (optP pOffer (offerOf m n))) s := by
  have key := forL_run (g := fun e => D.p (pOffer e)) (ok := fun _ => true) (T := (.nm 2)) (B := bl_offer_of_0) (l := m.offers)
    (stp := fun (_ : Unit) (e : Offer) => if e.name = n then Sum.inr e else Sum.inl ()) (I := fun _ ρ s' => ∃ a, ρ = [some (.p (pMarket m)), some (.p (.str n)), a] ∧ s' = s) (R := fun h o => o = .rt (.p (pOffer h)) s) (fun _ _ _ _ => rfl)
    (fun _ e ρ s' _ h => by
      obtain ⟨a, rfl, rfl⟩ := h
      refine ⟨[some (.p (pMarket m)), some (.p (.str n)), some (.p (pOffer e))], rfl, ?_⟩
      by_cases he : e.name = n
      · simp [bl_offer_of_0, he, pOffer, Fl.ends]
      · simp [bl_offer_of_0, he, pOffer])
    (b := ()) (ρ := [some (.p (pMarket m)), some (.p (.str n)), none]) (s := s) ⟨_, rfl, rfl⟩
  unfold offerOf
  have e : (List.map (fun e => D.p (pOffer e)) m.offers) = List.map D.p (m.offers.map pOffer) := by simp
  rw [e] at key
  cases er : runSt (fun (_ : Unit) (e : Offer) => if e.name = n then Sum.inr e else Sum.inl ()) () m.offers with
  | inl b =>
    rw [er] at key
    obtain ⟨ρ', s', h1, a, rfl, rfl⟩ := key
    simp [F_offer_of, runF, b_offer_of, pMarket] at h1 ⊢
    simp [h1, optP]
  | inr h =>
    rw [er] at key
    simp [F_offer_of, runF, b_offer_of, pMarket] at key ⊢
    simp [key, optP]
theorem F_fit (x : Side) (h : Hd) (s : S) : F_fits [.p (pSide x), .p (pHd h)] s = .ok (.p (.bl (fits x h))) s := by
  obtain ⟨g, l, m, a, c⟩ := x
  cases m with
  | none =>
    by_cases h1 : h.1 = g <;> by_cases h2 : l ≤ h.2 <;> simp [F_fits, runF, b_fits, pSide, pHd, fits, optP, Pt.run, Pts.run, h1, h2]
  | some j =>
    by_cases h1 : h.1 = g <;> by_cases h2 : l ≤ h.2 <;> simp [F_fits, runF, b_fits, pSide, pHd, fits, optP, Pt.run, Pts.run, h1, h2]
theorem F_behind_ (x : Side) (h : Hd) (s : S) : F_behind [.p (pSide x), .p (pHd h)] s = .ok (.p (pHd (behind x h))) s := by
  simp [F_behind, runF, b_behind, pSide, pHd, behind]
def otherWrong (o : Offer) (f : Fair) (one other : Str) : Bool := match o.other with
  | none => !decide (other = "")
  | some _ => decide (other = "") || (decide (other = one) || (found f other).isNone)
theorem F_otherw (o : Offer) (f : Fair) (one other : Str) (s : S) : F_other_is_wrong [.p (pOffer o), .p (pFair f), .p (.str one), .p (.str other)] s = .ok (.p (.bl (otherWrong o f one other))) s := by
  unfold otherWrong
  cases hb : o.other with
  | none =>
    simp [F_other_is_wrong, runF, b_other_is_wrong, hb]
  | some b =>
    by_cases h1 : other = "" <;> by_cases h2 : other = one <;> simp [F_other_is_wrong, runF, b_other_is_wrong, hb, h1, h2, F_found]
end K77

set_option Elab.async false
set_option linter.all false
set_option maxRecDepth 100000
set_option maxHeartbeats 1000000
namespace K77
open PySem Mo
def dealWord (m : Market) (f : Fair) (d : Deal) : Option Str := match offerOf m d.name with
  | none => some "offer"
  | some o => match found f d.one with
    | none => some "one"
    | some h => if otherWrong o f d.one d.other = true then some "other" else if fits o.one h = true then (if d.other = "" then none else match o.other, found f d.other with
      | some x, some k => if fits x k = true then none else some "fit"
      | _, _ => none) else some "fit"
theorem F_dword (m : Market) (f : Fair) (d : Deal) (s : S) : F_deal_word [.p (pMarket m), .p (pFair f), .p (pDeal d)] s = .ok (.p (optP .str (dealWord m f d))) s := by
  unfold dealWord
  cases ho : offerOf m d.name with
  | none => simp [F_deal_word, runF, b_deal_word, Pt.run, Pts.run, F_offer, ho, optP]
  | some o =>
    cases hf : found f d.one with
    | none => simp [F_deal_word, runF, b_deal_word, Pt.run, Pts.run, F_offer, ho, optP, F_found, hf]
    | some h =>
      have e1 : optP pOffer (some o) = pOffer o := rfl
      have e2 : optP pHd (some h) = pHd h := rfl
      cases hw : otherWrong o f d.one d.other with
      | true => simp [F_deal_word, runF, b_deal_word, Pt.run, Pts.run, F_offer, ho, e1, e2, F_found, hf, F_otherw, hw]; rfl
      | false =>
        cases hfi : fits o.one h with
        | false => simp [F_deal_word, runF, b_deal_word, Pt.run, Pts.run, F_offer, ho, e1, e2, F_found, hf, F_otherw, hw, F_fit, hfi]; rfl
        | true =>
          by_cases h1 : d.other = ""
          · rw [h1] at hw
            simp [F_deal_word, runF, b_deal_word, Pt.run, Pts.run, F_offer, ho, e1, e2, F_found, hf, F_otherw, hw, F_fit, hfi, h1]; rfl
          · unfold otherWrong at hw
            cases hoo : o.other with
            | none => simp [hoo, h1] at hw
            | some x =>
              cases hk : found f d.other with
              | none => simp [hoo, hk, h1] at hw
              | some k =>
                have e3 : optP pSide (some x) = pSide x := rfl
                have e4 : optP pHd (some k) = pHd k := rfl
                have hw' : otherWrong o f d.one d.other = false := by simp [otherWrong, hoo, hk]; simpa [hoo, hk] using hw
                cases hfx : fits x k <;> simp [F_deal_word, runF, b_deal_word, Pt.run, Pts.run, F_offer, ho, e1, e2, e3, e4, F_found, hf, F_otherw, hw', F_fit, hfi, h1, hoo, hk, hfx] <;> rfl
/-- a deal that is let -/
def doneDeal (m : Market) (f : Fair) (d : Deal) : Fair := match offerOf m d.name, found f d.one with
  | some o, some h => if d.other = "" then withH f d.one (behind o.one h) else match o.other, found f d.other with
    | some x, some k => withH (withH f d.one (behind o.one h)) d.other (behind x k)
    | _, _ => f
  | _, _ => f
theorem withH_len (f : Fair) (t : Str) (h : Hd) : (withH f t h).length = f.length := by simp [withH]
theorem F_done (m : Market) (f : Fair) (d : Deal) (s : S) (hz : f.length ≤ 1000) (hw : dealWord m f d = none) : F_done_deal [.p (pMarket m), .p (pFair f), .p (pDeal d)] s = .ok (.p (pFair (doneDeal m f d))) s := by
  unfold dealWord at hw
  unfold doneDeal
  cases ho : offerOf m d.name with
  | none => simp [ho] at hw
  | some o =>
    cases hf : found f d.one with
    | none => simp [ho, hf] at hw
    | some h =>
      have e1 : optP pOffer (some o) = pOffer o := rfl
      have e2 : optP pHd (some h) = pHd h := rfl
      simp only [ho, hf] at hw
      by_cases h1 : d.other = ""
      · simp [F_done_deal, runF, b_done_deal, Pt.run, Pts.run, F_offer, ho, e1, e2, F_found, hf, F_behind_, F_with, hz, h1]
      · by_cases hw1 : otherWrong o f d.one d.other = true
        · simp [hw1] at hw
        · rw [if_neg hw1] at hw
          unfold otherWrong at hw1
          cases hoo : o.other with
          | none => simp [hoo, h1] at hw1
          | some x =>
            cases hk : found f d.other with
            | none => simp [hoo, hk, h1] at hw1
            | some k =>
              have e3 : optP pSide (some x) = pSide x := rfl
              have e4 : optP pHd (some k) = pHd k := rfl
              have hz2 : (withH f d.one (behind o.one h)).length ≤ 1000 := by rw [withH_len]; exact hz
              simp [F_done_deal, runF, b_done_deal, Pt.run, Pts.run, F_offer, ho, e1, e2, e3, e4, F_found, hf, F_behind_, F_with, hz, hz2, h1, hoo, hk]
theorem doneDeal_len (m : Market) (f : Fair) (d : Deal) : (doneDeal m f d).length = f.length := by
  unfold doneDeal
  split
  · split
    · exact withH_len _ _ _
    · split
      · rw [withH_len, withH_len]
      · rfl
  · rfl
end K77

set_option Elab.async false
set_option linter.all false
set_option maxRecDepth 100000
set_option maxHeartbeats 1000000
namespace K77
open PySem Mo
/-- a row of deals: the last fair, or the place and the word of the first deal that is not let -/
def rowRun (m : Market) : Fair → List Deal → Nat → Sum Fair (Nat × Str)
  | f, [], _ => .inl f
  | f, d :: r, i => match dealWord m f d with
    | some w => .inr (i, w)
    | none => rowRun m (doneDeal m f d) r (i + 1)
theorem rowRun_len {m : Market} : ∀ {r : List Deal} {f f' : Fair} {i : Nat}, rowRun m f r i = .inl f' → f'.length = f.length
  | [], _, _, _, h => by cases h; rfl
  | d :: r, f, f', i, h => by
    unfold rowRun at h
    split at h
    · cases h
    · rw [rowRun_len h, doneDeal_len]
def fD (f : Fair) : D := .p (pFair f)
abbrev bad (i : Nat) (w : Str) : Xc := ⟨"BadRow", [("place", .p (.int (i : Nat))), ("word", .p (.str w))]⟩
theorem at_last {s : S} {c : C} : (s ++ [c])[s.length]? = some c := by simp
theorem set_last {s : S} {c c' : C} : (s ++ [c]).set s.length c' = s ++ [c'] := by simp
theorem dIx_lastL {s : S} {l : List D} {d : D} {n : Nat} (h : s[n]? = some (.lst (l ++ [d]))) : dIx (.loc n) (.p (.int (-1))) s = some (d, s) := by
  have e : L2.atI (l ++ [d]) (-1) = some d := atI_last
  simp [dIx, ixT, ixL, h, e]
theorem mkT_pair (a : Int) (p : P) : mkT [.p (.int a), .p p] = .p (.tup [.int a, p]) := rfl
theorem app_last {s : S} {l : List D} {d : D} (h : l.length < 1000000) : appL (.loc s.length) [d] (s ++ [.lst l]) = some (.p .non, s ++ [.lst (l ++ [d])]) := by
  have : l.length < sizeLine := by rw [sizeLine_eq]; omega
  simp [appL, this]
theorem walk_loop (m : Market) (M F R : Option D) (hM : M = some (.p (pMarket m))) (s : S) : ∀ (row : List Deal) (i : Nat) (acc : List P) (cur : Fair) (x y z : Option D), acc.length + row.length ≤ 1000 → cur.length ≤ 1000 →
    match rowRun m cur row i with
    | .inl l => ∃ (x' y' z' : Option D) (acc' : List P), forL (fun _ => true) (.tu (.cons (.nm 4) (.cons (.nm 5) .nil))) bl_row_walk_0 (enF i (row.map fun d => D.p (pDeal d))) [M, F, R, some (.loc s.length), x, y, z] (s ++ [.lst (acc.map D.p ++ [.p (pFair cur)])]) = .nx [M, F, R, some (.loc s.length), x', y', z'] (s ++ [.lst (acc'.map D.p ++ [.p (pFair l)])])
    | .inr (j, w) => ∃ ρ' c, forL (fun _ => true) (.tu (.cons (.nm 4) (.cons (.nm 5) .nil))) bl_row_walk_0 (enF i (row.map fun d => D.p (pDeal d))) [M, F, R, some (.loc s.length), x, y, z] (s ++ [.lst (acc.map D.p ++ [.p (pFair cur)])]) = .ex (bad j w) ρ' (s ++ [c])
  | [], i, acc, cur, x, y, z, _, _ => ⟨x, y, z, acc, by simp [forL, enF]⟩
  | d :: row, i, acc, cur, x, y, z, h1, h2 => by
    subst hM
    have hd := dIx_lastL (s := s ++ [.lst (acc.map D.p ++ [.p (pFair cur)])]) (l := acc.map D.p) (d := .p (pFair cur)) (n := s.length) at_last
    have hw := F_dword m cur d (s ++ [.lst (acc.map D.p ++ [.p (pFair cur)])])
    unfold rowRun
    cases e : dealWord m cur d with
    | some w =>
      refine ⟨[some (.p (pMarket m)), F, R, some (.loc s.length), some (.p (.int (i : Nat))), some (.p (pDeal d)), some (.p (.str w))], .lst (acc.map D.p ++ [.p (pFair cur)]), ?_⟩
      rw [e] at hw
      have e3 : optP P.str (some w) = .str w := rfl
      rw [e3] at hw
      simp only [List.map_cons, enF, mkT_pair, forL, if_true]
      simp [Pt.run, Pts.run, bl_row_walk_0, hd, hw, bad, (by decide : ¬ (("place" : Str) = "word"))]
    | none =>
      have hdn := F_done m cur d (s ++ [.lst (acc.map D.p ++ [.p (pFair cur)])]) h2 e
      rw [e] at hw
      have e3 : optP P.str none = .non := rfl
      rw [e3] at hw
      have ha := app_last (s := s) (l := acc.map D.p ++ [.p (pFair cur)]) (d := .p (pFair (doneDeal m cur d))) (by simp at h1 ⊢; omega)
      have ih := walk_loop m (some (.p (pMarket m))) F R rfl s row (i + 1) (acc ++ [pFair cur]) (doneDeal m cur d) (some (.p (.int (i : Nat)))) (some (.p (pDeal d))) (some (.p .non)) (by simp at h1 ⊢; omega) (by rw [doneDeal_len]; exact h2)
      have e1 : forL (fun _ => true) (.tu (.cons (.nm 4) (.cons (.nm 5) .nil))) bl_row_walk_0 (enF i ((d :: row).map fun d => D.p (pDeal d))) [some (.p (pMarket m)), F, R, some (.loc s.length), x, y, z] (s ++ [.lst (acc.map D.p ++ [.p (pFair cur)])]) =
          forL (fun _ => true) (.tu (.cons (.nm 4) (.cons (.nm 5) .nil))) bl_row_walk_0 (enF (i + 1) (row.map fun d => D.p (pDeal d))) [some (.p (pMarket m)), F, R, some (.loc s.length), some (.p (.int (i : Nat))), some (.p (pDeal d)), some (.p .non)] (s ++ [.lst (acc.map D.p ++ [.p (pFair cur)] ++ [.p (pFair (doneDeal m cur d))])]) := by
        simp only [List.map_cons, enF, mkT_pair, forL, if_true]
        have h4 : isL (s ++ [.lst (acc.map D.p ++ [.p (pFair cur)])]) (.loc s.length) = true := by simp
        simp only [Pt.run, Pts.run, viT_tup, List.map_cons, List.map_nil, Option.bind, bl_row_walk_0]
        simp [hd, hw, hdn, ha]
      rw [e1]
      rw [List.map_append] at ih
      exact ih
theorem F_walk (m : Market) (f : Fair) (row : List Deal) (s : S) (h1 : row.length ≤ 900) (h2 : f.length ≤ 1000) : match rowRun m f row 0 with
    | .inl l => ∃ acc : List P, F_row_walk [.p (pMarket m), .p (pFair f), .p (pRow row)] s = .ok (.lst (acc.map D.p ++ [.p (pFair l)])) s
    | .inr (j, w) => ∃ s', F_row_walk [.p (pMarket m), .p (pFair f), .p (pRow row)] s = .ex (bad j w) s' ∧ s <+: s' := by
  have key := walk_loop m (some (.p (pMarket m))) (some (.p (pFair f))) (some (.p (pRow row))) rfl s row 0 [] f none none none (by simp; omega) h2
  have hv : viT (.p (pRow row)) = some (row.map fun d => .p (pDeal d)) := by simp [pRow]
  cases e : rowRun m f row 0 with
  | inr q =>
    obtain ⟨j, w⟩ := q
    rw [e] at key
    obtain ⟨ρ', c, key⟩ := key
    refine ⟨s ++ [c], ?_, List.prefix_append _ _⟩
    simp only [List.map_nil, List.nil_append] at key
    simp [F_row_walk, runF, b_row_walk, hv, key]
  | inl l =>
    rw [e] at key
    obtain ⟨x', y', z', acc', key⟩ := key
    refine ⟨acc', ?_⟩
    simp only [List.map_nil, List.nil_append] at key
    have hf := fin_new (s := s) (ds := acc'.map D.p ++ [.p (pFair l)]) (clDs_all fun d hd => by
      rcases List.mem_append.mp hd with h | h
      · obtain ⟨p, _, rfl⟩ := List.mem_map.mp h
        rfl
      · rw [List.mem_singleton.mp h]; rfl)
    simp [F_row_walk, runF, b_row_walk, hv, key, hf]
theorem dIx_lastV {s : S} {l : List D} {d : D} : dIx (.lst (l ++ [d])) (.p (.int (-1))) s = some (d, s) := by
  have e : L2.atI (l ++ [d]) (-1) = some d := atI_last
  simp [dIx, ixT, ixL, e]
theorem F_run (m : Market) (f : Fair) (row : List Deal) (s : S) (h1 : row.length ≤ 900) (h2 : f.length ≤ 1000) : match rowRun m f row 0 with
    | .inl l => F_run_row [.p (pMarket m), .p (pFair f), .p (pRow row)] s = .ok (.p (pFair l)) s
    | .inr (j, w) => ∃ s', F_run_row [.p (pMarket m), .p (pFair f), .p (pRow row)] s = .ex (bad j w) s' ∧ s <+: s' := by
  have key := F_walk m f row s h1 h2
  cases e : rowRun m f row 0 with
  | inr q =>
    obtain ⟨j, w⟩ := q
    rw [e] at key
    obtain ⟨s', key, hp⟩ := key
    refine ⟨s', ?_, hp⟩
    simp [F_run_row, runF, b_run_row, key]
  | inl l =>
    rw [e] at key
    obtain ⟨acc, key⟩ := key
    simp [F_run_row, runF, b_run_row, key, dIx_lastV]
def faultP : Sum Fair (Nat × Str) → P
  | .inl _ => .non
  | .inr (j, w) => .tup [.int (j : Nat), .str w]
theorem chk_pre (k : Nat) {s t : S} (h : s <+: t) : chk k s t = true := by
  obtain ⟨u, rfl⟩ := h
  exact chk_app k s u
theorem take_pre {s t : S} (h : s <+: t) : t.take s.length = s := by
  obtain ⟨u, rfl⟩ := h
  simp
theorem F_fault (m : Market) (f : Fair) (row : List Deal) (s : S) (h1 : row.length ≤ 900) (h2 : f.length ≤ 1000) : F_row_fault [.p (pMarket m), .p (pFair f), .p (pRow row)] s = .ok (.p (faultP (rowRun m f row 0))) s := by
  have key := F_run m f row s h1 h2
  cases e : rowRun m f row 0 with
  | inr q =>
    obtain ⟨j, w⟩ := q
    rw [e] at key
    obtain ⟨s', key, hp⟩ := key
    have hf := fin_pk (p := .tup [.int (j : Nat), .str w]) (chk_pre s.length hp)
    rw [take_pre hp] at hf
    have hl : List.lookup ("place" : Str) [("place", D.p (.int (j : Nat))), ("word", D.p (.str w))] = some (.p (.int (j : Nat))) := rfl
    have hl2 : List.lookup ("word" : Str) [(("place" : Str), D.p (.int (j : Nat))), ("word", D.p (.str w))] = some (.p (.str w)) := rfl
    simp [F_row_fault, runF, b_row_fault, key, bad, xvD, xiDs, xiD, hl, hl2, hf, faultP]
  | inl l =>
    rw [e] at key
    simp [F_row_fault, runF, b_row_fault, key, faultP]
end K77

set_option Elab.async false
set_option linter.all false
set_option maxRecDepth 100000
set_option maxHeartbeats 1000000
namespace K77
open PySem Mo
def okH (h : Hd) : Prop := PyData.strOk h.1 = true
def okF (f : Fair) : Prop := ∀ e ∈ f, okH e.2
def okS (x : Side) : Prop := PyData.strOk x.after = true
def okM (m : Market) : Prop := ∀ o ∈ m.offers, okS o.one ∧ ∀ x, o.other = some x → okS x
theorem shp_hd {h : Hd} (o : okH h) : shp (pHd h) = true := by
  have o' : PyData.strOk h.1 = true := o
  simp [shp, pHd, toPD, toPDs, SeqAt.shaped, PyData.canLay0, PyData.canLayAll0, PyData.depth, PyData.depthAll, o']
theorem lay_hds : ∀ {l : List Hd}, (∀ h ∈ l, okH h) → PyData.canLayAll0 (toPDs (l.map pHd)) = true ∧ PyData.depthAll (toPDs (l.map pHd)) ≤ 1
  | [], _ => by simp [toPDs, PyData.canLayAll0, PyData.depthAll]
  | h :: l, o => by
    obtain ⟨h1, h2⟩ := lay_hds (l := l) fun x hx => o x (List.mem_cons_of_mem _ hx)
    have o' : PyData.strOk h.1 = true := o h (List.mem_cons_self ..)
    have e : PyData.depth (toPD (pHd h)) = 1 := by simp [pHd, toPD, toPDs, PyData.depth, PyData.depthAll]
    refine ⟨?_, ?_⟩
    · simp [toPDs, PyData.canLayAll0, h1, pHd, toPD, PyData.canLay0, o']
    · simp only [List.map_cons, toPDs, PyData.depthAll, e]
      omega
theorem shaped_hds {l : List Hd} (o : ∀ h ∈ l, okH h) : SeqAt.shaped (.list (toPDs (l.map pHd))) = true := by
  obtain ⟨h1, h2⟩ := lay_hds o
  have h3 : PyData.depth (.list (toPDs (l.map pHd))) ≤ 64 := by simp only [PyData.depth]; omega
  simp [SeqAt.shaped, PyData.canLay0, h1, h3]
theorem eqP_hd (a b : Hd) : eqP (pHd a) (pHd b) = decide (a = b) := by
  obtain ⟨a1, a2⟩ := a
  obtain ⟨b1, b2⟩ := b
  have : eqP (pHd (a1, a2)) (pHd (b1, b2)) = ((a1 == b1) && ((a2 == b2) && true)) := rfl
  rw [this]
  by_cases h1 : a1 = b1 <;> by_cases h2 : a2 = b2 <;> simp [h1, h2]
theorem inD_hd {l : List Hd} {h : Hd} {s : S} (o : ∀ h ∈ l, okH h) (oh : okH h) : inD false (.p (pHd h)) (.lst ((l.map pHd).map D.p)) s = some (.p (.bl (l.any fun z => decide (z = h))), s) := by
  have e1 : (l.map pHd).any (fun z => eqP z (pHd h)) = l.any fun z => decide (z = h) := by
    rw [List.any_map]
    congr 1
    funext z
    exact eqP_hd z h
  simp only [inD, viL_lst, Option.bind, allP_map, shp_hd oh, shaped_hds o, e1]
  simp
theorem okF_with {f : Fair} {t : Str} {h : Hd} (o : okF f) (oh : okH h) : okF (withH f t h) := fun e he => by
  obtain ⟨x, hx, rfl⟩ := List.mem_map.mp he
  by_cases q : x.1 = t
  · simp only [q, if_true]; exact oh
  · simp only [q, if_false]; exact o x hx
theorem offerOf_mem {m : Market} {n : Str} {o : Offer} (h : offerOf m n = some o) : o ∈ m.offers := by
  unfold offerOf at h
  have key : ∀ {l : List Offer} {b : Unit}, runSt (fun (_ : Unit) (e : Offer) => if e.name = n then Sum.inr e else Sum.inl ()) b l = .inr o → o ∈ l := by
    intro l
    induction l with
    | nil => intro b h; cases h
    | cons x l ih =>
      intro b h
      unfold runSt at h
      by_cases e : x.name = n
      · simp only [e, if_true] at h
        cases h
        exact List.mem_cons_self ..
      · simp only [e, if_false] at h
        exact List.mem_cons_of_mem _ (ih h)
  cases e : runSt (fun (_ : Unit) (e : Offer) => if e.name = n then Sum.inr e else Sum.inl ()) () m.offers with
  | inl _ => rw [e] at h; cases h
  | inr o' =>
    rw [e] at h
    cases h
    exact key e
theorem okF_done {m : Market} {f : Fair} {d : Deal} (om : okM m) (o : okF f) : okF (doneDeal m f d) := by
  unfold doneDeal
  split
  · rename_i o1 h1 ho hf
    obtain ⟨s1, s2⟩ := om o1 (offerOf_mem ho)
    split
    · exact okF_with o s1
    · split
      · rename_i x k hx hk
        exact okF_with (okF_with o s1) (s2 x hx)
      · exact o
  · exact o
theorem okF_run {m : Market} (om : okM m) : ∀ {r : List Deal} {f f' : Fair} {i : Nat}, okF f → rowRun m f r i = .inl f' → okF f'
  | [], _, _, _, o, h => by cases h; exact o
  | d :: r, f, f', i, o, h => by
    unfold rowRun at h
    split at h
    · cases h
    · exact okF_run om (okF_done om o) h
def comesB (f : Fair) (h : Hd) : Bool := f.any fun e => decide (e.2 = h)
theorem F_comes (m : Market) (f l : Fair) (row : List Deal) (h : Hd) (s : S) (h1 : row.length ≤ 900) (h2 : f.length ≤ 1000) (om : okM m) (o : okF f) (oh : okH h) (e : rowRun m f row 0 = .inl l) : F_comes_behind [.p (pMarket m), .p (pFair f), .p (pRow row), .p (pHd h)] s = .ok (.p (.bl (comesB l h))) s := by
  have key := F_run m f row s h1 h2
  rw [e] at key
  have ol := okF_run om o e
  have kl := eLc_pure (g := fun e => D.p (pEn e)) (u := fun _ => true) (y := fun e : Str × Hd => D.p (pHd e.2)) (Sg := sAny (eF 3 F_run_row (aCons (eVar 0) (aCons (eVar 1) (aCons (eVar 2) aNil))))) (own := [4, 5, 6]) (T := (.tu (.cons (.nm 4) (.cons (.nm 5) (.cons (.nm 6) .nil))))) (U := tTrue) (A := ca_comes_behind_0)
    (ρ := [some (.p (pMarket m)), some (.p (pFair f)), some (.p (pRow row)), some (.p (pHd h)), none, none, none]) (s := s) (ok := fun _ => true) (l := l) (by simp [key]) (fun _ => rfl)
    (fun e _ => ⟨[some (.p (pMarket m)), some (.p (pFair f)), some (.p (pRow row)), some (.p (pHd h)), some (.p (.str e.1)), some (.p (.str e.2.1)), some (.p (.int e.2.2))], rfl, fun _ => rfl, fun _ acc => by
      simp [ca_comes_behind_0, pHd]⟩) (by rw [rowRun_len e]; omega) (fun _ _ => rfl)
  have e2 : (List.map (fun e : Str × Hd => D.p (pHd e.2)) (List.filter (fun _ => true) l)) = ((l.map (·.2)).map pHd).map D.p := by
    rw [List.filter_eq_self.mpr (fun _ _ => rfl)]
    simp
  rw [e2] at kl
  have hi := inD_hd (l := l.map (·.2)) (h := h) (s := s) (fun x hx => by
    obtain ⟨y, hy, rfl⟩ := List.mem_map.mp hx
    exact ol y hy) oh
  have e3 : ((l.map (·.2)).any fun z => decide (z = h)) = comesB l h := by
    rw [List.any_map]; rfl
  rw [e3] at hi
  simp [F_comes_behind, runF, b_comes_behind, kl, hi, -List.map_map]
/-- whether a row is let and brings the holding -/
def doesB (m : Market) (f : Fair) (row : List Deal) (h : Hd) : Bool := match rowRun m f row 0 with
  | .inl l => comesB l h
  | .inr _ => false
theorem F_does_ (m : Market) (f : Fair) (row : List Deal) (h : Hd) (s : S) (h1 : row.length ≤ 900) (h2 : f.length ≤ 1000) (om : okM m) (o : okF f) (oh : okH h) : F_does [.p (pMarket m), .p (pFair f), .p (pRow row), .p (pHd h)] s = .ok (.p (.bl (doesB m f row h))) s := by
  have key := F_fault m f row s h1 h2
  unfold doesB
  cases e : rowRun m f row 0 with
  | inl l =>
    rw [e] at key
    have kc := F_comes m f l row h s h1 h2 om o oh e
    simp [F_does, runF, b_does, key, kc, faultP]
  | inr q =>
    obtain ⟨j, w⟩ := q
    rw [e] at key
    simp [F_does, runF, b_does, key, faultP]
/-- the row without the deal at a place -/
def wo (row : List Deal) (i : Nat) : List Deal := row.take i ++ row.drop (i + 1)
theorem wo_len (row : List Deal) (i : Nat) : (wo row i).length ≤ row.length := by
  simp [wo]; omega
theorem pRow_cut (row : List Deal) (i : Nat) (s : S) (hz : row.length ≤ 900) : dAdd (.p (.tup ((row.map pDeal).take i))) (.p (.tup ((row.map pDeal).drop (i + 1)))) s = some (.p (pRow (wo row i)), s) := by
  rw [dAdd_tup _ _ _ (by simp; omega)]
  simp [pRow, wo]
theorem F_cutrow (row : List Deal) (i : Nat) (A B : Ex) (ρ : Mo.Env) (s : S) (hz : row.length ≤ 900) (hA : ∀ s, A ρ s = .ok (.p (pRow row)) s) (hB : ∀ s, B ρ s = .ok (.p (.int (i : Nat))) s) : eOp dAdd (eSl A pNo (pSo B)) (eSl A (pSo (eOp dAdd B (eC (.int 1)))) pNo) ρ s = .ok (.p (pRow (wo row i))) s := by
  have e1 := sl_to (row.map pDeal) (i := (i : Nat)) s (by omega)
  have e2 := sl_from (row.map pDeal) (i := ((i : Nat) : Int) + 1) s (by omega)
  have e3 : (((i : Nat) : Int) + 1).toNat = i + 1 := by omega
  have e4 : ((i : Nat) : Int).toNat = i := by omega
  rw [e3] at e2
  rw [e4] at e1
  have e5 := pRow_cut row i s hz
  have hp : pRow row = .tup (row.map pDeal) := rfl
  rw [hp] at hA
  simp only [eOp, eSl, hA, hB, pNo, pSo, Out.bind_ok, e1, e2, ofO, eC, dAdd_int, e5]
theorem F_needed (m : Market) (f : Fair) (row : List Deal) (i : Nat) (h : Hd) (s : S) (h1 : row.length ≤ 900) (h2 : f.length ≤ 1000) (om : okM m) (o : okF f) (oh : okH h) : F_is_needed [.p (pMarket m), .p (pFair f), .p (pRow row), .p (.int (i : Nat)), .p (pHd h)] s = .ok (.p (.bl (!doesB m f (wo row i) h))) s := by
  have kd := F_does_ m f (wo row i) h s (Nat.le_trans (wo_len _ _) h1) h2 om o oh
  have kc := F_cutrow row i (eVar 2) (eVar 3) [some (.p (pMarket m)), some (.p (pFair f)), some (.p (pRow row)), some (.p (.int (i : Nat))), some (.p (pHd h))] s h1 (fun _ => rfl) (fun _ => rfl)
  simp only [F_is_needed, runF, b_is_needed, List.length_cons, List.length_nil, if_true, Nat.reduceAdd, Nat.reduceSub, List.map_cons, List.map_nil, List.replicate, List.append_nil, bRet, eNot, eF, aCons, aNil, eVar, List.getElem?_cons_zero, List.getElem?_cons_succ, Out.bind_ok, kc, kd, Out.fl_ok, fin_p]
end K77

set_option Elab.async false
set_option linter.all false
set_option maxRecDepth 100000
set_option maxHeartbeats 1000000
namespace K77
open PySem Mo
theorem runSt_fold {α β γ : Type} (k : β → α → β) : ∀ (l : List α) (b : β), runSt (γ := γ) (fun b x => .inl (k b x)) b l = .inl (l.foldl k b)
  | [], b => rfl
  | x :: l, b => by unfold runSt; exact runSt_fold k l (k b x)
def stepN (m : Market) (f : Fair) (h : Hd) (kept : List Deal) (i : Nat) : List Deal := if doesB m f (wo kept i) h = true then wo kept i else kept
theorem stepN_len (m : Market) (f : Fair) (h : Hd) (kept : List Deal) (i : Nat) : (stepN m f h kept i).length ≤ kept.length := by
  unfold stepN
  split
  · exact wo_len _ _
  · exact Nat.le_refl _
def neededR (m : Market) (f : Fair) (row : List Deal) (h : Hd) : List Deal := (List.range row.length).foldl (fun b i => stepN m f h b (row.length - 1 - i)) row
def gN (n i : Nat) : D := .p (.int ((n : Int) - 1 + (i : Int) * (-1)))
theorem F_neededrow (m : Market) (f : Fair) (row : List Deal) (h : Hd) (s : S) (h1 : row.length ≤ 900) (h2 : f.length ≤ 1000) (om : okM m) (o : okF f) (oh : okH h) : F_needed_row [.p (pMarket m), .p (pFair f), .p (pRow row), .p (pHd h)] s = .ok (.p (pRow (neededR m f row h))) s := by
  have key := forL_run (γ := Unit) (g := gN row.length) (ok := fun _ => true) (T := (.nm 5)) (B := bl_needed_row_0) (l := List.range row.length)
    (stp := fun (b : List Deal) (i : Nat) => .inl (stepN m f h b (row.length - 1 - i))) (I := fun b ρ s' => b.length ≤ row.length ∧ s' = s ∧ ∃ a, ρ = [some (.p (pMarket m)), some (.p (pFair f)), some (.p (pRow row)), some (.p (pHd h)), some (.p (pRow b)), a]) (R := fun _ _ => True) (fun _ _ _ _ => rfl)
    (fun b i ρ s' hi hI => by
      obtain ⟨hb, rfl, a, rfl⟩ := hI
      have hi' := List.mem_range.mp hi
      have ei : (((row.length : Nat) : Int) - 1 + (i : Int) * (-1)) = ((row.length - 1 - i : Nat) : Int) := by omega
      have kn := F_needed m f b (row.length - 1 - i) h s' (by omega) h2 om o oh
      have kc := F_cutrow b (row.length - 1 - i) (eVar 4) (eVar 5) [some (.p (pMarket m)), some (.p (pFair f)), some (.p (pRow row)), some (.p (pHd h)), some (.p (pRow b)), some (.p (.int ((row.length - 1 - i : Nat) : Int)))] s' (by omega) (fun _ => rfl) (fun _ => rfl)
      refine ⟨[some (.p (pMarket m)), some (.p (pFair f)), some (.p (pRow row)), some (.p (pHd h)), some (.p (pRow b)), some (.p (.int ((row.length - 1 - i : Nat) : Int)))], by unfold gN; rw [ei]; rfl, ?_⟩
      have hlen := stepN_len m f h b (row.length - 1 - i)
      cases hd : doesB m f (wo b (row.length - 1 - i)) h with
      | true =>
        refine ⟨[some (.p (pMarket m)), some (.p (pFair f)), some (.p (pRow row)), some (.p (pHd h)), some (.p (pRow (wo b (row.length - 1 - i)))), some (.p (.int ((row.length - 1 - i : Nat) : Int)))], s', .inl ?_, by omega, rfl, some (.p (.int ((row.length - 1 - i : Nat) : Int))), ?_⟩
        · rw [hd] at kn
          simp only [bl_needed_row_0, bIf, tNot_, tV, eF, aCons, aNil, eVar, List.getElem?_cons_zero, List.getElem?_cons_succ, Out.bind_ok, List.length_cons, List.length_nil, if_true, Nat.reduceAdd, kn, Out.fl_ok, Bool.not_true, Bool.not_false, bSet, kc]
          rfl
        · simp [stepN, hd]
      | false =>
        refine ⟨[some (.p (pMarket m)), some (.p (pFair f)), some (.p (pRow row)), some (.p (pHd h)), some (.p (pRow b)), some (.p (.int ((row.length - 1 - i : Nat) : Int)))], s', .inl ?_, by omega, rfl, some (.p (.int ((row.length - 1 - i : Nat) : Int))), ?_⟩
        · rw [hd] at kn
          simp only [bl_needed_row_0, bIf, tNot_, tV, eF, aCons, aNil, eVar, List.getElem?_cons_zero, List.getElem?_cons_succ, Out.bind_ok, List.length_cons, List.length_nil, if_true, Nat.reduceAdd, kn, Out.fl_ok, Bool.not_true, Bool.not_false, bNil, Bool.false_eq_true, if_false]
        · simp [stepN, hd])
    (b := row) (ρ := [some (.p (pMarket m)), some (.p (pFair f)), some (.p (pRow row)), some (.p (pHd h)), some (.p (pRow row)), none]) (s := s) ⟨Nat.le_refl _, rfl, _, rfl⟩
  rw [runSt_fold] at key
  obtain ⟨ρ', s', k1, _, rfl, a, rfl⟩ := key
  have hb : bTup [D.p (pRow row)] s' = some (.p (pRow row), s') := by simp [pRow]
  have hl : bLen [D.p (pRow row)] s' = some (.p (.int row.length), s') := by simp [pRow]
  have hr : (((row.length : Nat) : Int) - 1 - -1).toNat = row.length := by omega
  have hrg : rgD (((row.length : Nat) : Int) - 1) (-1) (((row.length : Nat) : Int) - 1 - -1).toNat = (List.range row.length).map (gN row.length) := by
    rw [hr]; rfl
  have hc : -2 ^ 62 ≤ ((row.length : Nat) : Int) - 1 ∧ ((row.length : Nat) : Int) - 1 < 2 ^ 62 ∧ -(2 ^ 62 : Int) ≤ -1 ∧ (-1 : Int) < 2 ^ 62 := by omega
  have hfor : sRng3 (aCons (eOp dSub (eCa bLen (aCons (eVar 2) aNil)) (eC (.int 1))) (aCons (eNeg (eC (.int 1))) (aCons (eNeg (eC (.int 1))) aNil))) [some (.p (pMarket m)), some (.p (pFair f)), some (.p (pRow row)), some (.p (pHd h)), some (.p (pRow row)), none] s' = .ok ⟨(List.range row.length).map (gN row.length), fun _ => true⟩ s' := by
    simp [hl]
    rw [if_pos (by omega)]
    rfl
  simp [F_needed_row, runF, b_needed_row, hb, -sRng3, hfor, k1, neededR]
end K77

set_option Elab.async false
set_option linter.all false
set_option maxRecDepth 100000
set_option maxHeartbeats 1000000
namespace K77
open PySem Mo
abbrev Key := L2.Key
def dk (da : Fair) : List Key := da.map fun e => Sum.inr e.1
def dv (da : Fair) : List D := da.map fun e => .p (pHd e.2)
def isD (s : S) (fr : D) (da : Fair) : Prop := viD s fr = some (dk da, dv da)
theorem isD_app {s t : S} {fr : D} {da : Fair} (h : isD s fr da) : isD (s ++ t) fr da := by
  unfold isD at h ⊢
  cases fr with
  | loc n =>
    simp only [viD_loc] at h ⊢
    cases e : s[n]? with
    | none => rw [e] at h; cases h
    | some c =>
      have hn := (List.getElem?_eq_some_iff.mp e).1
      rw [List.getElem?_append_left hn, e]
      rw [e] at h
      exact h
  | dK ks ds => exact h
  | _ => cases h
theorem found_cons (n : Str) (h : Hd) (f : Fair) (t : Str) : found ((n, h) :: f) t = if n = t then some h else found f t := by
  unfold found
  rw [runSt]
  by_cases e : n = t <;> simp [e]
theorem found_nil (t : Str) : found [] t = none := rfl
theorem lkD_found (t : Str) : ∀ da : Fair, lkD (dk da) (dv da) (Sum.inr t : Key) = (found da t).map fun h => D.p (pHd h)
  | [] => rfl
  | (n, h) :: da => by
    rw [found_cons]
    have ih := lkD_found t da
    unfold dk dv at ih ⊢
    simp only [List.map_cons, lkD]
    by_cases e : n = t
    · simp [e]
    · have : ¬ ((Sum.inr n : Key) = Sum.inr t) := fun z => e (Sum.inr.inj z)
      simp only [if_neg this, if_neg e]
      exact ih
theorem dIx_str (x : D) (t : Str) (s : S) : dIx x (.p (.str t)) s = none := by
  have h1 : ixT x (.p (.str t)) s = none := by unfold ixT; cases viT x <;> rfl
  have h2 : ixL x (.p (.str t)) s = none := by unfold ixL; cases viL s x <;> rfl
  have h3 : ixS x (.p (.str t)) s = none := by
    unfold ixS
    split <;> rename_i h <;> first | rfl | (cases h)
  simp [dIx, h1, h2, h3]
theorem viL_isD {s : S} {fr : D} {da : Fair} (h : isD s fr da) : viL s fr = none := by
  unfold isD at h
  cases fr with
  | loc n =>
    simp only [viD_loc, viL_loc] at h ⊢
    cases e : s[n]? with
    | none => rfl
    | some c => rw [e] at h; cases c <;> first | rfl | cases h
  | dK ks ds => rfl
  | _ => cases h
theorem sub_dict {A B : Ex} {ρ : Mo.Env} {s : S} {fr : D} {da : Fair} {t : Str} {h : Hd} (hA : A ρ s = .ok fr s) (hB : B ρ s = .ok (.p (.str t)) s) (hd : isD s fr da) (hf : found da t = some h) : eSub A B ρ s = .ok (.p (pHd h)) s := by
  have hd' : viD s fr = some (dk da, dv da) := hd
  have hl := lkD_found t da
  rw [hf] at hl
  have hl' : lkD (dk da) (dv da) (Sum.inr t : Key) = some (.p (pHd h)) := hl
  simp only [eSub, orE, eOp, hA, hB, Out.bind_ok, dIx_str, ofO, eDGet, hd', keyD, hl']
theorem nin_dict {A B : Ex} {ρ : Mo.Env} {s : S} {fr : D} {da : Fair} {t : Str} (hA : A ρ s = .ok (.p (.str t)) s) (hB : B ρ s = .ok fr s) (hd : isD s fr da) : tIn true A B ρ s = .ok (found da t).isNone s := by
  have hd' : viD s fr = some (dk da, dv da) := hd
  have hl := lkD_found t da
  have hi : inD true (.p (.str t)) fr s = none := by simp [inD, viL_isD hd]
  simp only [tIn, orT, tV, eOp, hA, hB, Out.bind_ok, hi, ofO, Out.bind_no, eDIn, hd', keyD, hl]
  cases found da t <;> rfl
theorem fin_newD {s : S} {ks : List Key} {ds : List D} (h : clDs s.length ds = true) : fin s (.loc s.length) (s ++ [.dK ks ds]) = (.dK ks ds, s) := by
  have e : frzD s.length (s ++ [.dK ks ds]) (.loc s.length) = .dK ks ds := by simp [frzD, frz1]
  unfold fin
  rw [e]
  simp [clD, h, chk_app]
theorem clDs_dv (k : Nat) (da : Fair) : clDs k (dv da) = true := clDs_all fun d hd => by
  obtain ⟨x, _, rfl⟩ := List.mem_map.mp hd
  rfl
theorem mem_dk {da : Fair} {t : Str} (h : (found da t).isSome = true) : (Sum.inr t : Key) ∈ dk da := by
  induction da with
  | nil => cases h
  | cons x da ih =>
    obtain ⟨n, k⟩ := x
    rw [found_cons] at h
    by_cases e : n = t
    · subst e; exact List.mem_cons_self ..
    · rw [if_neg e] at h
      exact List.mem_cons_of_mem _ (ih h)
theorem put_dk (da : Fair) (t : Str) (h : Hd) (hs : (found da t).isSome = true) : putKs (dk da) (Sum.inr t : Key) = dk (withH da t h) ∧ putDs (dk da) (dv da) (Sum.inr t : Key) (.p (pHd h)) = dv (withH da t h) := by
  unfold putKs putDs
  rw [if_pos (mem_dk hs), if_pos (mem_dk hs)]
  refine ⟨?_, ?_⟩
  · unfold dk withH
    rw [List.map_map]
    apply List.map_congr_left
    intro x _
    by_cases e : x.1 = t <;> simp [e]
  · clear hs
    unfold dk dv withH
    induction da with
    | nil => rfl
    | cons x da ih =>
      simp only [List.map_cons, List.zipWith_cons_cons, ih]
      by_cases e : x.1 = t
      · simp [e]
      · have : ¬ ((Sum.inr x.1 : Key) = Sum.inr t) := fun z => e (Sum.inr.inj z)
        simp [e]
theorem put_dict {V O I : Ex} {ρ : Mo.Env} {s : S} {da : Fair} {t : Str} {h : Hd} {n : Nat} (hV : V ρ (s ++ [.dK (dk da) (dv da)]) = .ok (.p (pHd h)) (s ++ [.dK (dk da) (dv da)])) (hO : ∀ s, O ρ s = .ok (.loc n) s) (hn : n = s.length) (hI : ∀ s, I ρ s = .ok (.p (.str t)) s) (hs : (found da t).isSome = true) (hz : da.length ≤ 1000) :
    orB (bPut putL V O I) (bPut putD V O I) ρ (s ++ [.dK (dk da) (dv da)]) = .nx ρ (s ++ [.dK (dk (withH da t h)) (dv (withH da t h))]) := by
  subst hn
  obtain ⟨h1, h2⟩ := put_dk da t h hs
  have hl : (dk da).length < sizeLine := by unfold dk; rw [List.length_map, sizeLine_eq]; omega
  simp [orB, bPut, hV, hO, hI, putL, putD, keyD, hl, h1, h2]
theorem F_suits (x : Side) (h : Hd) (s : S) : F__law_suits [.p (pSide x), .p (pHd h)] s = .ok (.p (.bl (fits x h))) s := by
  unfold fits
  cases hm : x.most with
  | none =>
    by_cases h1 : h.1 = x.good <;> by_cases h2 : x.least ≤ h.2 <;> simp [F__law_suits, runF, b__law_suits, hm, h1, h2, eq_comm]
    all_goals (try (rw [if_neg (fun z => h1 z.symm)]; simp))
  | some j =>
    have e : optP P.int (some j) = .int j := rfl
    by_cases h1 : h.1 = x.good <;> by_cases h2 : x.least ≤ h.2 <;> simp [F__law_suits, runF, b__law_suits, hm, h1, h2, e]
    all_goals (try (rw [if_neg (fun z => h1 z.symm)]; simp))
end K77

set_option Elab.async false
set_option linter.all false
set_option maxRecDepth 100000
set_option maxHeartbeats 1000000
namespace K77
open PySem Mo
def nextO (o : Offer) (da : Fair) (d : Deal) : Option Fair := match found da d.one with
  | none => none
  | some h => if fits o.one h = true then (match o.other with
    | none => if d.other = "" then some (withH da d.one (behind o.one h)) else none
    | some x => if d.other = d.one then none else match found da d.other with
      | none => none
      | some k => if fits x k = true then some (withH (withH da d.other (behind x k)) d.one (behind o.one h)) else none) else none
def nextD (m : Market) (da : Fair) (d : Deal) : Option Fair := (offerOf m d.name).bind fun o => nextO o da d
theorem found_with (f : Fair) (t : Str) (h : Hd) (u : Str) : found (withH f t h) u = if u = t then (found f t).map fun _ => h else found f u := by
  induction f with
  | nil => simp [withH, found_nil]
  | cons x f ih =>
    obtain ⟨n, k⟩ := x
    have e : withH ((n, k) :: f) t h = (if n = t then (n, h) else (n, k)) :: withH f t h := by
      unfold withH
      simp
    rw [e]
    by_cases h1 : n = t
    · subst h1
      simp only [if_true]
      rw [found_cons, found_cons, found_cons, ih]
      by_cases h2 : u = n
      · subst h2; simp
      · simp [h2, Ne.symm h2]
    · rw [if_neg h1, found_cons, found_cons, found_cons, ih]
      by_cases h2 : u = t
      · subst h2; simp [h1]
      · simp [h2]
/-- what the body of the loop does at the deal's own offer -/
theorem next_body (m : Market) (o : Offer) (d : Deal) (fr : D) (da : Fair) (s : S) (hz : da.length ≤ 1000) (hd : isD s fr da) (hn : o.name = d.name) (z : Option D) :
    match nextO o da d with
    | none => ∃ t, bl__law_next_0 [some (.p (pMarket m)), some fr, some (.p (pDeal d)), some (.p (.str o.name)), some (.p (pSide o.one)), some (.p (optP pSide o.other)), z] s = .rt (.p .non) (s ++ t)
    | some e => bl__law_next_0 [some (.p (pMarket m)), some fr, some (.p (pDeal d)), some (.p (.str o.name)), some (.p (pSide o.one)), some (.p (optP pSide o.other)), z] s = .rt (.loc s.length) (s ++ [.dK (dk e) (dv e)]) := by
  have hd' : viD s fr = some (dk da, dv da) := hd
  generalize hρ : [some (D.p (pMarket m)), some fr, some (.p (pDeal d)), some (.p (.str o.name)), some (.p (pSide o.one)), some (.p (optP pSide o.other)), z] = ρ
  have v1 : ∀ s, eVar 1 ρ s = .ok fr s := fun s => by subst hρ; rfl
  have v2 : ∀ s, eVar 2 ρ s = .ok (.p (pDeal d)) s := fun s => by subst hρ; rfl
  have v3 : ∀ s, eVar 3 ρ s = .ok (.p (.str o.name)) s := fun s => by subst hρ; rfl
  have v4 : ∀ s, eVar 4 ρ s = .ok (.p (pSide o.one)) s := fun s => by subst hρ; rfl
  have d1 : ∀ s, eSub (eVar 2) (eC (.int 1)) ρ s = .ok (.p (.str d.one)) s := fun s => by simp [-eVar, v2]
  have hin := nin_dict (A := eSub (eVar 2) (eC (.int 1))) (B := eVar 1) (ρ := ρ) (s := s) (d1 s) (v1 s) hd
  have t0 : tV (eOp dEq (eVar 3) (eSub (eVar 2) (eC (.int 0)))) ρ s = .ok true s := by simp [-eVar, v2, v3, hn]
  unfold bl__law_next_0
  unfold nextO
  cases h1 : found da d.one with
  | none =>
    refine ⟨[], ?_⟩
    rw [h1] at hin
    simp only [bIf, t0, Out.fl_ok, if_true, bSeq, tOr_, hin, Out.bind_ok, Option.isNone_none, bRet, eC, Fl.then_rt, List.append_nil]
  | some h =>
    rw [h1] at hin
    have q1 := sub_dict (A := eVar 1) (B := eSub (eVar 2) (eC (.int 1))) (ρ := ρ) (s := s) (v1 s) (d1 s) hd h1
    have f1 : tV (eF 2 F__law_suits (aCons (eVar 4) (aCons (eSub (eVar 1) (eSub (eVar 2) (eC (.int 1)))) aNil))) ρ s = .ok (fits o.one h) s := by
      simp only [tV, eF, aCons, aNil, v4, q1, Out.bind_ok, List.length_cons, List.length_nil, Nat.reduceAdd, if_true, F_suits]
    simp only
    cases hf : fits o.one h with
    | false =>
      refine ⟨[], ?_⟩
      rw [hf] at f1
      simp only [bIf, t0, Out.fl_ok, if_true, bSeq, tOr_, hin, Out.bind_ok, Option.isNone_some, Bool.false_eq_true, if_false, tNot_, f1, Bool.not_false, bRet, eC, Fl.then_rt, List.append_nil]
    | true =>
      rw [hf] at f1
      simp only [if_true]
      -- the first test is passed, told is a copy
      have c1 : eCa bDict (aCons (eVar 1) aNil) ρ s = .ok (.loc s.length) (s ++ [.dK (dk da) (dv da)]) := by
        simp only [eCa, aCons, aNil, v1, Out.bind_ok, bDict, hd', Option.map_some, ofO]
      have hdA : ∀ t, isD (s ++ t) fr da := fun t => isD_app hd
      generalize hρ2 : ρ.set 6 (some (.loc s.length)) = ρ2
      have w1 : ∀ s, eVar 1 ρ2 s = .ok fr s := fun s => by subst hρ2; subst hρ; rfl
      have w2 : ∀ s, eVar 2 ρ2 s = .ok (.p (pDeal d)) s := fun s => by subst hρ2; subst hρ; rfl
      have w4 : ∀ s, eVar 4 ρ2 s = .ok (.p (pSide o.one)) s := fun s => by subst hρ2; subst hρ; rfl
      have w5 : ∀ s, eVar 5 ρ2 s = .ok (.p (optP pSide o.other)) s := fun s => by subst hρ2; subst hρ; rfl
      have w6 : ∀ s', eVar 6 ρ2 s' = .ok (.loc s.length) s' := fun s => by subst hρ2; subst hρ; rfl
      have g1 : ∀ s, eSub (eVar 2) (eC (.int 1)) ρ2 s = .ok (.p (.str d.one)) s := fun s => by simp [-eVar, w2]
      have g2 : ∀ s, eSub (eVar 2) (eC (.int 2)) ρ2 s = .ok (.p (.str d.other)) s := fun s => by simp [-eVar, w2]
      have last : ∀ db : Fair, db.length ≤ 1000 → (found db d.one).isSome = true → bSeq (orB (bPut putL (eTup (aCons (eSub (eVar 4) (eC (.int 3))) (aCons (eOp dAdd (eSub (eSub (eVar 1) (eSub (eVar 2) (eC (.int 1)))) (eC (.int 1))) (eSub (eVar 4) (eC (.int 4)))) aNil))) (eVar 6) (eSub (eVar 2) (eC (.int 1)))) (bPut putD (eTup (aCons (eSub (eVar 4) (eC (.int 3))) (aCons (eOp dAdd (eSub (eSub (eVar 1) (eSub (eVar 2) (eC (.int 1)))) (eC (.int 1))) (eSub (eVar 4) (eC (.int 4)))) aNil))) (eVar 6) (eSub (eVar 2) (eC (.int 1))))) (bRet (eVar 6)) ρ2 (s ++ [.dK (dk db) (dv db)]) = .rt (.loc s.length) (s ++ [.dK (dk (withH db d.one (behind o.one h))) (dv (withH db d.one (behind o.one h)))]) := fun db hdb hfo => by
        have r1 := sub_dict (A := eVar 1) (B := eSub (eVar 2) (eC (.int 1))) (ρ := ρ2) (s := s ++ [.dK (dk db) (dv db)]) (w1 _) (g1 _) (hdA _) h1
        have hV : eTup (aCons (eSub (eVar 4) (eC (.int 3))) (aCons (eOp dAdd (eSub (eSub (eVar 1) (eSub (eVar 2) (eC (.int 1)))) (eC (.int 1))) (eSub (eVar 4) (eC (.int 4)))) aNil)) ρ2 (s ++ [.dK (dk db) (dv db)]) = .ok (.p (pHd (behind o.one h))) (s ++ [.dK (dk db) (dv db)]) := by
          have e1 : eSub (eSub (eVar 1) (eSub (eVar 2) (eC (.int 1)))) (eC (.int 1)) ρ2 (s ++ [.dK (dk db) (dv db)]) = .ok (.p (.int h.2)) (s ++ [.dK (dk db) (dv db)]) := by
            rw [eSub, orE, eOp, r1]
            simp
          have e2 : ∀ s, eSub (eVar 4) (eC (.int 3)) ρ2 s = .ok (.p (.str o.one.after)) s := fun s => by simp [-eVar, w4]
          have e3 : ∀ s, eSub (eVar 4) (eC (.int 4)) ρ2 s = .ok (.p (.int o.one.change)) s := fun s => by simp [-eVar, w4]
          simp only [eTup, aCons, aNil, e2, e3, eOp, e1, Out.bind_ok, dAdd_int, ofO, List.length_cons, List.length_nil, Nat.reduceAdd, szl2, if_true]
          rfl
        have hp := put_dict (n := s.length) hV (w6) rfl g1 hfo hdb
        simp only [bSeq, hp, Fl.then_nx, bRet, w6, Out.fl_ok]
      have t1 : tOr_ (tIn true (eSub (eVar 2) (eC (.int 1))) (eVar 1)) (tNot_ (tV (eF 2 F__law_suits (aCons (eVar 4) (aCons (eSub (eVar 1) (eSub (eVar 2) (eC (.int 1)))) aNil))))) ρ s = .ok false s := by
        simp only [tOr_, hin, Out.bind_ok, Option.isNone_some, Bool.false_eq_true, if_false, tNot_, f1, Bool.not_true]
      have st1 : ∀ (X1 X2 X3 : Bl), bIf (tV (eOp dEq (eVar 3) (eSub (eVar 2) (eC (.int 0))))) (bSeq (bIf (tOr_ (tIn true (eSub (eVar 2) (eC (.int 1))) (eVar 1)) (tNot_ (tV (eF 2 F__law_suits (aCons (eVar 4) (aCons (eSub (eVar 1) (eSub (eVar 2) (eC (.int 1)))) aNil)))))) (bRet (eC .non)) bNil) (bSeq (bSet 6 (eCa bDict (aCons (eVar 1) aNil))) (bSeq X1 X2))) X3 ρ s = (X1 ρ2 (s ++ [.dK (dk da) (dv da)])).then_ X2 := fun X1 X2 X3 => by
        simp only [bIf, t0, Out.fl_ok, if_true, bSeq, t1, Bool.false_eq_true, if_false, bNil, Fl.then_nx, bSet, c1, hρ2]
      rw [st1]
      cases ho : o.other with
      | none =>
        have i5 : tV (eNotN (eVar 5)) ρ2 (s ++ [.dK (dk da) (dv da)]) = .ok false (s ++ [.dK (dk da) (dv da)]) := by
          rw [ho] at w5
          simp only [tV, eNotN, w5, Out.bind_ok]
          rfl
        have i6 : tV (eOp dNe (eSub (eVar 2) (eC (.int 2))) (eC (.str ""))) ρ2 (s ++ [.dK (dk da) (dv da)]) = .ok (!decide (d.other = "")) (s ++ [.dK (dk da) (dv da)]) := by
          simp only [tV, eOp, g2, Out.bind_ok, eC, dNe_str, ofO]
        by_cases h2 : d.other = ""
        · simp only [h2, if_true]
          rw [h2] at i6
          have hl := last da hz (by rw [h1]; rfl)
          simp only [bIf, i5, Out.fl_ok, Bool.false_eq_true, if_false, i6, decide_true, Bool.not_true, bNil, Fl.then_nx]
          exact hl
        · simp only [h2, if_false]
          refine ⟨[.dK (dk da) (dv da)], ?_⟩
          simp only [bIf, i5, Out.fl_ok, Bool.false_eq_true, if_false, i6, h2, decide_false, Bool.not_false, if_true, bRet, eC, Fl.then_rt]
      | some x =>
        have i5 : tV (eNotN (eVar 5)) ρ2 (s ++ [.dK (dk da) (dv da)]) = .ok true (s ++ [.dK (dk da) (dv da)]) := by
          rw [ho] at w5
          simp only [tV, eNotN, w5, Out.bind_ok]
          rfl
        have w5' : ∀ s, eVar 5 ρ2 s = .ok (.p (pSide x)) s := fun s => by rw [w5, ho]; rfl
        have i6 : tV (eOp dEq (eSub (eVar 2) (eC (.int 2))) (eSub (eVar 2) (eC (.int 1)))) ρ2 (s ++ [.dK (dk da) (dv da)]) = .ok (decide (d.other = d.one)) (s ++ [.dK (dk da) (dv da)]) := by
          simp only [tV, eOp, g1, g2, Out.bind_ok, dEq_str, ofO]
        have i7 := nin_dict (A := eSub (eVar 2) (eC (.int 2))) (B := eVar 1) (ρ := ρ2) (s := s ++ [.dK (dk da) (dv da)]) (g2 _) (w1 _) (hdA _)
        by_cases h2 : d.other = d.one
        · simp only [h2, if_true]
          rw [h2] at i6
          refine ⟨[.dK (dk da) (dv da)], ?_⟩
          simp only [bIf, i5, Out.fl_ok, if_true, bSeq, tOr_, i6, decide_true, Out.bind_ok, bRet, eC, Fl.then_rt]
        · simp only [h2, if_false]
          cases h3 : found da d.other with
          | none =>
            refine ⟨[.dK (dk da) (dv da)], ?_⟩
            rw [h3] at i7
            simp only [bIf, i5, Out.fl_ok, if_true, bSeq, tOr_, i6, h2, decide_false, Bool.false_eq_true, if_false, i7, Option.isNone_none, Out.bind_ok, bRet, eC, Fl.then_rt]
          | some k =>
            rw [h3] at i7
            have r2 := sub_dict (A := eVar 1) (B := eSub (eVar 2) (eC (.int 2))) (ρ := ρ2) (s := s ++ [.dK (dk da) (dv da)]) (w1 _) (g2 _) (hdA _) h3
            have f2 : tV (eF 2 F__law_suits (aCons (eVar 5) (aCons (eSub (eVar 1) (eSub (eVar 2) (eC (.int 2)))) aNil))) ρ2 (s ++ [.dK (dk da) (dv da)]) = .ok (fits x k) (s ++ [.dK (dk da) (dv da)]) := by
              simp only [tV, eF, aCons, aNil, w5', r2, Out.bind_ok, List.length_cons, List.length_nil, Nat.reduceAdd, if_true, F_suits]
            cases hfx : fits x k with
            | false =>
              simp only [hfx, Bool.false_eq_true, if_false]
              refine ⟨[.dK (dk da) (dv da)], ?_⟩
              rw [hfx] at f2
              simp only [bIf, i5, Out.fl_ok, if_true, bSeq, tOr_, i6, h2, decide_false, Bool.false_eq_true, if_false, i7, Option.isNone_some, tNot_, f2, Bool.not_false, Out.bind_ok, bRet, eC, Fl.then_rt]
            | true =>
              simp only [hfx, if_true]
              rw [hfx] at f2
              have hV : eTup (aCons (eSub (eVar 5) (eC (.int 3))) (aCons (eOp dAdd (eSub (eSub (eVar 1) (eSub (eVar 2) (eC (.int 2)))) (eC (.int 1))) (eSub (eVar 5) (eC (.int 4)))) aNil)) ρ2 (s ++ [.dK (dk da) (dv da)]) = .ok (.p (pHd (behind x k))) (s ++ [.dK (dk da) (dv da)]) := by
                have e1 : eSub (eSub (eVar 1) (eSub (eVar 2) (eC (.int 2)))) (eC (.int 1)) ρ2 (s ++ [.dK (dk da) (dv da)]) = .ok (.p (.int k.2)) (s ++ [.dK (dk da) (dv da)]) := by
                  rw [eSub, orE, eOp, r2]
                  simp
                have e2 : ∀ s, eSub (eVar 5) (eC (.int 3)) ρ2 s = .ok (.p (.str x.after)) s := fun s => by simp [-eVar, w5']
                have e3 : ∀ s, eSub (eVar 5) (eC (.int 4)) ρ2 s = .ok (.p (.int x.change)) s := fun s => by simp [-eVar, w5']
                simp only [eTup, aCons, aNil, e2, e3, eOp, e1, Out.bind_ok, dAdd_int, ofO, List.length_cons, List.length_nil, Nat.reduceAdd, szl2, if_true]
                rfl
              have hp := put_dict (n := s.length) hV (w6) rfl g2 (by rw [h3]; rfl) hz
              have hl := last (withH da d.other (behind x k)) (by rw [withH_len]; exact hz) (by rw [found_with]; simp [h2, Ne.symm h2, h1])
              rw [show ∀ X1 X2 : Bl, bIf (tV (eNotN (eVar 5))) X1 X2 ρ2 (s ++ [.dK (dk da) (dv da)]) = X1 ρ2 (s ++ [.dK (dk da) (dv da)]) from fun X1 X2 => by simp only [bIf, i5, Out.fl_ok, if_true]]
              rw [show ∀ X1 X2 : Bl, bSeq (bIf (tOr_ (tV (eOp dEq (eSub (eVar 2) (eC (.int 2))) (eSub (eVar 2) (eC (.int 1))))) (tOr_ (tIn true (eSub (eVar 2) (eC (.int 2))) (eVar 1)) (tNot_ (tV (eF 2 F__law_suits (aCons (eVar 5) (aCons (eSub (eVar 1) (eSub (eVar 2) (eC (.int 2)))) aNil))))))) X1 bNil) X2 ρ2 (s ++ [.dK (dk da) (dv da)]) = X2 ρ2 (s ++ [.dK (dk da) (dv da)]) from fun X1 X2 => by
                simp only [bIf, Out.fl_ok, if_true, bSeq, tOr_, i6, h2, decide_false, Bool.false_eq_true, if_false, i7, Option.isNone_some, tNot_, f2, Bool.not_true, Out.bind_ok, bNil, Fl.then_nx]]
              rw [hp, Fl.then_nx]
              exact hl
theorem F_next (m : Market) (d : Deal) (fr : D) (da : Fair) (s : S) (hz : da.length ≤ 1000) (hd : isD s fr da) :
    F__law_next [.p (pMarket m), fr, .p (pDeal d)] s = .ok (match nextD m da d with
      | none => .p .non
      | some e => .dK (dk e) (dv e)) s := by
  have key := forL_run (g := fun e => D.p (pOffer e)) (ok := fun _ => true) (T := (.tu (.cons (.nm 3) (.cons (.nm 4) (.cons (.nm 5) .nil))))) (B := bl__law_next_0) (l := m.offers)
    (stp := fun (_ : Unit) (e : Offer) => if e.name = d.name then Sum.inr e else Sum.inl ()) (I := fun _ ρ s' => s' = s ∧ ∃ a b c z, ρ = [some (.p (pMarket m)), some fr, some (.p (pDeal d)), a, b, c, z])
    (R := fun o fl => match nextO o da d with
      | none => ∃ t, fl = .rt (.p .non) (s ++ t)
      | some e => fl = .rt (.loc s.length) (s ++ [.dK (dk e) (dv e)])) (fun _ _ _ _ => rfl)
    (fun _ e ρ s' _ h => by
      obtain ⟨rfl, a, b, c, z, rfl⟩ := h
      refine ⟨[some (.p (pMarket m)), some fr, some (.p (pDeal d)), some (.p (.str e.name)), some (.p (pSide e.one)), some (.p (optP pSide e.other)), z], by simp [Pt.run, Pts.run], ?_⟩
      by_cases he : e.name = d.name
      · have nb := next_body m e d fr da s' hz hd he z
        simp only [he, if_true] at nb ⊢
        refine ⟨nb, ?_⟩
        cases hn : nextO e da d with
        | none => rw [hn] at nb; obtain ⟨t, nb⟩ := nb; rw [nb]; trivial
        | some q => rw [hn] at nb; rw [nb]; trivial
      · simp only [he, if_false]
        have t0 : tV (eOp dEq (eVar 3) (eSub (eVar 2) (eC (.int 0)))) [some (.p (pMarket m)), some fr, some (.p (pDeal d)), some (.p (.str e.name)), some (.p (pSide e.one)), some (.p (optP pSide e.other)), z] s' = .ok false s' := by simp [he]
        exact ⟨[some (.p (pMarket m)), some fr, some (.p (pDeal d)), some (.p (.str e.name)), some (.p (pSide e.one)), some (.p (optP pSide e.other)), z], s', .inl (by simp only [bl__law_next_0, bIf, t0, Out.fl_ok, Bool.false_eq_true, if_false, bNil]), rfl, _, _, _, _, rfl⟩)
    (b := ()) (ρ := [some (.p (pMarket m)), some fr, some (.p (pDeal d)), none, none, none, none]) (s := s) ⟨rfl, _, _, _, _, rfl⟩
  have e : (List.map (fun e => D.p (pOffer e)) m.offers) = List.map D.p (m.offers.map pOffer) := by simp
  rw [e] at key
  have hsrc : ∀ ρ : Mo.Env, ρ[0]? = some (some (.p (pMarket m))) → sAny (eSub (eVar 0) (eC (.int 2))) ρ s = .ok ⟨(m.offers.map pOffer).map D.p, fun _ => true⟩ s := fun ρ h => by
    simp only [sAny, eSub, orE, eOp, eVar, h, Out.bind_ok, eC, ix_market2, ofO, wkOf, viT_tup]
  unfold nextD offerOf
  cases er : runSt (fun (_ : Unit) (e : Offer) => if e.name = d.name then Sum.inr e else Sum.inl ()) () m.offers with
  | inl b =>
    rw [er] at key
    obtain ⟨ρ', s', h1, rfl, a, b, c, z, rfl⟩ := key
    simp only [F__law_next, runF, b__law_next, List.length_cons, List.length_nil, if_true, Nat.reduceAdd, Nat.reduceSub, List.map_cons, List.map_nil, List.replicate, List.cons_append, List.nil_append, bSeq, bFor]
    rw [hsrc _ rfl]
    simp only [Out.fl_ok, h1, Fl.then_nx, bRet, eC, Option.bind, fin_p]
  | inr o =>
    rw [er] at key
    simp only at key
    simp only [F__law_next, runF, b__law_next, List.length_cons, List.length_nil, if_true, Nat.reduceAdd, Nat.reduceSub, List.map_cons, List.map_nil, List.replicate, List.cons_append, List.nil_append, bSeq, bFor]
    rw [hsrc _ rfl]
    simp only [Out.fl_ok, Option.bind]
    cases hn : nextO o da d with
    | none =>
      rw [hn] at key
      obtain ⟨t, key⟩ := key
      rw [key]
      simp only [Fl.then_rt, fin_pa]
    | some q =>
      rw [hn] at key
      rw [key]
      simp only [Fl.then_rt, fin_newD (clDs_dv _ q)]
end K77

set_option Elab.async false
set_option linter.all false
set_option maxRecDepth 100000
set_option maxHeartbeats 1000000
namespace K77
open PySem Mo
theorem isN_isD {s : S} {fr : D} {da : Fair} (h : isD s fr da) : isN fr = false := by
  unfold isD at h
  cases fr with
  | loc n => rfl
  | dK ks ds => rfl
  | _ => cases h
theorem fin_isD {s : S} {fr : D} {da : Fair} (h : isD s fr da) : fin s fr s = (fr, s) := by
  have h' := h
  unfold isD at h
  cases fr with
  | loc n =>
    simp only [viD_loc] at h
    have hn : n < s.length := by
      cases e : s[n]? with
      | none => rw [e] at h; cases h
      | some c => exact (List.getElem?_eq_some_iff.mp e).1
    have e : frzD s.length s (.loc n) = .loc n := by simp [frzD, frz1, hn]
    unfold fin
    rw [e]
    simp [clD, hn, chk_refl]
  | dK ks ds =>
    have : ds = dv da := by
      have := Option.some.inj h
      exact (Prod.mk.inj this).2
    have e : frzD s.length s (.dK ks ds) = .dK ks ds := rfl
    unfold fin
    rw [e, this]
    simp [clD, clDs_dv, chk_refl]
  | _ => cases h
def endD (m : Market) (da : Fair) (row : List Deal) : Option Fair := match runSt (fun (b : Fair) (d : Deal) => match nextD m b d with
  | none => Sum.inr ()
  | some e => Sum.inl e) da row with
  | .inl e => some e
  | .inr _ => none
theorem nextD_len {m : Market} {da e : Fair} {d : Deal} (h : nextD m da d = some e) : e.length = da.length := by
  unfold nextD at h
  obtain ⟨o, _, h⟩ := Option.bind_eq_some_iff.mp h
  unfold nextO at h
  split at h
  · cases h
  · split at h
    · split at h
      · split at h
        · cases h; rw [withH_len]
        · cases h
      · split at h
        · cases h
        · split at h
          · cases h
          · split at h
            · cases h; rw [withH_len, withH_len]
            · cases h
    · cases h
theorem F_end (m : Market) (row : List Deal) (fr : D) (da : Fair) (s : S) (hz : da.length ≤ 1000) (hd : isD s fr da) (hk : isLk s fr = true) :
    match endD m da row with
    | none => F__law_end [.p (pMarket m), fr, .p (pRow row)] s = .ok (.p .non) s
    | some e => ∃ fr', F__law_end [.p (pMarket m), fr, .p (pRow row)] s = .ok fr' s ∧ isD s fr' e ∧ isLk s fr' = true ∧ e.length = da.length := by
  have key := forL_run (g := fun e => D.p (pDeal e)) (ok := fun _ => true) (T := (.nm 3)) (B := bl__law_end_0) (l := row)
    (stp := fun (b : Fair) (d : Deal) => match nextD m b d with
      | none => Sum.inr ()
      | some e => Sum.inl e) (I := fun b ρ s' => s' = s ∧ b.length = da.length ∧ ∃ fr' z, ρ = [some (.p (pMarket m)), some fr', some (.p (pRow row)), z] ∧ isD s fr' b ∧ isLk s fr' = true)
    (R := fun _ fl => fl = .rt (.p .non) s) (fun _ _ _ _ => rfl)
    (fun b d ρ s' _ h => by
      obtain ⟨rfl, hl, fr', z, rfl, hd', hk'⟩ := h
      refine ⟨[some (.p (pMarket m)), some fr', some (.p (pRow row)), some (.p (pDeal d))], rfl, ?_⟩
      have kn := F_next m d fr' b s' (by omega) hd'
      have c1 : eF 3 F__law_next (aCons (eVar 0) (aCons (eVar 1) (aCons (eVar 3) aNil))) [some (.p (pMarket m)), some fr', some (.p (pRow row)), some (.p (pDeal d))] s' = F__law_next [.p (pMarket m), fr', .p (pDeal d)] s' := by simp
      cases hn : nextD m b d with
      | none =>
        rw [hn] at kn
        simp only
        have hB : bl__law_end_0 [some (.p (pMarket m)), some fr', some (.p (pRow row)), some (.p (pDeal d))] s' = .rt (.p .non) s' := by
          simp only [bl__law_end_0, bSeq, bSet, c1, kn, Out.fl_ok, Fl.then_nx, bIf, tV, eIsN]
          simp
        rw [hB]
        exact ⟨rfl, trivial⟩
      | some e =>
        rw [hn] at kn
        simp only
        refine ⟨[some (.p (pMarket m)), some (.dK (dk e) (dv e)), some (.p (pRow row)), some (.p (pDeal d))], s', .inl ?_, rfl, by rw [nextD_len hn, hl], _, _, rfl, rfl, rfl⟩
        simp only [bl__law_end_0, bSeq, bSet, c1, kn, Out.fl_ok, Fl.then_nx, bIf, tV, eIsN]
        simp)
    (b := da) (ρ := [some (.p (pMarket m)), some fr, some (.p (pRow row)), none]) (s := s) ⟨rfl, rfl, _, _, rfl, hd, hk⟩
  have hv : viT (.p (pRow row)) = some (row.map fun d => .p (pDeal d)) := by simp [pRow]
  unfold endD
  cases er : runSt (fun (b : Fair) (d : Deal) => match nextD m b d with
      | none => Sum.inr ()
      | some e => Sum.inl e) da row with
  | inr u =>
    rw [er] at key
    simp only at key
    simp [F__law_end, runF, b__law_end, hv, key]
  | inl e =>
    rw [er] at key
    obtain ⟨ρ', s', h1, rfl, hl, fr', z, rfl, hd', hk'⟩ := key
    refine ⟨fr', ?_, hd', hk', hl⟩
    simp [F__law_end, runF, b__law_end, hv, h1, fin_isD hd']
theorem dEq_hd {k h : Hd} {s : S} (ok : okH k) (oh : okH h) : dEq (.p (pHd k)) (.p (pHd h)) s = some (.p (.bl (decide (k = h))), s) := by
  have : scP (pHd k) (pHd h) = false := rfl
  simp [dEq, this, shp_hd ok, shp_hd oh, eqP_hd]
theorem okF_found {f : Fair} {t : Str} {h : Hd} (o : okF f) (e : found f t = some h) : okH h := by
  induction f with
  | nil => cases e
  | cons x f ih =>
    obtain ⟨n, k⟩ := x
    rw [found_cons] at e
    by_cases q : n = t
    · rw [if_pos q] at e; cases e; exact o _ (List.mem_cons_self ..)
    · rw [if_neg q] at e; exact ih (fun y hy => o y (List.mem_cons_of_mem _ hy)) e
theorem found_mem {f : Fair} {x : Str × Hd} (hx : x ∈ f) : ∃ k, found f x.1 = some k := by
  induction f with
  | nil => cases hx
  | cons y f ih =>
    obtain ⟨n, k⟩ := y
    rw [found_cons]
    by_cases q : n = x.1
    · exact ⟨k, if_pos q⟩
    · rw [if_neg q]
      rcases List.mem_cons.mp hx with h | h
      · exact absurd (by rw [h]) q
      · exact ih h
theorem lock_len (s : S) (d : D) (ks : List L2.Key) (ds : List D) : (lockS s d ks ds).length = s.length := by
  cases d <;> simp [lockS]
theorem lock_isD {s : S} {fr : D} {da : Fair} (h : isD s fr da) : isD (lockS s fr (dk da) (dv da)) fr da := by
  have h' := h
  unfold isD at h ⊢
  cases fr with
  | loc n =>
    simp only [viD_loc] at h
    have hn : n < s.length := by
      cases e : s[n]? with
      | none => rw [e] at h; cases h
      | some c => exact (List.getElem?_eq_some_iff.mp e).1
    simp [lockS, hn]
  | dK ks ds => exact h
  | _ => cases h
theorem unlock_isD {s : S} {fr : D} {da : Fair} (h : isD s fr da) (hk : isLk s fr = true) : unlockS (lockS s fr (dk da) (dv da)) fr (dk da) (dv da) = some s := by
  unfold isD at h
  cases fr with
  | loc n =>
    simp only [viD_loc] at h
    simp only [isLk] at hk
    cases e : s[n]? with
    | none => rw [e] at h; cases h
    | some c =>
      have hn := (List.getElem?_eq_some_iff.mp e).1
      rw [e] at h hk
      cases c with
      | dK ks ds =>
        have h2 := Option.some.inj h
        obtain ⟨h3, h4⟩ := Prod.mk.inj h2
        subst h3 h4
        have e2 : s.set n (.dK (dk da) (dv da)) = s := by
          rw [← (List.getElem?_eq_some_iff.mp e).2]
          exact List.set_getElem_self _
        simp [lockS, unlockS, hn, e2]
      | _ => cases hk
  | dK ks ds => rfl
  | _ => cases h
def hasE (e : Fair) (h : Hd) : Bool := e.any fun x => decide (found e x.1 = some h)
def hasB (m : Market) (da : Fair) (row : List Deal) (h : Hd) : Bool := match endD m da row with
  | none => false
  | some e => hasE e h
theorem F_has (m : Market) (row : List Deal) (fr : D) (da : Fair) (h : Hd) (s : S) (hz : da.length ≤ 1000) (hd : isD s fr da) (hk : isLk s fr = true) (oe : ∀ e, endD m da row = some e → okF e) (oh : okH h) :
    F__law_has [.p (pMarket m), fr, .p (pRow row), .p (pHd h)] s = .ok (.p (.bl (hasB m da row h))) s := by
  have key := F_end m row fr da s hz hd hk
  unfold hasB
  cases ee : endD m da row with
  | none =>
    rw [ee] at key
    simp only at key
    simp [F__law_has, runF, b__law_has, key]
  | some e =>
    rw [ee] at key
    obtain ⟨fr', key, hd', hk', hl⟩ := key
    have ok := oe e ee
    have hn := isN_isD hd'
    generalize hL : lockS s fr' (dk e) (dv e) = sL
    have hLd : isD sL fr' e := hL ▸ lock_isD hd'
    have hLl : sL.length = s.length := hL ▸ lock_len ..
    have hLu : unlockS sL fr' (dk e) (dv e) = some s := hL ▸ unlock_isD hd' hk'
    have kc := lcD_pure (g := fun x : Str × Hd => D.p (.str x.1)) (u := fun x => decide (found e x.1 = some h)) (y := fun x => D.p (.str x.1)) (ok := fun _ => true) (T := .nm 5) (U := cu__law_has_1) (A := ca__law_has_0) (ρ := [some (.p (pMarket m)), some fr, some (.p (pRow row)), some (.p (pHd h)), some fr', none]) (s := sL) (fun _ => rfl) (l := e) (acc := [])
      (fun x hx => by
        obtain ⟨k, hf⟩ := found_mem hx
        refine ⟨[some (.p (pMarket m)), some fr, some (.p (pRow row)), some (.p (pHd h)), some fr', some (.p (.str x.1))], rfl, fun acc => ?_, fun _ acc => rfl⟩
        have q := sub_dict (A := eVar 4) (B := eVar 5) (ρ := [some (.p (pMarket m)), some fr, some (.p (pRow row)), some (.p (pHd h)), some fr', some (.p (.str x.1))]) (s := sL ++ [.lst acc]) rfl rfl (isD_app hLd) hf
        simp only [cu__law_has_1, tV, eOp, q, Out.bind_ok, eVar, List.getElem?_cons_zero, List.getElem?_cons_succ, dEq_hd (okF_found ok hf) oh, ofO, hf]
        simp) (by rw [List.length_nil, hl]; omega)
    rw [hLl, List.nil_append] at kc
    have hks : (dk e).map kD = e.map fun x => D.p (.str x.1) := by simp [dk]
    have hfin := fin_new (s := sL) (ds := [] ++ (e.filter fun x => decide (found e x.1 = some h)).map fun x => D.p (.str x.1)) (clDs_all fun d hd => by
      rw [List.nil_append] at hd
      obtain ⟨x, _, rfl⟩ := List.mem_map.mp hd
      rfl)
    rw [hLl, List.nil_append] at hfin
    have kl : eLcK 4 [5] (.nm 5) cu__law_has_1 ca__law_has_0 [some (.p (pMarket m)), some fr, some (.p (pRow row)), some (.p (pHd h)), some fr', none] s = .ok (.lst ((e.filter fun x => decide (found e x.1 = some h)).map fun x => D.p (.str x.1))) s := by
      have hv : viD s fr' = some (dk e, dv e) := hd'
      unfold eLcK
      simp only [List.getElem?_cons_zero, List.getElem?_cons_succ, hv, hk', if_true, hL, hks]
      have hw : wipeE [some (.p (pMarket m)), some fr, some (.p (pRow row)), some (.p (pHd h)), some fr', none] [5] = [some (.p (pMarket m)), some fr, some (.p (pRow row)), some (.p (pHd h)), some fr', none] := rfl
      rw [hw, kc]
      simp only [Out.bindN_ok, hfin, hLu]
    have hres : decide (0 < (((e.filter fun x => decide (found e x.1 = some h)).map fun x => D.p (.str x.1)).length : Int)) = hasE e h := by
      unfold hasE
      rw [List.length_map]
      cases hc : e.any fun x => decide (found e x.1 = some h) with
      | true =>
        obtain ⟨x, hx, hp⟩ := List.any_eq_true.mp hc
        have : x ∈ e.filter fun x => decide (found e x.1 = some h) := (List.mem_filter (p := fun x => decide (found e x.1 = some h))).mpr ⟨hx, hp⟩
        have := List.length_pos_of_mem this
        exact decide_eq_true (by omega)
      | false =>
        have : (e.filter fun x => decide (found e x.1 = some h)) = [] := by
          rw [List.filter_eq_nil_iff]
          intro x hx hp
          have := (List.any_eq_true (p := fun x => decide (found e x.1 = some h))).mpr ⟨x, hx, hp⟩
          rw [hc] at this
          cases this
        rw [this]
        rfl
    have hb := bLen_lst ((e.filter fun x => decide (found e x.1 = some h)).map fun x => D.p (.str x.1)) s
    simp only [F__law_has, runF, b__law_has, List.length_cons, List.length_nil, if_true, Nat.reduceAdd, Nat.reduceSub, List.map_cons, List.map_nil, List.replicate, List.cons_append, List.nil_append, bSeq, bSet, eF, aCons, aNil, eVar, List.getElem?_cons_zero, List.getElem?_cons_succ, Out.bind_ok, key, Out.fl_ok, Fl.then_nx, List.set, bRet, eAnd, eNotN, hn, Bool.not_false, eOp, eCa, kl, hb, ofO, eC, dGt_int, hres, fin_p]
end K77

set_option Elab.async false
set_option linter.all false
set_option maxRecDepth 100000
set_option maxHeartbeats 1000000
namespace K77
open PySem Mo
/-! the two ways of dealing agree -/
def Rl (f da : Fair) : Prop := ∀ t, found f t = found da t
theorem deal_eq {m : Market} {f da : Fair} {d : Deal} (r : Rl f da) (h0 : found f "" = none) : match nextD m da d with
    | none => ∃ w, dealWord m f d = some w
    | some e => dealWord m f d = none ∧ Rl (doneDeal m f d) e ∧ found (doneDeal m f d) "" = none := by
  unfold nextD dealWord doneDeal
  cases ho : offerOf m d.name with
  | none => exact ⟨_, rfl⟩
  | some o =>
    simp only [Option.bind]
    unfold nextO
    rw [← r d.one, ← r d.other]
    cases h1 : found f d.one with
    | none => exact ⟨_, rfl⟩
    | some h =>
      have ne1 : ¬ d.one = "" := fun z => by rw [z, h0] at h1; cases h1
      unfold otherWrong
      cases hoo : o.other with
      | none =>
        by_cases h2 : d.other = ""
        · cases hf : fits o.one h with
          | false => simp [h2, hf]
          | true =>
            simp only [h2, hf, if_true, decide_true, Bool.not_true, Bool.false_eq_true, if_false]
            refine ⟨trivial, fun t => ?_, ?_⟩
            · rw [found_with, found_with, r t, r d.one]
            · rw [found_with, if_neg (Ne.symm ne1), h0]
        · cases hf : fits o.one h with
          | false => simp [h2, hf]
          | true => simp [h2, hf]
      | some x =>
        by_cases h2 : d.other = ""
        · have h3 : found f d.other = none := by rw [h2]; exact h0
          have : ¬ d.other = d.one := fun z => by rw [z, h1] at h3; cases h3
          cases hf : fits o.one h with
          | false => simp [h2, hf]
          | true => simp [h2, hf, Ne.symm ne1, h0]
        · by_cases h4 : d.other = d.one
          · cases hf : fits o.one h with
            | false => simp [h4, hf]
            | true => simp [h4, hf, ne1]
          · cases h3 : found f d.other with
            | none =>
              cases hf : fits o.one h with
              | false => simp [h4, hf]
              | true => simp [h4, hf, h2]
            | some k =>
              cases hf : fits o.one h with
              | false => simp [h4, h2, hf]
              | true =>
                cases hx : fits x k with
                | false => simp [h4, h2, hf, hx]
                | true =>
                  simp only [h4, h2, hf, hx, hoo, if_true, if_false, decide_false, Option.isNone_some, Bool.or_self, Bool.false_eq_true]
                  refine ⟨trivial, fun t => ?_, ?_⟩
                  · rw [found_with, found_with, found_with, found_with, found_with, found_with, r t, r d.one, r d.other]
                    by_cases q1 : t = d.other
                    · subst q1
                      simp [h4]
                    · by_cases q2 : t = d.one
                      · subst q2
                        simp [Ne.symm h4]
                      · simp [q1, q2]
                  · rw [found_with, if_neg (Ne.symm h2), found_with, if_neg (Ne.symm ne1), h0]
theorem endD_nil (m : Market) (da : Fair) : endD m da [] = some da := rfl
theorem endD_cons (m : Market) (da : Fair) (d : Deal) (row : List Deal) : endD m da (d :: row) = match nextD m da d with
    | none => none
    | some e => endD m e row := by
  unfold endD
  rw [runSt]
  cases nextD m da d <;> rfl
theorem run_eq {m : Market} : ∀ {row : List Deal} {f da : Fair} {i : Nat}, Rl f da → found f "" = none → match endD m da row with
    | none => ∃ q, rowRun m f row i = .inr q
    | some e => ∃ l, rowRun m f row i = .inl l ∧ Rl l e
  | [], f, da, i, r, h0 => ⟨f, rfl, r⟩
  | d :: row, f, da, i, r, h0 => by
    have k := deal_eq (m := m) (d := d) r h0
    rw [endD_cons]
    unfold rowRun
    cases hn : nextD m da d with
    | none =>
      rw [hn] at k
      obtain ⟨w, k⟩ := k
      rw [k]
      exact ⟨_, rfl⟩
    | some e =>
      rw [hn] at k
      obtain ⟨k1, k2, k3⟩ := k
      rw [k1]
      exact run_eq k2 k3
def names (f : Fair) : List Str := f.map (·.1)
theorem names_with (f : Fair) (t : Str) (h : Hd) : names (withH f t h) = names f := by
  unfold names withH
  rw [List.map_map]
  apply List.map_congr_left
  intro x _
  by_cases e : x.1 = t <;> simp [e]
theorem names_done (m : Market) (f : Fair) (d : Deal) : names (doneDeal m f d) = names f := by
  unfold doneDeal
  split
  · split
    · exact names_with _ _ _
    · split
      · rw [names_with, names_with]
      · rfl
  · rfl
theorem names_run {m : Market} : ∀ {row : List Deal} {f l : Fair} {i : Nat}, rowRun m f row i = .inl l → names l = names f
  | [], _, _, _, h => by cases h; rfl
  | d :: row, f, l, i, h => by
    unfold rowRun at h
    split at h
    · cases h
    · rw [names_run h, names_done]
theorem found_nodup {f : Fair} (nd : (names f).Nodup) {x : Str × Hd} (hx : x ∈ f) : found f x.1 = some x.2 := by
  induction f with
  | nil => cases hx
  | cons y f ih =>
    obtain ⟨n, k⟩ := y
    have nd' := List.nodup_cons.mp (show (n :: names f).Nodup from nd)
    rw [found_cons]
    rcases List.mem_cons.mp hx with h | h
    · subst h; exact if_pos rfl
    · have : n ≠ x.1 := fun e => nd'.1 (e ▸ List.mem_map_of_mem h)
      rw [if_neg this]
      exact ih nd'.2 h
theorem found_some {f : Fair} {t : Str} {h : Hd} (e : found f t = some h) : (t, h) ∈ f := by
  induction f with
  | nil => cases e
  | cons x f ih =>
    obtain ⟨n, k⟩ := x
    rw [found_cons] at e
    by_cases q : n = t
    · rw [if_pos q] at e; cases e; subst q; exact List.mem_cons_self ..
    · rw [if_neg q] at e; exact List.mem_cons_of_mem _ (ih e)
theorem any_eq {l e : Fair} {h : Hd} (nd : (names l).Nodup) (r : Rl l e) : comesB l h = hasE e h := by
  unfold comesB hasE
  rw [Bool.eq_iff_iff, List.any_eq_true, List.any_eq_true]
  constructor
  · rintro ⟨x, hx, q⟩
    have q := of_decide_eq_true q
    have k := found_nodup nd hx
    rw [q, r] at k
    exact ⟨(x.1, h), found_some k, decide_eq_true k⟩
  · rintro ⟨x, hx, q⟩
    have q := of_decide_eq_true q
    rw [← r] at q
    exact ⟨(x.1, h), found_some q, decide_eq_true rfl⟩
theorem does_eq {m : Market} {f da : Fair} {row : List Deal} {h : Hd} (nd : (names f).Nodup) (r : Rl f da) (h0 : found f "" = none) : doesB m f row h = hasB m da row h := by
  have k := run_eq (m := m) (row := row) (i := 0) r h0
  unfold doesB hasB
  cases he : endD m da row with
  | none =>
    rw [he] at k
    obtain ⟨q, k⟩ := k
    rw [k]
  | some e =>
    rw [he] at k
    obtain ⟨l, k, rl⟩ := k
    rw [k]
    exact any_eq (by rw [names_run k]; exact nd) rl
/-! the law's own shortest row -/
def stepS (m : Market) (da : Fair) (h : Hd) (kept : List Deal) (i : Nat) : List Deal := if hasB m da (wo kept i) h = true then wo kept i else kept
def staysR (m : Market) (da : Fair) (row : List Deal) (h : Hd) : List Deal := (List.range row.length).foldl (fun b i => stepS m da h b (row.length - 1 - i)) row
theorem stays_eq {m : Market} {f da : Fair} {row : List Deal} {h : Hd} (nd : (names f).Nodup) (r : Rl f da) (h0 : found f "" = none) : neededR m f row h = staysR m da row h := by
  have e : stepN m f h = stepS m da h := by
    funext kept i
    unfold stepN stepS
    rw [does_eq nd r h0]
  unfold neededR staysR
  rw [e]
theorem stepS_len (m : Market) (da : Fair) (h : Hd) (kept : List Deal) (i : Nat) : (stepS m da h kept i).length ≤ kept.length := by
  unfold stepS
  split
  · exact wo_len _ _
  · exact Nat.le_refl _
theorem okF_next {m : Market} {da e : Fair} {d : Deal} (om : okM m) (o : okF da) (h : nextD m da d = some e) : okF e := by
  unfold nextD at h
  obtain ⟨q, hq, h⟩ := Option.bind_eq_some_iff.mp h
  obtain ⟨s1, s2⟩ := om q (offerOf_mem hq)
  unfold nextO at h
  split at h
  · cases h
  · split at h
    · split at h
      · split at h
        · cases h; exact okF_with o s1
        · cases h
      · rename_i x hx
        split at h
        · cases h
        · split at h
          · cases h
          · split at h
            · cases h; exact okF_with (okF_with o (s2 x hx)) s1
            · cases h
    · cases h
theorem okF_endD {m : Market} (om : okM m) : ∀ {row : List Deal} {da e : Fair}, okF da → endD m da row = some e → okF e
  | [], da, e, o, h => by rw [endD_nil] at h; cases h; exact o
  | d :: row, da, e, o, h => by
    rw [endD_cons] at h
    cases hn : nextD m da d with
    | none => rw [hn] at h; cases h
    | some q => rw [hn] at h; exact okF_endD om (okF_next om o hn) h
theorem stays_loop (m : Market) (fr : D) (da : Fair) (h : Hd) (s : S) (hz : da.length ≤ 1000) (hd : isD s fr da) (hk : isLk s fr = true) (om : okM m) (o : okF da) (oh : okH h) : ∀ (k fuel : Nat) (b : List Deal) (z : Option D), k < fuel → b.length ≤ 900 →
    ∃ z' a', whileL tl__law_stays_1 bl__law_stays_0 fuel [some (.p (pMarket m)), some fr, some (.p (pRow b)), some (.p (pHd h)), some (.p (.int ((k : Int) - 1))), z] s = .nx [some (.p (pMarket m)), some fr, some (.p (pRow ((List.range k).foldl (fun b i => stepS m da h b (k - 1 - i)) b))), some (.p (pHd h)), a', z'] s
  | 0, 0, _, _, h1, _ => by omega
  | 0, fuel + 1, b, z, h1, hb => by
    refine ⟨z, some (.p (.int (((0 : Nat) : Int) - 1))), ?_⟩
    simp [whileL, tl__law_stays_1]
  | k + 1, 0, _, _, h1, _ => by omega
  | k + 1, fuel + 1, b, z, h1, hb => by
    have ek : ((k + 1 : Nat) : Int) - 1 = (k : Int) := by omega
    rw [ek]
    generalize hρ : [some (D.p (pMarket m)), some fr, some (.p (pRow b)), some (.p (pHd h)), some (.p (.int (k : Int))), z] = ρ
    have kc := F_cutrow b k (eVar 2) (eVar 4) ρ s hb (fun _ => by subst hρ; rfl) (fun _ => by subst hρ; rfl)
    have kh := F_has m (wo b k) fr da h s hz hd hk (fun e he => okF_endD om o he) oh
    have c1 : tl__law_stays_1 ρ s = .ok true s := by
      subst hρ
      simp [tl__law_stays_1]
    have hB : bl__law_stays_0 ρ s = .nx [some (.p (pMarket m)), some fr, some (.p (pRow (stepS m da h b k))), some (.p (pHd h)), some (.p (.int ((k : Int) - 1))), some (.p (pRow (wo b k)))] s := by
      subst hρ
      simp only [bl__law_stays_0, bSeq, bSet, kc, Out.fl_ok, Fl.then_nx, List.set]
      have c2 : tV (eF 4 F__law_has (aCons (eVar 0) (aCons (eVar 1) (aCons (eVar 5) (aCons (eVar 3) aNil))))) [some (.p (pMarket m)), some fr, some (.p (pRow b)), some (.p (pHd h)), some (.p (.int (k : Int))), some (.p (pRow (wo b k)))] s = .ok (hasB m da (wo b k) h) s := by
        simp [kh]
      unfold stepS
      cases hh : hasB m da (wo b k) h with
      | true => rw [hh] at c2; simp only [bIf, c2, Out.fl_ok, if_true]; simp
      | false => rw [hh] at c2; simp only [bIf, c2, Out.fl_ok, if_false]; simp
    obtain ⟨z', a', ih⟩ := stays_loop m fr da h s hz hd hk om o oh k fuel (stepS m da h b k) (some (.p (pRow (wo b k)))) (by omega) (Nat.le_trans (stepS_len ..) hb)
    refine ⟨z', a', ?_⟩
    have ef : (List.range (k + 1)).foldl (fun b i => stepS m da h b (k + 1 - 1 - i)) b = (List.range k).foldl (fun b i => stepS m da h b (k - 1 - i)) (stepS m da h b k) := by
      rw [List.range_succ_eq_map, List.foldl_cons, List.foldl_map]
      have : ∀ i : Nat, k + 1 - 1 - i.succ = k - 1 - i := fun i => by omega
      simp only [this]
      rfl
    rw [ef, ← ih, whileL, c1]
    simp only [Out.fl_ok, if_true, hB]
theorem F_stays (m : Market) (row : List Deal) (fr : D) (da : Fair) (h : Hd) (s : S) (hz : da.length ≤ 1000) (hd : isD s fr da) (hk : isLk s fr = true) (om : okM m) (o : okF da) (oh : okH h) (hr : row.length ≤ 900) : F__law_stays [.p (pMarket m), fr, .p (pRow row), .p (pHd h)] s = .ok (.p (pRow (staysR m da row h))) s := by
  obtain ⟨z', a', key⟩ := stays_loop m fr da h s hz hd hk om o oh row.length (row.length + 1) row none (by omega) hr
  have hl : bLen [D.p (pRow row)] s = some (.p (.int row.length), s) := by simp [pRow]
  have hfu : fu__law_stays_2 [some (.p (pMarket m)), some fr, some (.p (pRow row)), some (.p (pHd h)), some (.p (.int ((row.length : Int) - 1))), none] s = row.length + 1 := by
    simp [fu__law_stays_2]
    omega
  have c0 : eOp dSub (eCa bLen (aCons (eVar 2) aNil)) (eC (.int 1)) [some (.p (pMarket m)), some fr, some (.p (pRow row)), some (.p (pHd h)), none, none] s = .ok (.p (.int ((row.length : Int) - 1))) s := by
    simp [hl]
  simp only [F__law_stays, runF, b__law_stays, List.length_cons, List.length_nil, if_true, Nat.reduceAdd, Nat.reduceSub, List.map_cons, List.map_nil, List.replicate, List.cons_append, List.nil_append, bSeq, bSet, c0, Out.fl_ok, Fl.then_nx, List.set, bWhile, hfu, key, bRet, eVar, List.getElem?_cons_zero, List.getElem?_cons_succ, fin_p]
  rfl
end K77

set_option Elab.async false
set_option linter.all false
set_option maxRecDepth 100000
set_option maxHeartbeats 2000000
namespace K77
open PySem Mo
def iD (i : Int) : D := .p (.int i)
def kS (gs cs : List Int) (a b : Int) (r : S) : S := C.lst (gs.map iD) :: C.lst [iD a, iD b, .lst (cs.map iD), .loc 0] :: r
/-- the knife at 1, what is great at 0 -/
def Kn (s r : S) : Prop := ∃ gs cs a b, cs ≠ [] ∧ s = kS gs cs a b r
theorem clDs_iD (k : Nat) (l : List Int) : clDs k (l.map iD) = true := clDs_all fun d hd => by
  obtain ⟨x, _, rfl⟩ := List.mem_map.mp hd
  rfl
theorem chk_kn {s s' r : S} (h : Kn s r) (h' : Kn s' r) : chk s.length s s' = true ∧ s'.take s.length = s' := by
  obtain ⟨gs, cs, a, b, _, rfl⟩ := h
  obtain ⟨gs', cs', a', b', _, rfl⟩ := h'
  refine ⟨?_, ?_⟩
  · simp [kS, chk, clC, clDs, clD, clDs_iD, iD, chk_refl]
  · simp [kS]
theorem fin_kn {s s' r : S} {p : P} (h : Kn s r) (h' : Kn s' r) : fin s (.p p) s' = (.p p, s') := by
  obtain ⟨h1, h2⟩ := chk_kn h h'
  rw [fin_pk h1, h2]
theorem chk_append {k : Nat} : ∀ {s s' t : S}, chk k s s' = true → chk k s (s' ++ t) = true
  | [], _, _, _ => rfl
  | c :: s, [], _, h => by cases h
  | c :: s, c' :: s', t, h => by
    have h' : ((decide (c' = c) || clC k c') && chk k s s') = true := h
    obtain ⟨h1, h2⟩ := Bool.and_eq_true_iff.mp h'
    show ((decide (c' = c) || clC k c') && chk k s (s' ++ t)) = true
    rw [h1, chk_append h2]
    rfl
theorem fin_kna {s s' r t : S} {p : P} (h : Kn s r) (h' : Kn s' r) : fin s (.p p) (s' ++ t) = (.p p, s') := by
  obtain ⟨h1, h2⟩ := chk_kn h h'
  have hl : s'.length = s.length := by
    obtain ⟨gs, cs, a, b, _, rfl⟩ := h
    obtain ⟨gs', cs', a', b', _, rfl⟩ := h'
    simp [kS]
  rw [fin_pk (chk_append h1), ← hl]
  simp
theorem dIxL {s : S} {n : Nat} {ds : List D} {i : Int} {d : D} (h : s[n]? = some (.lst ds)) (e : L2.atI ds i = some d) : dIx (.loc n) (.p (.int i)) s = some (d, s) := by
  simp [dIx, ixT, ixL, h, e]
theorem dIxV {s : S} {ds : List D} {i : Int} {d : D} (e : L2.atI ds i = some d) : dIx (.lst ds) (.p (.int i)) s = some (d, s) := by
  simp [dIx, ixT, ixL, e]
section
variable (gs cs : List Int) (a b : Int) (r : S)
theorem k0 : dIx (.loc 1) (.p (.int 0)) (kS gs cs a b r) = some (.p (.int a), kS gs cs a b r) := dIxL rfl (atI_nat (n := 0) rfl)
theorem k1 : dIx (.loc 1) (.p (.int 1)) (kS gs cs a b r) = some (.p (.int b), kS gs cs a b r) := dIxL rfl (atI_nat (n := 1) rfl)
theorem k2 : dIx (.loc 1) (.p (.int 2)) (kS gs cs a b r) = some (.lst (cs.map iD), kS gs cs a b r) := dIxL rfl (atI_nat (n := 2) rfl)
theorem k3 : dIx (.loc 1) (.p (.int 3)) (kS gs cs a b r) = some (.loc 0, kS gs cs a b r) := dIxL rfl (atI_nat (n := 3) rfl)
theorem kp0 (x : Int) : putL (.loc 1) (.p (.int 0)) (.p (.int x)) (kS gs cs a b r) = some (kS gs cs x b r) := by simp [putL, kS, L2.ixN, iD]
theorem kp1 (x : Int) : putL (.loc 1) (.p (.int 1)) (.p (.int x)) (kS gs cs a b r) = some (kS gs cs a x r) := by simp [putL, kS, L2.ixN, iD]
theorem kg0 (g : Int) : dIx (.loc 0) (.p (.int 0)) (kS (g :: gs) cs a b r) = some (.p (.int g), kS (g :: gs) cs a b r) := dIxL rfl (atI_nat (n := 0) rfl)
theorem kgp (g x : Int) : putL (.loc 0) (.p (.int 0)) (.p (.int x)) (kS (g :: gs) cs a b r) = some (kS (x :: gs) cs a b r) := by simp [putL, kS, L2.ixN, iD]
theorem kgl : bLen [.loc 0] (kS gs cs a b r) = some (.p (.int gs.length), kS gs cs a b r) := by
  have := bLen_loc (n := 0) (ds := gs.map iD) (s := kS gs cs a b r) rfl
  rw [this]
  simp
theorem kcl (s : S) : bLen [.lst (cs.map iD)] s = some (.p (.int cs.length), s) := by simp
theorem kci (s : S) (i : Int) (h : cs ≠ []) : ∃ x, dIx (.lst (cs.map iD)) (.p (.int (i % (cs.length : Int)))) s = some (.p (.int x), s) := by
  have hl : 0 < (cs.length : Int) := by
    have := List.length_pos_iff.mpr h
    omega
  have h0 : 0 ≤ i % (cs.length : Int) := Int.emod_nonneg _ (by omega)
  have h1 : i % (cs.length : Int) < cs.length := Int.emod_lt_of_pos _ hl
  have h2 : (i % (cs.length : Int)).toNat < cs.length := by omega
  refine ⟨cs[(i % (cs.length : Int)).toNat], dIxV (atI_int h0 ?_)⟩
  rw [List.getElem?_map, List.getElem?_eq_getElem h2]
  rfl
end
theorem Kn.mk {gs cs : List Int} {a b : Int} {r : S} (h : cs ≠ []) : Kn (kS gs cs a b r) r := ⟨gs, cs, a, b, h, rfl⟩
theorem orB_nx {A B : Bl} {ρ ρ' : Mo.Env} {s s' : S} (h : A ρ s = .nx ρ' s') : orB A B ρ s = .nx ρ' s' := by simp only [orB, h]
theorem orE_ok {A B : Ex} {ρ : Mo.Env} {s s' : S} {d : D} (h : A ρ s = .ok d s') : orE A B ρ s = .ok d s' := by simp only [orE, h]
theorem sub_ix {A B : Ex} {ρ : Mo.Env} {s s1 s2 : S} {x y d : D} (hA : A ρ s = .ok x s1) (hB : B ρ s1 = .ok y s2) (h : dIx x y s2 = some (d, s2)) : eSub A B ρ s = .ok d s2 := by simp only [eSub, orE, eOp, hA, hB, Out.bind_ok, h, ofO]
theorem bInt_i (i : Int) (s : S) : bInt [.p (.int i)] s = some (.p (.int i), s) := rfl
theorem cut_spec {s r : S} {many : Int} (hk : Kn s r) (hm : 1 ≤ many) (hm2 : many < 100000000) : ∃ v s', F__law_cut [.loc 1, .p (.int many)] s = .ok (.p (.int v)) s' ∧ Kn s' r ∧ 0 ≤ v ∧ v < many := by
  have hk0 := hk
  obtain ⟨gs, cs, a, b, hc, rfl⟩ := hk
  generalize hρ : [some (D.loc 1), some (.p (.int many)), none] = ρ
  have v0 : ∀ s, eVar 0 ρ s = .ok (.loc 1) s := fun s => by subst hρ; rfl
  have v1 : ∀ s, eVar 1 ρ s = .ok (.p (.int many)) s := fun s => by subst hρ; rfl
  have p0 : orB (bPut putL (eOp dAdd (eSub (eVar 0) (eC (.int 0))) (eC (.int 1))) (eVar 0) (eC (.int 0))) (bPut putD (eOp dAdd (eSub (eVar 0) (eC (.int 0))) (eC (.int 1))) (eVar 0) (eC (.int 0))) ρ (kS gs cs a b r) = .nx ρ (kS gs cs (a + 1) b r) := by
    apply orB_nx
    have e := sub_ix (A := eVar 0) (B := eC (.int 0)) (v0 _) rfl (k0 gs cs a b r)
    rw [bPut, eOp, e]
    simp only [Out.bind_ok, eC, dAdd_int, ofO, Out.fl_ok, v0, kp0]
  have e3 : ∀ gs a b, eSub (eVar 0) (eC (.int 3)) ρ (kS gs cs a b r) = .ok (.loc 0) (kS gs cs a b r) := fun gs a b => sub_ix (v0 _) rfl (k3 gs cs a b r)
  have t1 : ∀ gs, tV (eOp dGt (eCa bLen (aCons (eSub (eVar 0) (eC (.int 3))) aNil)) (eC (.int 0))) ρ (kS gs cs (a + 1) b r) = .ok (decide (0 < (gs.length : Int))) (kS gs cs (a + 1) b r) := fun gs => by
    simp only [tV, eOp, eCa, aCons, aNil, e3, Out.bind_ok, kgl, ofO, eC, dGt_int]
  -- the second way: the knife's own numbers
  have own : ∀ (T : Te) (X : Bl) (gs : List Int), T ρ (kS gs cs (a + 1) b r) = .ok false (kS gs cs (a + 1) b r) → ∃ v s', ((bIf T X bNil ρ (kS gs cs (a + 1) b r)).then_ (bSeq (orB (bPut putL (eOp dMod (eCa bInt (aCons (eOp dAdd (eOp dAdd (eOp dMul (eSub (eVar 0) (eC (.int 1))) (eC (.int 307))) (eOp dMul (eSub (eSub (eVar 0) (eC (.int 2))) (eOp dMod (eSub (eVar 0) (eC (.int 0))) (eCa bLen (aCons (eSub (eVar 0) (eC (.int 2))) aNil)))) (eC (.int 113)))) (eOp dMul (eSub (eVar 0) (eC (.int 0))) (eC (.int 5171)))) aNil)) (eC (.int 949021))) (eVar 0) (eC (.int 1))) (bPut putD (eOp dMod (eCa bInt (aCons (eOp dAdd (eOp dAdd (eOp dMul (eSub (eVar 0) (eC (.int 1))) (eC (.int 307))) (eOp dMul (eSub (eSub (eVar 0) (eC (.int 2))) (eOp dMod (eSub (eVar 0) (eC (.int 0))) (eCa bLen (aCons (eSub (eVar 0) (eC (.int 2))) aNil)))) (eC (.int 113)))) (eOp dMul (eSub (eVar 0) (eC (.int 0))) (eC (.int 5171)))) aNil)) (eC (.int 949021))) (eVar 0) (eC (.int 1))))
      (bRet (eOp dMod (eCa bInt (aCons (eOp dDiv (eSub (eVar 0) (eC (.int 1))) (eC (.int 18))) aNil)) (eVar 1))))) = .rt (.p (.int v)) s' ∧ Kn s' r ∧ 0 ≤ v ∧ v < many := fun T X gs hT => by
    obtain ⟨x, hx⟩ := kci cs (kS gs cs (a + 1) b r) (a + 1) hc
    have q0 : eSub (eVar 0) (eC (.int 0)) ρ (kS gs cs (a + 1) b r) = .ok (.p (.int (a + 1))) (kS gs cs (a + 1) b r) := sub_ix (v0 _) rfl (k0 ..)
    have q1 : ∀ b, eSub (eVar 0) (eC (.int 1)) ρ (kS gs cs (a + 1) b r) = .ok (.p (.int b)) (kS gs cs (a + 1) b r) := fun b => sub_ix (v0 _) rfl (k1 ..)
    have q2 : eSub (eVar 0) (eC (.int 2)) ρ (kS gs cs (a + 1) b r) = .ok (.lst (cs.map iD)) (kS gs cs (a + 1) b r) := sub_ix (v0 _) rfl (k2 ..)
    have hcl : 0 < (cs.length : Int) := by
      have := List.length_pos_iff.mpr hc
      omega
    have q3 : eSub (eSub (eVar 0) (eC (.int 2))) (eOp dMod (eSub (eVar 0) (eC (.int 0))) (eCa bLen (aCons (eSub (eVar 0) (eC (.int 2))) aNil))) ρ (kS gs cs (a + 1) b r) = .ok (.p (.int x)) (kS gs cs (a + 1) b r) := by
      refine sub_ix q2 (s2 := kS gs cs (a + 1) b r) (y := .p (.int ((a + 1) % (cs.length : Int)))) ?_ hx
      simp only [eOp, q0, Out.bind_ok, eCa, aCons, aNil, q2, kcl, ofO, dMod_int _ _ _ hcl]
    have w : orB (bPut putL (eOp dMod (eCa bInt (aCons (eOp dAdd (eOp dAdd (eOp dMul (eSub (eVar 0) (eC (.int 1))) (eC (.int 307))) (eOp dMul (eSub (eSub (eVar 0) (eC (.int 2))) (eOp dMod (eSub (eVar 0) (eC (.int 0))) (eCa bLen (aCons (eSub (eVar 0) (eC (.int 2))) aNil)))) (eC (.int 113)))) (eOp dMul (eSub (eVar 0) (eC (.int 0))) (eC (.int 5171)))) aNil)) (eC (.int 949021))) (eVar 0) (eC (.int 1))) (bPut putD (eOp dMod (eCa bInt (aCons (eOp dAdd (eOp dAdd (eOp dMul (eSub (eVar 0) (eC (.int 1))) (eC (.int 307))) (eOp dMul (eSub (eSub (eVar 0) (eC (.int 2))) (eOp dMod (eSub (eVar 0) (eC (.int 0))) (eCa bLen (aCons (eSub (eVar 0) (eC (.int 2))) aNil)))) (eC (.int 113)))) (eOp dMul (eSub (eVar 0) (eC (.int 0))) (eC (.int 5171)))) aNil)) (eC (.int 949021))) (eVar 0) (eC (.int 1))) ρ (kS gs cs (a + 1) b r) = .nx ρ (kS gs cs (a + 1) ((b * 307 + x * 113 + (a + 1) * 5171) % 949021) r) := by
      apply orB_nx
      simp only [bPut, eOp, eCa, aCons, aNil, q1, q3, q0, Out.bind_ok, eC, dMul_int _ 307 _ (by decide) (by decide), dMul_int _ 113 _ (by decide) (by decide), dMul_int _ 5171 _ (by decide) (by decide), ofO, dAdd_int, bInt_i, dMod_int _ 949021 _ (by decide), Out.fl_ok, v0, kp1]
    refine ⟨((b * 307 + x * 113 + (a + 1) * 5171) % 949021 / 18) % many, kS gs cs (a + 1) ((b * 307 + x * 113 + (a + 1) * 5171) % 949021) r, ?_, Kn.mk hc, Int.emod_nonneg _ (by omega), Int.emod_lt_of_pos _ (by omega)⟩
    simp only [bIf, hT, Out.fl_ok, Bool.false_eq_true, if_false, bNil, Fl.then_nx, bSeq, w, bRet, eOp, eCa, aCons, aNil, q1, Out.bind_ok, eC, dDiv_int _ 18 _ (by decide) (by decide), ofO, bInt_i, v1, dMod_int _ many _ (by omega)]
  have hrun : ∀ v s', b__law_cut ρ (kS gs cs a b r) = .rt (.p (.int v)) s' → Kn s' r → F__law_cut [.loc 1, .p (.int many)] (kS gs cs a b r) = .ok (.p (.int v)) s' := fun v s' h hs => by
    subst hρ
    simp only [F__law_cut, runF, List.length_cons, List.length_nil, if_true, Nat.reduceAdd, Nat.reduceSub, List.map_cons, List.map_nil, List.replicate, List.cons_append, List.nil_append, h, fin_kn hk0 hs]
  cases gs with
  | nil =>
    have hT := t1 []
    obtain ⟨v, s', h1, h2, h3⟩ := own (tAnd_ (tV (eOp dGt (eCa bLen (aCons (eSub (eVar 0) (eC (.int 3))) aNil)) (eC (.int 0)))) (tV (eOp dGt (eSub (eSub (eVar 0) (eC (.int 3))) (eC (.int 0))) (eC (.int 0))))) _ [] (by
      simp only [tAnd_, hT, Out.bind_ok]
      rfl)
    refine ⟨v, s', hrun v s' ?_ h2, h2, h3⟩
    simp only [b__law_cut, bSeq, p0, Fl.then_nx]
    exact h1
  | cons g gs =>
    have hT := t1 (g :: gs)
    have eg : ∀ g, eSub (eSub (eVar 0) (eC (.int 3))) (eC (.int 0)) ρ (kS (g :: gs) cs (a + 1) b r) = .ok (.p (.int g)) (kS (g :: gs) cs (a + 1) b r) := fun g => sub_ix (e3 _ _ _) rfl (kg0 ..)
    have hT2 : tAnd_ (tV (eOp dGt (eCa bLen (aCons (eSub (eVar 0) (eC (.int 3))) aNil)) (eC (.int 0)))) (tV (eOp dGt (eSub (eSub (eVar 0) (eC (.int 3))) (eC (.int 0))) (eC (.int 0)))) ρ (kS (g :: gs) cs (a + 1) b r) = .ok (decide (0 < g)) (kS (g :: gs) cs (a + 1) b r) := by
      have hpos : decide (0 < (((g :: gs).length : Nat) : Int)) = true := decide_eq_true (by simp)
      rw [hpos] at hT
      rw [tAnd_, hT]
      simp only [Out.bind_ok, if_true, tV, eOp, eg, eC, dGt_int, ofO]
    by_cases hg : 0 < g
    · refine ⟨g % many, kS (g / (many + 1) :: gs) cs (a + 1) b r, hrun _ _ ?_ (Kn.mk hc), Kn.mk hc, Int.emod_nonneg _ (by omega), Int.emod_lt_of_pos _ (by omega)⟩
      rw [decide_eq_true hg] at hT2
      generalize hρ2 : ρ.set 2 (some (.p (.int g))) = ρ2
      have w0 : ∀ s, eVar 0 ρ2 s = .ok (.loc 1) s := fun s => by subst hρ2; subst hρ; rfl
      have w1 : ∀ s, eVar 1 ρ2 s = .ok (.p (.int many)) s := fun s => by subst hρ2; subst hρ; rfl
      have w2 : ∀ s, eVar 2 ρ2 s = .ok (.p (.int g)) s := fun s => by subst hρ2; subst hρ; rfl
      have f3 : ∀ gs a b, eSub (eVar 0) (eC (.int 3)) ρ2 (kS gs cs a b r) = .ok (.loc 0) (kS gs cs a b r) := fun gs a b => sub_ix (w0 _) rfl (k3 gs cs a b r)
      have pg : orB (bPut putL (eOp dDiv (eVar 2) (eOp dAdd (eVar 1) (eC (.int 1)))) (eSub (eVar 0) (eC (.int 3))) (eC (.int 0))) (bPut putD (eOp dDiv (eVar 2) (eOp dAdd (eVar 1) (eC (.int 1)))) (eSub (eVar 0) (eC (.int 3))) (eC (.int 0))) ρ2 (kS (g :: gs) cs (a + 1) b r) = .nx ρ2 (kS (g / (many + 1) :: gs) cs (a + 1) b r) := by
        apply orB_nx
        simp only [bPut, eOp, w2, w1, Out.bind_ok, eC, dAdd_int, ofO, dDiv_int _ (many + 1) _ (by omega) (by omega), Out.fl_ok, f3, kgp]
      simp only [b__law_cut, bSeq, p0, Fl.then_nx, bIf, hT2, Out.fl_ok, if_true, bSet, eCa, aCons, aNil, eg, Out.bind_ok, bInt_i, ofO, hρ2, pg, bRet, eOp, w1, w2, dMod_int _ many _ (by omega), Fl.then_rt]
    · obtain ⟨v, s', h1, h2, h3⟩ := own (tAnd_ (tV (eOp dGt (eCa bLen (aCons (eSub (eVar 0) (eC (.int 3))) aNil)) (eC (.int 0)))) (tV (eOp dGt (eSub (eSub (eVar 0) (eC (.int 3))) (eC (.int 0))) (eC (.int 0))))) _ (g :: gs) (by rw [hT2, decide_eq_false hg])
      refine ⟨v, s', hrun v s' ?_ h2, h2, h3⟩
      simp only [b__law_cut, bSeq, p0, Fl.then_nx]
      exact h1
end K77

set_option Elab.async false
set_option linter.all false
set_option maxRecDepth 100000
set_option maxHeartbeats 2000000
namespace K77
open PySem Mo
theorem edge_spec {s r : S} {place many : Int} (hk : Kn s r) (hm : 1 ≤ many) (hm2 : many < 100000000) : ∃ v s', F__law_edge [.loc 1, .p (.int place), .p (.int many)] s = .ok (.p (.int v)) s' ∧ Kn s' r ∧ 0 ≤ v ∧ v < many := by
  have hk0 := hk
  obtain ⟨v, s', hcut, hk', hv0, hv1⟩ := cut_spec hk hm hm2
  obtain ⟨gs, cs, a, b, hc, rfl⟩ := hk
  have hcl : 0 < (cs.length : Int) := by
    have := List.length_pos_iff.mpr hc
    omega
  obtain ⟨x, hx⟩ := kci cs (kS gs cs a b r) (place * 7 + 2) hc
  generalize hρ : [some (D.loc 1), some (.p (.int place)), some (.p (.int many)), none] = ρ
  have v0 : ∀ s, eVar 0 ρ s = .ok (.loc 1) s := fun s => by subst hρ; rfl
  have v1 : ∀ s, eVar 1 ρ s = .ok (.p (.int place)) s := fun s => by subst hρ; rfl
  have q2 : eSub (eVar 0) (eC (.int 2)) ρ (kS gs cs a b r) = .ok (.lst (cs.map iD)) (kS gs cs a b r) := sub_ix (v0 _) rfl (k2 ..)
  have q3 : eSub (eSub (eVar 0) (eC (.int 2))) (eOp dMod (eOp dAdd (eOp dMul (eVar 1) (eC (.int 7))) (eC (.int 2))) (eCa bLen (aCons (eSub (eVar 0) (eC (.int 2))) aNil))) ρ (kS gs cs a b r) = .ok (.p (.int x)) (kS gs cs a b r) := by
    refine sub_ix q2 (s2 := kS gs cs a b r) (y := .p (.int ((place * 7 + 2) % (cs.length : Int)))) ?_ hx
    simp only [eOp, v1, Out.bind_ok, eC, dMul_int _ 7 _ (by decide) (by decide), dAdd_int, eCa, aCons, aNil, q2, kcl, ofO, dMod_int _ _ _ hcl]
  have q4 : eOp dMod (eCa bInt (aCons (eOp dAdd (eOp dDiv (eSub (eSub (eVar 0) (eC (.int 2))) (eOp dMod (eOp dAdd (eOp dMul (eVar 1) (eC (.int 7))) (eC (.int 2))) (eCa bLen (aCons (eSub (eVar 0) (eC (.int 2))) aNil)))) (eC (.int 5))) (eVar 1)) aNil)) (eC (.int 7)) ρ (kS gs cs a b r) = .ok (.p (.int ((x / 5 + place) % 7))) (kS gs cs a b r) := by
    rw [eOp, eCa, aCons, eOp, eOp, q3]
    simp only [Out.bind_ok, eC, dDiv_int _ 5 _ (by decide) (by decide), ofO, v1, dAdd_int, aNil, bInt_i, dMod_int _ 7 _ (by decide)]
  generalize hw : (x / 5 + place) % 7 = way at q4
  have c1 : ∀ w : Int, eF 2 F__law_cut (aCons (eVar 0) (aCons (eVar 2) aNil)) [some (D.loc 1), some (.p (.int place)), some (.p (.int many)), some (.p (.int w))] (kS gs cs a b r) = .ok (.p (.int v)) s' := fun w => by simp [hcut]
  have run : ∀ v s', b__law_edge ρ (kS gs cs a b r) = .rt (.p (.int v)) s' → Kn s' r → F__law_edge [.loc 1, .p (.int place), .p (.int many)] (kS gs cs a b r) = .ok (.p (.int v)) s' := fun v s' h hs => by
    subst hρ
    simp only [F__law_edge, runF, List.length_cons, List.length_nil, if_true, Nat.reduceAdd, Nat.reduceSub, List.map_cons, List.map_nil, List.replicate, List.cons_append, List.nil_append, h, fin_kn hk0 hs]
  by_cases h3 : way = 3
  · refine ⟨many - 1, _, run _ _ ?_ hk0, hk0, by omega, by omega⟩
    simp only [b__law_edge, bSeq, bSet, q4, Out.fl_ok, Fl.then_nx]
    subst hρ
    simp [h3]
  · by_cases h6 : way = 6
    · refine ⟨0, _, run _ _ ?_ hk0, hk0, by omega, by omega⟩
      simp only [b__law_edge, bSeq, bSet, q4, Out.fl_ok, Fl.then_nx]
      subst hρ
      simp [h3, h6]
    · refine ⟨v, s', run _ _ ?_ hk', hk', hv0, hv1⟩
      simp only [b__law_edge, bSeq, bSet, q4, Out.fl_ok, Fl.then_nx]
      subst hρ
      simp [h3, h6, hcut]
theorem ints_at {ps : List P} {n : Nat} (h : ∀ p ∈ ps, ∃ i, p = P.int i) (hn : n < ps.length) : ∃ i, ps[n]? = some (.int i) := by
  obtain ⟨i, e⟩ := h _ (List.getElem_mem hn)
  exact ⟨i, by rw [List.getElem?_eq_getElem hn, e]⟩
theorem strs_at {gl : List Str} {n : Nat} (hn : n < gl.length) : ∃ g, g ∈ gl ∧ (gl.map P.str)[n]? = some (.str g) :=
  ⟨gl[n], List.getElem_mem hn, by rw [List.getElem?_map, List.getElem?_eq_getElem hn]; rfl⟩
theorem side_spec {s r : S} {gl : List Str} (hk : Kn s r) (hg : gl ≠ []) (hgl : gl.length ≤ 100) : ∃ (x : Side) (s' : S), F__law_side [.loc 1, .p (.tup (gl.map .str))] s = .ok (.p (pSide x)) s' ∧ Kn s' r ∧ x.after ∈ gl := by
  have hgp : 1 ≤ (gl.length : Int) := by
    have := List.length_pos_iff.mpr hg
    omega
  obtain ⟨a1, s1, c1, k1, l1, u1⟩ := cut_spec (many := 5) hk (by decide) (by decide)
  obtain ⟨a2, s2, c2, k2, l2, u2⟩ := cut_spec (many := 4) k1 (by decide) (by decide)
  obtain ⟨a3, s3, c3, k3, l3, u3⟩ := edge_spec (place := 1) (many := 5) k2 (by decide) (by decide)
  obtain ⟨a4, s4, c4, k4, l4, u4⟩ := cut_spec (many := gl.length) k3 hgp (by omega)
  obtain ⟨a5, s5, c5, k5, l5, u5⟩ := cut_spec (many := gl.length) k4 hgp (by omega)
  obtain ⟨le, hle⟩ := ints_at (ps := [.int 0, .int 0, .int 0, .int 1, .int 2]) (n := a1.toNat) (by simp) (by simp; omega)
  obtain ⟨ch, hch⟩ := ints_at (ps := [.int 0, .int 1, .int (-1), .int 2, .int (-2)]) (n := a3.toNat) (by simp) (by simp; omega)
  obtain ⟨mo, hmo⟩ : ∃ mo : Option Int, ([P.non, .non, .non, .int (le + 3)] : List P)[a2.toNat]? = some (optP .int mo) := by
    have : a2.toNat = 0 ∨ a2.toNat = 1 ∨ a2.toNat = 2 ∨ a2.toNat = 3 := by omega
    rcases this with e | e | e | e <;> rw [e]
    · exact ⟨none, rfl⟩
    · exact ⟨none, rfl⟩
    · exact ⟨none, rfl⟩
    · exact ⟨some (le + 3), rfl⟩
  obtain ⟨g1, _, hg1⟩ := strs_at (gl := gl) (n := a4.toNat) (by omega)
  obtain ⟨g2, m2, hg2⟩ := strs_at (gl := gl) (n := a5.toNat) (by omega)
  refine ⟨⟨g1, le, mo, g2, if -le > ch then -le else ch⟩, s5, ?_, k5, m2⟩
  have i1 := dIx_n s1 l1 hle
  have i2 := dIx_n s2 l2 hmo
  have i3 := dIx_n s3 l3 hch
  have i4 := dIx_n s4 l4 hg1
  have i5 := dIx_n s5 l5 hg2
  have hb : b__law_side [some (.loc 1), some (.p (.tup (gl.map .str))), none, none, none] s = .rt (.p (pSide ⟨g1, le, mo, g2, if -le > ch then -le else ch⟩)) s5 := by
    have t5 : ∀ (a b c d e : P), mkT [.p a, .p b, .p c, .p d, .p e] = .p (.tup [a, b, c, d, e]) := fun _ _ _ _ _ => rfl
    have t4 : ∀ (a b c d : P), mkT [.p a, .p b, .p c, .p d] = .p (.tup [a, b, c, d]) := fun _ _ _ _ => rfl
    have z5 : (5 : Nat) ≤ sizeLine := by decide
    have z4 : (4 : Nat) ≤ sizeLine := by decide
    have hmx : ∀ (x y : Int) (s : S), bMax2 [.p (.int x), .p (.int y)] s = some (.p (.int (if y > x then y else x)), s) := fun x y s => rfl
    simp [b__law_side, t4, t5, z4, z5, c1, i1, c2, i2, c3, i3, c4, i4, c5, i5, hmx, pSide]
  simp only [F__law_side, runF, List.length_cons, List.length_nil, if_true, Nat.reduceAdd, Nat.reduceSub, List.map_cons, List.map_nil, List.replicate, List.cons_append, List.nil_append, hb, fin_kn hk k5]
end K77

set_option Elab.async false
set_option linter.all false
set_option maxRecDepth 100000
set_option maxHeartbeats 2000000
namespace K77
open PySem Mo
theorem forL_rel {α : Type} {g : α → D} {ok : S → Bool} {T : Pt} {B : Bl} {I : List α → Mo.Env → S → Prop} (hok : ∀ l ρ s, I l ρ s → ok s = true)
    (hst : ∀ x l ρ s, I (x :: l) ρ s → ∃ ρ1 ρ2 s2, T.run (g x) ρ = some ρ1 ∧ B ρ1 s = .nx ρ2 s2 ∧ I l ρ2 s2) : ∀ (l : List α) (ρ : Mo.Env) (s : S), I l ρ s → ∃ ρ' s', forL ok T B (l.map g) ρ s = .nx ρ' s' ∧ I [] ρ' s'
  | [], ρ, s, h => ⟨ρ, s, by simp [forL, hok _ _ _ h], h⟩
  | x :: l, ρ, s, h => by
    obtain ⟨ρ1, ρ2, s2, e1, e2, h2⟩ := hst x l ρ s h
    obtain ⟨ρ', s', e3, h3⟩ := forL_rel hok hst l ρ2 s2 h2
    refine ⟨ρ', s', ?_, h3⟩
    simp only [List.map_cons, forL, hok _ _ _ h, e1, e2, if_true, e3]
def txt (k : Nat) : Str := ((toString ((k : Nat) : Int) : String) : Str)
def nm (k : Nat) : Str := ("n" : Str) ++ txt k
theorem txt_len (k : Nat) (h : k < 20) : (txt k).length ≤ 10 := by
  have : k = 0 ∨ k = 1 ∨ k = 2 ∨ k = 3 ∨ k = 4 ∨ k = 5 ∨ k = 6 ∨ k = 7 ∨ k = 8 ∨ k = 9 ∨ k = 10 ∨ k = 11 ∨ k = 12 ∨ k = 13 ∨ k = 14 ∨ k = 15 ∨ k = 16 ∨ k = 17 ∨ k = 18 ∨ k = 19 := by omega
  rcases this with e | e | e | e | e | e | e | e | e | e | e | e | e | e | e | e | e | e | e | e <;> subst e <;> decide +kernel
theorem bStr_k (k : Nat) (s : S) (h : k < 20) : bStr [.p (.int (k : Nat))] s = some (.p (.str (txt k)), s) := by
  have h2 : ((k : Nat) : Int).natAbs.log2 < 1920 := by
    have : k.log2 ≤ k := Nat.log2_le_self k
    simp
    omega
  show (if ((k : Nat) : Int).natAbs.log2 < 1920 then _ else _) = _
  rw [if_pos h2]
  rfl
theorem kS_app (gs cs : List Int) (a b : Int) (r t : S) : kS gs cs a b r ++ t = kS gs cs a b (r ++ t) := rfl
theorem Kn.app {q r : S} (h : Kn q r) (t : S) : Kn (q ++ t) (r ++ t) := by
  obtain ⟨gs, cs, a, b, hc, rfl⟩ := h
  exact ⟨gs, cs, a, b, hc, rfl⟩
theorem Kn.cut {s r : S} {x : C} (h : Kn s (r ++ [x])) : ∃ q, Kn q r ∧ s = q ++ [x] := by
  obtain ⟨gs, cs, a, b, hc, rfl⟩ := h
  exact ⟨kS gs cs a b r, ⟨gs, cs, a, b, hc, rfl⟩, rfl⟩
theorem Kn.len {s r : S} (h : Kn s r) : s.length = r.length + 2 := by
  obtain ⟨gs, cs, a, b, hc, rfl⟩ := h
  rfl
def gK (k : Nat) : D := .p (.int (0 + (k : Int) * 1))
theorem gK_eq (k : Nat) : gK k = .p (.int (k : Nat)) := by
  unfold gK
  congr 2
  omega
theorem mkT3 (a b c : P) : mkT [.p a, .p b, .p c] = .p (.tup [a, b, c]) := rfl
structure MkI (r : S) (gl : List Str) (n : Nat) (os : List Offer) (l : List Nat) (ρ : Mo.Env) (s : S) : Prop where
  env : ∃ z, ρ = [some (.loc 1), some (.p (.tup (gl.map .str))), some (.loc n), z]
  sto : ∃ q, s = q ++ [.lst (os.map fun o => .p (pOffer o))] ∧ Kn q r
  small : ∀ k ∈ l, k < 20
  len : os.length + l.length ≤ 10
  ok : ∀ o ∈ os, o.one.after ∈ gl ∧ ∀ y, o.other = some y → y.after ∈ gl
theorem appL_offer {q : S} {os : List Offer} {o : Offer} {n : Nat} (hn : n = q.length) (hz : os.length ≤ 1000) : appL (.loc n) [.p (pOffer o)] (q ++ [.lst (os.map fun o => .p (pOffer o))]) = some (.p .non, q ++ [.lst ((os ++ [o]).map fun o => .p (pOffer o))]) := by
  subst hn
  rw [app_last (by simp; omega)]
  simp
theorem market_step {r : S} {gl : List Str} (hg : gl ≠ []) (hgl : gl.length ≤ 100) {n : Nat} (hn : n = r.length + 2) {k : Nat} {l : List Nat} {os : List Offer} {ρ : Mo.Env} {s : S} (h : MkI r gl n os (k :: l) ρ s) :
    ∃ ρ1 s2 o, (Pt.nm 3).run (gK k) ρ = some ρ1 ∧ bl__law_market_0 ρ1 s = .nx ρ1 s2 ∧ o.name = nm k ∧ MkI r gl n (os ++ [o]) l ρ1 s2 := by
  obtain ⟨⟨z, rfl⟩, ⟨q, rfl, hq⟩, hs, hl, ho⟩ := h
  have hk : k < 20 := hs k (List.mem_cons_self ..)
  have hnq : n = q.length := by rw [hn, hq.len]
  obtain ⟨x1, s1, c1, k1, m1⟩ := side_spec (hq.app [.lst (os.map fun o => .p (pOffer o))]) hg hgl
  obtain ⟨v, s2, c2, k2, l2, u2⟩ := cut_spec (many := 2) k1 (by decide) (by decide)
  have htl := txt_len k hk
  have hstr : dAdd (.p (.str "n")) (.p (.str (txt k))) (q ++ [.lst (os.map fun o => .p (pOffer o))]) = some (.p (.str (nm k)), q ++ [.lst (os.map fun o => .p (pOffer o))]) := dAdd_str _ _ _ (by
    have : (("n" : Str)).length = 1 := by decide
    omega)
  have hisL : isL (q ++ [.lst (os.map fun o => .p (pOffer o))]) (.loc n) = true := by rw [hnq]; simp
  have fin : ∀ (o : Offer) (s3 : S), Kn s3 (r ++ [.lst (os.map fun o => .p (pOffer o))]) → o.name = nm k → (o.one.after ∈ gl ∧ ∀ y, o.other = some y → y.after ∈ gl) →
      eTup (aCons (eOp dAdd (eC (.str "n")) (eCa bStr (aCons (eVar 3) aNil))) (aCons (eF 2 F__law_side (aCons (eVar 0) (aCons (eVar 1) aNil))) (aCons (eIf (tV (eOp dEq (eF 2 F__law_cut (aCons (eVar 0) (aCons (eC (.int 2)) aNil))) (eC (.int 0)))) (eC .non) (eF 2 F__law_side (aCons (eVar 0) (aCons (eVar 1) aNil)))) aNil))) [some (.loc 1), some (.p (.tup (gl.map .str))), some (.loc n), some (.p (.int (k : Nat)))] (q ++ [.lst (os.map fun o => .p (pOffer o))]) = .ok (.p (pOffer o)) s3 →
      ∃ ρ1 s2 o, (Pt.nm 3).run (gK k) [some (.loc 1), some (.p (.tup (gl.map .str))), some (.loc n), z] = some ρ1 ∧ bl__law_market_0 ρ1 (q ++ [.lst (os.map fun o => .p (pOffer o))]) = .nx ρ1 s2 ∧ o.name = nm k ∧ MkI r gl n (os ++ [o]) l ρ1 s2 := fun o s3 hk3 hon hog he => by
    obtain ⟨q3, hq3, rfl⟩ := hk3.cut
    refine ⟨[some (.loc 1), some (.p (.tup (gl.map .str))), some (.loc n), some (.p (.int (k : Nat)))], q3 ++ [.lst ((os ++ [o]).map fun o => .p (pOffer o))], o, by rw [gK_eq]; rfl, ?_, hon, ⟨⟨_, rfl⟩, ⟨q3, rfl, hq3⟩, fun y hy => hs y (List.mem_cons_of_mem _ hy), by simp at hl ⊢; omega, fun y hy => ?_⟩⟩
    · have ha := appL_offer (q := q3) (os := os) (o := o) (n := n) (by rw [hn, hq3.len]) (by simp at hl; omega)
      simp only [bl__law_market_0, bDrop, eMe, eVar, List.getElem?_cons_zero, List.getElem?_cons_succ, Out.bind_ok, hisL, if_true, aCons, aNil] at he ⊢
      rw [he]
      simp only [Out.bind_ok, ha, ofO, Out.fl_ok]
    · rcases List.mem_append.mp hy with h | h
      · exact ho y h
      · rw [List.mem_singleton.mp h]; exact hog
  have z3 : (3 : Nat) ≤ sizeLine := by decide
  by_cases hv : v = 0
  · refine fin ⟨nm k, x1, none⟩ s2 k2 rfl ⟨m1, fun y hy => by cases hy⟩ ?_
    simp [bStr_k k _ hk, hstr, c1, c2, hv, z3]
    rfl
  · obtain ⟨x2, s4, c4, k4, m4⟩ := side_spec k2 hg hgl
    refine fin ⟨nm k, x1, some x2⟩ s4 k4 rfl ⟨m1, fun y hy => by cases hy; exact m4⟩ ?_
    simp [bStr_k k _ hk, hstr, c1, c2, hv, c4, z3]
    rfl
theorem market_loop {r : S} {gl : List Str} (hg : gl ≠ []) (hgl : gl.length ≤ 100) {n : Nat} (hn : n = r.length + 2) : ∀ (l : List Nat) (os : List Offer) (ρ : Mo.Env) (s : S), MkI r gl n os l ρ s →
    ∃ os' ρ' s', forL (fun _ => true) (.nm 3) bl__law_market_0 (l.map gK) ρ s = .nx ρ' s' ∧ os'.map (·.name) = l.map nm ∧ MkI r gl n (os ++ os') [] ρ' s'
  | [], os, ρ, s, h => ⟨[], ρ, s, rfl, rfl, by rw [List.append_nil]; exact h⟩
  | k :: l, os, ρ, s, h => by
    obtain ⟨ρ1, s2, o, e1, e2, e3, h2⟩ := market_step hg hgl hn h
    obtain ⟨os', ρ', s', e4, e5, h3⟩ := market_loop hg hgl hn l (os ++ [o]) ρ1 s2 h2
    refine ⟨o :: os', ρ', s', ?_, by simp [e3, e5], by rw [← List.append_cons] at h3; exact h3⟩
    simp only [List.map_cons, forL, if_true, e1, e2, e4]
structure GoodM (m : Market) : Prop where
  ne : m.offers ≠ []
  len : m.offers.length ≤ 10
  ok : okM m
  nd : (m.offers.map (·.name)).Nodup
  goods : ∃ gl : List Str, gl ≠ [] ∧ gl.length ≤ 3 ∧ m.goods = .tup (gl.map .str) ∧ ∀ g ∈ gl, PyData.strOk g = true
theorem market_spec {s r : S} (hk : Kn s r) : ∃ m s', F__law_market [.loc 1] s = .ok (.p (pMarket m)) s' ∧ Kn s' r ∧ GoodM m := by
  obtain ⟨v1, s1, c1, k1, l1, u1⟩ := edge_spec (place := 2) (many := 3) hk (by decide) (by decide)
  let gl : List Str := ([("bun" : Str), "egg", "tea"]).take (1 + v1).toNat
  have hgl : gl = ([("bun" : Str), "egg", "tea"]).take (1 + v1).toNat := rfl
  have hg3 : gl.length ≤ 3 := by rw [hgl, List.length_take]; exact Nat.min_le_right _ _
  obtain ⟨g0, gr, hgc⟩ : ∃ g0 gr, gl = g0 :: gr := by
    have : (1 + v1).toNat = v1.toNat + 1 := by omega
    rw [hgl, this]
    exact ⟨_, _, rfl⟩
  have hsl := sl_to [.str "bun", .str "egg", .str "tea"] (i := 1 + v1) s1 (by omega)
  have hsl2 : (.tup (([.str "bun", .str "egg", .str "tea"] : List P).take (1 + v1).toNat) : P) = .tup (gl.map .str) := by rw [hgl, List.map_take]; rfl
  rw [hsl2] at hsl
  have hmem : ∀ g ∈ gl, g = "bun" ∨ g = "egg" ∨ g = "tea" := fun g h => by
    have := List.mem_of_mem_take (hgl ▸ h)
    simpa using this
  have hok : ∀ g ∈ gl, PyData.strOk g = true := fun g h => by
    rcases hmem g h with e | e | e <;> rw [e] <;> decide +kernel
  have ix0 : ∀ s, dIx (.p (.tup (gl.map .str))) (.p (.int 0)) s = some (.p (.str g0), s) := fun s => by rw [hgc]; exact dIx_0 _ _ _
  let idle : Offer := ⟨"idle", ⟨g0, 0, none, g0, 0⟩, none⟩
  obtain ⟨v2, s2, c2, k2, l2, u2⟩ := edge_spec (place := 3) (many := 4) (k1.app [.lst [.p (pOffer idle)]]) (by decide) (by decide)
  obtain ⟨q2, hq2, rfl⟩ := k2.cut
  have hI : MkI r gl (r.length + 2) [idle] (List.range (1 + v2).toNat) [some (.loc 1), some (.p (.tup (gl.map .str))), some (.loc (r.length + 2)), none] (q2 ++ [.lst ([idle].map fun o => .p (pOffer o))]) :=
    ⟨⟨_, rfl⟩, ⟨q2, rfl, hq2⟩, fun k hk => by have := List.mem_range.mp hk; omega, by simp; omega, fun o ho => by
      rw [List.mem_singleton.mp ho]
      exact ⟨hgc ▸ List.mem_cons_self .., fun y hy => by cases hy⟩⟩
  obtain ⟨os', ρ', s', e4, e5, ⟨⟨z, rfl⟩, ⟨q3, rfl, hq3⟩, _, hlen, hofs⟩⟩ := market_loop (by rw [hgc]; simp) (by omega) rfl _ _ _ _ hI
  refine ⟨⟨.tup (gl.map .str), .tup [.tup [.str g0, .int 0]], [idle] ++ os'⟩, q3, ?_, hq3, by simp, by simpa using hlen, fun o ho => ?_, ?_, ⟨gl, by rw [hgc]; simp, hg3, rfl, hok⟩⟩
  · have hloc : s1.length = r.length + 2 := k1.len
    have hrg : rgD 0 1 (1 + v2).toNat = (List.range (1 + v2).toNat).map gK := rfl
    have hcond : -(2 ^ 62 : Int) ≤ 1 + v2 ∧ 1 + v2 < 2 ^ 62 := by omega
    have hb : bTup [.loc (r.length + 2)] (q3 ++ [.lst (([idle] ++ os').map fun o => .p (pOffer o))]) = some (.p (.tup (([idle] ++ os').map pOffer)), q3 ++ [.lst (([idle] ++ os').map fun o => .p (pOffer o))]) := by
      rw [bTup_loc (ds := ([idle] ++ os').map fun o => .p (pOffer o)) (by rw [← hq3.len]; simp)]
      have : (([idle] ++ os').map fun o => D.p (pOffer o)) = (([idle] ++ os').map pOffer).map D.p := by simp
      rw [this, mkT_map]
    have z3 : (3 : Nat) ≤ sizeLine := by decide
    have z5 : (5 : Nat) ≤ sizeLine := by decide
    have e1 : eSl (eTup (aCons (eC (.str "bun")) (aCons (eC (.str "egg")) (aCons (eC (.str "tea")) aNil)))) pNo (pSo (eOp dAdd (eC (.int 1)) (eF 3 F__law_edge (aCons (eVar 0) (aCons (eC (.int 2)) (aCons (eC (.int 3)) aNil)))))) [some (.loc 1), none, none, none] s = .ok (.p (.tup (gl.map .str))) s1 := by
      simp [z3, c1, hsl]
    have e2 : eLstC (aCons (eTup (aCons (eC (.str "idle")) (aCons (eTup (aCons (eSub (eVar 1) (eC (.int 0))) (aCons (eC (.int 0)) (aCons (eC .non) (aCons (eSub (eVar 1) (eC (.int 0))) (aCons (eC (.int 0)) aNil)))))) (aCons (eC .non) aNil)))) aNil) [some (.loc 1), some (.p (.tup (gl.map .str))), none, none] s1 = .ok (.loc (r.length + 2)) (s1 ++ [.lst [.p (pOffer idle)]]) := by
      have t5 : ∀ (a b c d e : P), mkT [.p a, .p b, .p c, .p d, .p e] = .p (.tup [a, b, c, d, e]) := fun _ _ _ _ _ => rfl
      simp [z3, z5, ix0, t5, hloc]
      rfl
    have e3 : sRng1 (aCons (eOp dAdd (eC (.int 1)) (eF 3 F__law_edge (aCons (eVar 0) (aCons (eC (.int 3)) (aCons (eC (.int 4)) aNil))))) aNil) [some (.loc 1), some (.p (.tup (gl.map .str))), some (.loc (r.length + 2)), none] (s1 ++ [.lst [.p (pOffer idle)]]) = .ok ⟨(List.range (1 + v2).toNat).map gK, fun _ => true⟩ (q2 ++ [.lst ([idle].map fun o => .p (pOffer o))]) := by
      simp only [sRng1, aCons, aNil, eOp, eC, eF, eVar, List.getElem?_cons_zero, Out.bind_ok, List.length_cons, List.length_nil, Nat.reduceAdd, if_true, c2, dAdd_int, ofO, hcond, and_self, hrg]
      rfl
    have e5' : eTup (aCons (eVar 1) (aCons (eTup (aCons (eTup (aCons (eSub (eVar 1) (eC (.int 0))) (aCons (eC (.int 0)) aNil))) aNil)) (aCons (eCa bTup (aCons (eVar 2) aNil)) aNil))) [some (.loc 1), some (.p (.tup (gl.map .str))), some (.loc (r.length + 2)), z] (q3 ++ [.lst (([idle] ++ os').map fun o => .p (pOffer o))]) = .ok (.p (pMarket ⟨.tup (gl.map .str), .tup [.tup [.str g0, .int 0]], [idle] ++ os'⟩)) (q3 ++ [.lst (([idle] ++ os').map fun o => .p (pOffer o))]) := by
      have g1 : ∀ s, eSub (eVar 1) (eC (.int 0)) [some (.loc 1), some (.p (.tup (gl.map .str))), some (.loc (r.length + 2)), z] s = .ok (.p (.str g0)) s := fun s => sub_ix rfl rfl (ix0 s)
      simp only [eTup, aCons, aNil, g1, eC, eCa, eVar, List.getElem?_cons_zero, List.getElem?_cons_succ, Out.bind_ok, hb, ofO, List.length_cons, List.length_nil, Nat.reduceAdd, z3, szl1, szl2, if_true]
      rfl
    have hB : b__law_market [some (.loc 1), none, none, none] s = .rt (.p (pMarket ⟨.tup (gl.map .str), .tup [.tup [.str g0, .int 0]], [idle] ++ os'⟩)) (q3 ++ [.lst (([idle] ++ os').map fun o => .p (pOffer o))]) := by
      simp only [b__law_market, bSeq, bSet, e1, Out.fl_ok, Fl.then_nx, List.set, e2, bFor, e3, e4, bRet, e5']
    simp only [F__law_market, runF, List.length_cons, List.length_nil, if_true, Nat.reduceAdd, Nat.reduceSub, List.map_cons, List.map_nil, List.replicate, List.cons_append, List.nil_append, hB, fin_kna hk hq3]
  · have hso : ∀ {x : Side}, x.after ∈ gl → okS x := fun {x} h => hok _ h
    obtain ⟨h1, h2⟩ := hofs o ho
    exact ⟨hso h1, fun y hy => hso (h2 y hy)⟩
  · show ((([idle] ++ os') : List Offer).map (·.name)).Nodup
    rw [List.map_append, e5]
    have hall : (("idle" : Str) :: (List.range 4).map nm).Nodup := by decide +kernel
    have hsub : (([idle] : List Offer).map (·.name) ++ (List.range (1 + v2).toNat).map nm).Sublist (("idle" : Str) :: (List.range 4).map nm) := by
      show (("idle" : Str) :: (List.range (1 + v2).toNat).map nm).Sublist _
      refine List.Sublist.cons_cons _ (List.Sublist.map _ ?_)
      have : List.range (1 + v2).toNat = (List.range 4).take (1 + v2).toNat := by rw [List.take_range]; congr 1; omega
      rw [this]
      exact List.take_sublist _ _
    exact hall.sublist hsub
end K77

set_option Elab.async false
set_option linter.all false
set_option maxRecDepth 100000
set_option maxHeartbeats 2000000
namespace K77
open PySem Mo
def ab (i : Int) : Int := if i < 0 then -i else i
theorem bAbs_i (i : Int) (s : S) : bAbs [.p (.int i)] s = some (.p (.int (ab i)), s) := rfl
theorem knife_spec (ns : List Int) (hz : ns.length ≤ 63) : ∃ s', F__law_knife [.ro (ns.map iD)] [] = .ok (.loc 1) s' ∧ Kn s' [] := by
  have hsl : ∀ s, dSl (.ro (ns.map iD)) none (some 57) s = some (.lst ((ns.take 57).map iD), s) := fun s => by
    have e := cut_to (ds := ns.map iD) (i := 57) (by decide)
    have e2 : (57 : Int).toNat = 57 := rfl
    rw [e2, ← List.map_take] at e
    simp [dSl, slT, slL, e]
  have hlen : (ns.take 57).length ≤ 57 := List.length_take_le ..
  have hsrc : ∀ (ρ : Mo.Env) s, ρ[0]? = some (some (.ro (ns.map iD))) → sAny (eSl (eVar 0) pNo (pSo (eC (.int 57)))) ρ s = .ok ⟨(ns.take 57).map iD, fun _ => true⟩ s := fun ρ s h => by
    simp only [sAny, eSl, eVar, h, Out.bind_ok, pNo, pSo, eC, hsl, ofO, wkOf, viT_lst]
  have k1 := eLc_pure (g := iD) (u := fun _ => true) (y := fun i => iD (ab i % 949021)) (Sg := sAny (eSl (eVar 0) pNo (pSo (eC (.int 57))))) (own := [3]) (T := .nm 3) (U := tTrue) (A := ca__law_knife_0) (ρ := [some (.ro (ns.map iD)), none, none, none]) (s := []) (ok := fun _ => true) (l := ns.take 57) (hsrc _ _ rfl) (fun _ => rfl)
    (fun i _ => ⟨[some (.ro (ns.map iD)), none, none, some (iD i)], rfl, fun _ => rfl, fun _ acc => by
      simp [ca__law_knife_0, iD, bInt_i, bAbs_i, dMod_int]⟩) (by omega) (fun _ _ => rfl)
  rw [List.filter_eq_self.mpr (fun _ _ => rfl)] at k1
  generalize hcells : (ns.take 57).map (fun i => iD (ab i % 949021)) = cells at k1
  have hl : bLen [.ro (ns.map iD)] [] = some (.p (.int ns.length), []) := by simp [bLen, altC, lenQ]
  have hcl : cells.length ≤ 57 := by rw [← hcells, List.length_map]; exact hlen
  have hadd : ∀ x, dAdd (.lst cells) (.lst [iD x]) [] = some (.lst (cells ++ [iD x]), []) := fun x => by
    have : cells.length + 1 ≤ sizeLine := by rw [sizeLine_eq]; omega
    simp [dAdd, addI, addS, addT, addL, this]
  have e1 : eOp dAdd (eLc (sAny (eSl (eVar 0) pNo (pSo (eC (.int 57))))) [3] (.nm 3) tTrue ca__law_knife_0) (eLst (aCons (eOp dAdd (eOp dMod (eCa bLen (aCons (eVar 0) aNil)) (eC (.int 33))) (eC (.int 77))) aNil)) [some (.ro (ns.map iD)), none, none, none] [] = .ok (.lst (cells ++ [iD ((ns.length : Int) % 33 + 77)])) [] := by
    rw [eOp, k1]
    simp only [Out.bind_ok, eLst, aCons, aNil, eOp, eCa, eVar, List.getElem?_cons_zero, hl, ofO, eC, dMod_int _ 33 _ (by decide), dAdd_int, List.length_cons, List.length_nil, Nat.reduceAdd, szl1, if_true]
    exact congrArg ofO (hadd _)
  have kc := lcD_pure (g := iD) (u := fun i => decide (10 ^ 18 ≤ ab i)) (y := fun i => iD (ab i)) (ok := fun _ => true) (T := .nm 3) (U := cu__law_knife_2) (A := ca__law_knife_1) (ρ := [some (.ro (ns.map iD)), some (.lst (cells ++ [iD ((ns.length : Int) % 33 + 77)])), none, none]) (s := []) (fun _ => rfl) (l := ns.take 57) (acc := [])
    (fun i _ => ⟨[some (.ro (ns.map iD)), some (.lst (cells ++ [iD ((ns.length : Int) % 33 + 77)])), none, some (iD i)], rfl, fun acc => by
      simp [cu__law_knife_2, iD, bInt_i, bAbs_i, dPow], fun _ acc => by simp [ca__law_knife_1, iD, bInt_i, bAbs_i]⟩) (by simp; omega)
  simp only [List.nil_append, List.length_nil] at kc
  have e2 : eLcC (sAny (eSl (eVar 0) pNo (pSo (eC (.int 57))))) [3] (.nm 3) cu__law_knife_2 ca__law_knife_1 [some (.ro (ns.map iD)), some (.lst (cells ++ [iD ((ns.length : Int) % 33 + 77)])), none, none] [] = .ok (.loc 0) [.lst (((ns.take 57).filter fun i => decide (10 ^ 18 ≤ ab i)).map fun i => iD (ab i))] := by
    unfold eLcC
    rw [hsrc _ _ rfl]
    simp only [Out.bind_ok, List.length_nil, List.nil_append]
    have hw : wipeE [some (.ro (ns.map iD)), some (.lst (cells ++ [iD ((ns.length : Int) % 33 + 77)])), none, none] [3] = [some (.ro (ns.map iD)), some (.lst (cells ++ [iD ((ns.length : Int) % 33 + 77)])), none, none] := rfl
    rw [hw, kc]
    simp only [Out.bindN_ok]
  refine ⟨kS (((ns.take 57).filter fun i => decide (10 ^ 18 ≤ ab i)).map ab) (((ns.take 57).map fun i => ab i % 949021) ++ [(ns.length : Int) % 33 + 77]) 7 77023 [], ?_, Kn.mk (by simp)⟩
  have hS : kS (((ns.take 57).filter fun i => decide (10 ^ 18 ≤ ab i)).map ab) (((ns.take 57).map fun i => ab i % 949021) ++ [(ns.length : Int) % 33 + 77]) 7 77023 [] = [.lst (((ns.take 57).filter fun i => decide (10 ^ 18 ≤ ab i)).map fun i => iD (ab i)), .lst [iD 7, iD 77023, .lst (cells ++ [iD ((ns.length : Int) % 33 + 77)]), .loc 0]] := by
    rw [← hcells]
    simp [kS, iD, Function.comp_def]
  rw [hS]
  have hf : ∀ (G cs' : List D), fin [] (.loc 1) [.lst G, .lst [D.p (.int 7), D.p (.int 77023), .lst cs', .loc 0]] = (.loc 1, [.lst G, .lst [D.p (.int 7), D.p (.int 77023), .lst cs', .loc 0]]) := fun G cs' => by
    simp [fin, frzD, frz1, clD, clDs]
  have z4 : (4 : Nat) ≤ sizeLine := by decide
  simp only [F__law_knife, runF, b__law_knife, List.length_cons, List.length_nil, if_true, Nat.reduceAdd, Nat.reduceSub, List.map_cons, List.map_nil, List.replicate, List.cons_append, List.nil_append, bSeq, bSet, e1, Out.fl_ok, Fl.then_nx, List.set, e2, bRet, eLstC, aCons, aNil, eC, eVar, List.getElem?_cons_zero, List.getElem?_cons_succ, Out.bind_ok, z4, hf]
  rfl
end K77

set_option Elab.async false
set_option linter.all false
set_option maxRecDepth 100000
set_option maxHeartbeats 2000000
namespace K77
open PySem Mo
/-! what is equal to itself -/
mutual
def dpt : P → Nat
  | .tup ps => dpts ps + 1
  | _ => 0
def dpts : List P → Nat
  | [] => 0
  | p :: ps => max (dpt p) (dpts ps)
end
mutual
def szs : P → Bool
  | .tup ps => decide (ps.length ≤ 1000) && szss ps
  | _ => true
def szss : List P → Bool
  | [] => true
  | p :: ps => szs p && szss ps
end
theorem dpts_mem : ∀ {ps : List P} {p : P}, p ∈ ps → dpt p ≤ dpts ps
  | q :: ps, p, h => by
    unfold dpts
    rcases List.mem_cons.mp h with e | e
    · subst e; omega
    · have := dpts_mem e; omega
theorem szss_mem : ∀ {ps : List P} {p : P}, szss ps = true → p ∈ ps → szs p = true
  | q :: ps, p, hs, h => by
    have hs' : (szs q && szss ps) = true := by rw [← szss]; exact hs
    obtain ⟨h1, h2⟩ := Bool.and_eq_true_iff.mp hs'
    rcases List.mem_cons.mp h with e | e
    · subst e; exact h1
    · exact szss_mem h2 e
theorem same_refl (j : Nat) : ∀ (p : P) (s : S), dpt p < j → szs p = true → Fr__law_same j [.p p, .p p] s = .ok (.p (.bl true)) s := by
  induction j with
  | zero => intro p s h; exact absurd h (Nat.not_lt_zero _)
  | succ j ihj =>
    intro p s h hs
    have b1 : isB "tuple" "tuple" = true := by decide
    have b2 : isB "bool" "tuple" = false := by decide
    have b3 : isB "int" "tuple" = false := by decide
    have b4 : isB "str" "tuple" = false := by decide
    have b5 : isB "NoneType" "tuple" = false := by decide
    have b6 : isB "bool" "bool" = true := by decide
    have b7 : isB "int" "bool" = false := by decide
    have b8 : isB "str" "bool" = false := by decide
    have b9 : isB "str" "str" = true := by decide
    have b10 : isB "int" "str" = false := by decide
    have b11 : isB "int" "int" = true := by decide
    cases p with
    | non => simp [Fr__law_same, runF, b__law_same, tyD, tyP, b5]
    | bl b =>
      have n1 : isN (.p (.bl b)) = false := rfl
      simp [Fr__law_same, runF, b__law_same, tyD, tyP, b2, b6, n1]
    | int i => simp [Fr__law_same, runF, b__law_same, tyD, tyP, b3, b7, b10, b11]
    | str x => simp [Fr__law_same, runF, b__law_same, tyD, tyP, b4, b8, b9]
    | tup ps =>
      simp only [szs, Bool.and_eq_true, decide_eq_true_eq] at hs
      obtain ⟨h1, h2⟩ := hs
      have hd : dpts ps < j := by
        rw [dpt] at h
        omega
      obtain ⟨L, hL⟩ : ∃ L : Int, L = ((ps.length : Nat) : Int) := ⟨_, rfl⟩
      have hr : rgD 0 1 L.toNat = (List.range ps.length).map gK := by rw [hL, Int.toNat_natCast]; rfl
      have hcond : -(2 ^ 62 : Int) ≤ L ∧ L < 2 ^ 62 := by omega
      have hbl : ∀ s, bLen [.p (.tup ps)] s = some (.p (.int L), s) := fun s => by rw [hL]; exact bLen_tup ps s
      have hsrc : sRng1 (aCons (eCa bLen (aCons (eVar 1) aNil)) aNil) [some (.p (.tup ps)), some (.p (.tup ps)), none] s = .ok ⟨(List.range ps.length).map gK, fun _ => true⟩ s := by
        simp only [sRng1, aCons, aNil, eCa, eVar, List.getElem?_cons_zero, List.getElem?_cons_succ, Out.bind_ok, hbl, ofO, hcond, and_self, if_true, hr]
      have kl := eLc_pure (g := gK) (u := fun _ => true) (y := fun _ => D.p (.bl true)) (Sg := sRng1 (aCons (eCa bLen (aCons (eVar 1) aNil)) aNil)) (own := [2]) (T := .nm 2) (U := tTrue) (A := ca__law_same_0 (Fr__law_same j)) (ρ := [some (.p (.tup ps)), some (.p (.tup ps)), none]) (s := s) (ok := fun _ => true) (l := List.range ps.length)
        hsrc (fun _ => rfl)
        (fun k hk => by
          have hk' := List.mem_range.mp hk
          refine ⟨[some (.p (.tup ps)), some (.p (.tup ps)), some (.p (.int (k : Nat)))], by rw [gK_eq]; rfl, fun _ => rfl, fun _ acc => ?_⟩
          have hi : ps[((k : Nat) : Int).toNat]? = some ps[k] := by
            have : ((k : Nat) : Int).toNat = k := by omega
            rw [this]
            exact List.getElem?_eq_getElem hk'
          have ix := dIx_n (i := ((k : Nat) : Int)) (s ++ [.lst acc]) (by omega) hi
          have hm := List.getElem_mem hk'
          have ih := ihj ps[k] (s ++ [.lst acc]) (Nat.lt_of_le_of_lt (dpts_mem hm) hd) (szss_mem h2 hm)
          simp [ca__law_same_0, ix, ih]) (by simp; omega) (fun _ _ => rfl)
      have hall : bAll [.lst ((List.filter (fun _ => true) (List.range ps.length)).map fun _ => D.p (.bl true))] s = some (.p (.bl true), s) := by
        have e : ((List.filter (fun _ => true) (List.range ps.length)).map fun _ => D.p (.bl true)) = (List.replicate ps.length true).map fun b => D.p (.bl b) := by
          rw [List.filter_eq_self.mpr (fun _ _ => rfl), List.map_replicate]
          rw [List.map_const', List.length_range]
        have e2 : allB ((List.replicate ps.length true).map fun b => D.p (.bl b)) = some (List.replicate ps.length true) := allB_map _
        have e3 : (List.replicate ps.length true).all id = true := List.all_eq_true.mpr fun x hx => (List.mem_replicate.mp hx).2
        rw [e]
        simp only [bAll, viL_lst, Option.bind, e2, Option.map_some, e3]
      generalize hρ : [some (D.p (.tup ps)), some (.p (.tup ps)), none] = ρ at kl
      have v0 : ∀ s, eVar 0 ρ s = .ok (.p (.tup ps)) s := fun s => by subst hρ; rfl
      have v1 : ∀ s, eVar 1 ρ s = .ok (.p (.tup ps)) s := fun s => by subst hρ; rfl
      have t0 : tyD s (.p (.tup ps)) = some "tuple" := rfl
      have e2 : eIsI "tuple" (eVar 0) ρ s = .ok (.p (.bl true)) s := by
        simp only [eIsI, v0, Out.bind_ok, t0, b1]
      have e1 : tV (eIsI "tuple" (eVar 1)) ρ s = .ok true s := by
        simp only [tV, eIsI, v1, Out.bind_ok, t0, b1]
      have e3 : eOp dEq (eCa bLen (aCons (eVar 0) aNil)) (eCa bLen (aCons (eVar 1) aNil)) ρ s = .ok (.p (.bl true)) s := by
        simp only [eOp, eCa, aCons, aNil, v0, v1, Out.bind_ok, hbl, ofO, dEq_int, eq_self_iff_true, decide_true]
      have e4 : eCa bAll (aCons (eLc (sRng1 (aCons (eCa bLen (aCons (eVar 1) aNil)) aNil)) [2] (.nm 2) tTrue (ca__law_same_0 (Fr__law_same j))) aNil) ρ s = .ok (.p (.bl true)) s := by
        rw [eCa, aCons, kl]
        simp only [Out.bind_ok, aNil, hall, ofO]
      have and_ok : ∀ (P1 P2 : Ex), P1 ρ s = .ok (.p (.bl true)) s → P2 ρ s = .ok (.p (.bl true)) s → eAnd P1 P2 ρ s = .ok (.p (.bl true)) s := fun P1 P2 h1 h2 => by
        rw [eAnd, h1]
        exact h2
      have if_ok : ∀ (T : Te) (A : Ex) (B C : Bl), T ρ s = .ok true s → A ρ s = .ok (.p (.bl true)) s → bSeq (bIf T (bRet A) B) C ρ s = .rt (.p (.bl true)) s := fun T A B C h1 h2 => by
        rw [bSeq, bIf, h1]
        show (bRet A ρ s).then_ C = _
        rw [bRet, h2]
        rfl
      have hB : b__law_same (Fr__law_same j) ρ s = .rt (.p (.bl true)) s := if_ok _ _ _ _ e1 (and_ok _ _ e2 (and_ok _ _ e3 e4))
      subst hρ
      rw [Fr__law_same, runF]
      have h22 : ([D.p (.tup ps), D.p (.tup ps)] : List D).length = 2 := rfl
      rw [if_pos h22]
      have henv : (List.map some [D.p (.tup ps), D.p (.tup ps)] ++ List.replicate (3 - 2) none : Mo.Env) = [some (.p (.tup ps)), some (.p (.tup ps)), none] := rfl
      rw [henv]
      rw [hB]
      simp only [fin_p]
end K77

set_option Elab.async false
set_option linter.all false
set_option maxRecDepth 100000
set_option maxHeartbeats 2000000
namespace K77
open PySem Mo
/-- a dict that stands whatever the knife does -/
def isDr (r : S) (fr : D) (da : Fair) : Prop := ∀ s, Kn s r → isD s fr da ∧ isLk s fr = true
theorem isDr_dK (r : S) (da : Fair) : isDr r (.dK (dk da) (dv da)) da := fun _ _ => ⟨rfl, rfl⟩
theorem endD_app {m : Market} : ∀ {row : List Deal} {da e : Fair} {d : Deal}, endD m da row = some e → endD m da (row ++ [d]) = nextD m e d
  | [], da, e, d, h => by
    rw [endD_nil] at h
    cases h
    rw [List.nil_append, endD_cons]
    cases nextD m da d <;> rfl
  | c :: row, da, e, d, h => by
    rw [endD_cons] at h
    rw [List.cons_append, endD_cons]
    cases hn : nextD m da c with
    | none => rw [hn] at h; cases h
    | some q => rw [hn] at h; exact endD_app h
theorem names_next {m : Market} {da e : Fair} {d : Deal} (h : nextD m da d = some e) : names e = names da := by
  unfold nextD at h
  obtain ⟨o, _, h⟩ := Option.bind_eq_some_iff.mp h
  unfold nextO at h
  split at h
  · cases h
  · split at h
    · split at h
      · split at h
        · cases h; exact names_with _ _ _
        · cases h
      · split at h
        · cases h
        · split at h
          · cases h
          · split at h
            · cases h; rw [names_with, names_with]
            · cases h
    · cases h
theorem names_end {m : Market} : ∀ {row : List Deal} {da e : Fair}, endD m da row = some e → names e = names da
  | [], da, e, h => by rw [endD_nil] at h; cases h; rfl
  | d :: row, da, e, h => by
    rw [endD_cons] at h
    cases hn : nextD m da d with
    | none => rw [hn] at h; cases h
    | some q => rw [hn] at h; rw [names_end h, names_next hn]
theorem offerOf_nd {m : Market} {o : Offer} (nd : (m.offers.map (·.name)).Nodup) (h : o ∈ m.offers) : offerOf m o.name = some o := by
  unfold offerOf
  have key : ∀ {l : List Offer}, (l.map (·.name)).Nodup → o ∈ l → runSt (fun (_ : Unit) (e : Offer) => if e.name = o.name then Sum.inr e else Sum.inl ()) () l = .inr o := by
    intro l
    induction l with
    | nil => intro _ h; cases h
    | cons x l ih =>
      intro nd h
      have nd' := List.nodup_cons.mp (show (x.name :: l.map (·.name)).Nodup from nd)
      unfold runSt
      rcases List.mem_cons.mp h with e | e
      · subst e; simp
      · have : ¬ x.name = o.name := fun z => nd'.1 (z ▸ List.mem_map_of_mem e)
        simp only [this, if_false]
        exact ih nd'.2 e
  rw [key nd h]
theorem found_names {f : Fair} {t : Str} (h : t ∈ names f) : ∃ k, found f t = some k := by
  obtain ⟨x, hx, rfl⟩ := List.mem_map.mp h
  exact found_mem hx
theorem strKs_dk : ∀ da : Fair, strKs (dk da) = some (names da)
  | [] => rfl
  | (n, h) :: da => by
    have ih := strKs_dk da
    unfold dk names at ih ⊢
    simp only [List.map_cons, strKs, ih]
    rfl
theorem sortD {s : S} {fr : D} {da : Fair} (h : isD s fr da) (hz : da.length < 64) : bSortD [fr] s = some (.lst ((srtS (names da)).map fun x => .p (.str x)), s) := by
  have h' : viD s fr = some (dk da, dv da) := h
  have hl : (names da).length < 64 := by unfold names; rw [List.length_map]; exact hz
  simp only [bSortD, h', Option.bind, strKs_dk, hl, if_true]
theorem srt_mem {da : Fair} {t : Str} : t ∈ srtS (names da) ↔ t ∈ names da := (srtS_perm (names da)).mem_iff
end K77

set_option Elab.async false
set_option linter.all false
set_option maxRecDepth 100000
set_option maxHeartbeats 2000000
namespace K77
open PySem Mo
def tD (t : Str) : D := .p (.str t)
/-- whether the trader's holding fits the side -/
def uF (x : Side) (cur : Fair) (t : Str) : Bool := match found cur t with
  | some k => fits x k
  | none => false
def uS (ox : Option Side) (t0 : Str) (cur : Fair) (t : Str) : Bool := match ox with
  | none => false
  | some x => !decide (t = t0) && uF x cur t
/-- the slots of law_row -/
def ρR (K M F L lap row here nms fst nme one oth trd snd lst : Option D) : Mo.Env := [K, M, F, L, lap, row, here, nms, fst, nme, one, oth, trd, snd, lst]
theorem row_first {K M F L lap row fst nme oth trd snd lst : Option D} {s : S} {hr : D} {cur : Fair} {x : Side} {ts : List Str} (hd : isD s hr cur) (hts : ∀ t ∈ ts, t ∈ names cur) (hz : ts.length ≤ 1000) :
    eLc (sAny (eVar 7)) [12] (.nm 12) cu__law_row_1 ca__law_row_0 (ρR K M F L lap row (some hr) (some (.lst (ts.map tD))) fst nme (some (.p (pSide x))) oth trd snd lst) s = .ok (.lst ((ts.filter (uF x cur)).map tD)) s := by
  refine eLc_pure (g := tD) (u := uF x cur) (y := tD) (ok := fun _ => true) (l := ts) (by rfl) (fun _ => rfl) (fun t ht => ?_) (by omega) (fun _ _ => rfl)
  obtain ⟨k, hf⟩ := found_names (hts t ht)
  refine ⟨ρR K M F L lap row (some hr) (some (.lst (ts.map tD))) fst nme (some (.p (pSide x))) oth (some (tD t)) snd lst, rfl, fun acc => ?_, fun _ acc => rfl⟩
  have q := sub_dict (A := eVar 6) (B := eVar 12) (ρ := ρR K M F L lap row (some hr) (some (.lst (ts.map tD))) fst nme (some (.p (pSide x))) oth (some (tD t)) snd lst) (s := s ++ [.lst acc]) rfl rfl (isD_app hd) hf
  have v10 : eVar 10 (ρR K M F L lap row (some hr) (some (.lst (ts.map tD))) fst nme (some (.p (pSide x))) oth (some (tD t)) snd lst) (s ++ [.lst acc]) = .ok (.p (pSide x)) (s ++ [.lst acc]) := rfl
  unfold uF
  rw [hf]
  simp only [cu__law_row_1, tV, eF, aCons, aNil, v10, q, Out.bind_ok, List.length_cons, List.length_nil, Nat.reduceAdd, if_true, F_suits]
theorem row_second {K M F L lap row fst nme one snd lst : Option D} {s : S} {hr : D} {cur : Fair} {ox : Option Side} {t0 : Str} {ts : List Str} (hd : isD s hr cur) (hts : ∀ t ∈ ts, t ∈ names cur) (hz : ts.length ≤ 1000) :
    eLc (sAny (eVar 7)) [14] (.nm 14) cu__law_row_3 ca__law_row_2 (ρR K M F L lap row (some hr) (some (.lst (ts.map tD))) fst nme one (some (.p (optP pSide ox))) (some (tD t0)) snd lst) s = .ok (.lst ((ts.filter (uS ox t0 cur)).map tD)) s := by
  refine eLc_pure (g := tD) (u := uS ox t0 cur) (y := tD) (ok := fun _ => true) (l := ts) (by rfl) (fun _ => rfl) (fun t ht => ?_) (by omega) (fun _ _ => rfl)
  obtain ⟨k, hf⟩ := found_names (hts t ht)
  generalize hρ : ρR K M F L lap row (some hr) (some (.lst (ts.map tD))) fst nme one (some (.p (optP pSide ox))) (some (tD t0)) snd (some (tD t)) = ρ
  refine ⟨ρ, by rw [← hρ]; rfl, fun acc => ?_, fun _ acc => by rw [← hρ]; rfl⟩
  have v6 : ∀ s, eVar 6 ρ s = .ok hr s := fun s => by rw [← hρ]; rfl
  have v11 : ∀ s, eVar 11 ρ s = .ok (.p (optP pSide ox)) s := fun s => by rw [← hρ]; rfl
  have v12 : ∀ s, eVar 12 ρ s = .ok (.p (.str t0)) s := fun s => by rw [← hρ]; rfl
  have v14 : ∀ s, eVar 14 ρ s = .ok (.p (.str t)) s := fun s => by rw [← hρ]; rfl
  have q := sub_dict (A := eVar 6) (B := eVar 14) (ρ := ρ) (s := s ++ [.lst acc]) (v6 _) (v14 _) (isD_app hd) hf
  cases ox with
  | none =>
    simp only [cu__law_row_3, tAnd_, tV, eNotN, v11, Out.bind_ok]
    rfl
  | some x =>
    have v11' : ∀ s, eVar 11 ρ s = .ok (.p (pSide x)) s := fun s => v11 s
    have hu : uS (some x) t0 cur t = (!decide (t = t0) && fits x k) := by
      unfold uS uF
      rw [hf]
    rw [hu]
    have c1 : tV (eNotN (eVar 11)) ρ (s ++ [.lst acc]) = .ok true (s ++ [.lst acc]) := by
      rw [tV, eNotN, v11']
      rfl
    have c2 : tV (eOp dNe (eVar 14) (eVar 12)) ρ (s ++ [.lst acc]) = .ok (!decide (t = t0)) (s ++ [.lst acc]) := by
      simp only [tV, eOp, v14, v12, Out.bind_ok, dNe_str, ofO]
    have c3 : tV (eF 2 F__law_suits (aCons (eVar 11) (aCons (eSub (eVar 6) (eVar 14)) aNil))) ρ (s ++ [.lst acc]) = .ok (fits x k) (s ++ [.lst acc]) := by
      simp only [tV, eF, aCons, aNil, v11', q, Out.bind_ok, List.length_cons, List.length_nil, Nat.reduceAdd, if_true, F_suits]
    simp only [cu__law_row_3]
    rw [tAnd_, c1, Out.bind_ok, if_pos rfl, tAnd_, c2, Out.bind_ok]
    by_cases ht0 : t = t0
    · simp [ht0]
    · rw [decide_eq_false ht0]
      simp only [Bool.not_false, if_true, c3, Bool.true_and]
end K77

set_option Elab.async false
set_option linter.all false
set_option maxRecDepth 100000
set_option maxHeartbeats 2000000
namespace K77
open PySem Mo
theorem lst_at {ts : List Str} {v : Int} {s : S} (h0 : 0 ≤ v) (h1 : v < ts.length) : ∃ t, t ∈ ts ∧ dIx (.lst (ts.map tD)) (.p (.int v)) s = some (tD t, s) := by
  have hn : v.toNat < ts.length := by omega
  refine ⟨ts[v.toNat], List.getElem_mem hn, dIxV (atI_int h0 ?_)⟩
  rw [List.getElem?_map, List.getElem?_eq_getElem hn]
  rfl
theorem uF_some {x : Side} {cur : Fair} {t : Str} (h : uF x cur t = true) : ∃ k, found cur t = some k ∧ fits x k = true := by
  unfold uF at h
  cases hf : found cur t with
  | none => rw [hf] at h; cases h
  | some k => rw [hf] at h; exact ⟨k, rfl, h⟩
/-- a chosen deal is let -/
theorem next_some {m : Market} {o : Offer} {cur : Fair} {t u : Str} (nd : (m.offers.map (·.name)).Nodup) (ho : o ∈ m.offers) (h1 : uF o.one cur t = true) (h2 : match o.other with
    | none => u = ""
    | some x => uS (some x) t cur u = true) : ∃ e, nextD m cur ⟨o.name, t, u⟩ = some e := by
  obtain ⟨k, hf, hk⟩ := uF_some h1
  unfold nextD
  rw [show (⟨o.name, t, u⟩ : Deal).name = o.name from rfl, offerOf_nd nd ho]
  simp only [Option.bind]
  unfold nextO
  simp only [hf, hk, if_true]
  cases hoo : o.other with
  | none =>
    rw [hoo] at h2
    refine ⟨withH cur t (behind o.one k), ?_⟩
    simp only [h2, if_true] <;> rfl
  | some x =>
    rw [hoo] at h2
    have h2' : (!decide (u = t) && uF x cur u) = true := h2
    obtain ⟨q1, q2⟩ := Bool.and_eq_true_iff.mp h2'
    have q1' : ¬ u = t := by simpa using q1
    obtain ⟨k2, hf2, hk2⟩ := uF_some q2
    refine ⟨withH (withH cur u (behind x k2)) t (behind o.one k), ?_⟩
    simp only [q1', if_false, hf2, hk2, if_true] <;> rfl
/-- the first part of the loop's body: an offer is chosen -/
theorem row_pick {m : Market} {F L lap row here nms fst nme one oth trd snd lst : Option D} {s rr : S} (hk : Kn s rr) (hne : m.offers ≠ []) (hl : m.offers.length ≤ 10) :
    ∃ o s1, o ∈ m.offers ∧ Kn s1 rr ∧ bAsgP (eSub (eSub (eVar 1) (eC (.int 2))) (eF 2 F__law_cut (aCons (eVar 0) (aCons (eCa bLen (aCons (eSub (eVar 1) (eC (.int 2))) aNil)) aNil)))) (.tu (.cons (.nm 9) (.cons (.nm 10) (.cons (.nm 11) .nil)))) (ρR (some (.loc 1)) (some (.p (pMarket m))) F L lap row here nms fst nme one oth trd snd lst) s =
      .nx (ρR (some (.loc 1)) (some (.p (pMarket m))) F L lap row here nms fst (some (.p (.str o.name))) (some (.p (pSide o.one))) (some (.p (optP pSide o.other))) trd snd lst) s1 := by
  have hpos := List.length_pos_iff.mpr hne
  obtain ⟨v, s1, c1, k1, l1, u1⟩ := cut_spec (many := m.offers.length) hk (by omega) (by omega)
  have hv : v.toNat < m.offers.length := by omega
  refine ⟨m.offers[v.toNat], s1, List.getElem_mem hv, k1, ?_⟩
  generalize hρ : ρR (some (.loc 1)) (some (.p (pMarket m))) F L lap row here nms fst nme one oth trd snd lst = ρ
  have e1 : ∀ s, eSub (eVar 1) (eC (.int 2)) ρ s = .ok (.p (.tup (m.offers.map pOffer))) s := fun s => sub_ix (x := .p (pMarket m)) (y := .p (.int 2)) (s1 := s) (s2 := s) (by rw [← hρ]; rfl) rfl (ix_market2 m s)
  have e2 : eF 2 F__law_cut (aCons (eVar 0) (aCons (eCa bLen (aCons (eSub (eVar 1) (eC (.int 2))) aNil)) aNil)) ρ s = .ok (.p (.int v)) s1 := by
    have v0 : eVar 0 ρ s = .ok (.loc 1) s := by rw [← hρ]; rfl
    simp only [eF, eCa, aCons, aNil, v0, e1, Out.bind_ok, bLen_tup, List.length_map, ofO, List.length_cons, List.length_nil, Nat.reduceAdd, if_true, c1]
  have e3 : eSub (eSub (eVar 1) (eC (.int 2))) (eF 2 F__law_cut (aCons (eVar 0) (aCons (eCa bLen (aCons (eSub (eVar 1) (eC (.int 2))) aNil)) aNil))) ρ s = .ok (.p (pOffer m.offers[v.toNat])) s1 :=
    sub_ix (e1 s) e2 (dIx_n s1 l1 (by rw [List.getElem?_map, List.getElem?_eq_getElem hv]; rfl))
  rw [bAsgP, e3, Out.fl_ok, ← hρ]
  simp only [Pt.run, vi_offer, Pts.run]
  rfl
end K77

set_option Elab.async false
set_option linter.all false
set_option maxRecDepth 100000
set_option maxHeartbeats 2000000
namespace K77
open PySem Mo
/-- one of a list in a slot, chosen by the knife -/
theorem pick_lst {i : Nat} {ρ : Mo.Env} {ts : List Str} {s rr : S} (hk : Kn s rr) (hne : ts ≠ []) (hz : ts.length ≤ 1000) (h0 : ρ[0]? = some (some (.loc 1))) (hi : ρ[i]? = some (some (.lst (ts.map tD)))) :
    ∃ t s1, t ∈ ts ∧ Kn s1 rr ∧ eSub (eVar i) (eF 2 F__law_cut (aCons (eVar 0) (aCons (eCa bLen (aCons (eVar i) aNil)) aNil))) ρ s = .ok (tD t) s1 := by
  have hpos := List.length_pos_iff.mpr hne
  obtain ⟨v, s1, c1, k1, l1, u1⟩ := cut_spec (many := ts.length) hk (by omega) (by omega)
  obtain ⟨t, ht, hx⟩ := lst_at (s := s1) l1 u1
  refine ⟨t, s1, ht, k1, ?_⟩
  have v0 : ∀ s, eVar 0 ρ s = .ok (.loc 1) s := fun s => by simp only [eVar, h0]
  have vi : ∀ s, eVar i ρ s = .ok (.lst (ts.map tD)) s := fun s => by simp only [eVar, hi]
  have e2 : eF 2 F__law_cut (aCons (eVar 0) (aCons (eCa bLen (aCons (eVar i) aNil)) aNil)) ρ s = .ok (.p (.int v)) s1 := by
    simp only [eF, eCa, aCons, aNil, v0, vi, Out.bind_ok, bLen_lst, List.length_map, ofO, List.length_cons, List.length_nil, Nat.reduceAdd, if_true, c1]
  exact sub_ix (vi s) e2 hx
/-- `len(slot) > 0` -/
theorem len_gt {i : Nat} {ρ : Mo.Env} {ts : List Str} {s : S} (hi : ρ[i]? = some (some (.lst (ts.map tD)))) : tV (eOp dGt (eCa bLen (aCons (eVar i) aNil)) (eC (.int 0))) ρ s = .ok (decide (0 < ts.length)) s := by
  have vi : ∀ s, eVar i ρ s = .ok (.lst (ts.map tD)) s := fun s => by simp only [eVar, hi]
  simp only [tV, eOp, eCa, aCons, aNil, vi, Out.bind_ok, bLen_lst, List.length_map, ofO, eC, dGt_int]
  congr 1
  simp
end K77

set_option Elab.async false
set_option linter.all false
set_option maxRecDepth 100000
set_option maxHeartbeats 2000000
namespace K77
open PySem Mo
def oU (ox : Option Side) (ts : List Str) (u : Str) : Prop := match ox with
  | none => u = ""
  | some _ => u ∈ ts
/-- the other side's trader, or none -/
theorem row_other {ρ : Mo.Env} {ox : Option Side} {ts : List Str} {s rr : S} (hk : Kn s rr) (h0 : ρ[0]? = some (some (.loc 1))) (h11 : ρ[11]? = some (some (.p (optP pSide ox)))) (h13 : ρ[13]? = some (some (.lst (ts.map tD)))) (hz : ts.length ≤ 1000)
    (hne : ox.isSome = true → ts ≠ []) : ∃ (u : Str) (s1 : S), Kn s1 rr ∧ oU ox ts u ∧ eIf (tV (eIsN (eVar 11))) (eC (.str "")) (eSub (eVar 13) (eF 2 F__law_cut (aCons (eVar 0) (aCons (eCa bLen (aCons (eVar 13) aNil)) aNil)))) ρ s = .ok (tD u) s1 := by
  have v11 : ∀ s, eVar 11 ρ s = .ok (.p (optP pSide ox)) s := fun s => by simp only [eVar, h11]
  cases ox with
  | none =>
    refine ⟨"", s, hk, rfl, ?_⟩
    simp only [eIf, tV, eIsN, v11, Out.bind_ok, isN_optSide, Option.isNone, if_true, eC]
    rfl
  | some x =>
    obtain ⟨t, s1, ht, k1, e⟩ := pick_lst (i := 13) hk (hne rfl) hz h0 h13
    refine ⟨t, s1, k1, ht, ?_⟩
    simp only [eIf, tV, eIsN, v11, Out.bind_ok, isN_optSide, Option.isNone, Bool.false_eq_true, if_false, e]
/-- the deal is put at the row's end -/
theorem row_add {K M F L lap here nms fst one snd lst : Option D} {row : List Deal} {n t : Str} {ox : Option Side} {ts : List Str} {s rr : S} (hK : K = some (.loc 1)) (hsnd : snd = some (.lst (ts.map tD))) (hk : Kn s rr) (hz : ts.length ≤ 1000) (hl : row.length ≤ 1000)
    (hne : ox.isSome = true → ts ≠ []) : ∃ (u : Str) (s1 : S), Kn s1 rr ∧ oU ox ts u ∧ bSet 5 (eOp dAdd (eVar 5) (eTup (aCons (eTup (aCons (eVar 9) (aCons (eVar 12) (aCons (eIf (tV (eIsN (eVar 11))) (eC (.str "")) (eSub (eVar 13) (eF 2 F__law_cut (aCons (eVar 0) (aCons (eCa bLen (aCons (eVar 13) aNil)) aNil))))) aNil)))) aNil))) (ρR K M F L lap (some (.p (pRow row))) here nms fst (some (.p (.str n))) one (some (.p (optP pSide ox))) (some (tD t)) snd lst) s =
      .nx (ρR K M F L lap (some (.p (pRow (row ++ [⟨n, t, u⟩])))) here nms fst (some (.p (.str n))) one (some (.p (optP pSide ox))) (some (tD t)) snd lst) s1 := by
  generalize hρ : ρR K M F L lap (some (.p (pRow row))) here nms fst (some (.p (.str n))) one (some (.p (optP pSide ox))) (some (tD t)) snd lst = ρ
  obtain ⟨u, s1, k1, hu, e⟩ := row_other (ρ := ρ) hk (by rw [← hρ, hK]; rfl) (by rw [← hρ]; rfl) (by rw [← hρ, hsnd]; rfl) hz hne
  refine ⟨u, s1, k1, hu, ?_⟩
  have v5 : ∀ s, eVar 5 ρ s = .ok (.p (pRow row)) s := fun s => by rw [← hρ]; rfl
  have v9 : ∀ s, eVar 9 ρ s = .ok (.p (.str n)) s := fun s => by rw [← hρ]; rfl
  have v12 : ∀ s, eVar 12 ρ s = .ok (.p (.str t)) s := fun s => by rw [← hρ]; rfl
  have z3 : (3 : Nat) ≤ sizeLine := by decide
  have z1 : (1 : Nat) ≤ sizeLine := by decide
  have hz2 : (row.map pDeal).length + 1 ≤ sizeLine := by rw [sizeLine_eq, List.length_map]; omega
  have ha : ∀ s, dAdd (.p (pRow row)) (.p (.tup [pDeal ⟨n, t, u⟩])) s = some (.p (pRow (row ++ [⟨n, t, u⟩])), s) := fun s => by
    unfold pRow
    rw [dAdd_tup _ _ _ (by rw [List.length_map]; simp; omega), List.map_append]
    rfl
  have et : eTup (aCons (eTup (aCons (eVar 9) (aCons (eVar 12) (aCons (eIf (tV (eIsN (eVar 11))) (eC (.str "")) (eSub (eVar 13) (eF 2 F__law_cut (aCons (eVar 0) (aCons (eCa bLen (aCons (eVar 13) aNil)) aNil))))) aNil)))) aNil) ρ s = .ok (.p (.tup [pDeal ⟨n, t, u⟩])) s1 := by
    simp only [eTup, aCons, aNil, v9, v12, e, Out.bind_ok, List.length_cons, List.length_nil, Nat.reduceAdd, z3, z1, if_true]
    rfl
  simp only [bSet, eOp, v5, et, Out.bind_ok, ha, ofO, Out.fl_ok]
  rw [← hρ]
  rfl
end K77

set_option Elab.async false
set_option linter.all false
set_option maxRecDepth 100000
set_option maxHeartbeats 2000000
namespace K77
open PySem Mo
theorem row_set6 {K F L lap nms fst nme one oth trd snd lst : Option D} {m : Market} {row : List Deal} {d : Deal} {hr : D} {cur e : Fair} {s : S} (hd : isD s hr cur) (hz : cur.length ≤ 1000) (hn : nextD m cur d = some e) (hl : row.length ≤ 1000) :
    bSet 6 (eF 3 F__law_next (aCons (eVar 1) (aCons (eVar 6) (aCons (eSub (eVar 5) (eOp dSub (eCa bLen (aCons (eVar 5) aNil)) (eC (.int 1)))) aNil)))) (ρR K (some (.p (pMarket m))) F L lap (some (.p (pRow (row ++ [d])))) (some hr) nms fst nme one oth trd snd lst) s =
      .nx (ρR K (some (.p (pMarket m))) F L lap (some (.p (pRow (row ++ [d])))) (some (.dK (dk e) (dv e))) nms fst nme one oth trd snd lst) s := by
  generalize hρ : ρR K (some (.p (pMarket m))) F L lap (some (.p (pRow (row ++ [d])))) (some hr) nms fst nme one oth trd snd lst = ρ
  have v1 : ∀ s, eVar 1 ρ s = .ok (.p (pMarket m)) s := fun s => by rw [← hρ]; rfl
  have v5 : ∀ s, eVar 5 ρ s = .ok (.p (pRow (row ++ [d]))) s := fun s => by rw [← hρ]; rfl
  have v6 : ∀ s, eVar 6 ρ s = .ok hr s := fun s => by rw [← hρ]; rfl
  have hlen : (((row ++ [d]).map pDeal).length : Int) - 1 = (row.length : Int) := by simp
  have e1 : eOp dSub (eCa bLen (aCons (eVar 5) aNil)) (eC (.int 1)) ρ s = .ok (.p (.int (row.length : Int))) s := by
    simp only [eOp, eCa, aCons, aNil, v5, Out.bind_ok, pRow, bLen_tup, ofO, eC, dSub_int, hlen]
  have hx : dIx (.p (pRow (row ++ [d]))) (.p (.int (row.length : Int))) s = some (.p (pDeal d), s) := by
    generalize hL : (row.length : Int) = L
    have h0 : 0 ≤ L := by omega
    have ht : L.toNat = row.length := by omega
    refine dIx_n s h0 ?_
    rw [ht]
    simp
  have e2 := sub_ix (v5 s) e1 hx
  simp only [bSet, eF, aCons, aNil, v1, v6, e2, Out.bind_ok, List.length_cons, List.length_nil, Nat.reduceAdd, if_true, F_next m d hr cur s hz hd, hn, Out.fl_ok]
  rw [← hρ]
  rfl
end K77

set_option Elab.async false
set_option linter.all false
set_option maxRecDepth 100000
set_option maxHeartbeats 2000000
namespace K77
open PySem Mo
theorem row_step {m : Market} {F L lap fst nme one oth trd snd lst : Option D} {row : List Deal} {hr : D} {cur : Fair} {ts : List Str} {s rr : S} (hk : Kn s rr) (hne : m.offers ≠ []) (hl : m.offers.length ≤ 10) (nd : (m.offers.map (·.name)).Nodup)
    (hd : isDr rr hr cur) (hc : cur.length ≤ 1000) (hts : ∀ t ∈ ts, t ∈ names cur) (hz : ts.length ≤ 1000) (hr2 : row.length ≤ 1000) :
    ∃ (row' : List Deal) (hr' : D) (cur' : Fair) (fst' nme' one' oth' trd' snd' : Option D) (s' : S), Kn s' rr ∧ isDr rr hr' cur' ∧ ((row' = row ∧ cur' = cur) ∨ (∃ d, row' = row ++ [d] ∧ nextD m cur d = some cur')) ∧
      bl__law_row_4 (ρR (some (.loc 1)) (some (.p (pMarket m))) F L lap (some (.p (pRow row))) (some hr) (some (.lst (ts.map tD))) fst nme one oth trd snd lst) s =
        .nx (ρR (some (.loc 1)) (some (.p (pMarket m))) F L lap (some (.p (pRow row'))) (some hr') (some (.lst (ts.map tD))) fst' nme' one' oth' trd' snd' lst) s' := by
  obtain ⟨o, s1, ho, k1, e1⟩ := row_pick (m := m) (F := F) (L := L) (lap := lap) (row := some (.p (pRow row))) (here := some hr) (nms := some (.lst (ts.map tD))) (fst := fst) (nme := nme) (one := one) (oth := oth) (trd := trd) (snd := snd) (lst := lst) hk hne hl
  have c1 := row_first (K := some (.loc 1)) (M := some (.p (pMarket m))) (F := F) (L := L) (lap := lap) (row := some (.p (pRow row))) (fst := fst) (nme := some (.p (.str o.name))) (oth := some (.p (optP pSide o.other))) (trd := trd) (snd := snd) (lst := lst) (x := o.one) (hd s1 k1).1 hts hz
  generalize hf1 : ts.filter (uF o.one cur) = f1 at c1
  have hf1z : f1.length ≤ 1000 := by rw [← hf1]; exact Nat.le_trans (List.length_filter_le ..) hz
  have e2 : bSet 8 (eLc (sAny (eVar 7)) [12] (.nm 12) cu__law_row_1 ca__law_row_0) (ρR (some (.loc 1)) (some (.p (pMarket m))) F L lap (some (.p (pRow row))) (some hr) (some (.lst (ts.map tD))) fst (some (.p (.str o.name))) (some (.p (pSide o.one))) (some (.p (optP pSide o.other))) trd snd lst) s1 =
      .nx (ρR (some (.loc 1)) (some (.p (pMarket m))) F L lap (some (.p (pRow row))) (some hr) (some (.lst (ts.map tD))) (some (.lst (f1.map tD))) (some (.p (.str o.name))) (some (.p (pSide o.one))) (some (.p (optP pSide o.other))) trd snd lst) s1 := by
    rw [bSet, c1, Out.fl_ok]
    rfl
  unfold bl__law_row_4
  rw [bSeq, e1, Fl.then_nx, bSeq, e2, Fl.then_nx, bIf, len_gt (i := 8) (ts := f1) rfl, Out.fl_ok]
  by_cases hf : 0 < f1.length
  · rw [if_pos (decide_eq_true hf)]
    obtain ⟨t, s2, ht, k2, e3⟩ := pick_lst (i := 8) (ts := f1) (ρ := ρR (some (.loc 1)) (some (.p (pMarket m))) F L lap (some (.p (pRow row))) (some hr) (some (.lst (ts.map tD))) (some (.lst (f1.map tD))) (some (.p (.str o.name))) (some (.p (pSide o.one))) (some (.p (optP pSide o.other))) trd snd lst) k1 (List.length_pos_iff.mp hf) hf1z rfl rfl
    have hu : uF o.one cur t = true := by rw [← hf1] at ht; exact (List.mem_filter.mp ht).2
    have e4 : bSet 12 (eSub (eVar 8) (eF 2 F__law_cut (aCons (eVar 0) (aCons (eCa bLen (aCons (eVar 8) aNil)) aNil)))) (ρR (some (.loc 1)) (some (.p (pMarket m))) F L lap (some (.p (pRow row))) (some hr) (some (.lst (ts.map tD))) (some (.lst (f1.map tD))) (some (.p (.str o.name))) (some (.p (pSide o.one))) (some (.p (optP pSide o.other))) trd snd lst) s1 =
        .nx (ρR (some (.loc 1)) (some (.p (pMarket m))) F L lap (some (.p (pRow row))) (some hr) (some (.lst (ts.map tD))) (some (.lst (f1.map tD))) (some (.p (.str o.name))) (some (.p (pSide o.one))) (some (.p (optP pSide o.other))) (some (tD t)) snd lst) s2 := by
      rw [bSet, e3, Out.fl_ok]
      rfl
    have c2 := row_second (K := some (.loc 1)) (M := some (.p (pMarket m))) (F := F) (L := L) (lap := lap) (row := some (.p (pRow row))) (fst := some (.lst (f1.map tD))) (nme := some (.p (.str o.name))) (one := some (.p (pSide o.one))) (snd := snd) (lst := lst) (ox := o.other) (t0 := t) (hd s2 k2).1 hts hz
    generalize hf2 : ts.filter (uS o.other t cur) = f2 at c2
    have hf2z : f2.length ≤ 1000 := by rw [← hf2]; exact Nat.le_trans (List.length_filter_le ..) hz
    have e5 : bSet 13 (eLc (sAny (eVar 7)) [14] (.nm 14) cu__law_row_3 ca__law_row_2) (ρR (some (.loc 1)) (some (.p (pMarket m))) F L lap (some (.p (pRow row))) (some hr) (some (.lst (ts.map tD))) (some (.lst (f1.map tD))) (some (.p (.str o.name))) (some (.p (pSide o.one))) (some (.p (optP pSide o.other))) (some (tD t)) snd lst) s2 =
        .nx (ρR (some (.loc 1)) (some (.p (pMarket m))) F L lap (some (.p (pRow row))) (some hr) (some (.lst (ts.map tD))) (some (.lst (f1.map tD))) (some (.p (.str o.name))) (some (.p (pSide o.one))) (some (.p (optP pSide o.other))) (some (tD t)) (some (.lst (f2.map tD))) lst) s2 := by
      rw [bSet, c2, Out.fl_ok]
      rfl
    generalize hρ : ρR (some (.loc 1)) (some (.p (pMarket m))) F L lap (some (.p (pRow row))) (some hr) (some (.lst (ts.map tD))) (some (.lst (f1.map tD))) (some (.p (.str o.name))) (some (.p (pSide o.one))) (some (.p (optP pSide o.other))) (some (tD t)) (some (.lst (f2.map tD))) lst = ρ at e5
    have et : tOr_ (tV (eIsN (eVar 11))) (tV (eOp dGt (eCa bLen (aCons (eVar 13) aNil)) (eC (.int 0)))) ρ s2 = .ok (o.other.isNone || decide (0 < f2.length)) s2 := by
      have v11 : eVar 11 ρ s2 = .ok (.p (optP pSide o.other)) s2 := by rw [← hρ]; rfl
      have q := len_gt (i := 13) (ρ := ρ) (ts := f2) (s := s2) (by rw [← hρ]; rfl)
      have q2 : tV (eIsN (eVar 11)) ρ s2 = .ok o.other.isNone s2 := by
        simp only [tV, eIsN, v11, Out.bind_ok, isN_optSide]
      rw [tOr_, q2, Out.bind_ok]
      cases o.other with
      | none => rfl
      | some x => rw [if_neg (by intro h; cases h), q]; rfl
    rw [bSeq, e4, Fl.then_nx, bSeq, e5, Fl.then_nx, bIf, et, Out.fl_ok]
    by_cases hb : (o.other.isNone || decide (0 < f2.length)) = true
    · rw [if_pos hb]
      obtain ⟨u, s3, k3, hou, e6⟩ := row_add (K := some (.loc 1)) (M := some (.p (pMarket m))) (F := F) (L := L) (lap := lap) (here := some hr) (nms := some (.lst (ts.map tD))) (fst := some (.lst (f1.map tD))) (one := some (.p (pSide o.one))) (snd := some (.lst (f2.map tD))) (lst := lst) (row := row) (n := o.name) (t := t) (ox := o.other) (ts := f2) rfl rfl k2 hf2z hr2 (fun h => by
        cases hoo : o.other with
        | none => rw [hoo] at h; cases h
        | some x => rw [hoo] at hb; exact List.length_pos_iff.mp (by simpa using hb))
      have hn : ∃ e, nextD m cur ⟨o.name, t, u⟩ = some e := next_some nd ho hu (by
        cases hoo : o.other with
        | none => rw [hoo] at hou; exact hou
        | some x =>
          rw [hoo] at hou hf2
          have : u ∈ f2 := hou
          rw [← hf2] at this
          exact (List.mem_filter.mp this).2)
      obtain ⟨e, hn⟩ := hn
      rw [bSeq, ← hρ, e6, Fl.then_nx, row_set6 (hd s3 k3).1 hc hn hr2]
      exact ⟨_, _, e, _, _, _, _, _, _, s3, k3, isDr_dK rr e, .inr ⟨_, rfl, hn⟩, rfl⟩
    · rw [if_neg hb, bNil, ← hρ]
      exact ⟨row, hr, cur, _, _, _, _, _, _, s2, k2, hd, .inl ⟨rfl, rfl⟩, rfl⟩
  · rw [if_neg (by simpa using hf), bNil]
    exact ⟨row, hr, cur, _, _, _, _, _, _, s1, k1, hd, .inl ⟨rfl, rfl⟩, rfl⟩
end K77

set_option Elab.async false
set_option linter.all false
set_option maxRecDepth 100000
set_option maxHeartbeats 2000000
namespace K77
open PySem Mo
structure RwI (m : Market) (da : Fair) (F : Option D) (laps : Nat) (ts : List Str) (rr : S) (l : List Nat) (ρ : Mo.Env) (s : S) : Prop where
  ex : ∃ (row : List Deal) (hr : D) (cur : Fair) (L lap fst nme one oth trd snd lst : Option D), ρ = ρR (some (.loc 1)) (some (.p (pMarket m))) F L lap (some (.p (pRow row))) (some hr) (some (.lst (ts.map tD))) fst nme one oth trd snd lst ∧
    isDr rr hr cur ∧ endD m da row = some cur ∧ row.length + l.length ≤ laps
  kn : Kn s rr
theorem row_loop {m : Market} {da : Fair} {F : Option D} {laps : Nat} {ts : List Str} {rr : S} (hne : m.offers ≠ []) (hl : m.offers.length ≤ 10) (nd : (m.offers.map (·.name)).Nodup) (hda : da.length ≤ 1000) (hts : ∀ t ∈ ts, t ∈ names da) (hz : ts.length ≤ 1000) (hlp : laps ≤ 1000)
    (l : List Nat) (ρ : Mo.Env) (s : S) (h : RwI m da F laps ts rr l ρ s) : ∃ ρ' s', forL (fun _ => true) (.nm 4) bl__law_row_4 (l.map gK) ρ s = .nx ρ' s' ∧ RwI m da F laps ts rr [] ρ' s' := by
  refine forL_rel (fun _ _ _ _ => rfl) (fun k l ρ s h => ?_) l ρ s h
  obtain ⟨⟨row, hr, cur, L, lap, fst, nme, one, oth, trd, snd, lst, rfl, hd, he, hn⟩, hk⟩ := h
  rw [List.length_cons] at hn
  have hnm := names_end he
  have hcl : cur.length ≤ 1000 := by
    have := congrArg List.length hnm
    unfold names at this
    simp only [List.length_map] at this
    omega
  obtain ⟨row', hr', cur', fst', nme', one', oth', trd', snd', s', k', d', hor, e⟩ := row_step (F := F) (L := L) (lap := some (gK k)) (fst := fst) (nme := nme) (one := one) (oth := oth) (trd := trd) (snd := snd) (lst := lst) (row := row) hk hne hl nd hd hcl (fun t ht => by rw [hnm]; exact hts t ht) hz (by omega)
  refine ⟨_, _, s', rfl, e, ⟨row', hr', cur', L, some (gK k), fst', nme', one', oth', trd', snd', lst, rfl, d', ?_, ?_⟩, k'⟩
  · rcases hor with ⟨rfl, rfl⟩ | ⟨d, rfl, hx⟩
    · exact he
    · rw [endD_app he]; exact hx
  · rcases hor with ⟨rfl, rfl⟩ | ⟨d, rfl, hx⟩
    · omega
    · rw [List.length_append]; simp; omega
end K77

set_option Elab.async false
set_option linter.all false
set_option maxRecDepth 100000
set_option maxHeartbeats 2000000
namespace K77
open PySem Mo
theorem viT_mk3 (a : P) (b : D) (c : List D) : viT (mkT [.p a, b, .lst c]) = some [.p a, b, .lst c] := by
  cases b <;> rfl
theorem row_spec {m : Market} {da : Fair} {fr : D} {laps : Nat} {s rr : S} (hk : Kn s rr) (hne : m.offers ≠ []) (hl : m.offers.length ≤ 10) (nd : (m.offers.map (·.name)).Nodup) (hda : da.length < 64) (hd : isDr rr fr da) (hlp : laps ≤ 1000) :
    ∃ row e s', F__law_row [.loc 1, .p (pMarket m), fr, .p (.int (laps : Nat))] s = .ok (.p (pRow row)) s' ∧ Kn s' rr ∧ endD m da row = some e ∧ row.length ≤ laps := by
  have hsort := sortD (hd s hk).1 hda
  have hI : RwI m da (some fr) laps (srtS (names da)) rr (List.range laps) (ρR (some (.loc 1)) (some (.p (pMarket m))) (some fr) (some (.p (.int (laps : Nat)))) none (some (.p (pRow []))) (some fr) (some (.lst ((srtS (names da)).map tD))) none none none none none none none) s :=
    ⟨⟨[], fr, da, _, _, _, _, _, _, _, _, _, rfl, hd, endD_nil .., by simp⟩, hk⟩
  obtain ⟨ρ', s', e4, ⟨⟨row, hr, cur, L, lap, fst, nme, one, oth, trd, snd, lst, rfl, hd', he, hn⟩, hk'⟩⟩ := row_loop hne hl nd (by omega) (fun t ht => srt_mem.mp ht) (by
    have := (srtS_perm (names da)).length_eq
    unfold names at this
    rw [List.length_map] at this
    unfold names
    omega) hlp _ _ _ hI
  refine ⟨row, cur, s', ?_, hk', he, by simpa using hn⟩
  generalize hL : ((laps : Nat) : Int) = L at e4 ⊢
  have hLt : L.toNat = laps := by omega
  have hcond : -(2 ^ 62 : Int) ≤ L ∧ L < 2 ^ 62 := by omega
  have hrg : rgD 0 1 laps = (List.range laps).map gK := rfl
  have z3 : (3 : Nat) ≤ sizeLine := by decide
  have z0 : (0 : Nat) ≤ sizeLine := by decide
  have e1 : bAsgP (eTup (aCons (eTup aNil) (aCons (eVar 2) (aCons (eCa bSortD (aCons (eVar 2) aNil)) aNil)))) (.tu (.cons (.nm 5) (.cons (.nm 6) (.cons (.nm 7) .nil)))) (ρR (some (.loc 1)) (some (.p (pMarket m))) (some fr) (some (.p (.int L))) none none none none none none none none none none none) s =
      .nx (ρR (some (.loc 1)) (some (.p (pMarket m))) (some fr) (some (.p (.int L))) none (some (.p (pRow []))) (some fr) (some (.lst ((srtS (names da)).map tD))) none none none none none none none) s := by
    generalize hρ : ρR (some (.loc 1)) (some (.p (pMarket m))) (some fr) (some (.p (.int L))) none none none none none none none none none none none = ρ
    have v2 : ∀ s, eVar 2 ρ s = .ok fr s := fun s => by rw [← hρ]; rfl
    simp only [bAsgP, eTup, aCons, aNil, v2, eCa, hsort, ofO, Out.bind_ok, List.length_cons, List.length_nil, Nat.reduceAdd, z3, z0, if_true, mkT_nil, Out.fl_ok, Pt.run, viT_mk3]
    rw [← hρ]
    rfl
  have e3 : sRng1 (aCons (eVar 3) aNil) (ρR (some (.loc 1)) (some (.p (pMarket m))) (some fr) (some (.p (.int L))) none (some (.p (pRow []))) (some fr) (some (.lst ((srtS (names da)).map tD))) none none none none none none none) s = .ok ⟨(List.range laps).map gK, fun _ => true⟩ s := by
    generalize hρ : ρR (some (.loc 1)) (some (.p (pMarket m))) (some fr) (some (.p (.int L))) none (some (.p (pRow []))) (some fr) (some (.lst ((srtS (names da)).map tD))) none none none none none none none = ρ
    have v3 : ∀ s, eVar 3 ρ s = .ok (.p (.int L)) s := fun s => by rw [← hρ]; rfl
    rw [sRng1_ok (L := L) (s1 := s) (by simp only [aCons, aNil, v3, Out.bind_ok]) (by omega) (by omega), hLt]
    rfl
  have hB : b__law_row (ρR (some (.loc 1)) (some (.p (pMarket m))) (some fr) (some (.p (.int L))) none none none none none none none none none none none) s = .rt (.p (pRow row)) s' := by
    unfold b__law_row
    rw [bSeq, e1, Fl.then_nx, bSeq, bFor, e3, Out.fl_ok, e4, Fl.then_nx]
    rfl
  have key := runF_rt (n := 4) (N := 15) (ds := [D.loc 1, .p (pMarket m), fr, .p (.int L)]) rfl rfl hB
  rw [fin_kn hk hk'] at key
  exact key
end K77

set_option Elab.async false
set_option linter.all false
set_option maxRecDepth 100000
set_option maxHeartbeats 0
namespace K77
open PySem Mo
def W__law_asked (x_knife x_market x_many x_laps x_places : D) (s : S) (R : D → S → Prop) (E : Xc → S → Prop) : Prop :=
  vW (rgOf [x_many]) fun k2 => vFor k2 () (s ++ [.dK [] []]) (fun d3 (y4 : Unit) t5 nx6 bk7 => vO (dSb x_market (.p (.int 0)) t5) (fun d8 s9 => vO (dSb x_market (.p (.int 0)) s9) (fun d10 s11 => vO (bLen [d10] s11) (fun d12 s13 => wO (F__law_cut [x_knife, d12] s13) (fun d14 s15 => vO (dSb d8 d14 s15) (fun d16 s17 => wO (F__law_edge [x_knife, (.p (.int 5)), (.p (.int 6))] s17) (fun d18 s19 => vO (bStr [d3] s19) (fun d20 s21 => vO (dAdd (.p (.str "v")) d20 s21) (fun d22 s23 => vP (putA (.loc s.length) d22 (mkT [d16, d18]) s23) fun s24 => nx6 () s24))) E)) E)))) (fun y25 s26 => vO (bSortD [(.loc s.length)] s26) (fun d38 s39 => vW (wkOf s39 d38) fun k40 => vLc k40 s39 (fun d28 t29 j30 => vC true (fun j31 => vO (dSb (.loc s.length) d28 t29) (fun d34 s35 => vO (dAdd (mkT [d28]) d34 s35) (fun d36 s37 => j31 d36 s37))) (fun _ => j30 none t29) (fun d32 t33 => j30 (some d32) t33)) (fun d41 s42 => vO (bTup [d41] s42) (fun d43 s44 => wO (F__law_row [x_knife, x_market, (.loc s.length), x_laps] s44) (fun d46 s47 => wO (F__law_end [x_market, (.loc s.length), d46] s47) (fun d49 s50 => wO (F__law_cut [x_knife, x_many] s50) (fun d52 s53 => vO (bStr [d52] s53) (fun d54 s55 => vO (dAdd (.p (.str "v")) d54 s55) (fun d56 s57 => vO (dSb d49 d56 s57) (fun d58 s59 => vO (bLen [d46] s59) (fun d60 s61 => vO (bMin2 [d60, x_places] s61) (fun d62 s63 => vW (rgOf [d62]) fun k64 => vFor k64 () s63 (fun d65 (y66 : Unit) t67 nx68 bk69 => vO (bLen [d46] t67) (fun d71 s72 => vO (dLe d71 x_places s72) (fun d73 s74 => vBl d73 fun b75 => vC b75 (fun j76 => j76 d65 s74) (fun j76 => vO (bLen [d46] s74) (fun d77 s78 => wO (F__law_cut [x_knife, d77] s78) (fun d79 s80 => j76 d79 s80) E)) (fun d81 s82 => vI d81 fun i84 => vO (dSl d46 none (some i84) s82) (fun d85 s86 => vO (dAdd d81 (.p (.int 1)) s86) (fun d87 s88 => vI d87 fun i89 => vO (dSl d46 (some i89) none s88) (fun d90 s91 => vO (dAdd d85 d90 s91) (fun d92 s93 => wO (F__law_has [x_market, (.loc s.length), d92, d58] s93) (fun d94 s95 => vBl d94 fun b96 => wO (F_is_needed [x_market, d43, d46, d81, d58] s95) (fun d97 s98 => wO (F__law_same [d97, (.p (.bl (!b96)))] s98) (fun d99 s100 => vBl d99 fun b101 => if (!b101) = true then (R (.p (.bl false)) s100) else (nx68 () s100)) E) E) E)))))))) (fun y102 s103 => wO (F__law_stays [x_market, (.loc s.length), d46, d58] s103) (fun d105 s106 => wO (F_needed_row [x_market, d43, d46, d58] s106) (fun d107 s108 => wO (F__law_same [d107, d105] s108) (fun d109 s110 => vBl d109 fun b111 => if (!b111) = true then (R (.p (.bl false)) s110) else (wO (F_row_fault [x_market, d43, d105] s110) (fun d112 s113 => wO (F_comes_behind [x_market, d43, d105, d58] s113) (fun d114 s115 => wO (F__law_same [(mkT [d112, d114]), (mkT [(.p .non), (.p (.bl true))])] s115) (fun d116 s117 => vBl d116 fun b118 => if (!b118) = true then (R (.p (.bl false)) s117) else (vO (bLen [d105] s117) (fun d119 s120 => vO (bMin2 [d119, (.p (.int 4))] s120) (fun d121 s122 => vW (rgOf [d121]) fun k123 => vFor k123 () s122 (fun d124 (y125 : Unit) t126 nx127 bk128 => vI d124 fun i130 => vO (dSl d105 none (some i130) t126) (fun d131 s132 => vO (dAdd d124 (.p (.int 1)) s132) (fun d133 s134 => vI d133 fun i135 => vO (dSl d105 (some i135) none s134) (fun d136 s137 => vO (dAdd d131 d136 s137) (fun d138 s139 => wO (F__law_has [x_market, (.loc s.length), d138, d58] s139) (fun d140 s141 => vBl d140 fun b142 => wO (F_is_needed [x_market, d43, d105, d124, d58] s141) (fun d143 s144 => wO (F__law_same [d143, (.p (.bl (!b142)))] s144) (fun d145 s146 => vBl d145 fun b147 => if (!b147) = true then (R (.p (.bl false)) s146) else (nx127 () s146)) E) E) E))))) (fun y148 s149 => R (.p (.bl true)) s149))))) E) E) E)) E) E) E))))))) E) E) E))))
theorem w__law_asked {x_knife x_market x_many x_laps x_places : D} {s : S} {Q : D → S → Prop} {E : Xc → S → Prop} (h : W__law_asked x_knife x_market x_many x_laps x_places s (fun d t => Q (fin s d t).1 (fin s d t).2) E) : wO (F__law_asked [x_knife, x_market, x_many, x_laps, x_places] s) Q E := by
  have der : VB (γ := Empty) [some x_knife, some x_market, some x_many, some x_laps, some x_places, none, none, none, none, none, none, none, none, none, none, none] b__law_asked (fun _ : Unit => List.replicate ([some x_knife, some x_market, some x_many, some x_laps, some x_places, none, none, none, none, none, none, none, none, none, none, none] : Mo.Env).length none) (fun x => nomatch x) _ := (vb_set ve_dnew fun q1 => (vb_for (fl' := fun y154 : Unit => [some x_knife, some x_market, some x_many, some x_laps, some x_places, some q1, none, none, none, none, none, none, none, none, none, none]) (b0 := ()) (vs_rng1 (va_cons (ve_var rfl) va_nil)) (.s (.s (.s (.s (.s (.s (.n (.n (.n (.n (.n (.n (.n (.n (.n (.n .nil)))))))))))))))) (fun _ => vg_nm) (fun y154 z155 => (vb_one (vb_put (ve_tup (va_cons (ve_sub (ve_sub (ve_var rfl) ve_c) (ve_call (va_cons (ve_var rfl) (va_cons (ve_ca (va_cons (ve_sub (ve_var rfl) ve_c) va_nil)) va_nil)))) (va_cons (ve_call (va_cons (ve_var rfl) (va_cons ve_c (va_cons ve_c va_nil)))) va_nil))) (ve_var rfl) (ve_op ve_c (ve_ca (va_cons (ve_var rfl) va_nil))) (vb_end (x := ()) (.s (.s (.s (.s (.s (.s (.n (.n (.n (.n (.n (.n (.n (.n (.n (.n .nil)))))))))))))))))))) fun y154 => (vb_set (ve_ca (va_cons (ve_lc (vs_any (ve_ca (va_cons (ve_var rfl) va_nil))) vg_nm (fun _ => ve_tTrue) (fun _ => (ve_op (ve_tup (va_cons (ve_var rfl) va_nil)) (ve_sub (ve_var rfl) (ve_var rfl))))) va_nil)) fun q27 => (vb_set (ve_call (va_cons (ve_var rfl) (va_cons (ve_var rfl) (va_cons (ve_var rfl) (va_cons (ve_var rfl) va_nil))))) fun q45 => (vb_set (ve_call (va_cons (ve_var rfl) (va_cons (ve_var rfl) (va_cons (ve_var rfl) va_nil)))) fun q48 => (vb_set (ve_sub (ve_var rfl) (ve_op ve_c (ve_ca (va_cons (ve_call (va_cons (ve_var rfl) (va_cons (ve_var rfl) va_nil))) va_nil)))) fun q51 => (vb_for (fl' := fun y152 : Unit => [some x_knife, some x_market, some x_many, some x_laps, some x_places, some q1, none, some q27, some q45, some q48, some q51, none, none, none, none, none]) (b0 := ()) (vs_rng1 (va_cons (ve_ca (va_cons (ve_ca (va_cons (ve_var rfl) va_nil)) (va_cons (ve_var rfl) va_nil))) va_nil)) (.s (.s (.s (.s (.s (.s (.n (.s (.s (.s (.s (.n (.n (.n (.n (.n .nil)))))))))))))))) (fun _ => vg_nm) (fun y152 z153 => (vb_set (ve_if (ve_tV (ve_op (ve_ca (va_cons (ve_var rfl) va_nil)) (ve_var rfl))) (ve_var rfl) (ve_call (va_cons (ve_var rfl) (va_cons (ve_ca (va_cons (ve_var rfl) va_nil)) va_nil)))) fun q70 => (vb_set (ve_not (ve_call (va_cons (ve_var rfl) (va_cons (ve_var rfl) (va_cons (ve_op (ve_sl (ve_var rfl) vp_no (vp_so (ve_var rfl))) (ve_sl (ve_var rfl) (vp_so (ve_op (ve_var rfl) ve_c)) vp_no)) (va_cons (ve_var rfl) va_nil)))))) fun q83 => (vb_one (vb_ifR (f0 := fun x => nomatch x) (ve_tNot (ve_tV (ve_call (va_cons (ve_call (va_cons (ve_var rfl) (va_cons (ve_var rfl) (va_cons (ve_var rfl) (va_cons (ve_var rfl) (va_cons (ve_var rfl) va_nil)))))) (va_cons (ve_var rfl) va_nil))))) (vb_one (vb_ret ve_c)) (vb_end (x := ()) (.s (.s (.s (.s (.s (.s (.n (.s (.s (.s (.s (.n (.n (.n (.n (.n .nil)))))))))))))))))))))) fun y152 => (vb_set (ve_call (va_cons (ve_var rfl) (va_cons (ve_var rfl) (va_cons (ve_var rfl) (va_cons (ve_var rfl) va_nil))))) fun q104 => (vb_ifR (f0 := fun x => nomatch x) (ve_tNot (ve_tV (ve_call (va_cons (ve_call (va_cons (ve_var rfl) (va_cons (ve_var rfl) (va_cons (ve_var rfl) (va_cons (ve_var rfl) va_nil))))) (va_cons (ve_var rfl) va_nil))))) (vb_one (vb_ret ve_c)) (vb_ifR (f0 := fun x => nomatch x) (ve_tNot (ve_tV (ve_call (va_cons (ve_tup (va_cons (ve_call (va_cons (ve_var rfl) (va_cons (ve_var rfl) (va_cons (ve_var rfl) va_nil)))) (va_cons (ve_call (va_cons (ve_var rfl) (va_cons (ve_var rfl) (va_cons (ve_var rfl) (va_cons (ve_var rfl) va_nil))))) va_nil))) (va_cons (ve_tup (va_cons ve_c (va_cons ve_c va_nil))) va_nil))))) (vb_one (vb_ret ve_c)) (vb_for (fl' := fun y150 : Unit => [some x_knife, some x_market, some x_many, some x_laps, some x_places, some q1, none, some q27, some q45, some q48, some q51, none, some q104, none, none, none]) (b0 := ()) (vs_rng1 (va_cons (ve_ca (va_cons (ve_ca (va_cons (ve_var rfl) va_nil)) (va_cons ve_c va_nil))) va_nil)) (.s (.s (.s (.s (.s (.s (.n (.s (.s (.s (.s (.n (.s (.n (.n (.n .nil)))))))))))))))) (fun _ => vg_nm) (fun y150 z151 => (vb_set (ve_not (ve_call (va_cons (ve_var rfl) (va_cons (ve_var rfl) (va_cons (ve_op (ve_sl (ve_var rfl) vp_no (vp_so (ve_var rfl))) (ve_sl (ve_var rfl) (vp_so (ve_op (ve_var rfl) ve_c)) vp_no)) (va_cons (ve_var rfl) va_nil)))))) fun q129 => (vb_one (vb_ifR (f0 := fun x => nomatch x) (ve_tNot (ve_tV (ve_call (va_cons (ve_callK va_nil (va_cons (ve_var rfl) (va_cons (ve_var rfl) (va_cons (ve_var rfl) (va_cons (ve_var rfl) (va_cons (ve_var rfl) va_nil)))))) (va_cons (ve_var rfl) va_nil))))) (vb_one (vb_ret ve_c)) (vb_end (x := ()) (.s (.s (.s (.s (.s (.s (.n (.s (.s (.s (.s (.n (.s (.n (.n (.n .nil))))))))))))))))))))) fun y150 => (vb_one (vb_ret ve_c)))))))))))))
  exact vf_run (n := 5) (N := 16) rfl rfl der h
def W_law (x_script : D) (s : S) (R : D → S → Prop) (E : Xc → S → Prop) : Prop :=
  wO (F__law_knife [x_script] s) (fun d2 s3 => vW (rgOf [(.p (.int 3))]) fun k4 => vFor k4 () s3 (fun d5 (y6 : Unit) t7 nx8 bk9 => wO (F__law_market [d2] t7) (fun d10 s11 => vO (dAdd (.p (.int 6)) d5 s11) (fun d12 s13 => wO (F__law_edge [d2, d12, (.p (.int 5))] s13) (fun d14 s15 => vO (dAdd (.p (.int 1)) d14 s15) (fun d16 s17 => vO (dAdd (.p (.int 9)) d5 s17) (fun d18 s19 => wO (F__law_edge [d2, d18, (.p (.int 9))] s19) (fun d20 s21 => vO (dAdd (.p (.int 2)) d20 s21) (fun d22 s23 => wO (F__law_asked [d2, d10, d16, d22, (.p (.int 12))] s23) (fun d24 s25 => vBl d24 fun b26 => if (!b26) = true then (R (.p (.bl false)) s25) else (nx8 () s25)) E)) E))) E)) E) (fun y27 s28 => vI (.p (.int 1)) fun i30 => vT (mkT [(mkT [(mkT [(.p (.str "x")), (.p (.str "a")), (.p (.int 0))]), (mkT [(.p (.str "y")), (.p (.str "a")), (.p (.int 0))])]), (mkT [(.p (.str "up")), (.p (.str "x")), (.p (.str ""))]), (mkT [(.p (.str "down")), (.p (.str "x")), (.p (.str ""))])]) fun l32 => vH l32 fun x_fair l33 => vH l33 fun x_up l34 => vH l34 fun x_down l35 => vN l35 fun _ => wO (F_needed_row [(mkT [(mkT [(.p (.str "a"))]), (mkT [(mkT [(.p (.str "a")), (.p (.int 0))])]), (mkT [(mkT [(.p (.str "down")), (mkT [(.p (.str "a")), (.p (.int 1)), (.p .non), (.p (.str "a")), (.p (.int (-i30)))]), (.p .non)]), (mkT [(.p (.str "up")), (mkT [(.p (.str "a")), (.p (.int 0)), (.p .non), (.p (.str "a")), (.p (.int 1))]), (.p .non)])])]), x_fair, (mkT [x_up, (mkT [(.p (.str "up")), (.p (.str "y")), (.p (.str ""))])]), (mkT [(.p (.str "a")), (.p (.int 1))])] s28) (fun d37 s38 => wO (F_needed_row [(mkT [(mkT [(.p (.str "a"))]), (mkT [(mkT [(.p (.str "a")), (.p (.int 0))])]), (mkT [(mkT [(.p (.str "down")), (mkT [(.p (.str "a")), (.p (.int 1)), (.p .non), (.p (.str "a")), (.p (.int (-i30)))]), (.p .non)]), (mkT [(.p (.str "up")), (mkT [(.p (.str "a")), (.p (.int 0)), (.p .non), (.p (.str "a")), (.p (.int 1))]), (.p .non)])])]), x_fair, (mkT [x_up, x_down, x_up, (mkT [(.p (.str "up")), (.p (.str "y")), (.p (.str ""))])]), (mkT [(.p (.str "a")), (.p (.int 1))])] s38) (fun d39 s40 => wO (F_needed_row [(mkT [(mkT [(.p (.str "a"))]), (mkT [(mkT [(.p (.str "a")), (.p (.int 0))])]), (mkT [(mkT [(.p (.str "down")), (mkT [(.p (.str "a")), (.p (.int 1)), (.p .non), (.p (.str "a")), (.p (.int (-i30)))]), (.p .non)]), (mkT [(.p (.str "up")), (mkT [(.p (.str "a")), (.p (.int 0)), (.p .non), (.p (.str "a")), (.p (.int 1))]), (.p .non)])])]), x_fair, (mkT [x_up, x_up, x_down]), (mkT [(.p (.str "a")), (.p (.int 0))])] s40) (fun d41 s42 => wO (F__law_same [(mkT [d37, d39, d41]), (mkT [(mkT [x_up]), (mkT [x_up, x_down, x_up]), (mkT [])])] s42) (fun d43 s44 => vBl d43 fun b45 => if (!b45) = true then (R (.p (.bl false)) s44) else (wO (F_is_needed [(mkT [(mkT [(.p (.str "a"))]), (mkT [(mkT [(.p (.str "a")), (.p (.int 0))])]), (mkT [(mkT [(.p (.str "down")), (mkT [(.p (.str "a")), (.p (.int 1)), (.p .non), (.p (.str "a")), (.p (.int (-i30)))]), (.p .non)]), (mkT [(.p (.str "up")), (mkT [(.p (.str "a")), (.p (.int 0)), (.p .non), (.p (.str "a")), (.p (.int 1))]), (.p .non)])])]), x_fair, (mkT [x_up, x_down]), (.p (.int 0)), (mkT [(.p (.str "a")), (.p (.int 0))])] s44) (fun d46 s47 => wO (F_is_needed [(mkT [(mkT [(.p (.str "a"))]), (mkT [(mkT [(.p (.str "a")), (.p (.int 0))])]), (mkT [(mkT [(.p (.str "down")), (mkT [(.p (.str "a")), (.p (.int 1)), (.p .non), (.p (.str "a")), (.p (.int (-i30)))]), (.p .non)]), (mkT [(.p (.str "up")), (mkT [(.p (.str "a")), (.p (.int 0)), (.p .non), (.p (.str "a")), (.p (.int 1))]), (.p .non)])])]), x_fair, (mkT [x_up, x_up]), (.p (.int 0)), (mkT [(.p (.str "a")), (.p (.int 2))])] s47) (fun d48 s49 => wO (F_is_needed [(mkT [(mkT [(.p (.str "a"))]), (mkT [(mkT [(.p (.str "a")), (.p (.int 0))])]), (mkT [(mkT [(.p (.str "down")), (mkT [(.p (.str "a")), (.p (.int 1)), (.p .non), (.p (.str "a")), (.p (.int (-i30)))]), (.p .non)]), (mkT [(.p (.str "up")), (mkT [(.p (.str "a")), (.p (.int 0)), (.p .non), (.p (.str "a")), (.p (.int 1))]), (.p .non)])])]), x_fair, (mkT [x_up, x_up]), (.p (.int 1)), (mkT [(.p (.str "a")), (.p (.int 0))])] s49) (fun d50 s51 => wO (F__law_same [(mkT [d46, d48, d50]), (mkT [(.p (.bl true)), (.p (.bl true)), (.p (.bl false))])] s51) (fun d52 s53 => vBl d52 fun b54 => if (!b54) = true then (R (.p (.bl false)) s53) else (wO (F__law_cut [d2, (.p (.int 13))] s53) (fun d55 s56 => vO (dGt d55 (.p (.int 0)) s56) (fun d57 s58 => vBl d57 fun b59 => vC b59 (fun j60 => j60 (.p (.bl true)) s58) (fun j60 => wO (F__law_market [d2] s58) (fun d61 s62 => wO (F__law_asked [d2, d61, (.p (.int 12)), (.p (.int 60)), (.p (.int 12))] s62) (fun d63 s64 => j60 d63 s64) E) E) (fun d65 s66 => R d65 s66))) E)) E) E) E) E)) E) E) E) E)) E
theorem w_law {x_script : D} {s : S} {Q : D → S → Prop} {E : Xc → S → Prop} (h : W_law x_script s (fun d t => Q (fin s d t).1 (fin s d t).2) E) : wO (F_law [x_script] s) Q E := by
  have der : VB (γ := Empty) [some x_script, none, none, none, none, none, none, none] b_law (fun _ : Unit => List.replicate ([some x_script, none, none, none, none, none, none, none] : Mo.Env).length none) (fun x => nomatch x) _ := (vb_set (ve_call (va_cons (ve_var rfl) va_nil)) fun q1 => (vb_for (fl' := fun y67 : Unit => [some x_script, some q1, none, none, none, none, none, none]) (b0 := ()) (vs_rng1 (va_cons ve_c va_nil)) (.s (.s (.n (.n (.n (.n (.n (.n .nil)))))))) (fun _ => vg_nm) (fun y67 z68 => (vb_one (vb_ifR (f0 := fun x => nomatch x) (ve_tNot (ve_tV (ve_call (va_cons (ve_var rfl) (va_cons (ve_call (va_cons (ve_var rfl) va_nil)) (va_cons (ve_op ve_c (ve_call (va_cons (ve_var rfl) (va_cons (ve_op ve_c (ve_var rfl)) (va_cons ve_c va_nil))))) (va_cons (ve_op ve_c (ve_call (va_cons (ve_var rfl) (va_cons (ve_op ve_c (ve_var rfl)) (va_cons ve_c va_nil))))) (va_cons ve_c va_nil)))))))) (vb_one (vb_ret ve_c)) (vb_end (x := ()) (.s (.s (.n (.n (.n (.n (.n (.n .nil)))))))))))) fun y67 => (vb_set (ve_tup (va_cons (ve_tup (va_cons ve_c va_nil)) (va_cons (ve_tup (va_cons (ve_tup (va_cons ve_c (va_cons ve_c va_nil))) va_nil)) (va_cons (ve_tup (va_cons (ve_tup (va_cons ve_c (va_cons (ve_tup (va_cons ve_c (va_cons ve_c (va_cons ve_c (va_cons ve_c (va_cons (ve_neg ve_c) va_nil)))))) (va_cons ve_c va_nil)))) (va_cons (ve_tup (va_cons ve_c (va_cons (ve_tup (va_cons ve_c (va_cons ve_c (va_cons ve_c (va_cons ve_c (va_cons ve_c va_nil)))))) (va_cons ve_c va_nil)))) va_nil))) va_nil)))) fun q29 => (vb_asg (ve_tup (va_cons (ve_tup (va_cons (ve_tup (va_cons ve_c (va_cons ve_c (va_cons ve_c va_nil)))) (va_cons (ve_tup (va_cons ve_c (va_cons ve_c (va_cons ve_c va_nil)))) va_nil))) (va_cons (ve_tup (va_cons ve_c (va_cons ve_c (va_cons ve_c va_nil)))) (va_cons (ve_tup (va_cons ve_c (va_cons ve_c (va_cons ve_c va_nil)))) va_nil)))) (vg_tu (vgs_cons vg_nm fun _ => (vgs_cons vg_nm fun _ => (vgs_cons vg_nm fun _ => vgs_nil)))) fun q31 => (vb_set (ve_tup (va_cons (ve_call (va_cons (ve_var rfl) (va_cons (ve_var rfl) (va_cons (ve_tup (va_cons (ve_var rfl) (va_cons (ve_tup (va_cons ve_c (va_cons ve_c (va_cons ve_c va_nil)))) va_nil))) (va_cons (ve_tup (va_cons ve_c (va_cons ve_c va_nil))) va_nil))))) (va_cons (ve_call (va_cons (ve_var rfl) (va_cons (ve_var rfl) (va_cons (ve_tup (va_cons (ve_var rfl) (va_cons (ve_var rfl) (va_cons (ve_var rfl) (va_cons (ve_tup (va_cons ve_c (va_cons ve_c (va_cons ve_c va_nil)))) va_nil))))) (va_cons (ve_tup (va_cons ve_c (va_cons ve_c va_nil))) va_nil))))) (va_cons (ve_call (va_cons (ve_var rfl) (va_cons (ve_var rfl) (va_cons (ve_tup (va_cons (ve_var rfl) (va_cons (ve_var rfl) (va_cons (ve_var rfl) va_nil)))) (va_cons (ve_tup (va_cons ve_c (va_cons ve_c va_nil))) va_nil))))) va_nil)))) fun q36 => (vb_ifR (f0 := fun x => nomatch x) (ve_tNot (ve_tV (ve_call (va_cons (ve_var rfl) (va_cons (ve_tup (va_cons (ve_tup (va_cons (ve_var rfl) va_nil)) (va_cons (ve_tup (va_cons (ve_var rfl) (va_cons (ve_var rfl) (va_cons (ve_var rfl) va_nil)))) (va_cons (ve_tup va_nil) va_nil)))) va_nil))))) (vb_one (vb_ret ve_c)) (vb_ifR (f0 := fun x => nomatch x) (ve_tNot (ve_tV (ve_call (va_cons (ve_tup (va_cons (ve_call (va_cons (ve_var rfl) (va_cons (ve_var rfl) (va_cons (ve_tup (va_cons (ve_var rfl) (va_cons (ve_var rfl) va_nil))) (va_cons ve_c (va_cons (ve_tup (va_cons ve_c (va_cons ve_c va_nil))) va_nil)))))) (va_cons (ve_call (va_cons (ve_var rfl) (va_cons (ve_var rfl) (va_cons (ve_tup (va_cons (ve_var rfl) (va_cons (ve_var rfl) va_nil))) (va_cons ve_c (va_cons (ve_tup (va_cons ve_c (va_cons ve_c va_nil))) va_nil)))))) (va_cons (ve_call (va_cons (ve_var rfl) (va_cons (ve_var rfl) (va_cons (ve_tup (va_cons (ve_var rfl) (va_cons (ve_var rfl) va_nil))) (va_cons ve_c (va_cons (ve_tup (va_cons ve_c (va_cons ve_c va_nil))) va_nil)))))) va_nil)))) (va_cons (ve_tup (va_cons ve_c (va_cons ve_c (va_cons ve_c va_nil)))) va_nil))))) (vb_one (vb_ret ve_c)) (vb_one (vb_ret (ve_or (ve_op (ve_call (va_cons (ve_var rfl) (va_cons ve_c va_nil))) ve_c) (ve_call (va_cons (ve_var rfl) (va_cons (ve_call (va_cons (ve_var rfl) va_nil)) (va_cons ve_c (va_cons ve_c (va_cons ve_c va_nil))))))))))))))))
  exact vf_run (n := 1) (N := 8) rfl rfl der h
end K77

set_option Elab.async false
set_option linter.all false
set_option maxRecDepth 100000
set_option maxHeartbeats 1000000
namespace K77
open PySem Mo
theorem cut_w {s r : S} {many : Int} {Q : D → S → Prop} {E : Xc → S → Prop} (hk : Kn s r) (hm : 1 ≤ many) (hm2 : many < 100000000) (h : ∀ v s', Kn s' r → 0 ≤ v → v < many → Q (.p (.int v)) s') : wO (F__law_cut [.loc 1, .p (.int many)] s) Q E := by
  obtain ⟨v, s', e, k, l, u⟩ := cut_spec hk hm hm2
  exact wO_eq e (h v s' k l u)
theorem edge_w {s r : S} {place many : Int} {Q : D → S → Prop} {E : Xc → S → Prop} (hk : Kn s r) (hm : 1 ≤ many) (hm2 : many < 100000000) (h : ∀ v s', Kn s' r → 0 ≤ v → v < many → Q (.p (.int v)) s') : wO (F__law_edge [.loc 1, .p (.int place), .p (.int many)] s) Q E := by
  obtain ⟨v, s', e, k, l, u⟩ := edge_spec (place := place) hk hm hm2
  exact wO_eq e (h v s' k l u)
def vn (k : Nat) : Str := ("v" : Str) ++ txt k
theorem vn_nd : ((List.range 12).map vn).Nodup := by decide +kernel
theorem vn_ne : ∀ k, k < 12 → vn k ≠ "" := by decide +kernel
theorem goods0 (m : Market) (s : S) : dSb (.p (pMarket m)) (.p (.int 0)) s = some (.p m.goods, s) := dSb_ix (dIx_0 _ _ s)
theorem vadd (k : Nat) (h : k < 20) (s : S) : dAdd (.p (.str "v")) (.p (.str (txt k))) s = some (.p (.str (vn k)), s) := dAdd_str _ _ _ (by
  have : (("v" : Str)).length = 1 := by decide
  have := txt_len k h
  omega)
theorem found_notin {da : Fair} {t : Str} (h : t ∉ names da) : found da t = none := by
  cases e : found da t with
  | none => rfl
  | some k => exact absurd (List.mem_map_of_mem (f := (·.1)) (found_some e)) h
/-- a new key is put -/
theorem putA_new {q : S} {n : Nat} {da : Fair} {t : Str} {h : Hd} (hn : n = q.length) (ht : t ∉ names da) (hz : da.length ≤ 1000) :
    putA (.loc n) (.p (.str t)) (.p (pHd h)) (q ++ [.dK (dk da) (dv da)]) = some (q ++ [.dK (dk (da ++ [(t, h)])) (dv (da ++ [(t, h)]))]) := by
  subst hn
  have hl : (dk da).length < sizeLine := by unfold dk; rw [List.length_map, sizeLine_eq]; omega
  have hni : (Sum.inr t : Key) ∉ dk da := fun z => by
    obtain ⟨x, hx, e⟩ := List.mem_map.mp z
    exact ht (by cases e; exact List.mem_map_of_mem hx)
  have e1 : putKs (dk da) (Sum.inr t : Key) = dk (da ++ [(t, h)]) := by unfold putKs; rw [if_neg hni]; simp [dk]
  have e2 : putDs (dk da) (dv da) (Sum.inr t : Key) (.p (pHd h)) = dv (da ++ [(t, h)]) := by unfold putDs; rw [if_neg hni]; simp [dv]
  simp [putA, putL, putD, keyD, hl, e1, e2]
theorem dSb_dict {s : S} {fr : D} {da : Fair} {t : Str} {h : Hd} (hd : isD s fr da) (hf : found da t = some h) : dSb fr (.p (.str t)) s = some (.p (pHd h), s) := by
  have hd' : viD s fr = some (dk da, dv da) := hd
  have hl := lkD_found t da
  rw [hf] at hl
  simp only [dSb, dIx_str, dGet, hd', keyD, hl, Option.map]
/-- what is told of the fair -/
def toldF (da : Fair) : Fair := (srtS (names da)).map fun t => (t, (found da t).getD ("", 0))
theorem found_map {g : Str → Hd} {t : Str} : ∀ ts : List Str, found (ts.map fun t => (t, g t)) t = if t ∈ ts then some (g t) else none
  | [] => rfl
  | u :: ts => by
    rw [List.map_cons, found_cons, found_map ts]
    by_cases e : u = t
    · subst e; simp
    · rw [if_neg e]
      by_cases h : t ∈ ts <;> simp [h, Ne.symm e]
theorem told_rl (da : Fair) : Rl (toldF da) da := fun t => by
  unfold toldF
  rw [found_map]
  by_cases h : t ∈ srtS (names da)
  · rw [if_pos h]
    obtain ⟨k, e⟩ := found_names (srt_mem.mp h)
    rw [e]; rfl
  · rw [if_neg h, found_notin fun z => h (srt_mem.mpr z)]
theorem told_names (da : Fair) : names (toldF da) = srtS (names da) := by
  unfold toldF names
  rw [List.map_map]
  exact List.map_id _
theorem told_nd {da : Fair} (nd : (names da).Nodup) : (names (toldF da)).Nodup := by
  rw [told_names]
  exact (srtS_perm _).nodup_iff.mpr nd
theorem told_len (da : Fair) : (toldF da).length = da.length := by
  have h1 := congrArg List.length (told_names da)
  have h2 := (srtS_perm (names da)).length_eq
  unfold names at h1 h2
  simp only [List.length_map] at h1 h2
  omega
theorem told_ok {da : Fair} (o : okF da) : okF (toldF da) := fun e he => by
  obtain ⟨t, ht, rfl⟩ := List.mem_map.mp he
  obtain ⟨k, ek⟩ := found_names (srt_mem.mp ht)
  simp only [ek, Option.getD]
  exact okF_found o ek
theorem isLk_app {q : S} {n : Nat} {da : Fair} (hn : n = q.length) : isD (q ++ [.dK (dk da) (dv da)]) (.loc n) da ∧ isLk (q ++ [.dK (dk da) (dv da)]) (.loc n) = true := by
  subst hn
  refine ⟨?_, ?_⟩
  · show viD _ _ = _
    simp [viD]
  · simp [isLk]
theorem isDr_cell {r : S} {n : Nat} {da : Fair} (hn : n = r.length + 2) : isDr (r ++ [.dK (dk da) (dv da)]) (.loc n) da := fun s hk => by
  obtain ⟨q, hq, rfl⟩ := hk.cut
  exact isLk_app (by rw [hn, hq.len])
/-! what stays does what is wanted -/
theorem stepS_has {m : Market} {da : Fair} {h : Hd} {b : List Deal} {i : Nat} (hb : hasB m da b h = true) : hasB m da (stepS m da h b i) h = true := by
  unfold stepS
  split
  · assumption
  · exact hb
theorem stays_has {m : Market} {da : Fair} {row : List Deal} {h : Hd} (e : hasB m da row h = true) : hasB m da (staysR m da row h) h = true := by
  have key : ∀ (n : Nat) (l : List Nat) (b : List Deal), hasB m da b h = true → hasB m da (l.foldl (fun b i => stepS m da h b (n - 1 - i)) b) h = true := by
    intro n l
    induction l with
    | nil => intro b hb; exact hb
    | cons i l ih => intro b hb; exact ih _ (stepS_has hb)
  exact key _ _ _ e
theorem stays_len (m : Market) (da : Fair) (row : List Deal) (h : Hd) : (staysR m da row h).length ≤ row.length := by
  have key : ∀ (n : Nat) (l : List Nat) (b : List Deal), (l.foldl (fun b i => stepS m da h b (n - 1 - i)) b).length ≤ b.length := by
    intro n l
    induction l with
    | nil => intro b; exact Nat.le_refl _
    | cons i l ih => intro b; exact Nat.le_trans (ih _) (stepS_len ..)
  exact key _ _ _
theorem same_b (b : Bool) (s : S) : F__law_same [.p (.bl b), .p (.bl b)] s = .ok (.p (.bl true)) s := same_refl 6 _ s (by show 0 < 6; decide) rfl
theorem gI_row (row : List Deal) (i : Nat) : ∃ d : D, d = .p (.int (i : Nat)) := ⟨_, rfl⟩
/-- a row less one deal, as the law cuts it -/
theorem cut_row {row : List Deal} {i : Nat} {s : S} {k : D → S → Prop} (hz : row.length ≤ 900) (h : k (.p (pRow (wo row i))) s) :
    vO (dSl (.p (pRow row)) none (some (i : Nat)) s) fun d1 s1 => vO (dAdd (.p (.int (i : Nat))) (.p (.int 1)) s1) fun d2 s2 => vI d2 fun j => vO (dSl (.p (pRow row)) (some j) none s2) fun d3 s3 => vO (dAdd d1 d3 s3) k := by
  have e1 := sl_to (row.map pDeal) (i := (i : Nat)) s (by omega)
  refine vO_eq e1 ?_
  rw [dAdd_int, vO_some, vI_int]
  have e2 := sl_from (row.map pDeal) (i := ((i : Nat) : Int) + 1) s (by omega)
  refine vO_eq e2 ?_
  have h1 : (((i : Nat) : Int)).toNat = i := by omega
  have h2 : (((i : Nat) : Int) + 1).toNat = i + 1 := by omega
  rw [h1, h2]
  exact vO_eq (pRow_cut row i s hz) h
theorem F_end2 (m : Market) (row : List Deal) (fr : D) (da : Fair) (s : S) (hz : da.length ≤ 1000) (hd : isD s fr da) (hk : isLk s fr = true) :
    match endD m da row with
    | none => F__law_end [.p (pMarket m), fr, .p (pRow row)] s = .ok (.p .non) s
    | some e => ∃ fr', F__law_end [.p (pMarket m), fr, .p (pRow row)] s = .ok fr' s ∧ (fr' = fr ∧ e = da ∨ fr' = .dK (dk e) (dv e)) ∧ isD s fr' e := by
  have key := forL_run (g := fun e => D.p (pDeal e)) (ok := fun _ => true) (T := (.nm 3)) (B := bl__law_end_0) (l := row)
    (stp := fun (b : Fair) (d : Deal) => match nextD m b d with
      | none => Sum.inr ()
      | some e => Sum.inl e) (I := fun b ρ s' => s' = s ∧ b.length = da.length ∧ ∃ fr' z, ρ = [some (.p (pMarket m)), some fr', some (.p (pRow row)), z] ∧ isD s fr' b ∧ (fr' = fr ∧ b = da ∨ fr' = .dK (dk b) (dv b)))
    (R := fun _ fl => fl = .rt (.p .non) s) (fun _ _ _ _ => rfl)
    (fun b d ρ s' _ h => by
      obtain ⟨rfl, hl, fr', z, rfl, hd', hk'⟩ := h
      refine ⟨[some (.p (pMarket m)), some fr', some (.p (pRow row)), some (.p (pDeal d))], rfl, ?_⟩
      have kn := F_next m d fr' b s' (by omega) hd'
      have c1 : eF 3 F__law_next (aCons (eVar 0) (aCons (eVar 1) (aCons (eVar 3) aNil))) [some (.p (pMarket m)), some fr', some (.p (pRow row)), some (.p (pDeal d))] s' = F__law_next [.p (pMarket m), fr', .p (pDeal d)] s' := by simp
      cases hn : nextD m b d with
      | none =>
        rw [hn] at kn
        simp only
        have hB : bl__law_end_0 [some (.p (pMarket m)), some fr', some (.p (pRow row)), some (.p (pDeal d))] s' = .rt (.p .non) s' := by
          simp only [bl__law_end_0, bSeq, bSet, c1, kn, Out.fl_ok, Fl.then_nx, bIf, tV, eIsN]
          simp
        rw [hB]
        exact ⟨rfl, trivial⟩
      | some e =>
        rw [hn] at kn
        simp only
        refine ⟨[some (.p (pMarket m)), some (.dK (dk e) (dv e)), some (.p (pRow row)), some (.p (pDeal d))], s', .inl ?_, rfl, by rw [nextD_len hn, hl], _, _, rfl, rfl, .inr rfl⟩
        simp only [bl__law_end_0, bSeq, bSet, c1, kn, Out.fl_ok, Fl.then_nx, bIf, tV, eIsN]
        simp)
    (b := da) (ρ := [some (.p (pMarket m)), some fr, some (.p (pRow row)), none]) (s := s) ⟨rfl, rfl, _, _, rfl, hd, .inl ⟨rfl, rfl⟩⟩
  have hv : viT (.p (pRow row)) = some (row.map fun d => .p (pDeal d)) := by simp [pRow]
  unfold endD
  cases er : runSt (fun (b : Fair) (d : Deal) => match nextD m b d with
      | none => Sum.inr ()
      | some e => Sum.inl e) da row with
  | inr u =>
    rw [er] at key
    simp only at key
    simp [F__law_end, runF, b__law_end, hv, key]
  | inl e =>
    rw [er] at key
    obtain ⟨ρ', s', h1, rfl, hl, fr', z, rfl, hd', hk'⟩ := key
    refine ⟨fr', ?_, hk', hd'⟩
    simp [F__law_end, runF, b__law_end, hv, h1, fin_isD hd']
theorem row_dpt (row : List Deal) : dpt (pRow row) < 6 := by
  have : ∀ row : List Deal, dpts (row.map pDeal) ≤ 1 := by
    intro row
    induction row with
    | nil => decide
    | cons d row ih =>
      have : dpt (pDeal d) = 1 := rfl
      rw [List.map_cons]
      show max _ _ ≤ 1
      omega
  have := this row
  show dpts (row.map pDeal) + 1 < 6
  omega
theorem row_szs {row : List Deal} (h : row.length ≤ 900) : szs (pRow row) = true := by
  have h2 : ∀ row : List Deal, szss (row.map pDeal) = true := by
    intro row
    induction row with
    | nil => rfl
    | cons d row ih =>
      rw [List.map_cons]
      show (szs (pDeal d) && szss _) = true
      rw [ih]
      rfl
  show (decide ((row.map pDeal).length ≤ 1000) && szss (row.map pDeal)) = true
  rw [h2, Bool.and_true, List.length_map]
  exact decide_eq_true (by omega)
end K77

set_option Elab.async false
set_option linter.all false
set_option maxRecDepth 100000
set_option maxHeartbeats 2000000
namespace K77
open PySem Mo
structure AkI (r : S) (n : Nat) (da : Fair) (s : S) : Prop where
  ex : ∃ q, s = q ++ [.dK (dk da) (dv da)] ∧ Kn q r
theorem asked_w {m : Market} (gm : GoodM m) {s r : S} (hk : Kn s r) {many laps : Int} (h1 : 1 ≤ many) (h2 : many ≤ 12) (h3 : 0 ≤ laps) (h4 : laps ≤ 900) {Q : D → S → Prop} {E : Xc → S → Prop} (hq : ∀ s', Kn s' r → Q (.p (.bl true)) s') :
    wO (F__law_asked [.loc 1, .p (pMarket m), .p (.int many), .p (.int laps), .p (.int 12)] s) Q E := by
  refine w__law_asked ?_
  unfold W__law_asked
  obtain ⟨many, rfl⟩ := Int.eq_ofNat_of_zero_le (by omega : 0 ≤ many)
  obtain ⟨laps, rfl⟩ := Int.eq_ofNat_of_zero_le h3
  obtain ⟨gl, g1, g2, g3, g4⟩ := gm.goods
  have hgp : 1 ≤ (gl.length : Int) := by
    have := List.length_pos_iff.mpr g1
    omega
  have hn : s.length = r.length + 2 := hk.len
  refine vW_eq (rgOf_nat (by omega)) ?_
  refine vFor_list (g := gI) (l := List.range many) rfl (fun pre suf _ t => ∃ da q, t = q ++ [.dK (dk da) (dv da)] ∧ Kn q r ∧ names da = pre.map vn ∧ okF da) (fun _ => rfl) ⟨[], s, rfl, hk, rfl, fun _ h => nomatch h⟩ ?_ ?_
  · rintro pre k suf _ t nx el ⟨da, q, rfl, hkq, hnm, oda⟩ hnx
    have hkm : k < many := List.mem_range.mp (by rw [el]; simp)
    have hk20 : k < 20 := by omega
    have hpl : da.length = pre.length := by have := congrArg List.length hnm; simpa [names] using this
    have hpm : pre.length < many := by have := congrArg List.length el; simp at this; omega
    simp only [goods0, vO_some, g3, bLen_tup, List.length_map]
    refine cut_w (hkq.app [.dK (dk da) (dv da)]) hgp (by omega) fun v1 s1 k1 l1 u1 => ?_
    obtain ⟨g, gm1, hg⟩ := strs_at (gl := gl) (n := v1.toNat) (by omega)
    refine vO_eq (dSb_ix (dIx_n s1 l1 hg)) ?_
    refine edge_w k1 (by decide) (by decide) fun v2 s2 k2 l2 u2 => ?_
    refine vO_eq (bStr_k k s2 hk20) ?_
    refine vO_eq (vadd k hk20 s2) ?_
    obtain ⟨q2, hq2, rfl⟩ := k2.cut
    have hnew : vn k ∉ names da := fun z => by
      rw [hnm] at z
      have nd : ((List.range many).map vn).Nodup := by
        have : (List.range many) = (List.range 12).take many := by rw [List.take_range]; congr 1; omega
        rw [this, List.map_take]
        exact vn_nd.sublist (List.take_sublist _ _)
      rw [el, List.map_append, List.map_cons] at nd
      exact (List.nodup_append.mp nd).2.2 _ z _ (List.mem_cons_self ..) rfl
    rw [mk_hd]
    refine vP_eq (putA_new (by rw [hn, hq2.len]) hnew (by omega)) (hnx () _ ⟨_, q2, rfl, hq2, ?_, ?_⟩)
    · simp [names] at hnm ⊢; exact hnm
    · intro e he
      rcases List.mem_append.mp he with h | h
      · exact oda e h
      · rw [List.mem_singleton.mp h]; exact g4 g gm1
  · rintro _ t ⟨da, q, rfl, hkq, hnm, oda⟩
    have nda : (names da).Nodup := by
      rw [hnm]
      have : (List.range many) = (List.range 12).take many := by rw [List.take_range]; congr 1; omega
      rw [this, List.map_take]
      exact vn_nd.sublist (List.take_sublist _ _)
    have hdl : da.length = many := by have := congrArg List.length hnm; simpa [names] using this
    have dr : isDr (r ++ [.dK (dk da) (dv da)]) (.loc s.length) da := isDr_cell hn
    have hkt := hkq.app [.dK (dk da) (dv da)]
    have fin0 : ∀ (t : S) (q' : D → S → Prop), Kn t (r ++ [.dK (dk da) (dv da)]) → (∀ s', Kn s' r → q' (.p (.bl true)) s') → q' (fin s (.p (.bl true)) t).1 (fin s (.p (.bl true)) t).2 := fun t q' ht h => by
      obtain ⟨q3, h3, rfl⟩ := ht.cut
      rw [fin_kna hk h3]
      exact h _ h3
    generalize hrr : r ++ [C.dK (dk da) (dv da)] = rr at dr hkt fin0
    generalize hL : s.length = n at dr
    generalize q ++ [C.dK (dk da) (dv da)] = t at hkt
    obtain ⟨d0, l0⟩ := dr t hkt
    refine vO_eq (sortD d0 (by omega)) ?_
    refine vW_eq rfl ?_
    refine vLc_pure (g := tD) (u := fun _ => true) (y := fun t => .p (pEn (t, (found da t).getD ("", 0)))) (l := srtS (names da)) rfl (fun _ => rfl) (fun x hx acc j hj => ?_) (by
      have := (srtS_perm (names da)).length_eq
      unfold names at this ⊢
      rw [List.length_map] at this
      omega) (fun _ _ => rfl) ?_
    · obtain ⟨k, hf⟩ := found_names (srt_mem.mp hx)
      rw [hf] at hj
      rw [vC_true]
      refine vO_eq (dSb_dict (isD_app d0) hf) ?_
      refine vO_eq (dAdd_tup [.str x] [.str k.1, .int k.2] _ (by simp)) ?_
      exact hj
    · have eF : (List.map (fun t => D.p (pEn (t, (found da t).getD ("", 0)))) (List.filter (fun _ => true) (srtS (names da)))) = ((toldF da).map pEn).map D.p := by
        rw [List.filter_eq_self.mpr fun _ _ => rfl]
        simp [toldF]
      refine vO_eq (by rw [bTup_lst, eF, mkT_map]) ?_
      generalize hf : toldF da = f
      have rl : Rl f da := hf ▸ told_rl da
      have ndf : (names f).Nodup := hf ▸ told_nd nda
      have hfl : f.length ≤ 1000 := by rw [← hf, told_len]; omega
      have okf : okF f := hf ▸ told_ok oda
      have h0 : found f "" = none := by
        rw [rl]
        refine found_notin fun z => ?_
        rw [hnm] at z
        obtain ⟨k, hk, e⟩ := List.mem_map.mp z
        exact vn_ne k (by have := List.mem_range.mp hk; omega) e
      have hfair : (D.p (.tup (f.map pEn))) = .p (pFair f) := rfl
      simp only [hfair]
      obtain ⟨row, e, t1, er, kt1, ee, hrl⟩ := row_spec hkt gm.ne gm.len gm.nd (by omega) dr (by omega : laps ≤ 1000)
      refine wO_eq er ?_
      obtain ⟨d1, l1⟩ := dr t1 kt1
      have ke := F_end2 m row (.loc n) da t1 (by omega) d1 l1
      rw [ee] at ke
      obtain ⟨fr', ke, ho, de⟩ := ke
      refine wO_eq ke ?_
      have der : isDr rr fr' e := by
        rcases ho with ⟨rfl, rfl⟩ | rfl
        · exact dr
        · exact isDr_dK rr e
      have hel : e.length = many := by
        have := congrArg List.length (names_end ee)
        unfold names at this
        simp only [List.length_map] at this
        omega
      refine cut_w kt1 h1 (by omega) fun v t2 kt2 lv uv => ?_
      obtain ⟨v, rfl⟩ := Int.eq_ofNat_of_zero_le lv
      refine vO_eq (bStr_k v t2 (by omega)) ?_
      refine vO_eq (vadd v (by omega) t2) ?_
      obtain ⟨h, hfh⟩ : ∃ h, found e (vn v) = some h := found_names (by
        rw [names_end ee, hnm]
        exact List.mem_map_of_mem (List.mem_range.mpr (by omega)))
      refine vO_eq (dSb_dict (der t2 kt2).1 hfh) ?_
      have oe : ∀ row' e', endD m da row' = some e' → okF e' := fun row' e' he => okF_endD gm.ok oda he
      have oh : okH h := okF_found (oe _ _ ee) hfh
      have hrl2 : row.length ≤ 900 := by omega
      have bl : ∀ s, bLen [.p (pRow row)] s = some (.p (.int (row.length : Nat)), s) := fun s => by simp [pRow]
      refine vO_eq (bl _) ?_
      refine vO_eq (bMin2_i _ _ _) ?_
      refine vW_eq (rgOf_int (by split <;> omega) (by split <;> omega)) ?_
      -- one place asked
      have ask : ∀ (rw_ : List Deal) (p : Nat) (t : S), rw_.length ≤ 900 → Kn t rr → ∃ b : Bool, F__law_has [.p (pMarket m), .loc n, .p (pRow (wo rw_ p)), .p (pHd h)] t = .ok (.p (.bl b)) t ∧ F_is_needed [.p (pMarket m), .p (pFair f), .p (pRow rw_), .p (.int (p : Nat)), .p (pHd h)] t = .ok (.p (.bl (!b))) t := fun rw_ p t hz hk => by
        obtain ⟨d, l⟩ := dr t hk
        refine ⟨hasB m da (wo rw_ p) h, F_has m (wo rw_ p) (.loc n) da h t (by omega) d l (oe _) oh, ?_⟩
        rw [F_needed m f rw_ p h t hz hfl gm.ok okf oh, does_eq ndf rl h0]
      refine vFor_list (g := gI) rfl (fun _ _ _ t => Kn t rr) (fun _ => rfl) kt2 ?_ ?_
      · rintro pre k suf _ t nx el hkt hnx
        have hkr : k < row.length := by
          have : k ∈ List.range ((if ((12 : Int)) < ((row.length : Nat) : Int) then (12 : Int) else ((row.length : Nat) : Int)).toNat) := by rw [el]; simp
          have := List.mem_range.mp this
          split at this <;> omega
        refine vO_eq (bl _) ?_
        rw [dLe_int, vO_some, vBl_bl]
        refine vC_join (fun d t => Kn t rr ∧ ∃ p : Nat, d = .p (.int (p : Nat))) ?_ ?_
        · rintro d t ⟨hkt, p, rfl⟩
          rw [vI_int]
          refine cut_row (s := t) (i := p) hrl2 ?_
          obtain ⟨b, e1, e2⟩ := ask row p t hrl2 hkt
          refine wO_eq e1 ?_
          rw [vBl_bl]
          refine wO_eq e2 ?_
          refine wO_eq (same_b _ _) ?_
          rw [vBl_bl, if_neg (by decide)]
          exact hnx () t hkt
        · intro k' hk'
          refine ⟨fun _ => hk' _ _ ⟨hkt, k, rfl⟩, fun _ => ?_⟩
          refine vO_eq (bl _) ?_
          refine cut_w hkt (by omega) (by omega) fun v t2 kt2 lv uv => ?_
          obtain ⟨v, rfl⟩ := Int.eq_ofNat_of_zero_le lv
          exact hk' _ _ ⟨kt2, v, rfl⟩
      · rintro _ t3 kt3
        obtain ⟨d3, l3⟩ := dr t3 kt3
        have hb0 : hasB m da row h = true := by
          unfold hasB
          rw [ee]
          exact List.any_eq_true.mpr ⟨(vn v, h), found_some hfh, decide_eq_true hfh⟩
        have hb1 := stays_has hb0
        have hsl := stays_len m da row h
        refine wO_eq (F_stays m row (.loc n) da h t3 (by omega) d3 l3 gm.ok oda oh hrl2) ?_
        refine wO_eq (F_neededrow m f row h t3 hrl2 hfl gm.ok okf oh) ?_
        rw [stays_eq ndf rl h0]
        generalize staysR m da row h = short at hb1 hsl
        have hsz : short.length ≤ 900 := by omega
        refine wO_eq (same_refl 6 _ t3 (row_dpt short) (row_szs hsz)) ?_
        rw [vBl_bl, if_neg (by decide)]
        have hrun : ∃ l, rowRun m f short 0 = .inl l ∧ comesB l h = true := by
          have k := run_eq (m := m) (row := short) (i := 0) rl h0
          have hb2 := hb1
          unfold hasB at hb2
          cases he : endD m da short with
          | none => rw [he] at hb2; cases hb2
          | some e2 =>
            rw [he] at k hb2
            obtain ⟨l, k, rl2⟩ := k
            exact ⟨l, k, (any_eq (by rw [names_run k]; exact ndf) rl2).trans hb2⟩
        obtain ⟨l, er, ec⟩ := hrun
        have eft := F_fault m f short t3 hsz hfl
        rw [er] at eft
        refine wO_eq eft ?_
        refine wO_eq (F_comes m f l short h t3 hsz hfl gm.ok okf oh er) ?_
        rw [ec]
        refine wO_eq (same_refl 6 (.tup [.non, .bl true]) t3 (by decide) (by decide)) ?_
        rw [vBl_bl, if_neg (by decide)]
        have bl2 : ∀ s, bLen [.p (pRow short)] s = some (.p (.int (short.length : Nat)), s) := fun s => by simp [pRow]
        refine vO_eq (bl2 _) ?_
        refine vO_eq (bMin2_i _ _ _) ?_
        refine vW_eq (rgOf_int (by split <;> omega) (by split <;> omega)) ?_
        refine vFor_list (g := gI) rfl (fun _ _ _ t => Kn t rr) (fun _ => rfl) kt3 ?_ ?_
        · rintro pre k suf _ t nx el hkt hnx
          show vI (.p (.int (k : Nat))) _
          rw [vI_int]
          refine cut_row (s := t) (i := k) hsz ?_
          obtain ⟨b, e1, e2⟩ := ask short k t hsz hkt
          refine wO_eq e1 ?_
          rw [vBl_bl]
          refine wO_eq e2 ?_
          refine wO_eq (same_b _ _) ?_
          rw [vBl_bl, if_neg (by decide)]
          exact hnx () t hkt
        · rintro _ t kt
          exact fin0 t Q kt hq
end K77

set_option Elab.async false
set_option linter.all false
set_option maxRecDepth 100000
set_option maxHeartbeats 2000000
namespace K77
open PySem Mo
def shopM : Market := ⟨.tup [.str "a"], .tup [.tup [.str "a", .int 0]], [⟨"down", ⟨"a", 1, none, "a", -1⟩, none⟩, ⟨"up", ⟨"a", 0, none, "a", 1⟩, none⟩]⟩
def fairS : Fair := [("x", "a", 0), ("y", "a", 0)]
def up : Deal := ⟨"up", "x", ""⟩
def upy : Deal := ⟨"up", "y", ""⟩
def dn : Deal := ⟨"down", "x", ""⟩
theorem shop_ok : okM shopM := fun o ho => by
  have : o = ⟨"down", ⟨"a", 1, none, "a", -1⟩, none⟩ ∨ o = ⟨"up", ⟨"a", 0, none, "a", 1⟩, none⟩ := by simpa [shopM] using ho
  rcases this with e | e <;> subst e <;> exact ⟨by show PyData.strOk ("a" : Str) = true; decide +kernel, fun x hx => by cases hx⟩
theorem fair_ok : okF fairS := fun e he => by
  have : e = (("x" : Str), ("a" : Str), 0) ∨ e = (("y" : Str), ("a" : Str), 0) := by simpa [fairS] using he
  rcases this with e | e <;> subst e <;> show PyData.strOk ("a" : Str) = true <;> decide +kernel
theorem hd_ok (i : Int) : okH ("a", i) := by show PyData.strOk ("a" : Str) = true; decide +kernel
theorem fin_fst (s t : S) (p : P) : (fin s (.p p) t).1 = .p p := by
  unfold fin
  split <;> rfl
theorem law_w (ns : List Int) (hz : ns.length ≤ 63) : wO (F_law [.ro (ns.map iD)] []) (fun d _ => d = .p (.bl true)) (fun _ _ => False) := by
  refine w_law ?_
  unfold W_law
  obtain ⟨s1, e1, k1⟩ := knife_spec ns hz
  refine wO_eq e1 ?_
  refine vW_eq (rgOf_nat (n := 3) (by decide)) ?_
  refine vFor_list (g := gI) rfl (fun _ _ _ t => Kn t []) (fun _ => rfl) k1 ?_ ?_
  · rintro pre k suf _ t nx el hkt hnx
    obtain ⟨m, s2, e2, k2, gm⟩ := market_spec hkt
    refine wO_eq e2 ?_
    show vO (dAdd (.p (.int 6)) (.p (.int (k : Nat))) s2) _
    rw [dAdd_int, vO_some]
    refine edge_w k2 (by decide) (by decide) fun v s3 k3 l3 u3 => ?_
    rw [dAdd_int, vO_some]
    show vO (dAdd (.p (.int 9)) (.p (.int (k : Nat))) s3) _
    rw [dAdd_int, vO_some]
    refine edge_w k3 (by decide) (by decide) fun v' s4 k4 l4 u4 => ?_
    rw [dAdd_int, vO_some]
    refine asked_w gm k4 (by omega) (by omega) (by omega) (by omega) fun s5 k5 => ?_
    rw [vBl_bl, if_neg (by decide)]
    exact hnx () s5 k5
  · rintro _ t kt
    rw [vI_int]
    refine vT_eq (ds := [.p (pFair fairS), .p (pDeal up), .p (pDeal dn)]) rfl ?_
    rw [vH_cons, vH_cons, vH_cons, vN_nil]
    have n1 : pRow (neededR shopM fairS [up, upy] ("a", 1)) = pRow [up] := by decide +kernel
    have n2 : pRow (neededR shopM fairS [up, dn, up, upy] ("a", 1)) = pRow [up, dn, up] := by decide +kernel
    have n3 : pRow (neededR shopM fairS [up, up, dn] ("a", 0)) = pRow [] := by decide +kernel
    have f1 := F_neededrow shopM fairS [up, upy] ("a", 1) t (by decide) (by decide) shop_ok fair_ok (hd_ok _)
    have f2 := F_neededrow shopM fairS [up, dn, up, upy] ("a", 1) t (by decide) (by decide) shop_ok fair_ok (hd_ok _)
    have f3 := F_neededrow shopM fairS [up, up, dn] ("a", 0) t (by decide) (by decide) shop_ok fair_ok (hd_ok _)
    rw [n1] at f1
    rw [n2] at f2
    rw [n3] at f3
    refine wO_eq f1 ?_
    refine wO_eq f2 ?_
    refine wO_eq f3 ?_
    refine wO_eq (same_refl 6 (.tup [pRow [up], pRow [up, dn, up], pRow []]) t (by decide) (by decide)) ?_
    rw [vBl_bl, if_neg (by decide)]
    have d1 : (!doesB shopM fairS (wo [up, dn] 0) ("a", 0)) = true := by decide +kernel
    have d2 : (!doesB shopM fairS (wo [up, up] 0) ("a", 2)) = true := by decide +kernel
    have d3 : (!doesB shopM fairS (wo [up, up] 1) ("a", 0)) = false := by decide +kernel
    have g1 := F_needed shopM fairS [up, dn] 0 ("a", 0) t (by decide) (by decide) shop_ok fair_ok (hd_ok _)
    have g2 := F_needed shopM fairS [up, up] 0 ("a", 2) t (by decide) (by decide) shop_ok fair_ok (hd_ok _)
    have g3 := F_needed shopM fairS [up, up] 1 ("a", 0) t (by decide) (by decide) shop_ok fair_ok (hd_ok _)
    rw [d1] at g1
    rw [d2] at g2
    rw [d3] at g3
    refine wO_eq g1 ?_
    refine wO_eq g2 ?_
    refine wO_eq g3 ?_
    refine wO_eq (same_refl 6 (.tup [.bl true, .bl true, .bl false]) t (by decide) (by decide)) ?_
    rw [vBl_bl, if_neg (by decide)]
    refine cut_w kt (by decide) (by decide) fun v s6 k6 l6 u6 => ?_
    rw [dGt_int, vO_some, vBl_bl]
    refine vC_join (fun d _ => d = .p (.bl true)) ?_ ?_
    · rintro d s rfl
      exact fin_fst _ _ _
    · intro k' hk'
      refine ⟨fun _ => hk' _ _ rfl, fun _ => ?_⟩
      obtain ⟨m, s7, e7, k7, gm⟩ := market_spec k6
      refine wO_eq e7 ?_
      exact asked_w gm k7 (by decide) (by decide) (by decide) (by decide) fun s8 _ => hk' _ _ rfl
end K77
namespace K77
open PySem Mo
theorem law_ok (ns : List Int) (hz : ns.length ≤ 63) : ∃ s, F_law [.ro (ns.map fun i => .p (.int i))] [] = .ok (.p (.bl true)) s := by
  obtain ⟨d, s, e, h⟩ := (law_w ns hz).of
  exact ⟨s, by rw [← h]; exact e⟩
end K77

set_option Elab.async false
set_option linter.all false
set_option maxRecDepth 100000
set_option maxHeartbeats 0
namespace K77
open PySem PySem.Spec PyProof.Rows L2 Mo
def top (i : Nat) : Stmt := PySem.Challenge.pw_moneyheld_k77_whole_cut_rows.main.body.getD i (.Pass ⟨0, 0, 0, 0⟩)
structure Bi (mg : Str → Option Value) : Prop where
  b_tuple : mg "tuple" = none
  b_enumerate : mg "enumerate" = none
  b_range : mg "range" = none
  b_len : mg "len" = none
  b_int : mg "int" = none
  b_abs : mg "abs" = none
  b_max : mg "max" = none
  b_str : mg "str" = none
  b_dict : mg "dict" = none
  b_sorted : mg "sorted" = none
  b_isinstance : mg "isinstance" = none
  b_all : mg "all" = none
  b_bool : mg "bool" = none
  b_min : mg "min" = none
section
variable {P : Program} {w : World} {K : PySem.W.Frag} {mg : Str → Option Value} {base : Heap} {ca : Str → Addr}
theorem sc_found_holding : FnScope ["fair", "trader", "name", "good", "money"] ["fair", "trader"] (defScope (top 4)) := ⟨rfl, rfl, rfl, by decide +kernel, rfl, by decide +kernel, by decide +kernel⟩
theorem fn_found_holding {f : Addr} {fd : FuncData} (F : FunD K "found_holding" "found_holding" (defArgs (top 4)) (defBody (top 4)) (defScope (top 4)) [] [] f fd)  : FnOk P w K mg base (L2.CX P w) 1 f fd ["fair", "trader"] (spF K ca 2 F_found_holding) := by
  refine fn_def (k := 0) (N := ["fair", "trader", "name", "good", "money"]) (B := b_found_holding) F sc_found_holding fun cdv A outer s H E o => ?_
  have hN := sc_found_holding.nd
  have hp := passes_of (X := cxOf (L2.CX P w) P w K mg base ["fair", "trader", "name", "good", "money"] "found_holding" (defScope (top 4)) f cdv A outer s H E) rfl
  exact (eb_cons (es_for hp (ei_any (ev_var 0)) (et_tup (ets_cons (et_nm 2 hN) (ets_cons (et_nm 3 hN) (ets_cons (et_nm 4 hN) ets_nil)))) (eb_one (es_if (et_eq o (ev_var 2) (ev_var 1)) (eb_one (es_ret (ev_tup (ea_cons (ev_var 3) (ea_cons (ev_var 4) ea_nil))))) eb_nil)))
   (eb_one (es_ret ev_non)))
theorem sc_with_holding : FnScope ["fair", "trader", "holding", "name", "good", "money"] ["fair", "trader", "holding"] (defScope (top 5)) := ⟨rfl, rfl, rfl, by decide +kernel, rfl, by decide +kernel, by decide +kernel⟩
theorem fn_with_holding {f : Addr} {fd : FuncData} (F : FunD K "with_holding" "with_holding" (defArgs (top 5)) (defBody (top 5)) (defScope (top 5)) [] [] f fd) (bi : Bi mg) : FnOk P w K mg base (L2.CX P w) 1 f fd ["fair", "trader", "holding"] (spF K ca 3 F_with_holding) := by
  refine fn_def (k := 0) (N := ["fair", "trader", "holding", "name", "good", "money"]) (B := b_with_holding) F sc_with_holding fun cdv A outer s H E o => ?_
  have hN := sc_with_holding.nd
  have hp := passes_of (X := cxOf (L2.CX P w) P w K mg base ["fair", "trader", "holding", "name", "good", "money"] "with_holding" (defScope (top 5)) f cdv A outer s H E) rfl
  exact (eb_one (es_ret (ev_tuplec bi.b_tuple (ea_cons (ev_lc hN (ei_any (ev_var 0)) (lc_mk (own := [("name", 3), ("good", 4), ("money", 5)]) o (blkOk_by (N := ["fair", "trader", "holding", "name", "good", "money"]) (sc := defScope (top 5)) (by decide +kernel)) (by decide) (fun _ _ _ _ _ => (et_tup (ets_cons (et_nm 3 hN) (ets_cons (et_nm 4 hN) (ets_cons (et_nm 5 hN) ets_nil))))) (fun _ _ _ _ _ o1 => ets_no) (fun _ _ _ _ _ o1 => (ev_if (et_eq o1 (ev_var 3) (ev_var 1)) (ev_add (ev_tup (ea_cons (ev_var 3) ea_nil)) (ev_var 2)) (ev_tup (ea_cons (ev_var 3) (ea_cons (ev_var 4) (ea_cons (ev_var 5) ea_nil)))))))) ea_nil))))
theorem sc_offer_of : FnScope ["market", "name", "offer"] ["market", "name"] (defScope (top 7)) := ⟨rfl, rfl, rfl, by decide +kernel, rfl, by decide +kernel, by decide +kernel⟩
theorem fn_offer_of {f : Addr} {fd : FuncData} (F : FunD K "offer_of" "offer_of" (defArgs (top 7)) (defBody (top 7)) (defScope (top 7)) [] [] f fd)  : FnOk P w K mg base (L2.CX P w) 1 f fd ["market", "name"] (spF K ca 2 F_offer_of) := by
  refine fn_def (k := 0) (N := ["market", "name", "offer"]) (B := b_offer_of) F sc_offer_of fun cdv A outer s H E o => ?_
  have hN := sc_offer_of.nd
  have hp := passes_of (X := cxOf (L2.CX P w) P w K mg base ["market", "name", "offer"] "offer_of" (defScope (top 7)) f cdv A outer s H E) rfl
  exact (eb_cons (es_for hp (ei_any (ev_subs o (ev_var 0) ev_int)) (et_nm 2 hN) (eb_one (es_if (et_eq o (ev_subs o (ev_var 2) ev_int) (ev_var 1)) (eb_one (es_ret (ev_var 2))) eb_nil)))
   (eb_one (es_ret ev_non)))
theorem sc_fits : FnScope ["side", "holding", "good", "least", "most", "after", "change"] ["side", "holding"] (defScope (top 9)) := ⟨rfl, rfl, rfl, by decide +kernel, rfl, by decide +kernel, by decide +kernel⟩
theorem fn_fits {f : Addr} {fd : FuncData} (F : FunD K "fits" "fits" (defArgs (top 9)) (defBody (top 9)) (defScope (top 9)) [] [] f fd)  : FnOk P w K mg base (L2.CX P w) 1 f fd ["side", "holding"] (spF K ca 2 F_fits) := by
  refine fn_def (k := 0) (N := ["side", "holding", "good", "least", "most", "after", "change"]) (B := b_fits) F sc_fits fun cdv A outer s H E o => ?_
  have hN := sc_fits.nd
  have hp := passes_of (X := cxOf (L2.CX P w) P w K mg base ["side", "holding", "good", "least", "most", "after", "change"] "fits" (defScope (top 9)) f cdv A outer s H E) rfl
  exact (eb_cons (es_asgP (ev_var 0) (et_tup (ets_cons (et_nm 2 hN) (ets_cons (et_nm 3 hN) (ets_cons (et_nm 4 hN) (ets_cons (et_nm 5 hN) (ets_cons (et_nm 6 hN) ets_nil)))))))
   (eb_one (es_ret (ev_and (ev_eq o (ev_subs o (ev_var 1) ev_int) (ev_var 2)) (ev_and (ev_le (ev_var 3) (ev_subs o (ev_var 1) ev_int)) (ev_one (ev_or (ev_isN (ev_var 4)) (ev_one (ev_le (ev_subs o (ev_var 1) ev_int) (ev_var 4))))))))))
theorem sc_behind : FnScope ["side", "holding"] ["side", "holding"] (defScope (top 10)) := ⟨rfl, rfl, rfl, by decide +kernel, rfl, by decide +kernel, by decide +kernel⟩
theorem fn_behind {f : Addr} {fd : FuncData} (F : FunD K "behind" "behind" (defArgs (top 10)) (defBody (top 10)) (defScope (top 10)) [] [] f fd)  : FnOk P w K mg base (L2.CX P w) 1 f fd ["side", "holding"] (spF K ca 2 F_behind) := by
  refine fn_def (k := 0) (N := ["side", "holding"]) (B := b_behind) F sc_behind fun cdv A outer s H E o => ?_
  have hN := sc_behind.nd
  have hp := passes_of (X := cxOf (L2.CX P w) P w K mg base ["side", "holding"] "behind" (defScope (top 10)) f cdv A outer s H E) rfl
  exact (eb_one (es_ret (ev_tup (ea_cons (ev_subs o (ev_var 0) ev_int) (ea_cons (ev_add (ev_subs o (ev_var 1) ev_int) (ev_subs o (ev_var 0) ev_int)) ea_nil)))))
theorem sc_other_is_wrong : FnScope ["offer", "fair", "one", "other"] ["offer", "fair", "one", "other"] (defScope (top 12)) := ⟨rfl, rfl, rfl, by decide +kernel, rfl, by decide +kernel, by decide +kernel⟩
theorem fn_other_is_wrong {f : Addr} {fd : FuncData} (F : FunD K "other_is_wrong" "other_is_wrong" (defArgs (top 12)) (defBody (top 12)) (defScope (top 12)) [] [] f fd) (c_found_holding : Callee P w K mg base ca 1 "found_holding" 2 F_found_holding) : FnOk P w K mg base (L2.CX P w) 2 f fd ["offer", "fair", "one", "other"] (spF K ca 4 F_other_is_wrong) := by
  refine fn_def (k := 1) (N := ["offer", "fair", "one", "other"]) (B := b_other_is_wrong) F sc_other_is_wrong fun cdv A outer s H E o => ?_
  have hN := sc_other_is_wrong.nd
  have hp := passes_of (X := cxOf (L2.CX P w) P w K mg base ["offer", "fair", "one", "other"] "other_is_wrong" (defScope (top 12)) f cdv A outer s H E) rfl
  exact (eb_cons (es_if (et_isN (ev_subs o (ev_var 0) ev_int)) (eb_one (es_ret (ev_ne o (ev_var 3) ev_str))) eb_nil)
   (eb_one (es_ret (ev_or (ev_eq o (ev_var 3) ev_str) (ev_or (ev_eq o (ev_var 3) (ev_var 2)) (ev_one (ev_isN (ev_call o c_found_holding (Nat.le_of_ble_eq_true rfl) (ea_cons (ev_var 1) (ea_cons (ev_var 3) ea_nil))))))))))
theorem sc_deal_word : FnScope ["market", "fair", "deal", "offer", "name", "one", "other"] ["market", "fair", "deal"] (defScope (top 13)) := ⟨rfl, rfl, rfl, by decide +kernel, rfl, by decide +kernel, by decide +kernel⟩
theorem fn_deal_word {f : Addr} {fd : FuncData} (F : FunD K "deal_word" "deal_word" (defArgs (top 13)) (defBody (top 13)) (defScope (top 13)) [] [] f fd) (c_offer_of : Callee P w K mg base ca 1 "offer_of" 2 F_offer_of) (c_found_holding : Callee P w K mg base ca 1 "found_holding" 2 F_found_holding) (c_other_is_wrong : Callee P w K mg base ca 2 "other_is_wrong" 4 F_other_is_wrong) (c_fits : Callee P w K mg base ca 1 "fits" 2 F_fits) : FnOk P w K mg base (L2.CX P w) 3 f fd ["market", "fair", "deal"] (spF K ca 3 F_deal_word) := by
  refine fn_def (k := 2) (N := ["market", "fair", "deal", "offer", "name", "one", "other"]) (B := b_deal_word) F sc_deal_word fun cdv A outer s H E o => ?_
  have hN := sc_deal_word.nd
  have hp := passes_of (X := cxOf (L2.CX P w) P w K mg base ["market", "fair", "deal", "offer", "name", "one", "other"] "deal_word" (defScope (top 13)) f cdv A outer s H E) rfl
  exact (eb_cons (es_asgP (ev_var 2) (et_tup (ets_cons (et_nm 4 hN) (ets_cons (et_nm 5 hN) (ets_cons (et_nm 6 hN) ets_nil)))))
   (eb_cons (es_set 3 hN (ev_call o c_offer_of (Nat.le_of_ble_eq_true rfl) (ea_cons (ev_var 0) (ea_cons (ev_var 4) ea_nil))))
   (eb_cons (es_if (et_isN (ev_var 3)) (eb_one (es_ret ev_str)) eb_nil)
   (eb_cons (es_if (et_isN (ev_call o c_found_holding (Nat.le_of_ble_eq_true rfl) (ea_cons (ev_var 1) (ea_cons (ev_var 5) ea_nil)))) (eb_one (es_ret ev_str)) eb_nil)
   (eb_cons (es_if (et_val (ev_call o c_other_is_wrong (Nat.le_of_ble_eq_true rfl) (ea_cons (ev_var 3) (ea_cons (ev_var 1) (ea_cons (ev_var 5) (ea_cons (ev_var 6) ea_nil)))))) (eb_one (es_ret ev_str)) eb_nil)
   (eb_cons (es_if (et_not (et_val (ev_call o c_fits (Nat.le_of_ble_eq_true rfl) (ea_cons (ev_subs o (ev_var 3) ev_int) (ea_cons (ev_call o c_found_holding (Nat.le_of_ble_eq_true rfl) (ea_cons (ev_var 1) (ea_cons (ev_var 5) ea_nil))) ea_nil))))) (eb_one (es_ret ev_str)) eb_nil)
   (eb_one (es_ret (ev_if (EvW.t (ew_or (et_eq o (ev_var 6) ev_str) (ew_or1 (et_val (ev_call o c_fits (Nat.le_of_ble_eq_true rfl) (ea_cons (ev_subs o (ev_var 3) ev_int) (ea_cons (ev_call o c_found_holding (Nat.le_of_ble_eq_true rfl) (ea_cons (ev_var 1) (ea_cons (ev_var 6) ea_nil))) ea_nil))))))) ev_non ev_str)))))))))
theorem sc_done_deal : FnScope ["market", "fair", "deal", "offer", "here", "told", "name", "one", "other"] ["market", "fair", "deal"] (defScope (top 14)) := ⟨rfl, rfl, rfl, by decide +kernel, rfl, by decide +kernel, by decide +kernel⟩
theorem fn_done_deal {f : Addr} {fd : FuncData} (F : FunD K "done_deal" "done_deal" (defArgs (top 14)) (defBody (top 14)) (defScope (top 14)) [] [] f fd) (c_offer_of : Callee P w K mg base ca 1 "offer_of" 2 F_offer_of) (c_found_holding : Callee P w K mg base ca 1 "found_holding" 2 F_found_holding) (c_with_holding : Callee P w K mg base ca 1 "with_holding" 3 F_with_holding) (c_behind : Callee P w K mg base ca 1 "behind" 2 F_behind) : FnOk P w K mg base (L2.CX P w) 2 f fd ["market", "fair", "deal"] (spF K ca 3 F_done_deal) := by
  refine fn_def (k := 1) (N := ["market", "fair", "deal", "offer", "here", "told", "name", "one", "other"]) (B := b_done_deal) F sc_done_deal fun cdv A outer s H E o => ?_
  have hN := sc_done_deal.nd
  have hp := passes_of (X := cxOf (L2.CX P w) P w K mg base ["market", "fair", "deal", "offer", "here", "told", "name", "one", "other"] "done_deal" (defScope (top 14)) f cdv A outer s H E) rfl
  exact (eb_cons (es_asgP (ev_var 2) (et_tup (ets_cons (et_nm 6 hN) (ets_cons (et_nm 7 hN) (ets_cons (et_nm 8 hN) ets_nil)))))
   (eb_cons (es_set 3 hN (ev_call o c_offer_of (Nat.le_of_ble_eq_true rfl) (ea_cons (ev_var 0) (ea_cons (ev_var 6) ea_nil))))
   (eb_cons (es_set 4 hN (ev_call o c_found_holding (Nat.le_of_ble_eq_true rfl) (ea_cons (ev_var 1) (ea_cons (ev_var 7) ea_nil))))
   (eb_cons (es_set 5 hN (ev_call o c_with_holding (Nat.le_of_ble_eq_true rfl) (ea_cons (ev_var 1) (ea_cons (ev_var 7) (ea_cons (ev_call o c_behind (Nat.le_of_ble_eq_true rfl) (ea_cons (ev_subs o (ev_var 3) ev_int) (ea_cons (ev_var 4) ea_nil))) ea_nil)))))
   (eb_one (es_ret (ev_if (et_eq o (ev_var 8) ev_str) (ev_var 5) (ev_call o c_with_holding (Nat.le_of_ble_eq_true rfl) (ea_cons (ev_var 5) (ea_cons (ev_var 8) (ea_cons (ev_call o c_behind (Nat.le_of_ble_eq_true rfl) (ea_cons (ev_subs o (ev_var 3) ev_int) (ea_cons (ev_call o c_found_holding (Nat.le_of_ble_eq_true rfl) (ea_cons (ev_var 1) (ea_cons (ev_var 8) ea_nil))) ea_nil))) ea_nil)))))))))))
theorem sc_row_walk : FnScope ["market", "fair", "row", "found", "place", "deal", "word"] ["market", "fair", "row"] (defScope (top 16)) := ⟨rfl, rfl, rfl, by decide +kernel, rfl, by decide +kernel, by decide +kernel⟩
theorem fn_row_walk {f : Addr} {fd : FuncData} (F : FunD K "row_walk" "row_walk" (defArgs (top 16)) (defBody (top 16)) (defScope (top 16)) [] [] f fd) (bi : Bi mg) (c_deal_word : Callee P w K mg base ca 3 "deal_word" 3 F_deal_word) (c_done_deal : Callee P w K mg base ca 2 "done_deal" 3 F_done_deal) (x_BadRow : ExcOk P w K mg base ca 1 "BadRow" ["place", "word"]) : FnOk P w K mg base (L2.CX P w) 4 f fd ["market", "fair", "row"] (spF K ca 3 F_row_walk) := by
  refine fn_def (k := 3) (N := ["market", "fair", "row", "found", "place", "deal", "word"]) (B := b_row_walk) F sc_row_walk fun cdv A outer s H E o => ?_
  have hN := sc_row_walk.nd
  have hp := passes_of (X := cxOf (L2.CX P w) P w K mg base ["market", "fair", "row", "found", "place", "deal", "word"] "row_walk" (defScope (top 16)) f cdv A outer s H E) rfl
  exact (eb_cons (es_set 3 hN (ev_lstC (ea_cons (ev_var 1) ea_nil)))
   (eb_cons (es_for hp (ei_enum bi.b_enumerate (ea_cons (ev_var 2) ea_nil)) (et_tup (ets_cons (et_nm 4 hN) (ets_cons (et_nm 5 hN) ets_nil))) (eb_cons (es_set 6 hN (ev_call o c_deal_word (Nat.le_of_ble_eq_true rfl) (ea_cons (ev_var 0) (ea_cons (ev_subs o (ev_var 3) (ev_neg ev_int)) (ea_cons (ev_var 5) ea_nil)))))
   (eb_cons (es_if (et_notN (ev_var 6)) (eb_one (es_raise o x_BadRow (Nat.le_of_ble_eq_true rfl) (ea_cons (ev_var 4) (ea_cons (ev_var 6) ea_nil)))) eb_nil)
   (eb_one (es_expr (ev_app (ev_var 3) (ea_cons (ev_call o c_done_deal (Nat.le_of_ble_eq_true rfl) (ea_cons (ev_var 0) (ea_cons (ev_subs o (ev_var 3) (ev_neg ev_int)) (ea_cons (ev_var 5) ea_nil)))) ea_nil)))))))
   (eb_one (es_ret (ev_var 3)))))
theorem sc_run_row : FnScope ["market", "fair", "row"] ["market", "fair", "row"] (defScope (top 17)) := ⟨rfl, rfl, rfl, by decide +kernel, rfl, by decide +kernel, by decide +kernel⟩
theorem fn_run_row {f : Addr} {fd : FuncData} (F : FunD K "run_row" "run_row" (defArgs (top 17)) (defBody (top 17)) (defScope (top 17)) [] [] f fd) (c_row_walk : Callee P w K mg base ca 4 "row_walk" 3 F_row_walk) : FnOk P w K mg base (L2.CX P w) 5 f fd ["market", "fair", "row"] (spF K ca 3 F_run_row) := by
  refine fn_def (k := 4) (N := ["market", "fair", "row"]) (B := b_run_row) F sc_run_row fun cdv A outer s H E o => ?_
  have hN := sc_run_row.nd
  have hp := passes_of (X := cxOf (L2.CX P w) P w K mg base ["market", "fair", "row"] "run_row" (defScope (top 17)) f cdv A outer s H E) rfl
  exact (eb_one (es_ret (ev_subs o (ev_call o c_row_walk (Nat.le_of_ble_eq_true rfl) (ea_cons (ev_var 0) (ea_cons (ev_var 1) (ea_cons (ev_var 2) ea_nil)))) (ev_neg ev_int))))
theorem sc_row_fault : FnScope ["market", "fair", "row", "error"] ["market", "fair", "row"] (defScope (top 18)) := ⟨rfl, rfl, rfl, by decide +kernel, rfl, by decide +kernel, by decide +kernel⟩
theorem fn_row_fault {f : Addr} {fd : FuncData} (F : FunD K "row_fault" "row_fault" (defArgs (top 18)) (defBody (top 18)) (defScope (top 18)) [] [] f fd) (c_run_row : Callee P w K mg base ca 5 "run_row" 3 F_run_row) (t_BadRow : XfC K (ca "BadRow")) (m_BadRow : mg "BadRow" = some (.ref (ca "BadRow"))) (e_BadRow_BadRow : PySem.W.exmOne K (.ref (ca "BadRow")) (.ref (ca "BadRow")) = some true) (n_BadRow_place : PySem.W.findIn K (.ref (ca "BadRow")) "place" = some none) (n_BadRow_word : PySem.W.findIn K (.ref (ca "BadRow")) "word" = some none) : FnOk P w K mg base (L2.CX P w) 6 f fd ["market", "fair", "row"] (spF K ca 3 F_row_fault) := by
  refine fn_def (k := 5) (N := ["market", "fair", "row", "error"]) (B := b_row_fault) F sc_row_fault fun cdv A outer s H E o => ?_
  have hN := sc_row_fault.nd
  have hp := passes_of (X := cxOf (L2.CX P w) P w K mg base ["market", "fair", "row", "error"] "row_fault" (defScope (top 18)) f cdv A outer s H E) rfl
  exact (eb_cons (es_tryR (i := 3) (y := "error") (x := "BadRow") (c := "BadRow") o hN rfl rfl rfl (by decide) m_BadRow (ex_of e_BadRow_BadRow) (fun W_ pn_ xe_ o2 hp2 => (eb_one (es_expr (ev_call o2 c_run_row (Nat.le_of_ble_eq_true rfl) (ea_cons (ev_var 0) (ea_cons (ev_var 1) (ea_cons (ev_var 2) ea_nil))))))) (xv_tup (xa_cons (xi_f t_BadRow n_BadRow_place) (xa_cons (xi_f t_BadRow n_BadRow_word) xa_nil))))
   (eb_one (es_ret ev_non)))
theorem sc_comes_behind : FnScope ["market", "fair", "row", "holding", "name", "good", "money"] ["market", "fair", "row", "holding"] (defScope (top 20)) := ⟨rfl, rfl, rfl, by decide +kernel, rfl, by decide +kernel, by decide +kernel⟩
theorem fn_comes_behind {f : Addr} {fd : FuncData} (F : FunD K "comes_behind" "comes_behind" (defArgs (top 20)) (defBody (top 20)) (defScope (top 20)) [] [] f fd) (c_run_row : Callee P w K mg base ca 5 "run_row" 3 F_run_row) : FnOk P w K mg base (L2.CX P w) 6 f fd ["market", "fair", "row", "holding"] (spF K ca 4 F_comes_behind) := by
  refine fn_def (k := 5) (N := ["market", "fair", "row", "holding", "name", "good", "money"]) (B := b_comes_behind) F sc_comes_behind fun cdv A outer s H E o => ?_
  have hN := sc_comes_behind.nd
  have hp := passes_of (X := cxOf (L2.CX P w) P w K mg base ["market", "fair", "row", "holding", "name", "good", "money"] "comes_behind" (defScope (top 20)) f cdv A outer s H E) rfl
  exact (eb_one (es_ret (ev_in o (ev_var 3) (ev_lc hN (ei_any (ev_call o c_run_row (Nat.le_of_ble_eq_true rfl) (ea_cons (ev_var 0) (ea_cons (ev_var 1) (ea_cons (ev_var 2) ea_nil))))) (lc_mk (own := [("name", 4), ("good", 5), ("money", 6)]) o (blkOk_by (N := ["market", "fair", "row", "holding", "name", "good", "money"]) (sc := defScope (top 20)) (by decide +kernel)) (by decide) (fun _ _ _ _ _ => (et_tup (ets_cons (et_nm 4 hN) (ets_cons (et_nm 5 hN) (ets_cons (et_nm 6 hN) ets_nil))))) (fun _ _ _ _ _ o1 => ets_no) (fun _ _ _ _ _ o1 => (ev_tup (ea_cons (ev_var 5) (ea_cons (ev_var 6) ea_nil)))))))))
theorem sc_does : FnScope ["market", "fair", "row", "holding"] ["market", "fair", "row", "holding"] (defScope (top 22)) := ⟨rfl, rfl, rfl, by decide +kernel, rfl, by decide +kernel, by decide +kernel⟩
theorem fn_does {f : Addr} {fd : FuncData} (F : FunD K "does" "does" (defArgs (top 22)) (defBody (top 22)) (defScope (top 22)) [] [] f fd) (c_row_fault : Callee P w K mg base ca 6 "row_fault" 3 F_row_fault) (c_comes_behind : Callee P w K mg base ca 6 "comes_behind" 4 F_comes_behind) : FnOk P w K mg base (L2.CX P w) 7 f fd ["market", "fair", "row", "holding"] (spF K ca 4 F_does) := by
  refine fn_def (k := 6) (N := ["market", "fair", "row", "holding"]) (B := b_does) F sc_does fun cdv A outer s H E o => ?_
  have hN := sc_does.nd
  have hp := passes_of (X := cxOf (L2.CX P w) P w K mg base ["market", "fair", "row", "holding"] "does" (defScope (top 22)) f cdv A outer s H E) rfl
  exact (eb_one (es_ret (ev_and (ev_isN (ev_call o c_row_fault (Nat.le_of_ble_eq_true rfl) (ea_cons (ev_var 0) (ea_cons (ev_var 1) (ea_cons (ev_var 2) ea_nil))))) (ev_one (ev_call o c_comes_behind (Nat.le_of_ble_eq_true rfl) (ea_cons (ev_var 0) (ea_cons (ev_var 1) (ea_cons (ev_var 2) (ea_cons (ev_var 3) ea_nil)))))))))
theorem sc_is_needed : FnScope ["market", "fair", "row", "place", "holding"] ["market", "fair", "row", "place", "holding"] (defScope (top 23)) := ⟨rfl, rfl, rfl, by decide +kernel, rfl, by decide +kernel, by decide +kernel⟩
theorem fn_is_needed {f : Addr} {fd : FuncData} (F : FunD K "is_needed" "is_needed" (defArgs (top 23)) (defBody (top 23)) (defScope (top 23)) [] [] f fd) (c_does : Callee P w K mg base ca 7 "does" 4 F_does) : FnOk P w K mg base (L2.CX P w) 8 f fd ["market", "fair", "row", "place", "holding"] (spF K ca 5 F_is_needed) := by
  refine fn_def (k := 7) (N := ["market", "fair", "row", "place", "holding"]) (B := b_is_needed) F sc_is_needed fun cdv A outer s H E o => ?_
  have hN := sc_is_needed.nd
  have hp := passes_of (X := cxOf (L2.CX P w) P w K mg base ["market", "fair", "row", "place", "holding"] "is_needed" (defScope (top 23)) f cdv A outer s H E) rfl
  exact (eb_one (es_ret (ev_not (ev_call o c_does (Nat.le_of_ble_eq_true rfl) (ea_cons (ev_var 0) (ea_cons (ev_var 1) (ea_cons (ev_add (ev_sl (ev_var 2) ep_no (ep_so (ev_var 3))) (ev_sl (ev_var 2) (ep_so (ev_add (ev_var 3) ev_int)) ep_no)) (ea_cons (ev_var 4) ea_nil))))))))
theorem sc_needed_row : FnScope ["market", "fair", "row", "holding", "kept", "place"] ["market", "fair", "row", "holding"] (defScope (top 24)) := ⟨rfl, rfl, rfl, by decide +kernel, rfl, by decide +kernel, by decide +kernel⟩
theorem fn_needed_row {f : Addr} {fd : FuncData} (F : FunD K "needed_row" "needed_row" (defArgs (top 24)) (defBody (top 24)) (defScope (top 24)) [] [] f fd) (bi : Bi mg) (c_is_needed : Callee P w K mg base ca 8 "is_needed" 5 F_is_needed) : FnOk P w K mg base (L2.CX P w) 9 f fd ["market", "fair", "row", "holding"] (spF K ca 4 F_needed_row) := by
  refine fn_def (k := 8) (N := ["market", "fair", "row", "holding", "kept", "place"]) (B := b_needed_row) F sc_needed_row fun cdv A outer s H E o => ?_
  have hN := sc_needed_row.nd
  have hp := passes_of (X := cxOf (L2.CX P w) P w K mg base ["market", "fair", "row", "holding", "kept", "place"] "needed_row" (defScope (top 24)) f cdv A outer s H E) rfl
  exact (eb_cons (es_set 4 hN (ev_tuplec bi.b_tuple (ea_cons (ev_var 2) ea_nil)))
   (eb_cons (es_for hp (ei_rng3 bi.b_range (ea_cons (ev_sub (ev_len bi.b_len (ea_cons (ev_var 2) ea_nil)) ev_int) (ea_cons (ev_neg ev_int) (ea_cons (ev_neg ev_int) ea_nil)))) (et_nm 5 hN) (eb_one (es_if (et_not (et_val (ev_call o c_is_needed (Nat.le_of_ble_eq_true rfl) (ea_cons (ev_var 0) (ea_cons (ev_var 1) (ea_cons (ev_var 4) (ea_cons (ev_var 5) (ea_cons (ev_var 3) ea_nil)))))))) (eb_one (es_set 4 hN (ev_add (ev_sl (ev_var 4) ep_no (ep_so (ev_var 5))) (ev_sl (ev_var 4) (ep_so (ev_add (ev_var 5) ev_int)) ep_no)))) eb_nil)))
   (eb_one (es_ret (ev_var 4)))))
theorem sc__law_knife : FnScope ["script", "cells", "great", "k"] ["script"] (defScope (top 26)) := ⟨rfl, rfl, rfl, by decide +kernel, rfl, by decide +kernel, by decide +kernel⟩
theorem fn__law_knife {f : Addr} {fd : FuncData} (F : FunD K "_law_knife" "_law_knife" (defArgs (top 26)) (defBody (top 26)) (defScope (top 26)) [] [] f fd) (bi : Bi mg) : FnOk P w K mg base (L2.CX P w) 1 f fd ["script"] (spF K ca 1 F__law_knife) := by
  refine fn_def (k := 0) (N := ["script", "cells", "great", "k"]) (B := b__law_knife) F sc__law_knife fun cdv A outer s H E o => ?_
  have hN := sc__law_knife.nd
  have hp := passes_of (X := cxOf (L2.CX P w) P w K mg base ["script", "cells", "great", "k"] "_law_knife" (defScope (top 26)) f cdv A outer s H E) rfl
  exact (eb_cons (es_set 1 hN (ev_add (ev_lc hN (ei_any (ev_sl (ev_var 0) ep_no (ep_so ev_int))) (lc_mk (own := [("k", 3)]) o (blkOk_by (N := ["script", "cells", "great", "k"]) (sc := defScope (top 26)) (by decide +kernel)) (by decide) (fun _ _ _ _ _ => (et_nm 3 hN)) (fun _ _ _ _ _ o1 => ets_no) (fun _ _ _ _ _ o1 => (ev_mod (ev_intc bi.b_int (ea_cons (ev_abs bi.b_abs (ea_cons (ev_intc bi.b_int (ea_cons (ev_var 3) ea_nil)) ea_nil)) ea_nil)) ev_int)))) (ev_lst (ea_cons (ev_add (ev_mod (ev_len bi.b_len (ea_cons (ev_var 0) ea_nil)) ev_int) ev_int) ea_nil))))
   (eb_cons (es_setLcC 2 hN (ei_any (ev_sl (ev_var 0) ep_no (ep_so ev_int))) (lc_mk (own := [("k", 3)]) o (blkOk_by (N := ["script", "cells", "great", "k"]) (sc := defScope (top 26)) (by decide +kernel)) (by decide) (fun _ _ _ _ _ => (et_nm 3 hN)) (fun _ _ _ _ _ o1 => (ets_one (et_ge (ev_abs bi.b_abs (ea_cons (ev_intc bi.b_int (ea_cons (ev_var 3) ea_nil)) ea_nil)) (ev_pow ev_int ev_int)))) (fun _ _ _ _ _ o1 => (ev_intc bi.b_int (ea_cons (ev_abs bi.b_abs (ea_cons (ev_intc bi.b_int (ea_cons (ev_var 3) ea_nil)) ea_nil)) ea_nil)))))
   (eb_one (es_ret (ev_lstC (ea_cons ev_int (ea_cons ev_int (ea_cons (ev_var 1) (ea_cons (ev_var 2) ea_nil)))))))))
theorem sc__law_cut : FnScope ["knife", "many", "rest"] ["knife", "many"] (defScope (top 27)) := ⟨rfl, rfl, rfl, by decide +kernel, rfl, by decide +kernel, by decide +kernel⟩
theorem fn__law_cut {f : Addr} {fd : FuncData} (F : FunD K "_law_cut" "_law_cut" (defArgs (top 27)) (defBody (top 27)) (defScope (top 27)) [] [] f fd) (bi : Bi mg) : FnOk P w K mg base (L2.CX P w) 1 f fd ["knife", "many"] (spF K ca 2 F__law_cut) := by
  refine fn_def (k := 0) (N := ["knife", "many", "rest"]) (B := b__law_cut) F sc__law_cut fun cdv A outer s H E o => ?_
  have hN := sc__law_cut.nd
  have hp := passes_of (X := cxOf (L2.CX P w) P w K mg base ["knife", "many", "rest"] "_law_cut" (defScope (top 27)) f cdv A outer s H E) rfl
  exact (eb_cons (es_or2 (es_putL (ev_add (ev_subs o (ev_var 0) ev_int) ev_int) (ev_var 0) ev_int (by exact fun _ => rfl)) (es_dput o (ev_add (ev_subs o (ev_var 0) ev_int) ev_int) (ev_var 0) ev_int))
   (eb_cons (es_if (EvW.t (ew_and (et_gt (ev_len bi.b_len (ea_cons (ev_subs o (ev_var 0) ev_int) ea_nil)) ev_int) (ew_and1 (et_gt (ev_subs o (ev_subs o (ev_var 0) ev_int) ev_int) ev_int)))) (eb_cons (es_set 2 hN (ev_intc bi.b_int (ea_cons (ev_subs o (ev_subs o (ev_var 0) ev_int) ev_int) ea_nil)))
   (eb_cons (es_or2 (es_putL (ev_div (ev_var 2) (ev_add (ev_var 1) ev_int)) (ev_subs o (ev_var 0) ev_int) ev_int (by exact fun _ => rfl)) (es_dput o (ev_div (ev_var 2) (ev_add (ev_var 1) ev_int)) (ev_subs o (ev_var 0) ev_int) ev_int))
   (eb_one (es_ret (ev_mod (ev_intc bi.b_int (ea_cons (ev_var 2) ea_nil)) (ev_var 1)))))) eb_nil)
   (eb_cons (es_or2 (es_putL (ev_mod (ev_intc bi.b_int (ea_cons (ev_add (ev_add (ev_mul (ev_subs o (ev_var 0) ev_int) ev_int) (ev_mul (ev_subs o (ev_subs o (ev_var 0) ev_int) (ev_mod (ev_subs o (ev_var 0) ev_int) (ev_len bi.b_len (ea_cons (ev_subs o (ev_var 0) ev_int) ea_nil)))) ev_int)) (ev_mul (ev_subs o (ev_var 0) ev_int) ev_int)) ea_nil)) ev_int) (ev_var 0) ev_int (by exact fun _ => rfl)) (es_dput o (ev_mod (ev_intc bi.b_int (ea_cons (ev_add (ev_add (ev_mul (ev_subs o (ev_var 0) ev_int) ev_int) (ev_mul (ev_subs o (ev_subs o (ev_var 0) ev_int) (ev_mod (ev_subs o (ev_var 0) ev_int) (ev_len bi.b_len (ea_cons (ev_subs o (ev_var 0) ev_int) ea_nil)))) ev_int)) (ev_mul (ev_subs o (ev_var 0) ev_int) ev_int)) ea_nil)) ev_int) (ev_var 0) ev_int))
   (eb_one (es_ret (ev_mod (ev_intc bi.b_int (ea_cons (ev_div (ev_subs o (ev_var 0) ev_int) ev_int) ea_nil)) (ev_var 1)))))))
theorem sc__law_edge : FnScope ["knife", "place", "many", "way"] ["knife", "place", "many"] (defScope (top 28)) := ⟨rfl, rfl, rfl, by decide +kernel, rfl, by decide +kernel, by decide +kernel⟩
theorem fn__law_edge {f : Addr} {fd : FuncData} (F : FunD K "_law_edge" "_law_edge" (defArgs (top 28)) (defBody (top 28)) (defScope (top 28)) [] [] f fd) (bi : Bi mg) (c__law_cut : Callee P w K mg base ca 1 "_law_cut" 2 F__law_cut) : FnOk P w K mg base (L2.CX P w) 2 f fd ["knife", "place", "many"] (spF K ca 3 F__law_edge) := by
  refine fn_def (k := 1) (N := ["knife", "place", "many", "way"]) (B := b__law_edge) F sc__law_edge fun cdv A outer s H E o => ?_
  have hN := sc__law_edge.nd
  have hp := passes_of (X := cxOf (L2.CX P w) P w K mg base ["knife", "place", "many", "way"] "_law_edge" (defScope (top 28)) f cdv A outer s H E) rfl
  exact (eb_cons (es_set 3 hN (ev_mod (ev_intc bi.b_int (ea_cons (ev_add (ev_div (ev_subs o (ev_subs o (ev_var 0) ev_int) (ev_mod (ev_add (ev_mul (ev_var 1) ev_int) ev_int) (ev_len bi.b_len (ea_cons (ev_subs o (ev_var 0) ev_int) ea_nil)))) ev_int) (ev_var 1)) ea_nil)) ev_int))
   (eb_cons (es_if (et_eq o (ev_var 3) ev_int) (eb_one (es_ret (ev_sub (ev_var 2) ev_int))) eb_nil)
   (eb_cons (es_if (et_eq o (ev_var 3) ev_int) (eb_one (es_ret ev_int)) eb_nil)
   (eb_one (es_ret (ev_call o c__law_cut (Nat.le_of_ble_eq_true rfl) (ea_cons (ev_var 0) (ea_cons (ev_var 2) ea_nil))))))))
theorem sc__law_side : FnScope ["knife", "goods", "least", "most", "change"] ["knife", "goods"] (defScope (top 29)) := ⟨rfl, rfl, rfl, by decide +kernel, rfl, by decide +kernel, by decide +kernel⟩
theorem fn__law_side {f : Addr} {fd : FuncData} (F : FunD K "_law_side" "_law_side" (defArgs (top 29)) (defBody (top 29)) (defScope (top 29)) [] [] f fd) (bi : Bi mg) (c__law_cut : Callee P w K mg base ca 1 "_law_cut" 2 F__law_cut) (c__law_edge : Callee P w K mg base ca 2 "_law_edge" 3 F__law_edge) : FnOk P w K mg base (L2.CX P w) 3 f fd ["knife", "goods"] (spF K ca 2 F__law_side) := by
  refine fn_def (k := 2) (N := ["knife", "goods", "least", "most", "change"]) (B := b__law_side) F sc__law_side fun cdv A outer s H E o => ?_
  have hN := sc__law_side.nd
  have hp := passes_of (X := cxOf (L2.CX P w) P w K mg base ["knife", "goods", "least", "most", "change"] "_law_side" (defScope (top 29)) f cdv A outer s H E) rfl
  exact (eb_cons (es_set 2 hN (ev_subs o (ev_tup (ea_cons ev_int (ea_cons ev_int (ea_cons ev_int (ea_cons ev_int (ea_cons ev_int ea_nil)))))) (ev_call o c__law_cut (Nat.le_of_ble_eq_true rfl) (ea_cons (ev_var 0) (ea_cons ev_int ea_nil)))))
   (eb_cons (es_set 3 hN (ev_subs o (ev_tup (ea_cons ev_non (ea_cons ev_non (ea_cons ev_non (ea_cons (ev_add (ev_var 2) ev_int) ea_nil))))) (ev_call o c__law_cut (Nat.le_of_ble_eq_true rfl) (ea_cons (ev_var 0) (ea_cons ev_int ea_nil)))))
   (eb_cons (es_set 4 hN (ev_subs o (ev_tup (ea_cons ev_int (ea_cons ev_int (ea_cons (ev_neg ev_int) (ea_cons ev_int (ea_cons (ev_neg ev_int) ea_nil)))))) (ev_call o c__law_edge (Nat.le_of_ble_eq_true rfl) (ea_cons (ev_var 0) (ea_cons ev_int (ea_cons ev_int ea_nil))))))
   (eb_one (es_ret (ev_tup (ea_cons (ev_subs o (ev_var 1) (ev_call o c__law_cut (Nat.le_of_ble_eq_true rfl) (ea_cons (ev_var 0) (ea_cons (ev_len bi.b_len (ea_cons (ev_var 1) ea_nil)) ea_nil)))) (ea_cons (ev_var 2) (ea_cons (ev_var 3) (ea_cons (ev_subs o (ev_var 1) (ev_call o c__law_cut (Nat.le_of_ble_eq_true rfl) (ea_cons (ev_var 0) (ea_cons (ev_len bi.b_len (ea_cons (ev_var 1) ea_nil)) ea_nil)))) (ea_cons (ev_max2 bi.b_max (ea_cons (ev_var 4) (ea_cons (ev_neg (ev_var 2)) ea_nil))) ea_nil)))))))))))
theorem sc__law_market : FnScope ["knife", "goods", "offers", "k"] ["knife"] (defScope (top 30)) := ⟨rfl, rfl, rfl, by decide +kernel, rfl, by decide +kernel, by decide +kernel⟩
theorem fn__law_market {f : Addr} {fd : FuncData} (F : FunD K "_law_market" "_law_market" (defArgs (top 30)) (defBody (top 30)) (defScope (top 30)) [] [] f fd) (bi : Bi mg) (c__law_edge : Callee P w K mg base ca 2 "_law_edge" 3 F__law_edge) (c__law_side : Callee P w K mg base ca 3 "_law_side" 2 F__law_side) (c__law_cut : Callee P w K mg base ca 1 "_law_cut" 2 F__law_cut) : FnOk P w K mg base (L2.CX P w) 4 f fd ["knife"] (spF K ca 1 F__law_market) := by
  refine fn_def (k := 3) (N := ["knife", "goods", "offers", "k"]) (B := b__law_market) F sc__law_market fun cdv A outer s H E o => ?_
  have hN := sc__law_market.nd
  have hp := passes_of (X := cxOf (L2.CX P w) P w K mg base ["knife", "goods", "offers", "k"] "_law_market" (defScope (top 30)) f cdv A outer s H E) rfl
  exact (eb_cons (es_set 1 hN (ev_sl (ev_tup (ea_cons ev_str (ea_cons ev_str (ea_cons ev_str ea_nil)))) ep_no (ep_so (ev_add ev_int (ev_call o c__law_edge (Nat.le_of_ble_eq_true rfl) (ea_cons (ev_var 0) (ea_cons ev_int (ea_cons ev_int ea_nil))))))))
   (eb_cons (es_set 2 hN (ev_lstC (ea_cons (ev_tup (ea_cons ev_str (ea_cons (ev_tup (ea_cons (ev_subs o (ev_var 1) ev_int) (ea_cons ev_int (ea_cons ev_non (ea_cons (ev_subs o (ev_var 1) ev_int) (ea_cons ev_int ea_nil)))))) (ea_cons ev_non ea_nil)))) ea_nil)))
   (eb_cons (es_for hp (ei_rng1 bi.b_range (ea_cons (ev_add ev_int (ev_call o c__law_edge (Nat.le_of_ble_eq_true rfl) (ea_cons (ev_var 0) (ea_cons ev_int (ea_cons ev_int ea_nil))))) ea_nil)) (et_nm 3 hN) (eb_one (es_expr (ev_app (ev_var 2) (ea_cons (ev_tup (ea_cons (ev_add ev_str (ev_strc bi.b_str (ea_cons (ev_var 3) ea_nil))) (ea_cons (ev_call o c__law_side (Nat.le_of_ble_eq_true rfl) (ea_cons (ev_var 0) (ea_cons (ev_var 1) ea_nil))) (ea_cons (ev_if (et_eq o (ev_call o c__law_cut (Nat.le_of_ble_eq_true rfl) (ea_cons (ev_var 0) (ea_cons ev_int ea_nil))) ev_int) ev_non (ev_call o c__law_side (Nat.le_of_ble_eq_true rfl) (ea_cons (ev_var 0) (ea_cons (ev_var 1) ea_nil)))) ea_nil)))) ea_nil)))))
   (eb_one (es_ret (ev_tup (ea_cons (ev_var 1) (ea_cons (ev_tup (ea_cons (ev_tup (ea_cons (ev_subs o (ev_var 1) ev_int) (ea_cons ev_int ea_nil))) ea_nil)) (ea_cons (ev_tuplec bi.b_tuple (ea_cons (ev_var 2) ea_nil)) ea_nil)))))))))
theorem sc__law_suits : FnScope ["side", "holding"] ["side", "holding"] (defScope (top 31)) := ⟨rfl, rfl, rfl, by decide +kernel, rfl, by decide +kernel, by decide +kernel⟩
theorem fn__law_suits {f : Addr} {fd : FuncData} (F : FunD K "_law_suits" "_law_suits" (defArgs (top 31)) (defBody (top 31)) (defScope (top 31)) [] [] f fd)  : FnOk P w K mg base (L2.CX P w) 1 f fd ["side", "holding"] (spF K ca 2 F__law_suits) := by
  refine fn_def (k := 0) (N := ["side", "holding"]) (B := b__law_suits) F sc__law_suits fun cdv A outer s H E o => ?_
  have hN := sc__law_suits.nd
  have hp := passes_of (X := cxOf (L2.CX P w) P w K mg base ["side", "holding"] "_law_suits" (defScope (top 31)) f cdv A outer s H E) rfl
  exact (eb_one (es_ret (ev_and (ev_eq o (ev_subs o (ev_var 0) ev_int) (ev_subs o (ev_var 1) ev_int)) (ev_and (ev_ge (ev_subs o (ev_var 1) ev_int) (ev_subs o (ev_var 0) ev_int)) (ev_one (ev_or (ev_isN (ev_subs o (ev_var 0) ev_int)) (ev_one (ev_ge (ev_subs o (ev_var 0) ev_int) (ev_subs o (ev_var 1) ev_int)))))))))
theorem sc__law_next : FnScope ["market", "fair", "deal", "name", "one", "other", "told"] ["market", "fair", "deal"] (defScope (top 32)) := ⟨rfl, rfl, rfl, by decide +kernel, rfl, by decide +kernel, by decide +kernel⟩
theorem fn__law_next {f : Addr} {fd : FuncData} (F : FunD K "_law_next" "_law_next" (defArgs (top 32)) (defBody (top 32)) (defScope (top 32)) [] [] f fd) (bi : Bi mg) (c__law_suits : Callee P w K mg base ca 1 "_law_suits" 2 F__law_suits) : FnOk P w K mg base (L2.CX P w) 2 f fd ["market", "fair", "deal"] (spF K ca 3 F__law_next) := by
  refine fn_def (k := 1) (N := ["market", "fair", "deal", "name", "one", "other", "told"]) (B := b__law_next) F sc__law_next fun cdv A outer s H E o => ?_
  have hN := sc__law_next.nd
  have hp := passes_of (X := cxOf (L2.CX P w) P w K mg base ["market", "fair", "deal", "name", "one", "other", "told"] "_law_next" (defScope (top 32)) f cdv A outer s H E) rfl
  exact (eb_cons (es_for hp (ei_any (ev_subs o (ev_var 0) ev_int)) (et_tup (ets_cons (et_nm 3 hN) (ets_cons (et_nm 4 hN) (ets_cons (et_nm 5 hN) ets_nil)))) (eb_one (es_if (et_eq o (ev_var 3) (ev_subs o (ev_var 2) ev_int)) (eb_cons (es_if (EvW.t (ew_or (et_nin o (ev_subs o (ev_var 2) ev_int) (ev_var 1)) (ew_or1 (et_not (et_val (ev_call o c__law_suits (Nat.le_of_ble_eq_true rfl) (ea_cons (ev_var 4) (ea_cons (ev_subs o (ev_var 1) (ev_subs o (ev_var 2) ev_int)) ea_nil)))))))) (eb_one (es_ret ev_non)) eb_nil)
   (eb_cons (es_set 6 hN (ev_dictc bi.b_dict (ea_cons (ev_var 1) ea_nil)))
   (eb_cons (es_if (et_notN (ev_var 5)) (eb_cons (es_if (EvW.t (ew_or (et_eq o (ev_subs o (ev_var 2) ev_int) (ev_subs o (ev_var 2) ev_int)) (ew_or (et_nin o (ev_subs o (ev_var 2) ev_int) (ev_var 1)) (ew_or1 (et_not (et_val (ev_call o c__law_suits (Nat.le_of_ble_eq_true rfl) (ea_cons (ev_var 5) (ea_cons (ev_subs o (ev_var 1) (ev_subs o (ev_var 2) ev_int)) ea_nil))))))))) (eb_one (es_ret ev_non)) eb_nil)
   (eb_one (es_or2 (es_putL (ev_tup (ea_cons (ev_subs o (ev_var 5) ev_int) (ea_cons (ev_add (ev_subs o (ev_subs o (ev_var 1) (ev_subs o (ev_var 2) ev_int)) ev_int) (ev_subs o (ev_var 5) ev_int)) ea_nil))) (ev_var 6) (ev_subs o (ev_var 2) ev_int) (by exact fun _ => rfl)) (es_dput o (ev_tup (ea_cons (ev_subs o (ev_var 5) ev_int) (ea_cons (ev_add (ev_subs o (ev_subs o (ev_var 1) (ev_subs o (ev_var 2) ev_int)) ev_int) (ev_subs o (ev_var 5) ev_int)) ea_nil))) (ev_var 6) (ev_subs o (ev_var 2) ev_int))))) (eb_one (es_if (et_ne o (ev_subs o (ev_var 2) ev_int) ev_str) (eb_one (es_ret ev_non)) eb_nil)))
   (eb_cons (es_or2 (es_putL (ev_tup (ea_cons (ev_subs o (ev_var 4) ev_int) (ea_cons (ev_add (ev_subs o (ev_subs o (ev_var 1) (ev_subs o (ev_var 2) ev_int)) ev_int) (ev_subs o (ev_var 4) ev_int)) ea_nil))) (ev_var 6) (ev_subs o (ev_var 2) ev_int) (by exact fun _ => rfl)) (es_dput o (ev_tup (ea_cons (ev_subs o (ev_var 4) ev_int) (ea_cons (ev_add (ev_subs o (ev_subs o (ev_var 1) (ev_subs o (ev_var 2) ev_int)) ev_int) (ev_subs o (ev_var 4) ev_int)) ea_nil))) (ev_var 6) (ev_subs o (ev_var 2) ev_int)))
   (eb_one (es_ret (ev_var 6))))))) eb_nil)))
   (eb_one (es_ret ev_non)))
theorem sc__law_end : FnScope ["market", "fair", "row", "deal"] ["market", "fair", "row"] (defScope (top 33)) := ⟨rfl, rfl, rfl, by decide +kernel, rfl, by decide +kernel, by decide +kernel⟩
theorem fn__law_end {f : Addr} {fd : FuncData} (F : FunD K "_law_end" "_law_end" (defArgs (top 33)) (defBody (top 33)) (defScope (top 33)) [] [] f fd) (c__law_next : Callee P w K mg base ca 2 "_law_next" 3 F__law_next) : FnOk P w K mg base (L2.CX P w) 3 f fd ["market", "fair", "row"] (spF K ca 3 F__law_end) := by
  refine fn_def (k := 2) (N := ["market", "fair", "row", "deal"]) (B := b__law_end) F sc__law_end fun cdv A outer s H E o => ?_
  have hN := sc__law_end.nd
  have hp := passes_of (X := cxOf (L2.CX P w) P w K mg base ["market", "fair", "row", "deal"] "_law_end" (defScope (top 33)) f cdv A outer s H E) rfl
  exact (eb_cons (es_for hp (ei_any (ev_var 2)) (et_nm 3 hN) (eb_cons (es_set 1 hN (ev_call o c__law_next (Nat.le_of_ble_eq_true rfl) (ea_cons (ev_var 0) (ea_cons (ev_var 1) (ea_cons (ev_var 3) ea_nil)))))
   (eb_one (es_if (et_isN (ev_var 1)) (eb_one (es_ret ev_non)) eb_nil))))
   (eb_one (es_ret (ev_var 1))))
theorem sc__law_has : FnScope ["market", "fair", "row", "holding", "end", "trader"] ["market", "fair", "row", "holding"] (defScope (top 34)) := ⟨rfl, rfl, rfl, by decide +kernel, rfl, by decide +kernel, by decide +kernel⟩
theorem fn__law_has {f : Addr} {fd : FuncData} (F : FunD K "_law_has" "_law_has" (defArgs (top 34)) (defBody (top 34)) (defScope (top 34)) [] [] f fd) (bi : Bi mg) (c__law_end : Callee P w K mg base ca 3 "_law_end" 3 F__law_end) : FnOk P w K mg base (L2.CX P w) 4 f fd ["market", "fair", "row", "holding"] (spF K ca 4 F__law_has) := by
  refine fn_def (k := 3) (N := ["market", "fair", "row", "holding", "end", "trader"]) (B := b__law_has) F sc__law_has fun cdv A outer s H E o => ?_
  have hN := sc__law_has.nd
  have hp := passes_of (X := cxOf (L2.CX P w) P w K mg base ["market", "fair", "row", "holding", "end", "trader"] "_law_has" (defScope (top 34)) f cdv A outer s H E) rfl
  exact (eb_cons (es_set 4 hN (ev_call o c__law_end (Nat.le_of_ble_eq_true rfl) (ea_cons (ev_var 0) (ea_cons (ev_var 1) (ea_cons (ev_var 2) ea_nil)))))
   (eb_one (es_ret (ev_and (ev_notN (ev_var 4)) (ev_one (ev_gt (ev_len bi.b_len (ea_cons (ev_lcK 4 hN (lc_mk (own := [("trader", 5)]) o (blkOk_by (N := ["market", "fair", "row", "holding", "end", "trader"]) (sc := defScope (top 34)) (by decide +kernel)) (by decide) (fun _ _ _ _ _ => (et_nm 5 hN)) (fun _ _ _ _ _ o1 => (ets_one (et_eq o1 (ev_subs o1 (ev_var 4) (ev_var 5)) (ev_var 3)))) (fun _ _ _ _ _ o1 => (ev_var 5)))) ea_nil)) ev_int))))))
theorem sc__law_row : FnScope ["knife", "market", "fair", "laps", "lap", "row", "here", "names", "first", "name", "one", "other", "trader", "second", "last"] ["knife", "market", "fair", "laps"] (defScope (top 35)) := ⟨rfl, rfl, rfl, by decide +kernel, rfl, by decide +kernel, by decide +kernel⟩
theorem fn__law_row {f : Addr} {fd : FuncData} (F : FunD K "_law_row" "_law_row" (defArgs (top 35)) (defBody (top 35)) (defScope (top 35)) [] [] f fd) (bi : Bi mg) (c__law_cut : Callee P w K mg base ca 1 "_law_cut" 2 F__law_cut) (c__law_suits : Callee P w K mg base ca 1 "_law_suits" 2 F__law_suits) (c__law_next : Callee P w K mg base ca 2 "_law_next" 3 F__law_next) : FnOk P w K mg base (L2.CX P w) 3 f fd ["knife", "market", "fair", "laps"] (spF K ca 4 F__law_row) := by
  refine fn_def (k := 2) (N := ["knife", "market", "fair", "laps", "lap", "row", "here", "names", "first", "name", "one", "other", "trader", "second", "last"]) (B := b__law_row) F sc__law_row fun cdv A outer s H E o => ?_
  have hN := sc__law_row.nd
  have hp := passes_of (X := cxOf (L2.CX P w) P w K mg base ["knife", "market", "fair", "laps", "lap", "row", "here", "names", "first", "name", "one", "other", "trader", "second", "last"] "_law_row" (defScope (top 35)) f cdv A outer s H E) rfl
  exact (eb_cons (es_asgP (ev_tup (ea_cons (ev_tup ea_nil) (ea_cons (ev_var 2) (ea_cons (ev_sortD bi.b_sorted (ea_cons (ev_var 2) ea_nil)) ea_nil)))) (et_tup (ets_cons (et_nm 5 hN) (ets_cons (et_nm 6 hN) (ets_cons (et_nm 7 hN) ets_nil)))))
   (eb_cons (es_for hp (ei_rng1 bi.b_range (ea_cons (ev_var 3) ea_nil)) (et_nm 4 hN) (eb_cons (es_asgP (ev_subs o (ev_subs o (ev_var 1) ev_int) (ev_call o c__law_cut (Nat.le_of_ble_eq_true rfl) (ea_cons (ev_var 0) (ea_cons (ev_len bi.b_len (ea_cons (ev_subs o (ev_var 1) ev_int) ea_nil)) ea_nil)))) (et_tup (ets_cons (et_nm 9 hN) (ets_cons (et_nm 10 hN) (ets_cons (et_nm 11 hN) ets_nil)))))
   (eb_cons (es_setLc 8 hN (ei_any (ev_var 7)) (lc_mk (own := [("trader", 12)]) o (blkOk_by (N := ["knife", "market", "fair", "laps", "lap", "row", "here", "names", "first", "name", "one", "other", "trader", "second", "last"]) (sc := defScope (top 35)) (by decide +kernel)) (by decide) (fun _ _ _ _ _ => (et_nm 12 hN)) (fun _ _ _ _ _ o1 => (ets_one (et_val (ev_call o1 c__law_suits (Nat.le_of_ble_eq_true rfl) (ea_cons (ev_var 10) (ea_cons (ev_subs o1 (ev_var 6) (ev_var 12)) ea_nil)))))) (fun _ _ _ _ _ o1 => (ev_var 12))))
   (eb_one (es_if (et_gt (ev_len bi.b_len (ea_cons (ev_var 8) ea_nil)) ev_int) (eb_cons (es_set 12 hN (ev_subs o (ev_var 8) (ev_call o c__law_cut (Nat.le_of_ble_eq_true rfl) (ea_cons (ev_var 0) (ea_cons (ev_len bi.b_len (ea_cons (ev_var 8) ea_nil)) ea_nil)))))
   (eb_cons (es_setLc 13 hN (ei_any (ev_var 7)) (lc_mk (own := [("last", 14)]) o (blkOk_by (N := ["knife", "market", "fair", "laps", "lap", "row", "here", "names", "first", "name", "one", "other", "trader", "second", "last"]) (sc := defScope (top 35)) (by decide +kernel)) (by decide) (fun _ _ _ _ _ => (et_nm 14 hN)) (fun _ _ _ _ _ o1 => (ets_one (EvW.t (ew_and (et_notN (ev_var 11)) (ew_and (et_ne o1 (ev_var 14) (ev_var 12)) (ew_and1 (et_val (ev_call o1 c__law_suits (Nat.le_of_ble_eq_true rfl) (ea_cons (ev_var 11) (ea_cons (ev_subs o1 (ev_var 6) (ev_var 14)) ea_nil)))))))))) (fun _ _ _ _ _ o1 => (ev_var 14))))
   (eb_one (es_if (EvW.t (ew_or (et_isN (ev_var 11)) (ew_or1 (et_gt (ev_len bi.b_len (ea_cons (ev_var 13) ea_nil)) ev_int)))) (eb_cons (es_set 5 hN (ev_add (ev_var 5) (ev_tup (ea_cons (ev_tup (ea_cons (ev_var 9) (ea_cons (ev_var 12) (ea_cons (ev_if (et_isN (ev_var 11)) ev_str (ev_subs o (ev_var 13) (ev_call o c__law_cut (Nat.le_of_ble_eq_true rfl) (ea_cons (ev_var 0) (ea_cons (ev_len bi.b_len (ea_cons (ev_var 13) ea_nil)) ea_nil))))) ea_nil)))) ea_nil))))
   (eb_one (es_set 6 hN (ev_call o c__law_next (Nat.le_of_ble_eq_true rfl) (ea_cons (ev_var 1) (ea_cons (ev_var 6) (ea_cons (ev_subs o (ev_var 5) (ev_sub (ev_len bi.b_len (ea_cons (ev_var 5) ea_nil)) ev_int)) ea_nil))))))) eb_nil)))) eb_nil)))))
   (eb_one (es_ret (ev_var 5)))))
theorem sc__law_stays : FnScope ["market", "fair", "row", "holding", "at", "less"] ["market", "fair", "row", "holding"] (defScope (top 36)) := ⟨rfl, rfl, rfl, by decide +kernel, rfl, by decide +kernel, by decide +kernel⟩
theorem fn__law_stays {f : Addr} {fd : FuncData} (F : FunD K "_law_stays" "_law_stays" (defArgs (top 36)) (defBody (top 36)) (defScope (top 36)) [] [] f fd) (bi : Bi mg) (c__law_has : Callee P w K mg base ca 4 "_law_has" 4 F__law_has) : FnOk P w K mg base (L2.CX P w) 5 f fd ["market", "fair", "row", "holding"] (spF K ca 4 F__law_stays) := by
  refine fn_def (k := 4) (N := ["market", "fair", "row", "holding", "at", "less"]) (B := b__law_stays) F sc__law_stays fun cdv A outer s H E o => ?_
  have hN := sc__law_stays.nd
  have hp := passes_of (X := cxOf (L2.CX P w) P w K mg base ["market", "fair", "row", "holding", "at", "less"] "_law_stays" (defScope (top 36)) f cdv A outer s H E) rfl
  exact (eb_cons (es_set 4 hN (ev_sub (ev_len bi.b_len (ea_cons (ev_var 2) ea_nil)) ev_int))
   (eb_cons (es_while fu__law_stays_2 hp (et_ge (ev_var 4) ev_int) (eb_cons (es_set 5 hN (ev_add (ev_sl (ev_var 2) ep_no (ep_so (ev_var 4))) (ev_sl (ev_var 2) (ep_so (ev_add (ev_var 4) ev_int)) ep_no)))
   (eb_cons (es_if (et_val (ev_call o c__law_has (Nat.le_of_ble_eq_true rfl) (ea_cons (ev_var 0) (ea_cons (ev_var 1) (ea_cons (ev_var 5) (ea_cons (ev_var 3) ea_nil)))))) (eb_one (es_set 2 hN (ev_var 5))) eb_nil)
   (eb_one (es_set 4 hN (ev_sub (ev_var 4) ev_int))))))
   (eb_one (es_ret (ev_var 2)))))
theorem sc__law_same : FnScope ["told", "due", "k"] ["told", "due"] (defScope (top 37)) := ⟨rfl, rfl, rfl, by decide +kernel, rfl, by decide +kernel, by decide +kernel⟩
theorem fn__law_same {f : Addr} {fd : FuncData} (F : FunD K "_law_same" "_law_same" (defArgs (top 37)) (defBody (top 37)) (defScope (top 37)) [] [] f fd) (hm : mg "_law_same" = some (.ref f)) (bi : Bi mg) (j : Nat) : FnOk P w K mg base (L2.CX P w) (1 + j) f fd ["told", "due"] (spF K ca 2 (Fr__law_same j)) := by
  induction j with
  | zero => exact fn_no rfl
  | succ j ih =>
    have c__law_same : Callee P w K mg base ca (1 + j) "_law_same" 2 (Fr__law_same j) := ⟨_, _, _, ih, hm, F.kp, F.bindsN fun _ _ _ _ _ _ us hl => match us, hl with | [_, _], _ => rfl⟩
    refine fn_def (N := ["told", "due", "k"]) (B := b__law_same (Fr__law_same j)) F sc__law_same fun cdv A outer s H E o => ?_
    have hN := sc__law_same.nd
    have hp := passes_of (X := cxOf (L2.CX P w) P w K mg base ["told", "due", "k"] "_law_same" (defScope (top 37)) f cdv A outer s H E) rfl
    exact (eb_cons (es_if (et_val (ev_isi "tuple" bi.b_isinstance bi.b_tuple (ev_var 1))) (eb_one (es_ret (ev_and (ev_isi "tuple" bi.b_isinstance bi.b_tuple (ev_var 0)) (ev_and (ev_eq o (ev_len bi.b_len (ea_cons (ev_var 0) ea_nil)) (ev_len bi.b_len (ea_cons (ev_var 1) ea_nil))) (ev_one (ev_all bi.b_all (ea_cons (ev_lc hN (ei_rng1 bi.b_range (ea_cons (ev_len bi.b_len (ea_cons (ev_var 1) ea_nil)) ea_nil)) (lc_mk (own := [("k", 2)]) o (blkOk_by (N := ["told", "due", "k"]) (sc := defScope (top 37)) (by decide +kernel)) (by decide) (fun _ _ _ _ _ => (et_nm 2 hN)) (fun _ _ _ _ _ o1 => ets_no) (fun _ _ _ _ _ o1 => (ev_call o1 c__law_same (by show _ ≤ 1 + j; omega) (ea_cons (ev_subs o1 (ev_var 0) (ev_var 2)) (ea_cons (ev_subs o1 (ev_var 1) (ev_var 2)) ea_nil)))))) ea_nil))))))) eb_nil)
   (eb_cons (es_if (et_isN (ev_var 1)) (eb_one (es_ret (ev_isN (ev_var 0)))) eb_nil)
   (eb_cons (es_if (et_val (ev_isi "bool" bi.b_isinstance bi.b_bool (ev_var 1))) (eb_one (es_ret (ev_and (ev_isi "bool" bi.b_isinstance bi.b_bool (ev_var 0)) (ev_one (ev_eq o (ev_var 0) (ev_var 1)))))) eb_nil)
   (eb_cons (es_if (et_val (ev_isi "str" bi.b_isinstance bi.b_str (ev_var 1))) (eb_one (es_ret (ev_and (ev_isi "str" bi.b_isinstance bi.b_str (ev_var 0)) (ev_one (ev_eq o (ev_var 0) (ev_var 1)))))) eb_nil)
   (eb_one (es_ret (ev_and (ev_isi "int" bi.b_isinstance bi.b_int (ev_var 0)) (ev_and (ev_not (ev_isi "bool" bi.b_isinstance bi.b_bool (ev_var 0))) (ev_one (ev_eq o (ev_var 0) (ev_var 1)))))))))))
theorem sc__law_asked : FnScope ["knife", "market", "many", "laps", "places", "fair", "k", "told", "row", "end", "holding", "at", "short", "place", "due", "trader"] ["knife", "market", "many", "laps", "places"] (defScope (top 38)) := ⟨rfl, rfl, rfl, by decide +kernel, rfl, by decide +kernel, by decide +kernel⟩
theorem fn__law_asked {f : Addr} {fd : FuncData} (F : FunD K "_law_asked" "_law_asked" (defArgs (top 38)) (defBody (top 38)) (defScope (top 38)) [] [] f fd) (bi : Bi mg) (c__law_cut : Callee P w K mg base ca 1 "_law_cut" 2 F__law_cut) (c__law_edge : Callee P w K mg base ca 2 "_law_edge" 3 F__law_edge) (c__law_row : Callee P w K mg base ca 3 "_law_row" 4 F__law_row) (c__law_end : Callee P w K mg base ca 3 "_law_end" 3 F__law_end) (c__law_has : Callee P w K mg base ca 4 "_law_has" 4 F__law_has) (c__law_same : Callee P w K mg base ca 7 "_law_same" 2 F__law_same) (c_is_needed : Callee P w K mg base ca 8 "is_needed" 5 F_is_needed) (c__law_stays : Callee P w K mg base ca 5 "_law_stays" 4 F__law_stays) (c_needed_row : Callee P w K mg base ca 9 "needed_row" 4 F_needed_row) (c_row_fault : Callee P w K mg base ca 6 "row_fault" 3 F_row_fault) (c_comes_behind : Callee P w K mg base ca 6 "comes_behind" 4 F_comes_behind) (k_is_needed_market_fair_row_place_holding : KwCallee P w K mg base ca 8 "is_needed" 5 F_is_needed 0 ["market", "fair", "row", "place", "holding"] [0, 1, 2, 3, 4]) : FnOk P w K mg base (L2.CX P w) 10 f fd ["knife", "market", "many", "laps", "places"] (spF K ca 5 F__law_asked) := by
  refine fn_def (k := 9) (N := ["knife", "market", "many", "laps", "places", "fair", "k", "told", "row", "end", "holding", "at", "short", "place", "due", "trader"]) (B := b__law_asked) F sc__law_asked fun cdv A outer s H E o => ?_
  have hN := sc__law_asked.nd
  have hp := passes_of (X := cxOf (L2.CX P w) P w K mg base ["knife", "market", "many", "laps", "places", "fair", "k", "told", "row", "end", "holding", "at", "short", "place", "due", "trader"] "_law_asked" (defScope (top 38)) f cdv A outer s H E) rfl
  exact (eb_cons (es_set 5 hN ev_dnew)
   (eb_cons (es_for hp (ei_rng1 bi.b_range (ea_cons (ev_var 2) ea_nil)) (et_nm 6 hN) (eb_one (es_or2 (es_putL (ev_tup (ea_cons (ev_subs o (ev_subs o (ev_var 1) ev_int) (ev_call o c__law_cut (Nat.le_of_ble_eq_true rfl) (ea_cons (ev_var 0) (ea_cons (ev_len bi.b_len (ea_cons (ev_subs o (ev_var 1) ev_int) ea_nil)) ea_nil)))) (ea_cons (ev_call o c__law_edge (Nat.le_of_ble_eq_true rfl) (ea_cons (ev_var 0) (ea_cons ev_int (ea_cons ev_int ea_nil)))) ea_nil))) (ev_var 5) (ev_add ev_str (ev_strc bi.b_str (ea_cons (ev_var 6) ea_nil))) (by exact fun _ => rfl)) (es_dput o (ev_tup (ea_cons (ev_subs o (ev_subs o (ev_var 1) ev_int) (ev_call o c__law_cut (Nat.le_of_ble_eq_true rfl) (ea_cons (ev_var 0) (ea_cons (ev_len bi.b_len (ea_cons (ev_subs o (ev_var 1) ev_int) ea_nil)) ea_nil)))) (ea_cons (ev_call o c__law_edge (Nat.le_of_ble_eq_true rfl) (ea_cons (ev_var 0) (ea_cons ev_int (ea_cons ev_int ea_nil)))) ea_nil))) (ev_var 5) (ev_add ev_str (ev_strc bi.b_str (ea_cons (ev_var 6) ea_nil)))))))
   (eb_cons (es_set 7 hN (ev_tuplec bi.b_tuple (ea_cons (ev_lc hN (ei_any (ev_sortD bi.b_sorted (ea_cons (ev_var 5) ea_nil))) (lc_mk (own := [("trader", 15)]) o (blkOk_by (N := ["knife", "market", "many", "laps", "places", "fair", "k", "told", "row", "end", "holding", "at", "short", "place", "due", "trader"]) (sc := defScope (top 38)) (by decide +kernel)) (by decide) (fun _ _ _ _ _ => (et_nm 15 hN)) (fun _ _ _ _ _ o1 => ets_no) (fun _ _ _ _ _ o1 => (ev_add (ev_tup (ea_cons (ev_var 15) ea_nil)) (ev_subs o1 (ev_var 5) (ev_var 15)))))) ea_nil)))
   (eb_cons (es_set 8 hN (ev_call o c__law_row (Nat.le_of_ble_eq_true rfl) (ea_cons (ev_var 0) (ea_cons (ev_var 1) (ea_cons (ev_var 5) (ea_cons (ev_var 3) ea_nil))))))
   (eb_cons (es_set 9 hN (ev_call o c__law_end (Nat.le_of_ble_eq_true rfl) (ea_cons (ev_var 1) (ea_cons (ev_var 5) (ea_cons (ev_var 8) ea_nil)))))
   (eb_cons (es_set 10 hN (ev_subs o (ev_var 9) (ev_add ev_str (ev_strc bi.b_str (ea_cons (ev_call o c__law_cut (Nat.le_of_ble_eq_true rfl) (ea_cons (ev_var 0) (ea_cons (ev_var 2) ea_nil))) ea_nil)))))
   (eb_cons (es_for hp (ei_rng1 bi.b_range (ea_cons (ev_min2 bi.b_min (ea_cons (ev_len bi.b_len (ea_cons (ev_var 8) ea_nil)) (ea_cons (ev_var 4) ea_nil))) ea_nil)) (et_nm 11 hN) (eb_cons (es_set 13 hN (ev_if (et_le (ev_len bi.b_len (ea_cons (ev_var 8) ea_nil)) (ev_var 4)) (ev_var 11) (ev_call o c__law_cut (Nat.le_of_ble_eq_true rfl) (ea_cons (ev_var 0) (ea_cons (ev_len bi.b_len (ea_cons (ev_var 8) ea_nil)) ea_nil)))))
   (eb_cons (es_set 14 hN (ev_not (ev_call o c__law_has (Nat.le_of_ble_eq_true rfl) (ea_cons (ev_var 1) (ea_cons (ev_var 5) (ea_cons (ev_add (ev_sl (ev_var 8) ep_no (ep_so (ev_var 13))) (ev_sl (ev_var 8) (ep_so (ev_add (ev_var 13) ev_int)) ep_no)) (ea_cons (ev_var 10) ea_nil)))))))
   (eb_one (es_if (et_not (et_val (ev_call o c__law_same (Nat.le_of_ble_eq_true rfl) (ea_cons (ev_call o c_is_needed (Nat.le_of_ble_eq_true rfl) (ea_cons (ev_var 1) (ea_cons (ev_var 7) (ea_cons (ev_var 8) (ea_cons (ev_var 13) (ea_cons (ev_var 10) ea_nil)))))) (ea_cons (ev_var 14) ea_nil))))) (eb_one (es_ret ev_bl)) eb_nil)))))
   (eb_cons (es_set 12 hN (ev_call o c__law_stays (Nat.le_of_ble_eq_true rfl) (ea_cons (ev_var 1) (ea_cons (ev_var 5) (ea_cons (ev_var 8) (ea_cons (ev_var 10) ea_nil))))))
   (eb_cons (es_if (et_not (et_val (ev_call o c__law_same (Nat.le_of_ble_eq_true rfl) (ea_cons (ev_call o c_needed_row (Nat.le_of_ble_eq_true rfl) (ea_cons (ev_var 1) (ea_cons (ev_var 7) (ea_cons (ev_var 8) (ea_cons (ev_var 10) ea_nil))))) (ea_cons (ev_var 12) ea_nil))))) (eb_one (es_ret ev_bl)) eb_nil)
   (eb_cons (es_if (et_not (et_val (ev_call o c__law_same (Nat.le_of_ble_eq_true rfl) (ea_cons (ev_tup (ea_cons (ev_call o c_row_fault (Nat.le_of_ble_eq_true rfl) (ea_cons (ev_var 1) (ea_cons (ev_var 7) (ea_cons (ev_var 12) ea_nil)))) (ea_cons (ev_call o c_comes_behind (Nat.le_of_ble_eq_true rfl) (ea_cons (ev_var 1) (ea_cons (ev_var 7) (ea_cons (ev_var 12) (ea_cons (ev_var 10) ea_nil))))) ea_nil))) (ea_cons (ev_tup (ea_cons ev_non (ea_cons ev_bl ea_nil))) ea_nil))))) (eb_one (es_ret ev_bl)) eb_nil)
   (eb_cons (es_for hp (ei_rng1 bi.b_range (ea_cons (ev_min2 bi.b_min (ea_cons (ev_len bi.b_len (ea_cons (ev_var 12) ea_nil)) (ea_cons ev_int ea_nil))) ea_nil)) (et_nm 13 hN) (eb_cons (es_set 14 hN (ev_not (ev_call o c__law_has (Nat.le_of_ble_eq_true rfl) (ea_cons (ev_var 1) (ea_cons (ev_var 5) (ea_cons (ev_add (ev_sl (ev_var 12) ep_no (ep_so (ev_var 13))) (ev_sl (ev_var 12) (ep_so (ev_add (ev_var 13) ev_int)) ep_no)) (ea_cons (ev_var 10) ea_nil)))))))
   (eb_one (es_if (et_not (et_val (ev_call o c__law_same (Nat.le_of_ble_eq_true rfl) (ea_cons (ev_callK0 o k_is_needed_market_fair_row_place_holding (Nat.le_of_ble_eq_true rfl) (ek_cons (ev_var 1) (ek_cons (ev_var 7) (ek_cons (ev_var 12) (ek_cons (ev_var 13) (ek_cons (ev_var 10) ek_nil)))))) (ea_cons (ev_var 14) ea_nil))))) (eb_one (es_ret ev_bl)) eb_nil))))
   (eb_one (es_ret ev_bl)))))))))))))
theorem sc_law : FnScope ["script", "knife", "turn", "shop", "told", "fair", "up", "down"] ["script"] (defScope (top 39)) := ⟨rfl, rfl, rfl, by decide +kernel, rfl, by decide +kernel, by decide +kernel⟩
theorem fn_law {f : Addr} {fd : FuncData} (F : FunD K "law" "law" (defArgs (top 39)) (defBody (top 39)) (defScope (top 39)) [] [] f fd) (bi : Bi mg) (c__law_knife : Callee P w K mg base ca 1 "_law_knife" 1 F__law_knife) (c__law_asked : Callee P w K mg base ca 10 "_law_asked" 5 F__law_asked) (c__law_market : Callee P w K mg base ca 4 "_law_market" 1 F__law_market) (c__law_edge : Callee P w K mg base ca 2 "_law_edge" 3 F__law_edge) (c_needed_row : Callee P w K mg base ca 9 "needed_row" 4 F_needed_row) (c__law_same : Callee P w K mg base ca 7 "_law_same" 2 F__law_same) (c_is_needed : Callee P w K mg base ca 8 "is_needed" 5 F_is_needed) (c__law_cut : Callee P w K mg base ca 1 "_law_cut" 2 F__law_cut) : FnOk P w K mg base (L2.CX P w) 11 f fd ["script"] (spF K ca 1 F_law) := by
  refine fn_def (k := 10) (N := ["script", "knife", "turn", "shop", "told", "fair", "up", "down"]) (B := b_law) F sc_law fun cdv A outer s H E o => ?_
  have hN := sc_law.nd
  have hp := passes_of (X := cxOf (L2.CX P w) P w K mg base ["script", "knife", "turn", "shop", "told", "fair", "up", "down"] "law" (defScope (top 39)) f cdv A outer s H E) rfl
  exact (eb_cons (es_set 1 hN (ev_call o c__law_knife (Nat.le_of_ble_eq_true rfl) (ea_cons (ev_var 0) ea_nil)))
   (eb_cons (es_for hp (ei_rng1 bi.b_range (ea_cons ev_int ea_nil)) (et_nm 2 hN) (eb_one (es_if (et_not (et_val (ev_call o c__law_asked (Nat.le_of_ble_eq_true rfl) (ea_cons (ev_var 1) (ea_cons (ev_call o c__law_market (Nat.le_of_ble_eq_true rfl) (ea_cons (ev_var 1) ea_nil)) (ea_cons (ev_add ev_int (ev_call o c__law_edge (Nat.le_of_ble_eq_true rfl) (ea_cons (ev_var 1) (ea_cons (ev_add ev_int (ev_var 2)) (ea_cons ev_int ea_nil))))) (ea_cons (ev_add ev_int (ev_call o c__law_edge (Nat.le_of_ble_eq_true rfl) (ea_cons (ev_var 1) (ea_cons (ev_add ev_int (ev_var 2)) (ea_cons ev_int ea_nil))))) (ea_cons ev_int ea_nil)))))))) (eb_one (es_ret ev_bl)) eb_nil)))
   (eb_cons (es_set 3 hN (ev_tup (ea_cons (ev_tup (ea_cons ev_str ea_nil)) (ea_cons (ev_tup (ea_cons (ev_tup (ea_cons ev_str (ea_cons ev_int ea_nil))) ea_nil)) (ea_cons (ev_tup (ea_cons (ev_tup (ea_cons ev_str (ea_cons (ev_tup (ea_cons ev_str (ea_cons ev_int (ea_cons ev_non (ea_cons ev_str (ea_cons (ev_neg ev_int) ea_nil)))))) (ea_cons ev_non ea_nil)))) (ea_cons (ev_tup (ea_cons ev_str (ea_cons (ev_tup (ea_cons ev_str (ea_cons ev_int (ea_cons ev_non (ea_cons ev_str (ea_cons ev_int ea_nil)))))) (ea_cons ev_non ea_nil)))) ea_nil))) ea_nil)))))
   (eb_cons (es_asgP (ev_tup (ea_cons (ev_tup (ea_cons (ev_tup (ea_cons ev_str (ea_cons ev_str (ea_cons ev_int ea_nil)))) (ea_cons (ev_tup (ea_cons ev_str (ea_cons ev_str (ea_cons ev_int ea_nil)))) ea_nil))) (ea_cons (ev_tup (ea_cons ev_str (ea_cons ev_str (ea_cons ev_str ea_nil)))) (ea_cons (ev_tup (ea_cons ev_str (ea_cons ev_str (ea_cons ev_str ea_nil)))) ea_nil)))) (et_tup (ets_cons (et_nm 5 hN) (ets_cons (et_nm 6 hN) (ets_cons (et_nm 7 hN) ets_nil)))))
   (eb_cons (es_set 4 hN (ev_tup (ea_cons (ev_call o c_needed_row (Nat.le_of_ble_eq_true rfl) (ea_cons (ev_var 3) (ea_cons (ev_var 5) (ea_cons (ev_tup (ea_cons (ev_var 6) (ea_cons (ev_tup (ea_cons ev_str (ea_cons ev_str (ea_cons ev_str ea_nil)))) ea_nil))) (ea_cons (ev_tup (ea_cons ev_str (ea_cons ev_int ea_nil))) ea_nil))))) (ea_cons (ev_call o c_needed_row (Nat.le_of_ble_eq_true rfl) (ea_cons (ev_var 3) (ea_cons (ev_var 5) (ea_cons (ev_tup (ea_cons (ev_var 6) (ea_cons (ev_var 7) (ea_cons (ev_var 6) (ea_cons (ev_tup (ea_cons ev_str (ea_cons ev_str (ea_cons ev_str ea_nil)))) ea_nil))))) (ea_cons (ev_tup (ea_cons ev_str (ea_cons ev_int ea_nil))) ea_nil))))) (ea_cons (ev_call o c_needed_row (Nat.le_of_ble_eq_true rfl) (ea_cons (ev_var 3) (ea_cons (ev_var 5) (ea_cons (ev_tup (ea_cons (ev_var 6) (ea_cons (ev_var 6) (ea_cons (ev_var 7) ea_nil)))) (ea_cons (ev_tup (ea_cons ev_str (ea_cons ev_int ea_nil))) ea_nil))))) ea_nil)))))
   (eb_cons (es_if (et_not (et_val (ev_call o c__law_same (Nat.le_of_ble_eq_true rfl) (ea_cons (ev_var 4) (ea_cons (ev_tup (ea_cons (ev_tup (ea_cons (ev_var 6) ea_nil)) (ea_cons (ev_tup (ea_cons (ev_var 6) (ea_cons (ev_var 7) (ea_cons (ev_var 6) ea_nil)))) (ea_cons (ev_tup ea_nil) ea_nil)))) ea_nil))))) (eb_one (es_ret ev_bl)) eb_nil)
   (eb_cons (es_if (et_not (et_val (ev_call o c__law_same (Nat.le_of_ble_eq_true rfl) (ea_cons (ev_tup (ea_cons (ev_call o c_is_needed (Nat.le_of_ble_eq_true rfl) (ea_cons (ev_var 3) (ea_cons (ev_var 5) (ea_cons (ev_tup (ea_cons (ev_var 6) (ea_cons (ev_var 7) ea_nil))) (ea_cons ev_int (ea_cons (ev_tup (ea_cons ev_str (ea_cons ev_int ea_nil))) ea_nil)))))) (ea_cons (ev_call o c_is_needed (Nat.le_of_ble_eq_true rfl) (ea_cons (ev_var 3) (ea_cons (ev_var 5) (ea_cons (ev_tup (ea_cons (ev_var 6) (ea_cons (ev_var 6) ea_nil))) (ea_cons ev_int (ea_cons (ev_tup (ea_cons ev_str (ea_cons ev_int ea_nil))) ea_nil)))))) (ea_cons (ev_call o c_is_needed (Nat.le_of_ble_eq_true rfl) (ea_cons (ev_var 3) (ea_cons (ev_var 5) (ea_cons (ev_tup (ea_cons (ev_var 6) (ea_cons (ev_var 6) ea_nil))) (ea_cons ev_int (ea_cons (ev_tup (ea_cons ev_str (ea_cons ev_int ea_nil))) ea_nil)))))) ea_nil)))) (ea_cons (ev_tup (ea_cons ev_bl (ea_cons ev_bl (ea_cons ev_bl ea_nil)))) ea_nil))))) (eb_one (es_ret ev_bl)) eb_nil)
   (eb_one (es_ret (ev_or (ev_gt (ev_call o c__law_cut (Nat.le_of_ble_eq_true rfl) (ea_cons (ev_var 1) (ea_cons ev_int ea_nil))) ev_int) (ev_one (ev_call o c__law_asked (Nat.le_of_ble_eq_true rfl) (ea_cons (ev_var 1) (ea_cons (ev_call o c__law_market (Nat.le_of_ble_eq_true rfl) (ea_cons (ev_var 1) ea_nil)) (ea_cons ev_int (ea_cons ev_int (ea_cons ev_int ea_nil)))))))))))))))))
end
end K77

set_option Elab.async false
set_option linter.all false
set_option maxRecDepth 100000
set_option maxHeartbeats 0
namespace K77
open PySem PySem.Spec PyProof.Rows L2 Mo
def d_found_holding : He.DefD := ⟨("found_holding", none), "found_holding", "found_holding", defArgs (top 4), defBody (top 4), defScope (top 4), [], []⟩
def d_with_holding : He.DefD := ⟨("with_holding", none), "with_holding", "with_holding", defArgs (top 5), defBody (top 5), defScope (top 5), [], []⟩
def d_offer_of : He.DefD := ⟨("offer_of", none), "offer_of", "offer_of", defArgs (top 7), defBody (top 7), defScope (top 7), [], []⟩
def d_fits : He.DefD := ⟨("fits", none), "fits", "fits", defArgs (top 9), defBody (top 9), defScope (top 9), [], []⟩
def d_behind : He.DefD := ⟨("behind", none), "behind", "behind", defArgs (top 10), defBody (top 10), defScope (top 10), [], []⟩
def d_other_is_wrong : He.DefD := ⟨("other_is_wrong", none), "other_is_wrong", "other_is_wrong", defArgs (top 12), defBody (top 12), defScope (top 12), [], []⟩
def d_deal_word : He.DefD := ⟨("deal_word", none), "deal_word", "deal_word", defArgs (top 13), defBody (top 13), defScope (top 13), [], []⟩
def d_done_deal : He.DefD := ⟨("done_deal", none), "done_deal", "done_deal", defArgs (top 14), defBody (top 14), defScope (top 14), [], []⟩
def d_row_walk : He.DefD := ⟨("row_walk", none), "row_walk", "row_walk", defArgs (top 16), defBody (top 16), defScope (top 16), [], []⟩
def d_run_row : He.DefD := ⟨("run_row", none), "run_row", "run_row", defArgs (top 17), defBody (top 17), defScope (top 17), [], []⟩
def d_row_fault : He.DefD := ⟨("row_fault", none), "row_fault", "row_fault", defArgs (top 18), defBody (top 18), defScope (top 18), [], []⟩
def d_comes_behind : He.DefD := ⟨("comes_behind", none), "comes_behind", "comes_behind", defArgs (top 20), defBody (top 20), defScope (top 20), [], []⟩
def d_does : He.DefD := ⟨("does", none), "does", "does", defArgs (top 22), defBody (top 22), defScope (top 22), [], []⟩
def d_is_needed : He.DefD := ⟨("is_needed", none), "is_needed", "is_needed", defArgs (top 23), defBody (top 23), defScope (top 23), [], []⟩
def d_needed_row : He.DefD := ⟨("needed_row", none), "needed_row", "needed_row", defArgs (top 24), defBody (top 24), defScope (top 24), [], []⟩
def d__law_knife : He.DefD := ⟨("_law_knife", none), "_law_knife", "_law_knife", defArgs (top 26), defBody (top 26), defScope (top 26), [], []⟩
def d__law_cut : He.DefD := ⟨("_law_cut", none), "_law_cut", "_law_cut", defArgs (top 27), defBody (top 27), defScope (top 27), [], []⟩
def d__law_edge : He.DefD := ⟨("_law_edge", none), "_law_edge", "_law_edge", defArgs (top 28), defBody (top 28), defScope (top 28), [], []⟩
def d__law_side : He.DefD := ⟨("_law_side", none), "_law_side", "_law_side", defArgs (top 29), defBody (top 29), defScope (top 29), [], []⟩
def d__law_market : He.DefD := ⟨("_law_market", none), "_law_market", "_law_market", defArgs (top 30), defBody (top 30), defScope (top 30), [], []⟩
def d__law_suits : He.DefD := ⟨("_law_suits", none), "_law_suits", "_law_suits", defArgs (top 31), defBody (top 31), defScope (top 31), [], []⟩
def d__law_next : He.DefD := ⟨("_law_next", none), "_law_next", "_law_next", defArgs (top 32), defBody (top 32), defScope (top 32), [], []⟩
def d__law_end : He.DefD := ⟨("_law_end", none), "_law_end", "_law_end", defArgs (top 33), defBody (top 33), defScope (top 33), [], []⟩
def d__law_has : He.DefD := ⟨("_law_has", none), "_law_has", "_law_has", defArgs (top 34), defBody (top 34), defScope (top 34), [], []⟩
def d__law_row : He.DefD := ⟨("_law_row", none), "_law_row", "_law_row", defArgs (top 35), defBody (top 35), defScope (top 35), [], []⟩
def d__law_stays : He.DefD := ⟨("_law_stays", none), "_law_stays", "_law_stays", defArgs (top 36), defBody (top 36), defScope (top 36), [], []⟩
def d__law_same : He.DefD := ⟨("_law_same", none), "_law_same", "_law_same", defArgs (top 37), defBody (top 37), defScope (top 37), [], []⟩
def d__law_asked : He.DefD := ⟨("_law_asked", none), "_law_asked", "_law_asked", defArgs (top 38), defBody (top 38), defScope (top 38), [], []⟩
def d_law : He.DefD := ⟨("law", none), "law", "law", defArgs (top 39), defBody (top 39), defScope (top 39), [], []⟩
def fnL : List He.DefD := [d_found_holding, d_with_holding, d_offer_of, d_fits, d_behind, d_other_is_wrong, d_deal_word, d_done_deal, d_row_walk, d_run_row, d_row_fault, d_comes_behind, d_does, d_is_needed, d_needed_row, d__law_knife, d__law_cut, d__law_edge, d__law_side, d__law_market, d__law_suits, d__law_next, d__law_end, d__law_has, d__law_row, d__law_stays, d__law_same, d__law_asked, d_law]
def y_BadRow : XcD := ⟨"BadRow", "BadRow.__init__", defArgs (clsAt (top 2) 0), defBody (clsAt (top 2) 0), defScope (clsAt (top 2) 0), ["place", "word"]⟩
def xsL : List XcD := [y_BadRow]
def faL : List He.Fa := [.glo "found_holding", .glo "with_holding", .glo "offer_of", .glo "fits", .glo "behind", .glo "other_is_wrong", .glo "deal_word", .glo "done_deal", .glo "row_walk", .glo "run_row", .glo "row_fault", .glo "comes_behind", .glo "does", .glo "is_needed", .glo "needed_row", .glo "_law_knife", .glo "_law_cut", .glo "_law_edge", .glo "_law_side", .glo "_law_market", .glo "_law_suits", .glo "_law_next", .glo "_law_end", .glo "_law_has", .glo "_law_row", .glo "_law_stays", .glo "_law_same", .glo "_law_asked", .glo "law", .glo "MarketError", .glo "BadRow", .free "tuple", .free "enumerate", .free "range", .free "len", .free "int", .free "abs", .free "max", .free "str", .free "dict", .free "sorted", .free "isinstance", .free "all", .free "bool", .free "min", .free "super"]
abbrev Pg : Program := PySem.Challenge.rw_moneyheld_k77_whole_cut_rows.prog
def fileN : Str := "/claim/cut.py"
abbrev Rw : PySem.W.OpenRow := PySem.W.OpenLaw.row PySem.Challenge.rw_moneyheld_k77_whole_cut_rows
abbrev hkX : PySem.W.Hook := hookX 5 fileN faL fnL xsL
def obH (s : PySem.W.SharedT) : AlX := obsXG 5 fileN faL fnL xsL (HandSHeadRun.getT s)
theorem obH_eq (s : PySem.W.SharedT) : obH s = hkX.obs s.abs := obsXG_eq (HandSHeadRun.getT_eq s)
def loose0 : List PySem.Str := ["found_holding", "with_holding", "offer_of", "fits", "behind", "other_is_wrong", "deal_word", "done_deal", "row_walk", "run_row", "row_fault", "comes_behind", "does", "is_needed", "needed_row", "_law_knife", "_law_cut", "_law_edge", "_law_side", "_law_market", "_law_suits", "_law_next", "_law_end", "_law_has", "_law_row", "_law_stays", "_law_same", "_law_asked", "MarketError", "BadRow"]
def looseL : List PySem.Str := loose0
theorem runH (w : World) : HandSHeadRun.RunEq Rw (PySem.W.view Rw.prog [39]) hkX obH 4000 looseL w := by
  intro os
  kernel_rfl
theorem init_BadRow {w : World} {K : PySem.W.Frag} {mg : Str → Option Value} {base : Heap} {C f cda cc : Addr} {fd : FuncData} (D : InK Pg K mg C f cda cc "BadRow.__init__" (defArgs (clsAt (top 2) 0)) (defBody (clsAt (top 2) 0)) (defScope (clsAt (top 2) 0)) fd ["place", "word"]) (hin : K.In base) : FnOk Pg w K mg base (L2.CX Pg w) 1 f fd ["self", "place", "word"] (spI K C ["place", "word"]) :=
  fn_init (self := "self") (pargs := ["place", "word"]) D ⟨rfl, rfl, rfl, by decide +kernel, by decide +kernel, by decide +kernel, by decide +kernel, by decide +kernel, by decide +kernel⟩ rfl rfl (by decide) hin rfl (by decide)
    (fun A outer s H E => ⟨_, (pa_cons (pe_var (i := 1) rfl (.inl rfl)) (pa_cons (pe_var (i := 2) rfl (.inl rfl)) pa_nil)), fun σ H Q hq ⟨ws, hl, hw⟩ => match ws, hl, hw with | [v0, v1], _, hw => ⟨_, hw 0 _ rfl, ⟨_, hw 1 _ rfl, hq _ (Nat.le_of_ble_eq_true rfl)⟩⟩⟩) (fun A outer s H E => (pss_cons (ps_ost (pe_var (i := 0) rfl (.inl rfl)) (pe_var (i := 1) rfl (.inl rfl))) (pss_cons (ps_ost (pe_var (i := 0) rfl (.inl rfl)) (pe_var (i := 2) rfl (.inl rfl))) pss_nil)))
theorem factsL {w : World} {K : PySem.W.Frag} {h : Heap} {mg : Str → Option Value} {f : Addr} (X : K.In h) (G : h.Ns mainGlobals mg) (hfa : mg ("law" : Str) = some (.ref f)) (c : SaysX fileN faL fnL xsL K) :
    ∃ fd : FuncData, (∀ (s : Shared) (v : Value), BindsTo s fd ⟨[v], []⟩ [("script", v)]) ∧ ∀ base : Heap, K.In base → base.Ns mainGlobals mg → FnOk Pg w K mg base (L2.CX Pg w) 11 f fd ["script"] (spF K (He.ga K) 1 F_law) := by
  obtain ⟨fd_found_holding, D_found_holding⟩ := c.def_ 0 (d := d_found_holding) rfl
  obtain ⟨fd_with_holding, D_with_holding⟩ := c.def_ 1 (d := d_with_holding) rfl
  obtain ⟨fd_offer_of, D_offer_of⟩ := c.def_ 2 (d := d_offer_of) rfl
  obtain ⟨fd_fits, D_fits⟩ := c.def_ 3 (d := d_fits) rfl
  obtain ⟨fd_behind, D_behind⟩ := c.def_ 4 (d := d_behind) rfl
  obtain ⟨fd_other_is_wrong, D_other_is_wrong⟩ := c.def_ 5 (d := d_other_is_wrong) rfl
  obtain ⟨fd_deal_word, D_deal_word⟩ := c.def_ 6 (d := d_deal_word) rfl
  obtain ⟨fd_done_deal, D_done_deal⟩ := c.def_ 7 (d := d_done_deal) rfl
  obtain ⟨fd_row_walk, D_row_walk⟩ := c.def_ 8 (d := d_row_walk) rfl
  obtain ⟨fd_run_row, D_run_row⟩ := c.def_ 9 (d := d_run_row) rfl
  obtain ⟨fd_row_fault, D_row_fault⟩ := c.def_ 10 (d := d_row_fault) rfl
  obtain ⟨fd_comes_behind, D_comes_behind⟩ := c.def_ 11 (d := d_comes_behind) rfl
  obtain ⟨fd_does, D_does⟩ := c.def_ 12 (d := d_does) rfl
  obtain ⟨fd_is_needed, D_is_needed⟩ := c.def_ 13 (d := d_is_needed) rfl
  obtain ⟨fd_needed_row, D_needed_row⟩ := c.def_ 14 (d := d_needed_row) rfl
  obtain ⟨fd__law_knife, D__law_knife⟩ := c.def_ 15 (d := d__law_knife) rfl
  obtain ⟨fd__law_cut, D__law_cut⟩ := c.def_ 16 (d := d__law_cut) rfl
  obtain ⟨fd__law_edge, D__law_edge⟩ := c.def_ 17 (d := d__law_edge) rfl
  obtain ⟨fd__law_side, D__law_side⟩ := c.def_ 18 (d := d__law_side) rfl
  obtain ⟨fd__law_market, D__law_market⟩ := c.def_ 19 (d := d__law_market) rfl
  obtain ⟨fd__law_suits, D__law_suits⟩ := c.def_ 20 (d := d__law_suits) rfl
  obtain ⟨fd__law_next, D__law_next⟩ := c.def_ 21 (d := d__law_next) rfl
  obtain ⟨fd__law_end, D__law_end⟩ := c.def_ 22 (d := d__law_end) rfl
  obtain ⟨fd__law_has, D__law_has⟩ := c.def_ 23 (d := d__law_has) rfl
  obtain ⟨fd__law_row, D__law_row⟩ := c.def_ 24 (d := d__law_row) rfl
  obtain ⟨fd__law_stays, D__law_stays⟩ := c.def_ 25 (d := d__law_stays) rfl
  obtain ⟨fd__law_same, D__law_same⟩ := c.def_ 26 (d := d__law_same) rfl
  obtain ⟨fd__law_asked, D__law_asked⟩ := c.def_ 27 (d := d__law_asked) rfl
  obtain ⟨fd_law, D_law⟩ := c.def_ 28 (d := d_law) rfl
  have g_found_holding : mg "found_holding" = some (.ref (He.ga K "found_holding")) := He.glo_ok X G (c.fact 0 (f := .glo "found_holding") rfl)
  have g_with_holding : mg "with_holding" = some (.ref (He.ga K "with_holding")) := He.glo_ok X G (c.fact 1 (f := .glo "with_holding") rfl)
  have g_offer_of : mg "offer_of" = some (.ref (He.ga K "offer_of")) := He.glo_ok X G (c.fact 2 (f := .glo "offer_of") rfl)
  have g_fits : mg "fits" = some (.ref (He.ga K "fits")) := He.glo_ok X G (c.fact 3 (f := .glo "fits") rfl)
  have g_behind : mg "behind" = some (.ref (He.ga K "behind")) := He.glo_ok X G (c.fact 4 (f := .glo "behind") rfl)
  have g_other_is_wrong : mg "other_is_wrong" = some (.ref (He.ga K "other_is_wrong")) := He.glo_ok X G (c.fact 5 (f := .glo "other_is_wrong") rfl)
  have g_deal_word : mg "deal_word" = some (.ref (He.ga K "deal_word")) := He.glo_ok X G (c.fact 6 (f := .glo "deal_word") rfl)
  have g_done_deal : mg "done_deal" = some (.ref (He.ga K "done_deal")) := He.glo_ok X G (c.fact 7 (f := .glo "done_deal") rfl)
  have g_row_walk : mg "row_walk" = some (.ref (He.ga K "row_walk")) := He.glo_ok X G (c.fact 8 (f := .glo "row_walk") rfl)
  have g_run_row : mg "run_row" = some (.ref (He.ga K "run_row")) := He.glo_ok X G (c.fact 9 (f := .glo "run_row") rfl)
  have g_row_fault : mg "row_fault" = some (.ref (He.ga K "row_fault")) := He.glo_ok X G (c.fact 10 (f := .glo "row_fault") rfl)
  have g_comes_behind : mg "comes_behind" = some (.ref (He.ga K "comes_behind")) := He.glo_ok X G (c.fact 11 (f := .glo "comes_behind") rfl)
  have g_does : mg "does" = some (.ref (He.ga K "does")) := He.glo_ok X G (c.fact 12 (f := .glo "does") rfl)
  have g_is_needed : mg "is_needed" = some (.ref (He.ga K "is_needed")) := He.glo_ok X G (c.fact 13 (f := .glo "is_needed") rfl)
  have g_needed_row : mg "needed_row" = some (.ref (He.ga K "needed_row")) := He.glo_ok X G (c.fact 14 (f := .glo "needed_row") rfl)
  have g__law_knife : mg "_law_knife" = some (.ref (He.ga K "_law_knife")) := He.glo_ok X G (c.fact 15 (f := .glo "_law_knife") rfl)
  have g__law_cut : mg "_law_cut" = some (.ref (He.ga K "_law_cut")) := He.glo_ok X G (c.fact 16 (f := .glo "_law_cut") rfl)
  have g__law_edge : mg "_law_edge" = some (.ref (He.ga K "_law_edge")) := He.glo_ok X G (c.fact 17 (f := .glo "_law_edge") rfl)
  have g__law_side : mg "_law_side" = some (.ref (He.ga K "_law_side")) := He.glo_ok X G (c.fact 18 (f := .glo "_law_side") rfl)
  have g__law_market : mg "_law_market" = some (.ref (He.ga K "_law_market")) := He.glo_ok X G (c.fact 19 (f := .glo "_law_market") rfl)
  have g__law_suits : mg "_law_suits" = some (.ref (He.ga K "_law_suits")) := He.glo_ok X G (c.fact 20 (f := .glo "_law_suits") rfl)
  have g__law_next : mg "_law_next" = some (.ref (He.ga K "_law_next")) := He.glo_ok X G (c.fact 21 (f := .glo "_law_next") rfl)
  have g__law_end : mg "_law_end" = some (.ref (He.ga K "_law_end")) := He.glo_ok X G (c.fact 22 (f := .glo "_law_end") rfl)
  have g__law_has : mg "_law_has" = some (.ref (He.ga K "_law_has")) := He.glo_ok X G (c.fact 23 (f := .glo "_law_has") rfl)
  have g__law_row : mg "_law_row" = some (.ref (He.ga K "_law_row")) := He.glo_ok X G (c.fact 24 (f := .glo "_law_row") rfl)
  have g__law_stays : mg "_law_stays" = some (.ref (He.ga K "_law_stays")) := He.glo_ok X G (c.fact 25 (f := .glo "_law_stays") rfl)
  have g__law_same : mg "_law_same" = some (.ref (He.ga K "_law_same")) := He.glo_ok X G (c.fact 26 (f := .glo "_law_same") rfl)
  have g__law_asked : mg "_law_asked" = some (.ref (He.ga K "_law_asked")) := He.glo_ok X G (c.fact 27 (f := .glo "_law_asked") rfl)
  have g_law : mg "law" = some (.ref (He.ga K "law")) := He.glo_ok X G (c.fact 28 (f := .glo "law") rfl)
  have hsup : mg "super" = none := He.free_ok X G (c.fact 45 (f := .free "super") rfl)
  have e := hfa.symm.trans g_law
  cases e
  have b := FunD.bindsA (ps := ["script"]) D_law fun _ _ _ _ _ _ us hl => match us, hl with | [_], _ => rfl
  refine ⟨fd_law, fun s v => b s [v] rfl, fun base hb hn => ?_⟩
  have bi : Bi mg := ⟨He.free_ok X G (c.fact 31 (f := .free "tuple") rfl), He.free_ok X G (c.fact 32 (f := .free "enumerate") rfl), He.free_ok X G (c.fact 33 (f := .free "range") rfl), He.free_ok X G (c.fact 34 (f := .free "len") rfl), He.free_ok X G (c.fact 35 (f := .free "int") rfl), He.free_ok X G (c.fact 36 (f := .free "abs") rfl), He.free_ok X G (c.fact 37 (f := .free "max") rfl), He.free_ok X G (c.fact 38 (f := .free "str") rfl), He.free_ok X G (c.fact 39 (f := .free "dict") rfl), He.free_ok X G (c.fact 40 (f := .free "sorted") rfl), He.free_ok X G (c.fact 41 (f := .free "isinstance") rfl), He.free_ok X G (c.fact 42 (f := .free "all") rfl), He.free_ok X G (c.fact 43 (f := .free "bool") rfl), He.free_ok X G (c.fact 44 (f := .free "min") rfl)⟩
  have g_BadRow : mg "BadRow" = some (.ref (He.ga K "BadRow")) := He.glo_ok X G (c.fact 30 (f := .glo "BadRow") rfl)
  obtain ⟨⟨f_BadRow, cda_BadRow, cc_BadRow, fd_BadRow, D_BadRow⟩, t_BadRow, e_BadRow_BadRow⟩ := xc_ok (P := Pg) (mg := mg) (c.exc 0 (d := y_BadRow) rfl).1 (c.exc 0 (d := y_BadRow) rfl).2 (by decide +kernel) (by decide +kernel) hsup
  have x_BadRow : ExcOk Pg w K mg base (He.ga K) 1 "BadRow" ["place", "word"] := excOk_of g_BadRow D_BadRow (init_BadRow D_BadRow hb) fun _ _ _ _ _ _ _ us hl => match us, hl with | [_, _, _], _ => rfl
  have n__law_knife : FnOk Pg w K mg base (L2.CX Pg w) 1 (He.ga K "_law_knife") fd__law_knife ["script"] (spF K (He.ga K) 1 F__law_knife) := fn__law_knife D__law_knife bi
  have c__law_knife : Callee Pg w K mg base (He.ga K) 1 "_law_knife" 1 F__law_knife := ⟨_, _, _, n__law_knife, g__law_knife, D__law_knife.kp, D__law_knife.bindsN fun _ _ _ _ _ _ us hl => match us, hl with | [_], _ => rfl⟩
  have n__law_cut : FnOk Pg w K mg base (L2.CX Pg w) 1 (He.ga K "_law_cut") fd__law_cut ["knife", "many"] (spF K (He.ga K) 2 F__law_cut) := fn__law_cut D__law_cut bi
  have c__law_cut : Callee Pg w K mg base (He.ga K) 1 "_law_cut" 2 F__law_cut := ⟨_, _, _, n__law_cut, g__law_cut, D__law_cut.kp, D__law_cut.bindsN fun _ _ _ _ _ _ us hl => match us, hl with | [_, _], _ => rfl⟩
  have n__law_edge : FnOk Pg w K mg base (L2.CX Pg w) 2 (He.ga K "_law_edge") fd__law_edge ["knife", "place", "many"] (spF K (He.ga K) 3 F__law_edge) := fn__law_edge D__law_edge bi c__law_cut
  have c__law_edge : Callee Pg w K mg base (He.ga K) 2 "_law_edge" 3 F__law_edge := ⟨_, _, _, n__law_edge, g__law_edge, D__law_edge.kp, D__law_edge.bindsN fun _ _ _ _ _ _ us hl => match us, hl with | [_, _, _], _ => rfl⟩
  have n__law_suits : FnOk Pg w K mg base (L2.CX Pg w) 1 (He.ga K "_law_suits") fd__law_suits ["side", "holding"] (spF K (He.ga K) 2 F__law_suits) := fn__law_suits D__law_suits 
  have c__law_suits : Callee Pg w K mg base (He.ga K) 1 "_law_suits" 2 F__law_suits := ⟨_, _, _, n__law_suits, g__law_suits, D__law_suits.kp, D__law_suits.bindsN fun _ _ _ _ _ _ us hl => match us, hl with | [_, _], _ => rfl⟩
  have n__law_next : FnOk Pg w K mg base (L2.CX Pg w) 2 (He.ga K "_law_next") fd__law_next ["market", "fair", "deal"] (spF K (He.ga K) 3 F__law_next) := fn__law_next D__law_next bi c__law_suits
  have c__law_next : Callee Pg w K mg base (He.ga K) 2 "_law_next" 3 F__law_next := ⟨_, _, _, n__law_next, g__law_next, D__law_next.kp, D__law_next.bindsN fun _ _ _ _ _ _ us hl => match us, hl with | [_, _, _], _ => rfl⟩
  have n__law_row : FnOk Pg w K mg base (L2.CX Pg w) 3 (He.ga K "_law_row") fd__law_row ["knife", "market", "fair", "laps"] (spF K (He.ga K) 4 F__law_row) := fn__law_row D__law_row bi c__law_cut c__law_suits c__law_next
  have c__law_row : Callee Pg w K mg base (He.ga K) 3 "_law_row" 4 F__law_row := ⟨_, _, _, n__law_row, g__law_row, D__law_row.kp, D__law_row.bindsN fun _ _ _ _ _ _ us hl => match us, hl with | [_, _, _, _], _ => rfl⟩
  have n__law_end : FnOk Pg w K mg base (L2.CX Pg w) 3 (He.ga K "_law_end") fd__law_end ["market", "fair", "row"] (spF K (He.ga K) 3 F__law_end) := fn__law_end D__law_end c__law_next
  have c__law_end : Callee Pg w K mg base (He.ga K) 3 "_law_end" 3 F__law_end := ⟨_, _, _, n__law_end, g__law_end, D__law_end.kp, D__law_end.bindsN fun _ _ _ _ _ _ us hl => match us, hl with | [_, _, _], _ => rfl⟩
  have n__law_has : FnOk Pg w K mg base (L2.CX Pg w) 4 (He.ga K "_law_has") fd__law_has ["market", "fair", "row", "holding"] (spF K (He.ga K) 4 F__law_has) := fn__law_has D__law_has bi c__law_end
  have c__law_has : Callee Pg w K mg base (He.ga K) 4 "_law_has" 4 F__law_has := ⟨_, _, _, n__law_has, g__law_has, D__law_has.kp, D__law_has.bindsN fun _ _ _ _ _ _ us hl => match us, hl with | [_, _, _, _], _ => rfl⟩
  have n__law_same : FnOk Pg w K mg base (L2.CX Pg w) 7 (He.ga K "_law_same") fd__law_same ["told", "due"] (spF K (He.ga K) 2 F__law_same) := fn__law_same D__law_same g__law_same bi 6
  have c__law_same : Callee Pg w K mg base (He.ga K) 7 "_law_same" 2 F__law_same := ⟨_, _, _, n__law_same, g__law_same, D__law_same.kp, D__law_same.bindsN fun _ _ _ _ _ _ us hl => match us, hl with | [_, _], _ => rfl⟩
  have n_offer_of : FnOk Pg w K mg base (L2.CX Pg w) 1 (He.ga K "offer_of") fd_offer_of ["market", "name"] (spF K (He.ga K) 2 F_offer_of) := fn_offer_of D_offer_of 
  have c_offer_of : Callee Pg w K mg base (He.ga K) 1 "offer_of" 2 F_offer_of := ⟨_, _, _, n_offer_of, g_offer_of, D_offer_of.kp, D_offer_of.bindsN fun _ _ _ _ _ _ us hl => match us, hl with | [_, _], _ => rfl⟩
  have n_found_holding : FnOk Pg w K mg base (L2.CX Pg w) 1 (He.ga K "found_holding") fd_found_holding ["fair", "trader"] (spF K (He.ga K) 2 F_found_holding) := fn_found_holding D_found_holding 
  have c_found_holding : Callee Pg w K mg base (He.ga K) 1 "found_holding" 2 F_found_holding := ⟨_, _, _, n_found_holding, g_found_holding, D_found_holding.kp, D_found_holding.bindsN fun _ _ _ _ _ _ us hl => match us, hl with | [_, _], _ => rfl⟩
  have n_other_is_wrong : FnOk Pg w K mg base (L2.CX Pg w) 2 (He.ga K "other_is_wrong") fd_other_is_wrong ["offer", "fair", "one", "other"] (spF K (He.ga K) 4 F_other_is_wrong) := fn_other_is_wrong D_other_is_wrong c_found_holding
  have c_other_is_wrong : Callee Pg w K mg base (He.ga K) 2 "other_is_wrong" 4 F_other_is_wrong := ⟨_, _, _, n_other_is_wrong, g_other_is_wrong, D_other_is_wrong.kp, D_other_is_wrong.bindsN fun _ _ _ _ _ _ us hl => match us, hl with | [_, _, _, _], _ => rfl⟩
  have n_fits : FnOk Pg w K mg base (L2.CX Pg w) 1 (He.ga K "fits") fd_fits ["side", "holding"] (spF K (He.ga K) 2 F_fits) := fn_fits D_fits 
  have c_fits : Callee Pg w K mg base (He.ga K) 1 "fits" 2 F_fits := ⟨_, _, _, n_fits, g_fits, D_fits.kp, D_fits.bindsN fun _ _ _ _ _ _ us hl => match us, hl with | [_, _], _ => rfl⟩
  have n_deal_word : FnOk Pg w K mg base (L2.CX Pg w) 3 (He.ga K "deal_word") fd_deal_word ["market", "fair", "deal"] (spF K (He.ga K) 3 F_deal_word) := fn_deal_word D_deal_word c_offer_of c_found_holding c_other_is_wrong c_fits
  have c_deal_word : Callee Pg w K mg base (He.ga K) 3 "deal_word" 3 F_deal_word := ⟨_, _, _, n_deal_word, g_deal_word, D_deal_word.kp, D_deal_word.bindsN fun _ _ _ _ _ _ us hl => match us, hl with | [_, _, _], _ => rfl⟩
  have n_with_holding : FnOk Pg w K mg base (L2.CX Pg w) 1 (He.ga K "with_holding") fd_with_holding ["fair", "trader", "holding"] (spF K (He.ga K) 3 F_with_holding) := fn_with_holding D_with_holding bi
  have c_with_holding : Callee Pg w K mg base (He.ga K) 1 "with_holding" 3 F_with_holding := ⟨_, _, _, n_with_holding, g_with_holding, D_with_holding.kp, D_with_holding.bindsN fun _ _ _ _ _ _ us hl => match us, hl with | [_, _, _], _ => rfl⟩
  have n_behind : FnOk Pg w K mg base (L2.CX Pg w) 1 (He.ga K "behind") fd_behind ["side", "holding"] (spF K (He.ga K) 2 F_behind) := fn_behind D_behind 
  have c_behind : Callee Pg w K mg base (He.ga K) 1 "behind" 2 F_behind := ⟨_, _, _, n_behind, g_behind, D_behind.kp, D_behind.bindsN fun _ _ _ _ _ _ us hl => match us, hl with | [_, _], _ => rfl⟩
  have n_done_deal : FnOk Pg w K mg base (L2.CX Pg w) 2 (He.ga K "done_deal") fd_done_deal ["market", "fair", "deal"] (spF K (He.ga K) 3 F_done_deal) := fn_done_deal D_done_deal c_offer_of c_found_holding c_with_holding c_behind
  have c_done_deal : Callee Pg w K mg base (He.ga K) 2 "done_deal" 3 F_done_deal := ⟨_, _, _, n_done_deal, g_done_deal, D_done_deal.kp, D_done_deal.bindsN fun _ _ _ _ _ _ us hl => match us, hl with | [_, _, _], _ => rfl⟩
  have n_row_walk : FnOk Pg w K mg base (L2.CX Pg w) 4 (He.ga K "row_walk") fd_row_walk ["market", "fair", "row"] (spF K (He.ga K) 3 F_row_walk) := fn_row_walk D_row_walk bi c_deal_word c_done_deal x_BadRow
  have c_row_walk : Callee Pg w K mg base (He.ga K) 4 "row_walk" 3 F_row_walk := ⟨_, _, _, n_row_walk, g_row_walk, D_row_walk.kp, D_row_walk.bindsN fun _ _ _ _ _ _ us hl => match us, hl with | [_, _, _], _ => rfl⟩
  have n_run_row : FnOk Pg w K mg base (L2.CX Pg w) 5 (He.ga K "run_row") fd_run_row ["market", "fair", "row"] (spF K (He.ga K) 3 F_run_row) := fn_run_row D_run_row c_row_walk
  have c_run_row : Callee Pg w K mg base (He.ga K) 5 "run_row" 3 F_run_row := ⟨_, _, _, n_run_row, g_run_row, D_run_row.kp, D_run_row.bindsN fun _ _ _ _ _ _ us hl => match us, hl with | [_, _, _], _ => rfl⟩
  have n_row_fault : FnOk Pg w K mg base (L2.CX Pg w) 6 (He.ga K "row_fault") fd_row_fault ["market", "fair", "row"] (spF K (He.ga K) 3 F_row_fault) := fn_row_fault D_row_fault c_run_row t_BadRow g_BadRow e_BadRow_BadRow (D_BadRow.fld "place" (by decide +kernel)) (D_BadRow.fld "word" (by decide +kernel))
  have c_row_fault : Callee Pg w K mg base (He.ga K) 6 "row_fault" 3 F_row_fault := ⟨_, _, _, n_row_fault, g_row_fault, D_row_fault.kp, D_row_fault.bindsN fun _ _ _ _ _ _ us hl => match us, hl with | [_, _, _], _ => rfl⟩
  have n_comes_behind : FnOk Pg w K mg base (L2.CX Pg w) 6 (He.ga K "comes_behind") fd_comes_behind ["market", "fair", "row", "holding"] (spF K (He.ga K) 4 F_comes_behind) := fn_comes_behind D_comes_behind c_run_row
  have c_comes_behind : Callee Pg w K mg base (He.ga K) 6 "comes_behind" 4 F_comes_behind := ⟨_, _, _, n_comes_behind, g_comes_behind, D_comes_behind.kp, D_comes_behind.bindsN fun _ _ _ _ _ _ us hl => match us, hl with | [_, _, _, _], _ => rfl⟩
  have n_does : FnOk Pg w K mg base (L2.CX Pg w) 7 (He.ga K "does") fd_does ["market", "fair", "row", "holding"] (spF K (He.ga K) 4 F_does) := fn_does D_does c_row_fault c_comes_behind
  have c_does : Callee Pg w K mg base (He.ga K) 7 "does" 4 F_does := ⟨_, _, _, n_does, g_does, D_does.kp, D_does.bindsN fun _ _ _ _ _ _ us hl => match us, hl with | [_, _, _, _], _ => rfl⟩
  have n_is_needed : FnOk Pg w K mg base (L2.CX Pg w) 8 (He.ga K "is_needed") fd_is_needed ["market", "fair", "row", "place", "holding"] (spF K (He.ga K) 5 F_is_needed) := fn_is_needed D_is_needed c_does
  have c_is_needed : Callee Pg w K mg base (He.ga K) 8 "is_needed" 5 F_is_needed := ⟨_, _, _, n_is_needed, g_is_needed, D_is_needed.kp, D_is_needed.bindsN fun _ _ _ _ _ _ us hl => match us, hl with | [_, _, _, _, _], _ => rfl⟩
  have k_is_needed_market_fair_row_place_holding : KwCallee Pg w K mg base (He.ga K) 8 "is_needed" 5 F_is_needed 0 ["market", "fair", "row", "place", "holding"] [0, 1, 2, 3, 4] := ⟨⟨_, _, _, n_is_needed, g_is_needed, D_is_needed.kp, bindsKw D_is_needed fun _ _ _ _ _ _ us ws h1 h2 => match us, ws, h1, h2 with | [], [_, _, _, _, _], _, _ => rfl⟩, by decide⟩
  have n__law_stays : FnOk Pg w K mg base (L2.CX Pg w) 5 (He.ga K "_law_stays") fd__law_stays ["market", "fair", "row", "holding"] (spF K (He.ga K) 4 F__law_stays) := fn__law_stays D__law_stays bi c__law_has
  have c__law_stays : Callee Pg w K mg base (He.ga K) 5 "_law_stays" 4 F__law_stays := ⟨_, _, _, n__law_stays, g__law_stays, D__law_stays.kp, D__law_stays.bindsN fun _ _ _ _ _ _ us hl => match us, hl with | [_, _, _, _], _ => rfl⟩
  have n_needed_row : FnOk Pg w K mg base (L2.CX Pg w) 9 (He.ga K "needed_row") fd_needed_row ["market", "fair", "row", "holding"] (spF K (He.ga K) 4 F_needed_row) := fn_needed_row D_needed_row bi c_is_needed
  have c_needed_row : Callee Pg w K mg base (He.ga K) 9 "needed_row" 4 F_needed_row := ⟨_, _, _, n_needed_row, g_needed_row, D_needed_row.kp, D_needed_row.bindsN fun _ _ _ _ _ _ us hl => match us, hl with | [_, _, _, _], _ => rfl⟩
  have n__law_asked : FnOk Pg w K mg base (L2.CX Pg w) 10 (He.ga K "_law_asked") fd__law_asked ["knife", "market", "many", "laps", "places"] (spF K (He.ga K) 5 F__law_asked) := fn__law_asked D__law_asked bi c__law_cut c__law_edge c__law_row c__law_end c__law_has c__law_same c_is_needed c__law_stays c_needed_row c_row_fault c_comes_behind k_is_needed_market_fair_row_place_holding
  have c__law_asked : Callee Pg w K mg base (He.ga K) 10 "_law_asked" 5 F__law_asked := ⟨_, _, _, n__law_asked, g__law_asked, D__law_asked.kp, D__law_asked.bindsN fun _ _ _ _ _ _ us hl => match us, hl with | [_, _, _, _, _], _ => rfl⟩
  have n__law_side : FnOk Pg w K mg base (L2.CX Pg w) 3 (He.ga K "_law_side") fd__law_side ["knife", "goods"] (spF K (He.ga K) 2 F__law_side) := fn__law_side D__law_side bi c__law_cut c__law_edge
  have c__law_side : Callee Pg w K mg base (He.ga K) 3 "_law_side" 2 F__law_side := ⟨_, _, _, n__law_side, g__law_side, D__law_side.kp, D__law_side.bindsN fun _ _ _ _ _ _ us hl => match us, hl with | [_, _], _ => rfl⟩
  have n__law_market : FnOk Pg w K mg base (L2.CX Pg w) 4 (He.ga K "_law_market") fd__law_market ["knife"] (spF K (He.ga K) 1 F__law_market) := fn__law_market D__law_market bi c__law_edge c__law_side c__law_cut
  have c__law_market : Callee Pg w K mg base (He.ga K) 4 "_law_market" 1 F__law_market := ⟨_, _, _, n__law_market, g__law_market, D__law_market.kp, D__law_market.bindsN fun _ _ _ _ _ _ us hl => match us, hl with | [_], _ => rfl⟩
  have n_law : FnOk Pg w K mg base (L2.CX Pg w) 11 (He.ga K "law") fd_law ["script"] (spF K (He.ga K) 1 F_law) := fn_law D_law bi c__law_knife c__law_asked c__law_market c__law_edge c_needed_row c__law_same c_is_needed c__law_cut
  exact n_law
end K77
open PySem PySem.W PySem.Calls PyProof.Rows
theorem PySem.Challenge.cw_moneyheld_k77_whole_cut_rows_holds : PySem.Challenge.rw_moneyheld_k77_whole_cut_rows.Holds := by
  w_on; o_law
  refine HandSHeadRun.head_any (r := K77.Rw) (q := view K77.Rw.prog [39]) (H := K77.hkX) (ob := K77.obH) (M := 4000) (loose := K77.looseL) (d := HandSHeadRun.topDef K77.Rw.prog 39) (kwd := []) K77.obH_eq
    (by kernel_rfl) (fun s => by kernel_rfl) K77.runH (by kernel_rfl) (by kernel_rfl) (by kernel_rfl) (by rfl) (by first | assumption | decide +kernel) (by decide +kernel) ⟨rfl, rfl, rfl, rfl, rfl, by decide +kernel⟩ ?hw ?hc
  case hw => w_witness2
  case hc =>
    refine Mo.walk_mo (l := PySem.Challenge.rw_moneyheld_k77_whole_cut_rows) (n := 63) (k := 11) (x := "script") rfl (by decide) (by kernel_rfl) ⟨rfl, by decide, by decide⟩ ?F
    intro w mg fa h Y G hmg0
    obtain ⟨K, KX, c⟩ := Y
    have hmg : mg ("law" : PySem.Str) = some (.ref fa) := by
      have e : (HandSHeadRun.topDef K77.Rw.prog 39).name = ("law" : PySem.Str) := by kernel_rfl
      rw [← e]
      exact hmg0
    obtain ⟨fd, hb, hF⟩ := K77.factsL (w := w) KX G hmg c
    exact ⟨K, fd, He.ga K, K77.F_law, KX, hb, fun ns hl => K77.law_ok ns hl, hF⟩
