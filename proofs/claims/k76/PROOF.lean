import PyProof.Rows.All
import Wide.All
import OpenK.AllK
import Wide.FinOn
import HandS.ForMost
import HandS.Exc
import HandS.TryOnly
import HandS.ExcOwn
import HandS.WordsExc
import HandS.TupAny
import HandS.Wide
import HandS.WideMore
import HandS.Deep
import HandS.More
import HandS.IsInst
import HandS.Defaults
import HandS.Style
import KE.GoesMore
import KE.GoesEnum
import HandS.ExcInit
import KE.KExcSuper
import HandS.ClsMeth
import HandS.ExcField
import HandS.TryMany
import HandS.RaiseMore
import HandS.Zip
import HandS.CallSlots
import HandS.Head0
import HandS.Head1
import HandS.Head2
import HandS.HeadEnd
import HandS.HeadHook1
import HandS.HeadHook2
import PySem.Challenge.RW_moneyheld_k76_whole_audits
set_option Elab.async false
set_option linter.all false
set_option maxRecDepth 100000
set_option maxHeartbeats 4000000
namespace Mo
open PySem PySem.Spec PyProof.Rows L2

/-! data: pure trees; what a slot holds (loc: a cell of the store; lst, dK, dT: a list, a dict that nobody changes any more); cells -/
inductive P where
  | non | bl (b : Bool) | int (i : Int) | str (x : Str) | tup (ps : List P)
inductive D where
  | p (p : P) | loc (n : Nat) | mix (ds : List D) | lst (ds : List D) | ro (ds : List D) | dK (ks : List Key) (ds : List D) | dT (ks : List (List Key)) (ds : List D)
inductive C where
  | lst (ds : List D) | dK (ks : List Key) (ds : List D) | dT (ks : List (List Key)) (ds : List D) | lk (ks : List Key) (ds : List D) | lkT (ks : List (List Key)) (ds : List D) | ins (c : Str) (ks : List Str) (ds : List D)
mutual
def beqP : P → P → Bool
  | .non, .non => true
  | .bl a, .bl b => decide (a = b)
  | .int a, .int b => decide (a = b)
  | .str a, .str b => decide (a = b)
  | .tup a, .tup b => beqPs a b
  | _, _ => false
def beqPs : List P → List P → Bool
  | [], [] => true
  | a :: as, b :: bs => beqP a b && beqPs as bs
  | _, _ => false
end
mutual
theorem beqP_iff : ∀ {a b : P}, beqP a b = true ↔ a = b
  | .non, b => by cases b <;> simp [beqP]
  | .bl a, b => by cases b <;> simp [beqP]
  | .int a, b => by cases b <;> simp [beqP]
  | .str a, b => by cases b <;> simp [beqP]
  | .tup a, b => by
    cases b with
    | tup b => simp only [beqP, beqPs_iff, P.tup.injEq]
    | _ => simp [beqP]
theorem beqPs_iff : ∀ {a b : List P}, beqPs a b = true ↔ a = b
  | [], b => by cases b <;> simp [beqPs]
  | a :: as, b => by
    cases b with
    | nil => simp [beqPs]
    | cons b bs => simp only [beqPs, Bool.and_eq_true, beqP_iff, beqPs_iff, List.cons.injEq]
end
instance : DecidableEq P := fun a b => decidable_of_iff (beqP a b = true) beqP_iff
mutual
def beqD : D → D → Bool
  | .p a, .p b => beqP a b
  | .loc a, .loc b => decide (a = b)
  | .mix a, .mix b => beqDs a b
  | .lst a, .lst b => beqDs a b
  | .ro a, .ro b => beqDs a b
  | .dK k a, .dK l b => decide (k = l) && beqDs a b
  | .dT k a, .dT l b => decide (k = l) && beqDs a b
  | _, _ => false
def beqDs : List D → List D → Bool
  | [], [] => true
  | a :: as, b :: bs => beqD a b && beqDs as bs
  | _, _ => false
end
mutual
theorem beqD_iff : ∀ {a b : D}, beqD a b = true ↔ a = b
  | .p a, b => by cases b <;> simp [beqD, beqP_iff]
  | .loc a, b => by cases b <;> simp [beqD]
  | .mix a, b => by
    cases b with
    | mix b => simp only [beqD, beqDs_iff, D.mix.injEq]
    | _ => simp [beqD]
  | .lst a, b => by
    cases b with
    | lst b => simp only [beqD, beqDs_iff, D.lst.injEq]
    | _ => simp [beqD]
  | .ro a, b => by
    cases b with
    | ro b => simp only [beqD, beqDs_iff, D.ro.injEq]
    | _ => simp [beqD]
  | .dK k a, b => by
    cases b with
    | dK l b => simp only [beqD, Bool.and_eq_true, decide_eq_true_eq, beqDs_iff, D.dK.injEq]
    | _ => simp [beqD]
  | .dT k a, b => by
    cases b with
    | dT l b => simp only [beqD, Bool.and_eq_true, decide_eq_true_eq, beqDs_iff, D.dT.injEq]
    | _ => simp [beqD]
theorem beqDs_iff : ∀ {a b : List D}, beqDs a b = true ↔ a = b
  | [], b => by cases b <;> simp [beqDs]
  | a :: as, b => by
    cases b with
    | nil => simp [beqDs]
    | cons b bs => simp only [beqDs, Bool.and_eq_true, beqD_iff, beqDs_iff, List.cons.injEq]
end
instance : DecidableEq D := fun a b => decidable_of_iff (beqD a b = true) beqD_iff
def beqC : C → C → Bool
  | .lst a, .lst b => decide (a = b)
  | .dK k a, .dK l b => decide (k = l) && decide (a = b)
  | .dT k a, .dT l b => decide (k = l) && decide (a = b)
  | .lk k a, .lk l b => decide (k = l) && decide (a = b)
  | .lkT k a, .lkT l b => decide (k = l) && decide (a = b)
  | .ins c k a, .ins e l b => decide (c = e) && (decide (k = l) && decide (a = b))
  | _, _ => false
theorem beqC_iff {a b : C} : beqC a b = true ↔ a = b := by
  cases a <;> cases b <;> simp [beqC]
instance : DecidableEq C := fun a b => decidable_of_iff (beqC a b = true) beqC_iff
instance : Inhabited P := ⟨.non⟩
instance : Inhabited D := ⟨.p .non⟩
abbrev Env := List (Option D)
abbrev S := List C

/-! what stands for them in a heap -/
section
variable (K : PySem.W.Frag) (H : Hp)
mutual
def RepP : P → V → Prop
  | .non, v => v = .non
  | .bl b, v => v = .bl b
  | .int i, v => v = .int i
  | .str x, v => v = .str x
  | .tup ps, v => ∃ a vs, v = .ref a ∧ SqT K H a vs ∧ RepPs ps vs
def RepPs : List P → List V → Prop
  | [], vs => vs = []
  | p :: ps, vs => ∃ v r, vs = v :: r ∧ RepP p v ∧ RepPs ps r
end
variable (m : List Addr)
/-- a list that nobody changes -/
def RoL (a : Addr) (vs : List V) : Prop := (Rd H a (.lst vs) ∧ a ∉ m) ∨
    ∃ (o : Obj) (its : Array Value) (n : Nat), K.lookup a = some o ∧ o.cls = .type "list" ∧ o.dict = none ∧ o.data = .seq its n ∧ its.size ≤ sizeLine ∧ Vals vs its.toList
mutual
def RepD : D → V → Prop
  | .p p, v => RepP K H p v
  | .loc n, v => ∃ a, m[n]? = some a ∧ v = .ref a
  | .mix ds, v => ∃ a vs, v = .ref a ∧ SqT K H a vs ∧ RepDs ds vs
  | .lst ds, v => ∃ a vs, v = .ref a ∧ (H a = some (.lst vs) ∧ a ∉ m) ∧ RepDs ds vs
  | .ro ds, v => ∃ a vs, v = .ref a ∧ RoL K H m a vs ∧ RepDs ds vs
  | .dK ks ds, v => ∃ a vs, v = .ref a ∧ (Rd H a (.dK (ks.zip vs)) ∧ a ∉ m) ∧ ks.length = vs.length ∧ RepDs ds vs
  | .dT ks ds, v => ∃ a vs, v = .ref a ∧ (Rd H a (.dT (ks.zip vs)) ∧ a ∉ m) ∧ ks.length = vs.length ∧ RepDs ds vs
def RepDs : List D → List V → Prop
  | [], vs => vs = []
  | d :: ds, vs => ∃ v r, vs = v :: r ∧ RepD d v ∧ RepDs ds r
end
/-- the class at an address, by its name -/
def RepC (ca : Str → Addr) : C → Addr → Prop
  | .lst ds, a => ∃ vs, H a = some (.lst vs) ∧ RepDs K H m ds vs
  | .dK ks ds, a => ∃ vs, H a = some (.dK (ks.zip vs)) ∧ ks.length = vs.length ∧ RepDs K H m ds vs
  | .dT ks ds, a => ∃ vs, H a = some (.dT (ks.zip vs)) ∧ ks.length = vs.length ∧ RepDs K H m ds vs
  | .lk ks ds, a => ∃ o vs, H a = some (.frz o (.dK (ks.zip vs))) ∧ ks.length = vs.length ∧ RepDs K H m ds vs
  | .lkT ks ds, a => ∃ o vs, H a = some (.frz o (.dT (ks.zip vs))) ∧ ks.length = vs.length ∧ RepDs K H m ds vs
  | .ins c ks ds, a => ∃ dx vs, H a = some (.ins (ca c) dx (ks.zip vs)) ∧ ks.length = vs.length ∧ RepDs K H m ds vs
end

/-- what is read by its content alone -/
def pl : HO → Bool
  | .tup _ => true
  | .lst _ => true
  | .dK _ => true
  | .dT _ => true
  | _ => false
/-- what stays as it is: what is locked, an exception's fields -/
def Fx : HO → Prop
  | .frz _ _ => True
  | .xd _ => True
  | _ => False
/-- what the store does not hold stays -/
structure ExtW (m : List Addr) (H : Hp) (m' : List Addr) (H' : Hp) : Prop where
  pre : m <+: m'
  keep : ∀ b u, pl u = true → Rd H b u → b ∉ m → Rd H' b u ∧ b ∉ m'
  lst : ∀ b vs, H b = some (.lst vs) → b ∉ m → H' b = some (.lst vs)
/-- .. and what is frozen, too -/
structure Ext (m : List Addr) (H : Hp) (m' : List Addr) (H' : Hp) : Prop extends ExtW m H m' H' where
  fx : ∀ b u, Fx u → H b = some u → H' b = some u
instance {m m' : List Addr} {H H' : Hp} : Coe (Ext m H m' H') (ExtW m H m' H') := ⟨Ext.toExtW⟩
theorem Ext.frz {m m' : List Addr} {H H' : Hp} (x : Ext m H m' H') (b : Addr) (o : Obj) (u : HO) (h : H b = some (.frz o u)) : H' b = some (.frz o u) := x.fx b _ trivial h
theorem Ext.xd {m m' : List Addr} {H H' : Hp} (x : Ext m H m' H') {b : Addr} {fs : List (Str × V)} (h : H b = some (.xd fs)) : H' b = some (.xd fs) := x.fx b _ trivial h
theorem Ext.refl (m : List Addr) (H : Hp) : Ext m H m H := ⟨⟨List.prefix_refl _, fun _ _ _ h n => ⟨h, n⟩, fun _ _ h _ => h⟩, fun _ _ _ h => h⟩
theorem ExtW.trans {m m1 m2 : List Addr} {H H1 H2 : Hp} (a : ExtW m H m1 H1) (b : ExtW m1 H1 m2 H2) : ExtW m H m2 H2 :=
  ⟨a.pre.trans b.pre, fun x u p h n => let ⟨h1, n1⟩ := a.keep x u p h n; b.keep x u p h1 n1, fun x vs h n => b.lst x vs (a.lst x vs h n) (a.keep x _ rfl (.inl h) n).2⟩
theorem Ext.trans {m m1 m2 : List Addr} {H H1 H2 : Hp} (a : Ext m H m1 H1) (b : Ext m1 H1 m2 H2) : Ext m H m2 H2 :=
  ⟨ExtW.trans a.toExtW b.toExtW, fun x u q h => b.fx x u q (a.fx x u q h)⟩
/-- tuples are in no store -/
def NoTup (m : List Addr) (H : Hp) : Prop := ∀ a ∈ m, ∀ xs, ¬ Rd H a (.tup xs)
theorem ExtW.sqt {K : PySem.W.Frag} {m m' : List Addr} {H H' : Hp} (k : ExtW m H m' H') (nt : NoTup m H) {a : Addr} {xs : List V} (h : SqT K H a xs) : SqT K H' a xs := by
  rcases h with h | h
  · exact .inl (k.keep a _ rfl h fun hm => nt a hm xs h).1
  · exact .inr h
theorem RoL.sql {K : PySem.W.Frag} {H : Hp} {m : List Addr} {a : Addr} {xs : List V} (h : RoL K H m a xs) : SqL K H a xs := by
  rcases h with ⟨h, _⟩ | h
  · exact .inl h
  · exact .inr h
section
variable {K : PySem.W.Frag} {H H' : Hp} {m m' : List Addr}
mutual
theorem RepP.ext (k : ExtW m H m' H') (nt : NoTup m H) : ∀ {p : P} {v : V}, RepP K H p v → RepP K H' p v
  | .non, _, h => h
  | .bl _, _, h => h
  | .int _, _, h => h
  | .str _, _, h => h
  | .tup _, _, h => by
    obtain ⟨a, vs, e, q, r⟩ := h
    exact ⟨a, vs, e, k.sqt nt q, RepPs.ext k nt r⟩
theorem RepPs.ext (k : ExtW m H m' H') (nt : NoTup m H) : ∀ {ps : List P} {vs : List V}, RepPs K H ps vs → RepPs K H' ps vs
  | [], _, h => h
  | _ :: _, _, h => by
    obtain ⟨v, r, e, h1, h2⟩ := h
    exact ⟨v, r, e, RepP.ext k nt h1, RepPs.ext k nt h2⟩
end
mutual
theorem RepD.ext (k : ExtW m H m' H') (nt : NoTup m H) : ∀ {d : D} {v : V}, RepD K H m d v → RepD K H' m' d v
  | .p _, _, h => RepP.ext k nt h
  | .loc n, _, h => by
    obtain ⟨a, e, q⟩ := h
    exact ⟨a, by obtain ⟨t, rfl⟩ := k.pre; rw [List.getElem?_append_left (List.getElem?_eq_some_iff.mp e).1]; exact e, q⟩
  | .mix _, _, h => by
    obtain ⟨a, vs, e, q, r⟩ := h
    exact ⟨a, vs, e, k.sqt nt q, RepDs.ext k nt r⟩
  | .lst _, _, h => by
    obtain ⟨a, vs, e, ⟨q, n⟩, r⟩ := h
    exact ⟨a, vs, e, ⟨k.lst a _ q n, (k.keep a _ rfl (.inl q) n).2⟩, RepDs.ext k nt r⟩
  | .ro _, _, h => by
    obtain ⟨a, vs, e, q, r⟩ := h
    refine ⟨a, vs, e, ?_, RepDs.ext k nt r⟩
    rcases q with ⟨q, n⟩ | q
    · exact .inl (k.keep a _ rfl q n)
    · exact .inr q
  | .dK _ _, _, h => by
    obtain ⟨a, vs, e, ⟨q, n⟩, l, r⟩ := h
    exact ⟨a, vs, e, k.keep a _ rfl q n, l, RepDs.ext k nt r⟩
  | .dT _ _, _, h => by
    obtain ⟨a, vs, e, ⟨q, n⟩, l, r⟩ := h
    exact ⟨a, vs, e, k.keep a _ rfl q n, l, RepDs.ext k nt r⟩
theorem RepDs.ext (k : ExtW m H m' H') (nt : NoTup m H) : ∀ {ds : List D} {vs : List V}, RepDs K H m ds vs → RepDs K H' m' ds vs
  | [], _, h => h
  | _ :: _, _, h => by
    obtain ⟨v, r, e, h1, h2⟩ := h
    exact ⟨v, r, e, RepD.ext k nt h1, RepDs.ext k nt h2⟩
end
theorem RepC.ext {ca : Str → Addr} {c : C} {a : Addr} (k : ExtW m H m' H') (nt : NoTup m H) (ha : H' a = H a) (h : RepC K H m ca c a) : RepC K H' m' ca c a := by
  cases c with
  | lst ds => obtain ⟨vs, e, r⟩ := h; exact ⟨vs, ha.trans e, r.ext k nt⟩
  | dK ks ds => obtain ⟨kv, e, q, r⟩ := h; exact ⟨kv, ha.trans e, q, r.ext k nt⟩
  | dT ks ds => obtain ⟨kv, e, q, r⟩ := h; exact ⟨kv, ha.trans e, q, r.ext k nt⟩
  | lk ks ds => obtain ⟨o, kv, e, q, r⟩ := h; exact ⟨o, kv, ha.trans e, q, r.ext k nt⟩
  | lkT ks ds => obtain ⟨o, kv, e, q, r⟩ := h; exact ⟨o, kv, ha.trans e, q, r.ext k nt⟩
  | ins c ks ds => obtain ⟨dx, fs', e, q, r⟩ := h; exact ⟨dx, fs', ha.trans e, q, r.ext k nt⟩
theorem RepC.some {ca : Str → Addr} {c : C} {a : Addr} (h : RepC K H m ca c a) : (∃ o, H a = Option.some o) ∧ ∀ xs, ¬ Rd H a (.tup xs) := by
  have go : ∀ {o : HO}, H a = Option.some o → (∀ xs, o ≠ .tup xs) → (∀ ob xs, o ≠ .frz ob (.tup xs)) → (∃ o, H a = Option.some o) ∧ ∀ xs, ¬ Rd H a (.tup xs) := fun {o} e h1 h2 => by
    refine ⟨⟨o, e⟩, fun xs h => ?_⟩
    rcases h with h | ⟨ob, h⟩
    · rw [e] at h; exact h1 xs (Option.some.inj h)
    · rw [e] at h; exact h2 ob xs (Option.some.inj h)
  cases c with
  | lst ds => obtain ⟨vs, e, r⟩ := h; exact go e (fun _ z => nomatch z) fun _ _ z => nomatch z
  | dK ks ds => obtain ⟨kv, e, q, r⟩ := h; exact go e (fun _ z => nomatch z) fun _ _ z => nomatch z
  | dT ks ds => obtain ⟨kv, e, q, r⟩ := h; exact go e (fun _ z => nomatch z) fun _ _ z => nomatch z
  | lk ks ds => obtain ⟨o, kv, e, q, r⟩ := h; exact go e (fun _ z => nomatch z) fun _ _ z => by injection z with z1 z2; nomatch z2
  | lkT ks ds => obtain ⟨o, kv, e, q, r⟩ := h; exact go e (fun _ z => nomatch z) fun _ _ z => by injection z with z1 z2; nomatch z2
  | ins c ks ds => obtain ⟨dx, fs', e, q, r⟩ := h; exact go e (fun _ z => nomatch z) fun _ _ z => nomatch z
end

/-! lists of things -/
section
variable {K : PySem.W.Frag} {H : Hp} {m : List Addr}
theorem RepDs.len : ∀ {ds : List D} {vs : List V}, RepDs K H m ds vs → ds.length = vs.length
  | [], _, h => by rw [show _ = _ from h]; rfl
  | _ :: _, _, h => by obtain ⟨v, r, e, h1, h2⟩ := h; subst e; simp [RepDs.len h2]
theorem RepPs.len : ∀ {ds : List P} {vs : List V}, RepPs K H ds vs → ds.length = vs.length
  | [], _, h => by rw [show _ = _ from h]; rfl
  | _ :: _, _, h => by obtain ⟨v, r, e, h1, h2⟩ := h; subst e; simp [RepPs.len h2]
theorem RepDs.get : ∀ {ds : List D} {vs : List V} {i : Nat} {d : D}, RepDs K H m ds vs → ds[i]? = some d → ∃ v, vs[i]? = some v ∧ RepD K H m d v
  | [], _, _, _, _, e => by simp at e
  | d :: ds, _, 0, _, h, e => by
    obtain ⟨v, r, ev, h1, h2⟩ := h
    subst ev; simp at e; subst e
    exact ⟨v, rfl, h1⟩
  | d :: ds, _, i + 1, _, h, e => by
    obtain ⟨v, r, ev, h1, h2⟩ := h
    subst ev
    obtain ⟨w, e1, e2⟩ := RepDs.get (i := i) h2 (by simpa using e)
    exact ⟨w, by simpa using e1, e2⟩
theorem RepDs.app : ∀ {ds es : List D} {vs ws : List V}, RepDs K H m ds vs → RepDs K H m es ws → RepDs K H m (ds ++ es) (vs ++ ws)
  | [], _, _, _, h, h' => by rw [show _ = _ from h]; exact h'
  | _ :: _, _, _, _, h, h' => by
    obtain ⟨v, r, e, h1, h2⟩ := h
    subst e
    exact ⟨v, r ++ _, rfl, h1, RepDs.app h2 h'⟩
theorem RepPs.app : ∀ {ds es : List P} {vs ws : List V}, RepPs K H ds vs → RepPs K H es ws → RepPs K H (ds ++ es) (vs ++ ws)
  | [], _, _, _, h, h' => by rw [show _ = _ from h]; exact h'
  | _ :: _, _, _, _, h, h' => by
    obtain ⟨v, r, e, h1, h2⟩ := h
    subst e
    exact ⟨v, r ++ _, rfl, h1, RepPs.app h2 h'⟩
theorem RepDs.one {d : D} {v : V} (h : RepD K H m d v) : RepDs K H m [d] [v] := ⟨v, [], rfl, h, rfl⟩
theorem RepDs.set : ∀ {ds : List D} {vs : List V} (i : Nat) {d : D} {v : V}, RepDs K H m ds vs → RepD K H m d v → RepDs K H m (ds.set i d) (vs.set i v)
  | [], _, _, _, _, h, _ => by rw [show _ = _ from h]; rfl
  | _ :: _, _, 0, _, v, h, hd => by
    obtain ⟨w, r, e, h1, h2⟩ := h
    subst e
    exact ⟨v, r, rfl, hd, h2⟩
  | _ :: _, _, i + 1, _, _, h, hd => by
    obtain ⟨w, r, e, h1, h2⟩ := h
    subst e
    exact ⟨w, _, rfl, h1, RepDs.set i h2 hd⟩
theorem RepDs.take : ∀ {ds : List D} {vs : List V} (n : Nat), RepDs K H m ds vs → RepDs K H m (ds.take n) (vs.take n)
  | [], _, _, h => by rw [show _ = _ from h]; simp; rfl
  | _ :: _, _, 0, h => by simp; rfl
  | _ :: _, _, n + 1, h => by
    obtain ⟨w, r, e, h1, h2⟩ := h
    subst e
    exact ⟨w, _, rfl, h1, RepDs.take n h2⟩
theorem RepDs.drop : ∀ {ds : List D} {vs : List V} (n : Nat), RepDs K H m ds vs → RepDs K H m (ds.drop n) (vs.drop n)
  | [], _, _, h => by rw [show _ = _ from h]; simp; rfl
  | _ :: _, _, 0, h => h
  | _ :: _, _, n + 1, h => by
    obtain ⟨w, r, e, h1, h2⟩ := h
    subst e
    exact RepDs.drop n h2
theorem RepDs.ofP : ∀ {ps : List P} {vs : List V}, RepPs K H ps vs → RepDs K H m (ps.map D.p) vs
  | [], _, h => h
  | _ :: _, _, h => by obtain ⟨v, r, e, h1, h2⟩ := h; exact ⟨v, r, e, h1, RepDs.ofP h2⟩
theorem RepPs.ofD : ∀ {ps : List P} {vs : List V}, RepDs K H m (ps.map D.p) vs → RepPs K H ps vs
  | [], _, h => h
  | _ :: _, _, h => by obtain ⟨v, r, e, h1, h2⟩ := h; exact ⟨v, r, e, h1, RepPs.ofD h2⟩
end

/-! the relation of a state with slots and heap -/
theorem nd_ix {α : Type} : ∀ {l : List α} {i j : Nat} {a : α}, l.Nodup → l[i]? = some a → l[j]? = some a → i = j
  | [], _, _, _, _, h, _ => by simp at h
  | x :: l, 0, 0, _, _, _, _ => rfl
  | x :: l, 0, j + 1, a, nd, h1, h2 => by
    simp at h1; subst h1
    exact absurd (List.mem_of_getElem? (by simpa using h2)) (List.nodup_cons.mp nd).1
  | x :: l, i + 1, 0, a, nd, h1, h2 => by
    simp at h2; subst h2
    exact absurd (List.mem_of_getElem? (by simpa using h1)) (List.nodup_cons.mp nd).1
  | x :: l, i + 1, j + 1, a, nd, h1, h2 => by
    exact congrArg (· + 1) (nd_ix (i := i) (j := j) (a := a) (List.nodup_cons.mp nd).2 (by simpa using h1) (by simpa using h2))
structure StRep (K : PySem.W.Frag) (ca : Str → Addr) (m : List Addr) (H : Hp) (st : S) : Prop where
  len : m.length = st.length
  nd : m.Nodup
  at_ : ∀ (n : Nat) (c : C) (a : Addr), st[n]? = some c → m[n]? = some a → RepC K H m ca c a
def EnvRep (K : PySem.W.Frag) (m : List Addr) (H : Hp) (ρ : Env) (σ : L2.St) : Prop :=
  ρ.length = σ.length ∧ ∀ (i : Nat) (d : D), ρ[i]? = some (some d) → ∃ v, σ[i]? = some (some v) ∧ RepD K H m d v
structure Rel (K : PySem.W.Frag) (ca : Str → Addr) (m : List Addr) (H : Hp) (ρ : Env) (σ : L2.St) (st : S) : Prop where
  env : EnvRep K m H ρ σ
  sto : StRep K ca m H st
section
variable {K : PySem.W.Frag} {ca : Str → Addr} {m m' : List Addr} {H H' : Hp} {ρ : Env} {σ : L2.St} {st st' : S}
theorem StRep.mem (s : StRep K ca m H st) {a : Addr} (h : a ∈ m) : ∃ (n : Nat) (c : C), m[n]? = some a ∧ st[n]? = some c ∧ RepC K H m ca c a := by
  obtain ⟨n, hn⟩ := List.mem_iff_getElem?.mp h
  have h1 := (List.getElem?_eq_some_iff.mp hn).1
  rw [s.len] at h1
  exact ⟨n, _, hn, List.getElem?_eq_getElem h1, s.at_ n _ a (List.getElem?_eq_getElem h1) hn⟩
theorem StRep.nt (s : StRep K ca m H st) : NoTup m H := fun a ha xs h => by
  obtain ⟨_, _, _, _, r⟩ := s.mem ha
  exact r.some.2 xs h
theorem StRep.here (s : StRep K ca m H st) {a : Addr} (h : a ∈ m) : ∃ o, H a = some o := by
  obtain ⟨_, _, _, _, r⟩ := s.mem h
  exact r.some.1
theorem StRep.fresh (s : StRep K ca m H st) {p : Addr} (h : H p = none) : p ∉ m := fun hm => by
  obtain ⟨o, e⟩ := s.here hm
  rw [h] at e; cases e
theorem StRep.lt (s : StRep K ca m H st) {n : Nat} {c : C} (e : st[n]? = some c) : ∃ a, m[n]? = some a ∧ RepC K H m ca c a := by
  have h1 := (List.getElem?_eq_some_iff.mp e).1
  rw [← s.len] at h1
  exact ⟨m[n], List.getElem?_eq_getElem h1, s.at_ n c _ e (List.getElem?_eq_getElem h1)⟩
theorem StRep.repD (s : StRep K ca m H st) (x : ExtW m H m' H') {d : D} {v : V} (h : RepD K H m d v) : RepD K H' m' d v := h.ext x s.nt
theorem StRep.repDs (s : StRep K ca m H st) (x : ExtW m H m' H') {d : List D} {v : List V} (h : RepDs K H m d v) : RepDs K H' m' d v := h.ext x s.nt
theorem EnvRep.ext (h : EnvRep K m H ρ σ) (x : ExtW m H m' H') (nt : NoTup m H) : EnvRep K m' H' ρ σ :=
  ⟨h.1, fun i d e => by obtain ⟨v, e1, r⟩ := h.2 i d e; exact ⟨v, e1, r.ext x nt⟩⟩
theorem EnvRep.set (h : EnvRep K m H ρ σ) (i : Nat) {d : D} {v : V} (r : RepD K H m d v) : EnvRep K m H (ρ.set i (some d)) (σ.set i (some v)) := by
  refine ⟨by simpa using h.1, fun j e he => ?_⟩
  by_cases hij : i = j
  · subst hij
    by_cases hl : i < ρ.length
    · rw [List.getElem?_set_self hl] at he
      cases he
      exact ⟨v, by rw [List.getElem?_set_self (by rw [← h.1]; exact hl)], r⟩
    · rw [List.getElem?_eq_none (by simpa using hl)] at he
      cases he
  · rw [List.getElem?_set_ne hij] at he ⊢
    exact h.2 j e he
theorem fx_upd {H : Hp} {p : Addr} {o : HO} (hp : ∀ u, Fx u → H p ≠ some u) : ∀ b u, Fx u → H b = some u → upd H p o b = some u := fun b u q h => by
  have hb : b ≠ p := fun e => hp u q (e ▸ h)
  exact (upd_ne hb).trans h
theorem Ext.new {p : Addr} {o : HO} (s : StRep K ca m H st) (hp : H p = none) : Ext m H m (upd H p o) :=
  ⟨⟨List.prefix_refl _, fun b u _ h n => by
    have hb : b ≠ p := fun e => by
      subst e
      rcases h with h | ⟨_, h⟩ <;> (rw [hp] at h; cases h)
    refine ⟨?_, n⟩
    rcases h with h | ⟨ob, h⟩
    · exact .inl ((upd_ne hb).trans h)
    · exact .inr ⟨ob, (upd_ne hb).trans h⟩, fun b vs h n => (upd_ne (ne_of_none h hp)).trans h⟩, fx_upd fun _ _ e => by rw [hp] at e; cases e⟩
theorem Ext.newM {p : Addr} {o : HO} (s : StRep K ca m H st) (hp : H p = none) : Ext m H (m ++ [p]) (upd H p o) :=
  ⟨⟨List.prefix_append _ _, fun b u _ h n => by
    have hb : b ≠ p := fun e => by
      subst e
      rcases h with h | ⟨_, h⟩ <;> (rw [hp] at h; cases h)
    refine ⟨?_, by simp [n, hb]⟩
    rcases h with h | ⟨ob, h⟩
    · exact .inl ((upd_ne hb).trans h)
    · exact .inr ⟨ob, (upd_ne hb).trans h⟩, fun b vs h n => (upd_ne (ne_of_none h hp)).trans h⟩, fx_upd fun _ _ e => by rw [hp] at e; cases e⟩
theorem ExtW.put {a : Addr} {o : HO} (ha : a ∈ m) : ExtW m H m (upd H a o) :=
  ⟨List.prefix_refl _, fun b u _ h n => by
    have hb : b ≠ a := fun e => n (e ▸ ha)
    refine ⟨?_, n⟩
    rcases h with h | ⟨ob, h⟩
    · exact .inl ((upd_ne hb).trans h)
    · exact .inr ⟨ob, (upd_ne hb).trans h⟩, fun b vs h n => (upd_ne (show b ≠ a from fun e => n (e ▸ ha))).trans h⟩
theorem Ext.put {a : Addr} {o : HO} (ha : a ∈ m) (hn : ∀ u, Fx u → H a ≠ some u) : Ext m H m (upd H a o) := ⟨ExtW.put ha, fx_upd hn⟩
theorem nf_lst {a : Addr} {vs : List V} (h : H a = some (.lst vs)) : ∀ u, Fx u → H a ≠ some u := fun _ q e => by rw [h] at e; cases e; exact q
theorem nf_dK {a : Addr} {vs : List (Key × V)} (h : H a = some (.dK vs)) : ∀ u, Fx u → H a ≠ some u := fun _ q e => by rw [h] at e; cases e; exact q
theorem nf_dT {a : Addr} {vs : List (List Key × V)} (h : H a = some (.dT vs)) : ∀ u, Fx u → H a ≠ some u := fun _ q e => by rw [h] at e; cases e; exact q
theorem nf_ins {a c dx : Addr} {fs : List (Str × V)} (h : H a = some (.ins c dx fs)) : ∀ u, Fx u → H a ≠ some u := fun _ q e => by rw [h] at e; cases e; exact q
/-- the cells are as they were -/
theorem StRep.same (s : StRep K ca m H st) (x : ExtW m H m H') (h : ∀ a ∈ m, H' a = H a) : StRep K ca m H' st :=
  ⟨s.len, s.nd, fun n c a e1 e2 => (s.at_ n c a e1 e2).ext x s.nt (h a (List.mem_of_getElem? e2))⟩
theorem StRep.updNew (s : StRep K ca m H st) {p : Addr} {o : HO} (hp : H p = none) : StRep K ca m (upd H p o) st :=
  s.same (Ext.new s hp).toExtW fun a ha => upd_ne fun e => s.fresh hp (e ▸ ha)
/-- a new cell -/
theorem StRep.alloc (s : StRep K ca m H st) {p : Addr} {o : HO} {c : C} (hp : H p = none) (hc : RepC K (upd H p o) (m ++ [p]) ca c p) : StRep K ca (m ++ [p]) (upd H p o) (st ++ [c]) := by
  have hnm := s.fresh hp
  refine ⟨by simp [s.len], List.nodup_append.mpr ⟨s.nd, by simp, fun a ha b hb => ?_⟩, fun n c' a e1 e2 => ?_⟩
  · intro e; subst e; simp at hb; subst hb; exact hnm ha
  · by_cases hn : n < st.length
    · rw [List.getElem?_append_left hn] at e1
      rw [List.getElem?_append_left (by rw [s.len]; exact hn)] at e2
      have ham := List.mem_of_getElem? e2
      exact (s.at_ n c' a e1 e2).ext (Ext.newM s hp).toExtW s.nt (upd_ne fun e => hnm (e ▸ ham))
    · have hn' : n = st.length := by
        have := (List.getElem?_eq_some_iff.mp e1).1
        simp at this; omega
      subst hn'
      rw [List.getElem?_append_right (Nat.le_refl _)] at e1
      rw [List.getElem?_append_right (by rw [s.len]; exact Nat.le_refl _)] at e2
      simp [s.len] at e1 e2
      subst e1 e2
      exact hc
/-- a cell changed -/
theorem StRep.put (s : StRep K ca m H st) {n : Nat} {a : Addr} {o : HO} {c : C} (hn : m[n]? = some a) (hc : RepC K (upd H a o) m ca c a) : StRep K ca m (upd H a o) (st.set n c) := by
  have ha := List.mem_of_getElem? hn
  refine ⟨by simp [s.len], s.nd, fun j c' b e1 e2 => ?_⟩
  by_cases hj : n = j
  · subst hj
    rw [hn] at e2; cases e2
    have hl : n < st.length := by rw [← s.len]; exact (List.getElem?_eq_some_iff.mp hn).1
    rw [List.getElem?_set_self hl] at e1
    cases e1
    exact hc
  · rw [List.getElem?_set_ne hj] at e1
    have hb : b ≠ a := fun e => by
      subst e
      exact hj (nd_ix s.nd hn e2)
    exact (s.at_ j c' b e1 e2).ext (ExtW.put ha) s.nt (upd_ne hb)
theorem Rel.ext (r : Rel K ca m H ρ σ st) (x : ExtW m H m' H') (s : StRep K ca m' H' st') : Rel K ca m' H' ρ σ st' := ⟨r.env.ext x r.sto.nt, s⟩
end

/-! leaving a def: what was made on the way is let go; a list, a dict that is handed back is changed by nobody any more -/
mutual
def clD (k : Nat) : D → Bool
  | .p _ => true
  | .loc n => decide (n < k)
  | .mix ds => clDs k ds
  | .lst ds => clDs k ds
  | .ro ds => clDs k ds
  | .dK _ ds => clDs k ds
  | .dT _ ds => clDs k ds
def clDs (k : Nat) : List D → Bool
  | [] => true
  | d :: ds => clD k d && clDs k ds
end
def clC (k : Nat) : C → Bool
  | .lst ds => clDs k ds
  | .dK _ ds => clDs k ds
  | .dT _ ds => clDs k ds
  | .lk _ _ => false
  | .lkT _ _ => false
  | .ins _ _ ds => clDs k ds
/-- the cells of before, as they are now -/
def chk (k : Nat) : S → S → Bool
  | [], _ => true
  | c :: s, c' :: s' => (decide (c' = c) || clC k c') && chk k s s'
  | _ :: _, [] => false
def frz1 (k : Nat) (st' : S) (d : D) : D := match d with
  | .loc n => if n < k then .loc n else match st'[n]? with
    | some (.lst ds) => .lst ds
    | some (.dK ks ds) => .dK ks ds
    | some (.dT ks ds) => .dT ks ds
    | _ => .loc n
  | d => d
def frzD (k : Nat) (st' : S) (d : D) : D := match d with
  | .mix ds => .mix (ds.map (frz1 k st'))
  | d => frz1 k st' d
section
variable {K : PySem.W.Frag} {ca : Str → Addr} {m m' : List Addr} {H : Hp} {st st' : S} {k : Nat}
mutual
theorem RepD.cut (hp : m <+: m') (hk : m.length = k) : ∀ {d : D} {v : V}, clD k d = true → RepD K H m' d v → RepD K H m d v
  | .p _, _, _, h => h
  | .loc n, _, c, h => by
    obtain ⟨a, e, q⟩ := h
    have hn : n < k := of_decide_eq_true c
    refine ⟨a, ?_, q⟩
    obtain ⟨t, rfl⟩ := hp
    rw [List.getElem?_append_left (by omega)] at e
    exact e
  | .mix _, _, c, h => by
    obtain ⟨a, vs, e, q, r⟩ := h
    exact ⟨a, vs, e, q, RepDs.cut hp hk c r⟩
  | .lst _, _, c, h => by
    obtain ⟨a, vs, e, ⟨q, n⟩, r⟩ := h
    exact ⟨a, vs, e, ⟨q, fun z => n (hp.subset z)⟩, RepDs.cut hp hk c r⟩
  | .ro _, _, c, h => by
    obtain ⟨a, vs, e, q, r⟩ := h
    refine ⟨a, vs, e, ?_, RepDs.cut hp hk c r⟩
    rcases q with ⟨q, n⟩ | q
    · exact .inl ⟨q, fun z => n (hp.subset z)⟩
    · exact .inr q
  | .dK _ _, _, c, h => by
    obtain ⟨a, vs, e, ⟨q, n⟩, l, r⟩ := h
    exact ⟨a, vs, e, ⟨q, fun z => n (hp.subset z)⟩, l, RepDs.cut hp hk c r⟩
  | .dT _ _, _, c, h => by
    obtain ⟨a, vs, e, ⟨q, n⟩, l, r⟩ := h
    exact ⟨a, vs, e, ⟨q, fun z => n (hp.subset z)⟩, l, RepDs.cut hp hk c r⟩
theorem RepDs.cut (hp : m <+: m') (hk : m.length = k) : ∀ {ds : List D} {vs : List V}, clDs k ds = true → RepDs K H m' ds vs → RepDs K H m ds vs
  | [], _, _, h => h
  | _ :: _, _, c, h => by
    obtain ⟨v, r, e, h1, h2⟩ := h
    obtain ⟨c1, c2⟩ := Bool.and_eq_true_iff.mp (show (clD k _ && clDs k _) = true from c)
    exact ⟨v, r, e, RepD.cut hp hk c1 h1, RepDs.cut hp hk c2 h2⟩
end
mutual
theorem RepD.cl (hk : m.length = k) : ∀ {d : D} {v : V}, RepD K H m d v → clD k d = true
  | .p _, _, h => rfl
  | .loc n, _, h => by
    obtain ⟨a, e, q⟩ := h
    have := (List.getElem?_eq_some_iff.mp e).1
    exact decide_eq_true (by omega)
  | .mix _, _, h => by obtain ⟨a, vs, e, q, r⟩ := h; exact RepDs.cl hk r
  | .lst _, _, h => by obtain ⟨a, vs, e, q, r⟩ := h; exact RepDs.cl hk r
  | .ro _, _, h => by obtain ⟨a, vs, e, q, r⟩ := h; exact RepDs.cl hk r
  | .dK _ _, _, h => by obtain ⟨a, vs, e, q, l, r⟩ := h; exact RepDs.cl hk r
  | .dT _ _, _, h => by obtain ⟨a, vs, e, q, l, r⟩ := h; exact RepDs.cl hk r
theorem RepDs.cl (hk : m.length = k) : ∀ {ds : List D} {vs : List V}, RepDs K H m ds vs → clDs k ds = true
  | [], _, h => rfl
  | _ :: _, _, h => by
    obtain ⟨v, r, e, h1, h2⟩ := h
    exact Bool.and_eq_true_iff.mpr ⟨RepD.cl hk h1, RepDs.cl hk h2⟩
end
/-- what is taken out of the store: the cells' things do not lie among the values -/
theorem RepC.cut {c : C} {a : Addr} (hp : m <+: m') (hk : m.length = k) (hc : clC k c = true) (h : RepC K H m' ca c a) : RepC K H m ca c a := by
  cases c with
  | lst ds => obtain ⟨vs, e, r⟩ := h; exact ⟨vs, e, r.cut hp hk hc⟩
  | dK ks ds => obtain ⟨kv, e, q, r⟩ := h; exact ⟨kv, e, q, r.cut hp hk hc⟩
  | dT ks ds => obtain ⟨kv, e, q, r⟩ := h; exact ⟨kv, e, q, r.cut hp hk hc⟩
  | lk ks ds => cases hc
  | lkT ks ds => cases hc
  | ins c ks ds => obtain ⟨dx, fs', e, q, r⟩ := h; exact ⟨dx, fs', e, q, r.cut hp hk hc⟩
/-- the things themselves are cut to the store of before -/
theorem RepC.cut0 {H0 : Hp} {c : C} {a a0 : Addr} (hp : m <+: m') (hk : m.length = k) (h0 : RepC K H0 m ca c a0) (h : RepC K H m' ca c a) : RepC K H m ca c a := by
  cases c with
  | lst ds => obtain ⟨_, _, r0⟩ := h0; obtain ⟨vs, e, r⟩ := h; exact ⟨vs, e, r.cut hp hk (r0.cl hk)⟩
  | dK ks ds => obtain ⟨_, _, _, r0⟩ := h0; obtain ⟨kv, e, q, r⟩ := h; exact ⟨kv, e, q, r.cut hp hk (r0.cl hk)⟩
  | dT ks ds => obtain ⟨_, _, _, r0⟩ := h0; obtain ⟨kv, e, q, r⟩ := h; exact ⟨kv, e, q, r.cut hp hk (r0.cl hk)⟩
  | lk ks ds => obtain ⟨_, _, _, _, r0⟩ := h0; obtain ⟨o, kv, e, q, r⟩ := h; exact ⟨o, kv, e, q, r.cut hp hk (r0.cl hk)⟩
  | lkT ks ds => obtain ⟨_, _, _, _, r0⟩ := h0; obtain ⟨o, kv, e, q, r⟩ := h; exact ⟨o, kv, e, q, r.cut hp hk (r0.cl hk)⟩
  | ins c ks ds => obtain ⟨_, _, _, _, r0⟩ := h0; obtain ⟨dx, fs', e, q, r⟩ := h; exact ⟨dx, fs', e, q, r.cut hp hk (r0.cl hk)⟩
theorem chk_at : ∀ {s s' : S} {n : Nat} {c c' : C}, chk k s s' = true → s[n]? = some c → s'[n]? = some c' → c' = c ∨ clC k c' = true
  | [], _, _, _, _, _, e, _ => by simp at e
  | d :: s, [], _, _, _, _, _, e => by simp at e
  | d :: s, d' :: s', 0, _, _, h, e, e' => by
    obtain ⟨h1, _⟩ := Bool.and_eq_true_iff.mp (show ((decide (d' = d) || clC k d') && chk k s s') = true from h)
    simp at e e'; subst e e'
    rcases Bool.or_eq_true_iff.mp h1 with q | q
    · exact .inl (of_decide_eq_true q)
    · exact .inr q
  | d :: s, d' :: s', n + 1, _, _, h, e, e' => by
    obtain ⟨_, h2⟩ := Bool.and_eq_true_iff.mp (show ((decide (d' = d) || clC k d') && chk k s s') = true from h)
    exact chk_at (n := n) h2 (by simpa using e) (by simpa using e')
theorem chk_len : ∀ {s s' : S}, chk k s s' = true → s.length ≤ s'.length
  | [], _, _ => Nat.zero_le _
  | d :: s, [], h => by cases h
  | d :: s, d' :: s', h => by
    obtain ⟨_, h2⟩ := Bool.and_eq_true_iff.mp (show ((decide (d' = d) || clC k d') && chk k s s') = true from h)
    exact Nat.succ_le_succ (chk_len h2)
/-- what is made stays behind -/
theorem StRep.cut {H0 : Hp} (s0 : StRep K ca m H0 st) (s1 : StRep K ca m' H st') (hp : m <+: m') (h : chk st.length st st' = true) : StRep K ca m H (st'.take st.length) := by
  have hl := chk_len h
  refine ⟨by rw [s0.len, List.length_take]; omega, s0.nd, fun n c a e1 e2 => ?_⟩
  have hn : n < st.length := by rw [← s0.len]; exact (List.getElem?_eq_some_iff.mp e2).1
  rw [List.getElem?_take_of_lt hn] at e1
  have e3 : m'[n]? = some a := by
    obtain ⟨t, rfl⟩ := hp
    rw [List.getElem?_append_left (by rw [s0.len]; exact hn)]; exact e2
  have r1 := s1.at_ n c a e1 e3
  have e0 : st[n]? = some st[n] := List.getElem?_eq_getElem hn
  rcases chk_at h e0 e1 with q | q
  · subst q
    exact RepC.cut0 hp s0.len (s0.at_ n _ a e0 e2) r1
  · exact r1.cut hp s0.len q
theorem Ext.cut {H0 : Hp} (x : Ext m H0 m' H) : Ext m H0 m H := ⟨⟨List.prefix_refl _, fun b u p h n => ⟨(x.keep b u p h n).1, n⟩, x.lst⟩, x.fx⟩
theorem nd_pre {m m' : List Addr} (hp : m <+: m') (nd : m'.Nodup) {n : Nat} {a : Addr} (e : m'[n]? = some a) (h : m.length ≤ n) : a ∉ m := fun hm => by
  obtain ⟨j, hj⟩ := List.mem_iff_getElem?.mp hm
  have hjl := (List.getElem?_eq_some_iff.mp hj).1
  have e2 : m'[j]? = some a := by
    obtain ⟨t, rfl⟩ := hp
    rw [List.getElem?_append_left hjl]; exact hj
  have := nd_ix nd e e2
  omega
theorem frz1_ok (s1 : StRep K ca m' H st') (hp : m <+: m') (hk : m.length = k) {d : D} {v : V} (r : RepD K H m' d v) (c : clD k (frz1 k st' d) = true) : RepD K H m (frz1 k st' d) v := by
  cases d with
  | loc n =>
    unfold frz1 at c ⊢
    by_cases hn : n < k
    · simp only [hn, if_true] at c ⊢
      exact RepD.cut hp hk (d := .loc n) (decide_eq_true hn) r
    · simp only [hn, if_false] at c ⊢
      obtain ⟨a, e, q⟩ := r
      cases e2 : st'[n]? with
      | none => rw [e2] at c; exact absurd (of_decide_eq_true c) hn
      | some z =>
        rw [e2] at c
        have rz := s1.at_ n z a e2 e
        have na := nd_pre hp s1.nd e (by omega)
        cases z with
        | lst ds => obtain ⟨vs, ea, rr⟩ := rz; exact ⟨a, vs, q, ⟨ea, na⟩, rr.cut hp hk c⟩
        | dK ks ds => obtain ⟨vs, ea, l, rr⟩ := rz; exact ⟨a, vs, q, ⟨.inl ea, na⟩, l, rr.cut hp hk c⟩
        | dT ks ds => obtain ⟨vs, ea, l, rr⟩ := rz; exact ⟨a, vs, q, ⟨.inl ea, na⟩, l, rr.cut hp hk c⟩
        | lk ks ds => exact absurd (of_decide_eq_true c) hn
        | lkT ks ds => exact absurd (of_decide_eq_true c) hn
        | ins c' ks ds => exact absurd (of_decide_eq_true c) hn
  | _ => exact RepD.cut hp hk c r
theorem frz1s_ok (s1 : StRep K ca m' H st') (hp : m <+: m') (hk : m.length = k) : ∀ {ds : List D} {vs : List V}, RepDs K H m' ds vs → clDs k (ds.map (frz1 k st')) = true → RepDs K H m (ds.map (frz1 k st')) vs
  | [], _, h, _ => h
  | d :: ds, _, h, c => by
    obtain ⟨v, r, e, h1, h2⟩ := h
    obtain ⟨c1, c2⟩ := Bool.and_eq_true_iff.mp (show (clD k (frz1 k st' d) && clDs k (ds.map (frz1 k st'))) = true from c)
    exact ⟨v, r, e, frz1_ok s1 hp hk h1 c1, frz1s_ok s1 hp hk h2 c2⟩
theorem frzD_ok (s1 : StRep K ca m' H st') (hp : m <+: m') (hk : m.length = k) {d : D} {v : V} (r : RepD K H m' d v) (c : clD k (frzD k st' d) = true) : RepD K H m (frzD k st' d) v := by
  cases d with
  | mix ds =>
    obtain ⟨a, vs, e, q, rr⟩ := r
    exact ⟨a, vs, e, q, frz1s_ok s1 hp hk rr c⟩
  | _ => exact frz1_ok s1 hp hk r c
/-- what a def hands back -/
def fin (st : S) (d : D) (st' : S) : D × S :=
  if (clD st.length (frzD st.length st' d) && chk st.length st st') = true then (frzD st.length st' d, st'.take st.length) else (d, st')
theorem fin_ok {H0 : Hp} {d : D} {v : V} (s0 : StRep K ca m H0 st) (x : Ext m H0 m' H) (s1 : StRep K ca m' H st') (r : RepD K H m' d v) :
    ∃ m2, Ext m H0 m2 H ∧ StRep K ca m2 H (fin st d st').2 ∧ RepD K H m2 (fin st d st').1 v := by
  unfold fin
  split
  · rename_i h
    obtain ⟨h1, h2⟩ := Bool.and_eq_true_iff.mp h
    exact ⟨m, x.cut, s0.cut s1 x.pre h2, frzD_ok s1 x.pre s0.len r h1⟩
  · exact ⟨m', x, s1, r⟩
end
end Mo

set_option Elab.async false
set_option linter.all false
set_option maxRecDepth 100000
set_option maxHeartbeats 4000000
namespace Mo
open PySem PySem.Spec PyProof.Rows L2

/-! what code comes to -/
/-- an exception of the program's own: its class by name, its fields -/
structure Xc where
  cls : Str
  fs : List (Str × D)
inductive Out (α : Type) where
  | ok (a : α) (s : S) | ex (x : Xc) (s : S) | no
inductive Fl where
  | nx (ρ : Env) (s : S) | rt (d : D) (s : S) | bk (ρ : Env) (s : S) | ct (ρ : Env) (s : S) | ex (x : Xc) (ρ : Env) (s : S) | no
def Out.bind {α β : Type} (o : Out α) (f : α → S → Out β) : Out β := match o with
  | .ok a s => f a s
  | .ex x s => .ex x s
  | .no => .no
def Out.fl {α : Type} (o : Out α) (ρ : Env) (f : α → S → Fl) : Fl := match o with
  | .ok a s => f a s
  | .ex x s => .ex x ρ s
  | .no => .no
def Fl.then_ (o : Fl) (f : Env → S → Fl) : Fl := match o with
  | .nx ρ s => f ρ s
  | o => o
@[simp] theorem Out.bind_ok {α β : Type} (a : α) (s : S) (f : α → S → Out β) : (Out.ok a s).bind f = f a s := rfl
@[simp] theorem Out.bind_ex {α β : Type} (x : Xc) (s : S) (f : α → S → Out β) : (Out.ex x s).bind f = .ex x s := rfl
@[simp] theorem Out.bind_no {α β : Type} (f : α → S → Out β) : (Out.no : Out α).bind f = .no := rfl
@[simp] theorem Out.fl_ok {α : Type} (a : α) (s : S) (ρ : Env) (f : α → S → Fl) : (Out.ok a s).fl ρ f = f a s := rfl
@[simp] theorem Out.fl_ex {α : Type} (x : Xc) (s : S) (ρ : Env) (f : α → S → Fl) : (Out.ex x s).fl ρ f = .ex x ρ s := rfl
@[simp] theorem Out.fl_no {α : Type} (ρ : Env) (f : α → S → Fl) : (Out.no : Out α).fl ρ f = .no := rfl
@[simp] theorem Fl.then_nx (ρ : Env) (s : S) (f : Env → S → Fl) : (Fl.nx ρ s).then_ f = f ρ s := rfl
@[simp] theorem Fl.then_rt (d : D) (s : S) (f : Env → S → Fl) : (Fl.rt d s).then_ f = .rt d s := rfl
@[simp] theorem Fl.then_bk (ρ : Env) (s : S) (f : Env → S → Fl) : (Fl.bk ρ s).then_ f = .bk ρ s := rfl
@[simp] theorem Fl.then_ct (ρ : Env) (s : S) (f : Env → S → Fl) : (Fl.ct ρ s).then_ f = .ct ρ s := rfl
@[simp] theorem Fl.then_ex (x : Xc) (ρ : Env) (s : S) (f : Env → S → Fl) : (Fl.ex x ρ s).then_ f = .ex x ρ s := rfl
@[simp] theorem Fl.then_no (f : Env → S → Fl) : (Fl.no).then_ f = .no := rfl
abbrev Ex := Env → S → Out D
abbrev Te := Env → S → Out Bool
abbrev Ar := Env → S → Out (List D)
abbrev Bl := Env → S → Fl

/-! the judgements -/
section
variable (K : PySem.W.Frag) (ca : Str → Addr) (W : WX)
def XRep (H : Hp) (m : List Addr) (x : Xc) (c : Value) (od : Option Addr) : Prop :=
  c = .ref (ca x.cls) ∧ (x.fs = [] ∨ ∃ d fs, od = some d ∧ H d = some (.xd fs) ∧ ∀ f dv, x.fs.lookup f = some dv → ∃ v, fs.lookup f = some v ∧ RepD K H m dv v)
/-- o: what it came to; R: what is wanted of a good end -/
def PO_ {α : Type} (m : List Addr) (H : Hp) (ρ : Env) (σ : L2.St) (R : α → S → List Addr → Hp → Prop) : Out α → Prop
  | .ok a s => ∀ m' H', Ext m H m' H' → Rel K ca m' H' ρ σ s → R a s m' H'
  | .ex x s => ∀ m' H' c od, Ext m H m' H' → Rel K ca m' H' ρ σ s → XRep K ca H' m' x c od → W c od σ H'
  | .no => False
def tE (A : Ex) : TE := fun σ H Q => ∃ m ρ s, Rel K ca m H ρ σ s ∧ PO_ K ca W m H ρ σ (fun d _ m' H' => ∀ v, RepD K H' m' d v → Q v H') (A ρ s)
def tT (A : Te) : TT := fun σ H Q => ∃ m ρ s, Rel K ca m H ρ σ s ∧ PO_ K ca W m H ρ σ (fun b _ _ H' => Q b H') (A ρ s)
def tA (A : Ar) : TA := fun σ H Q => ∃ m ρ s, Rel K ca m H ρ σ s ∧ PO_ K ca W m H ρ σ (fun d _ m' H' => ∀ v, RepDs K H' m' d v → Q v H') (A ρ s)
def PF_ (m : List Addr) (H : Hp) (D_ : Ends) : Fl → Prop
  | .nx ρ s => ∀ m' H' σ', Ext m H m' H' → Rel K ca m' H' ρ σ' s → D_.nx σ' H'
  | .bk ρ s => ∀ m' H' σ', Ext m H m' H' → Rel K ca m' H' ρ σ' s → D_.bk σ' H'
  | .ct ρ s => ∀ m' H' σ', Ext m H m' H' → Rel K ca m' H' ρ σ' s → D_.ct σ' H'
  | .rt d s => ∀ m' H' v, Ext m H m' H' → StRep K ca m' H' s → RepD K H' m' d v → D_.rt v H'
  | .ex x ρ s => ∀ m' H' σ' c od, Ext m H m' H' → Rel K ca m' H' ρ σ' s → XRep K ca H' m' x c od → W c od σ' H'
  | .no => False
def tS (B : Bl) : TS := fun D_ σ H => ∃ m ρ s, Rel K ca m H ρ σ s ∧ PF_ K ca W m H D_ (B ρ s)
end
/-- the context, the classes' addresses, the wish about exceptions, the room -/
structure G where
  X : Cx
  ca : Str → Addr
  W : WX
  k : Nat
structure G.Ok (g : G) : Prop where
  tk : Takes g.X g.W
  hr : Room g.k g.X.A
def EvE (g : G) (e : Expr) (A : Ex) : Prop := PE g.X e (tE g.X.K g.ca g.W A)
def EvT (g : G) (e : Expr) (A : Te) : Prop := PT g.X e (tT g.X.K g.ca g.W A)
def EvA (g : G) (es : List Expr) (A : Ar) : Prop := PA g.X es (tA g.X.K g.ca g.W A)
def EvS (g : G) (s : Stmt) (B : Bl) : Prop := PS g.X s (tS g.X.K g.ca g.W B)
def EvB (g : G) (s : List Stmt) (B : Bl) : Prop := PSs g.X s (tS g.X.K g.ca g.W B)

theorem PE.imp {X : Cx} {e : Expr} {t t' : TE} (h : PE X e t) (i : ∀ σ H Q, t' σ H Q → t σ H Q) : PE X e t' := ⟨fun pins s σ H Q I q => h.run pins s σ H Q I (i σ H Q q)⟩
theorem PT.imp {X : Cx} {e : Expr} {t t' : TT} (h : PT X e t) (i : ∀ σ H Q, t' σ H Q → t σ H Q) : PT X e t' := ⟨fun pins s σ H Q I q => h.run pins s σ H Q I (i σ H Q q)⟩
theorem PW.imp {X : Cx} {e : Expr} {t t' : TT} (h : PW X e t) (i : ∀ σ H Q, t' σ H Q → t σ H Q) : PW X e t' := ⟨fun wh pins s σ H Q I q => h.run wh pins s σ H Q I (i σ H Q q)⟩
theorem PA.imp {X : Cx} {e : List Expr} {t t' : TA} (h : PA X e t) (i : ∀ σ H Q, t' σ H Q → t σ H Q) : PA X e t' := ⟨fun pos pins s σ H Q I q => h.run pos pins s σ H Q I (i σ H Q q)⟩
theorem PS.imp {X : Cx} {e : Stmt} {t t' : TS} (h : PS X e t) (i : ∀ D σ H, t' D σ H → t D σ H) : PS X e t' := ⟨fun pins s σ H D I q => h.run pins s σ H D I (i D σ H q)⟩
theorem PSs.imp {X : Cx} {e : List Stmt} {t t' : TS} (h : PSs X e t) (i : ∀ D σ H, t' D σ H → t D σ H) : PSs X e t' := ⟨fun pins s σ H D I q => h.run pins s σ H D I (i D σ H q)⟩

section
variable {K : PySem.W.Frag} {ca : Str → Addr} {W : WX} {m m1 : List Addr} {H H1 : Hp} {ρ : Env} {σ : L2.St} {s s1 : S}
/-- the state has gone on: the same end is wanted of what follows -/
theorem PO_.on {α : Type} {R : α → S → List Addr → Hp → Prop} {o : Out α} (x : Ext m H m1 H1) (h : PO_ K ca W m H ρ σ R o) : PO_ K ca W m1 H1 ρ σ R o := by
  cases o with
  | ok a s => exact fun m' H' x' r => h m' H' (x.trans x') r
  | ex y s => exact fun m' H' c od x' r q => h m' H' c od (x.trans x') r q
  | no => exact h
theorem PF_.on {D_ : Ends} {o : Fl} (x : Ext m H m1 H1) (h : PF_ K ca W m H D_ o) : PF_ K ca W m1 H1 D_ o := by
  cases o with
  | nx ρ s => exact fun m' H' σ' x' r => h m' H' σ' (x.trans x') r
  | bk ρ s => exact fun m' H' σ' x' r => h m' H' σ' (x.trans x') r
  | ct ρ s => exact fun m' H' σ' x' r => h m' H' σ' (x.trans x') r
  | rt d s => exact fun m' H' v x' r q => h m' H' v (x.trans x') r q
  | ex y ρ s => exact fun m' H' σ' c od x' r q => h m' H' σ' c od (x.trans x') r q
  | no => exact h
/-- first A, then what f makes of it -/
theorem PO_.bind {α β : Type} {R : β → S → List Addr → Hp → Prop} {o : Out α} {f : α → S → Out β} (h : PO_ K ca W m H ρ σ R (o.bind f)) :
    PO_ K ca W m H ρ σ (fun a s' m' H' => Rel K ca m' H' ρ σ s' ∧ PO_ K ca W m' H' ρ σ R (f a s')) o := by
  cases o with
  | ok a s => exact fun m' H' x r => ⟨r, PO_.on x h⟩
  | ex y s => exact h
  | no => exact h
theorem PO_.fl {α : Type} {D_ : Ends} {o : Out α} {f : α → S → Fl} (h : PF_ K ca W m H D_ (o.fl ρ f)) :
    PO_ K ca W m H ρ σ (fun a s' m' H' => Rel K ca m' H' ρ σ s' ∧ PF_ K ca W m' H' D_ (f a s')) o := by
  cases o with
  | ok a s => exact fun m' H' x r => ⟨r, PF_.on x h⟩
  | ex y s => exact fun m' H' c od x r q => h m' H' σ c od x r q
  | no => exact h
theorem PO_.mono {α : Type} {R R' : α → S → List Addr → Hp → Prop} {o : Out α} (h : PO_ K ca W m H ρ σ R o) (i : ∀ a s' m' H', R a s' m' H' → R' a s' m' H') : PO_ K ca W m H ρ σ R' o := by
  cases o with
  | ok a s => exact fun m' H' x r => i _ _ _ _ (h m' H' x r)
  | ex y s => exact h
  | no => exact h
/-- from a reading's own words -/
theorem tE.mk {A : Ex} {Q : VK} (r : Rel K ca m H ρ σ s) (h : PO_ K ca W m H ρ σ (fun d _ m' H' => ∀ v, RepD K H' m' d v → Q v H') (A ρ s)) : tE K ca W A σ H Q := ⟨m, ρ, s, r, h⟩
end

/-! names and constants -/
@[simp] def eVar (i : Nat) (ρ : Env) (s : S) : Out D := match ρ[i]? with
  | some (some d) => .ok d s
  | _ => .no
@[simp] def eC (p : P) (_ : Env) (s : S) : Out D := .ok (.p p) s
section
variable {g : G} {a b c : Expr} {A B C_ : Ex} {pos : Pos}
theorem ev_var (i : Nat) {x : Str} (hN : g.X.N[i]? = some x := by rfl) (hv : Vis g.X.env.scope x := by first | exact Or.inl rfl | exact Or.inr (Or.inl rfl) | exact Or.inr (Or.inr rfl)) (hd : (x == ("__debug__" : Str)) = false := by decide)
    (hcd : (x == ("__classdict__" : Str)) = false := by decide) : EvE g (.Name x pos) (eVar i) := by
  refine PE.imp (pe_var (i := i) hN hv hd hcd) fun σ H Q h => ?_
  obtain ⟨m, ρ, s, r, h⟩ := h
  unfold eVar at h
  cases e : ρ[i]? with
  | none => rw [e] at h; exact h.elim
  | some o =>
    cases o with
    | none => rw [e] at h; exact h.elim
    | some d =>
      rw [e] at h
      obtain ⟨v, e1, q⟩ := r.env.2 i d e
      exact ⟨v, e1, h m H (Ext.refl m H) r v q⟩
theorem ev_const {e : Expr} {v : V} {p : P} (h : PE g.X e (tC v)) (hp : ∀ H, RepP g.X.K H p v) : EvE g e (eC p) := by
  refine PE.imp h fun σ H Q h => ?_
  obtain ⟨m, ρ, s, r, h⟩ := h
  exact h m H (Ext.refl m H) r v (hp H)
theorem ev_int {i : Int} {j} : EvE g (.Constant (.int i) j pos) (eC (.int i)) := ev_const pe_int fun _ => rfl
theorem ev_bl {i : Bool} {j} : EvE g (.Constant (.bool i) j pos) (eC (.bl i)) := ev_const pe_bl fun _ => rfl
theorem ev_str {i : Str} {j} : EvE g (.Constant (.str i) j pos) (eC (.str i)) := ev_const pe_str fun _ => rfl
theorem ev_non {j} : EvE g (.Constant .none j pos) (eC .non) := ev_const pe_non fun _ => rfl

/-! operations on two values -/
@[simp] def ofO {α : Type} : Option (α × S) → Out α
  | some (a, s) => .ok a s
  | none => .no
/-- what is wanted of a rule's answer -/
def Ans (g : G) (m : List Addr) (H : Hp) (Q : VK) (o : Option (D × S)) : Prop := ∃ d s', o = some (d, s') ∧ ∀ m' H' v, Ext m H m' H' → StRep g.X.K g.ca m' H' s' → RepD g.X.K H' m' d v → Q v H'
/-- f tells what an operation makes of two values, the store changed or not; r is its reading -/
def OpS (g : G) (f : D → D → S → Option (D × S)) (r : R2) : Prop := ∀ (m : List Addr) (H : Hp) (s : S) (x y : D) (vx vy : V) (Q : VK), StRep g.X.K g.ca m H s → RepD g.X.K H m x vx → RepD g.X.K H m y vy → Ans g m H Q (f x y s) → r vx vy H Q
@[simp] def eOp (f : D → D → S → Option (D × S)) (A B : Ex) (ρ : Env) (s : S) : Out D := (A ρ s).bind fun x s1 => (B ρ s1).bind fun y s2 => ofO (f x y s2)
theorem ans_of {W : WX} {m : List Addr} {H : Hp} {ρ : Env} {σ : L2.St} {s : S} {Q : VK} {o : Option (D × S)} (r : Rel g.X.K g.ca m H ρ σ s) (h : PO_ g.X.K g.ca W m H ρ σ (fun d _ m' H' => ∀ v, RepD g.X.K H' m' d v → Q v H') (ofO o)) : Ans g m H Q o := by
  cases o with
  | none => exact h.elim
  | some p =>
    obtain ⟨d, s'⟩ := p
    exact ⟨d, s', rfl, fun m' H' v x st rv => h m' H' x (r.ext x st) v rv⟩
theorem op2 {f : D → D → S → Option (D × S)} {r : R2} (hf : OpS g f r) {σ : L2.St} {H : Hp} {Q : VK} (h : tE g.X.K g.ca g.W (eOp f A B) σ H Q) : tOp r (tE g.X.K g.ca g.W A) (tE g.X.K g.ca g.W B) σ H Q := by
  obtain ⟨m, ρ, s, rel, h⟩ := h
  refine ⟨m, ρ, s, rel, (PO_.bind h).mono fun x s1 m1 H1 ⟨r1, h1⟩ v rv => ?_⟩
  refine ⟨m1, ρ, s1, r1, ?_⟩
  have h2 := PO_.bind h1
  cases e : B ρ s1 with
  | no => rw [e] at h2; exact h2
  | ex y s2 => rw [e] at h2; exact h2
  | ok y s2 =>
    rw [e] at h2
    intro m2 H2 x2 r2 w rw_
    obtain ⟨_, h3⟩ := h2 m2 H2 x2 r2
    exact hf m2 H2 s2 x y v w Q r2.sto (r1.sto.repD x2 rv) rw_ (ans_of r2 h3)
theorem ev_op {op : Operator} {f : D → D → S → Option (D × S)} {r : R2} (ho : OpR g.X (binaryOp op) r) (hf : OpS g f r) (ha : EvE g a A) (hb : EvE g b B) : EvE g (.BinOp a op b pos) (eOp f A B) :=
  PE.imp (pe_op ho ha hb) fun _ _ _ h => op2 hf h
theorem ev_cmp {op : CmpOp} {f : D → D → S → Option (D × S)} {r : R2} (ho : OpR g.X (compareOp op) r) (hf : OpS g f r) (ha : EvE g a A) (hb : EvE g b B) (hm : behindInMarks op b = false := by first | exact nomark _ | rfl) : EvE g (.Compare a [op] [b] pos) (eOp f A B) :=
  PE.imp (pe_cmpR ho ha hb hm) fun _ _ _ h => op2 hf h

/-! one reading or another -/
theorem OpR.or {X : Cx} {f : Value → Value → Sem Value} {r r' : R2} (h : OpR X f r) (h' : OpR X f r') : OpR X f (fun x y H Q => r x y H Q ∨ r' x y H Q) :=
  fun pins s σ H x y v u Q I rx ry q => q.elim (h pins s σ H x y v u Q I rx ry) (h' pins s σ H x y v u Q I rx ry)

/-! what a value is read as -/
def allP : List D → Option (List P)
  | [] => some []
  | .p p :: ds => (allP ds).map (p :: ·)
  | _ :: _ => none
@[simp] theorem allP_nil : allP [] = some [] := rfl
@[simp] theorem allP_cons (p : P) (ds : List D) : allP (.p p :: ds) = (allP ds).map (p :: ·) := rfl
@[simp] theorem allP_map : ∀ ps : List P, allP (ps.map D.p) = some ps
  | [] => rfl
  | p :: ps => by rw [List.map_cons, allP_cons, allP_map ps]; rfl
theorem allP_eq : ∀ {ds : List D} {ps : List P}, allP ds = some ps → ds = ps.map D.p
  | [], _, h => by cases h; rfl
  | .p p :: ds, ps, h => by
    unfold allP at h
    cases e : allP ds with
    | none => rw [e] at h; cases h
    | some qs => rw [e] at h; cases h; rw [allP_eq e]; rfl
  | .loc _ :: _, _, h => by cases h
  | .mix _ :: _, _, h => by cases h
  | .lst _ :: _, _, h => by cases h
  | .ro _ :: _, _, h => by cases h
  | .dK _ _ :: _, _, h => by cases h
  | .dT _ _ :: _, _, h => by cases h
/-- a tuple of these -/
def mkT (ds : List D) : D := match allP ds with
  | some ps => .p (.tup ps)
  | none => .mix ds
/-- a tuple's items -/
def viT : D → Option (List D)
  | .p (.tup ps) => some (ps.map D.p)
  | .mix ds => some ds
  | _ => none
@[simp] theorem viT_tup (ps : List P) : viT (.p (.tup ps)) = some (ps.map D.p) := rfl
@[simp] theorem viT_mix (ds : List D) : viT (.mix ds) = some ds := rfl
@[simp] theorem viT_non : viT (.p .non) = none := rfl
@[simp] theorem viT_bl (b : Bool) : viT (.p (.bl b)) = none := rfl
@[simp] theorem viT_int (i : Int) : viT (.p (.int i)) = none := rfl
@[simp] theorem viT_str (x : Str) : viT (.p (.str x)) = none := rfl
@[simp] theorem viT_loc (n : Nat) : viT (.loc n) = none := rfl
@[simp] theorem viT_lst (ds : List D) : viT (.lst ds) = none := rfl
@[simp] theorem viT_ro (ds : List D) : viT (.ro ds) = none := rfl
@[simp] theorem viT_dK (ks : List Key) (ds : List D) : viT (.dK ks ds) = none := rfl
@[simp] theorem viT_dT (ks : List (List Key)) (ds : List D) : viT (.dT ks ds) = none := rfl
/-- a list's items -/
def viL (s : S) : D → Option (List D)
  | .lst ds => some ds
  | .ro ds => some ds
  | .loc n => match s[n]? with
    | some (.lst ds) => some ds
    | _ => none
  | _ => none
@[simp] theorem viL_p (s : S) (p : P) : viL s (.p p) = none := rfl
@[simp] theorem viL_mix (s : S) (ds : List D) : viL s (.mix ds) = none := rfl
@[simp] theorem viL_lst (s : S) (ds : List D) : viL s (.lst ds) = some ds := rfl
@[simp] theorem viL_ro (s : S) (ds : List D) : viL s (.ro ds) = some ds := rfl
@[simp] theorem viL_loc (s : S) (n : Nat) : viL s (.loc n) = match s[n]? with
    | some (.lst ds) => some ds
    | _ => none := rfl
@[simp] theorem viL_dK (s : S) (ks : List Key) (ds : List D) : viL s (.dK ks ds) = none := rfl
@[simp] theorem viL_dT (s : S) (ks : List (List Key)) (ds : List D) : viL s (.dT ks ds) = none := rfl
section
variable {K : PySem.W.Frag} {ca : Str → Addr} {m : List Addr} {H : Hp} {s : S} {d : D} {v : V} {ds : List D}
theorem viT_ok (r : RepD K H m d v) (h : viT d = some ds) : ∃ a vs, v = .ref a ∧ SqT K H a vs ∧ RepDs K H m ds vs := by
  cases d with
  | p p =>
    cases p with
    | tup ps =>
      cases h
      obtain ⟨a, vs, e, q, r⟩ := r
      exact ⟨a, vs, e, q, RepDs.ofP r⟩
    | _ => cases h
  | mix es => cases h; exact r
  | _ => cases h
theorem viL_ok (st : StRep K ca m H s) (r : RepD K H m d v) (h : viL s d = some ds) : ∃ a vs, v = .ref a ∧ SqL K H a vs ∧ RepDs K H m ds vs := by
  cases d with
  | lst es => cases h; obtain ⟨a, vs, e, ⟨q, _⟩, r⟩ := r; exact ⟨a, vs, e, SqL.of q, r⟩
  | ro es => cases h; obtain ⟨a, vs, e, q, r⟩ := r; exact ⟨a, vs, e, q.sql, r⟩
  | loc n =>
    obtain ⟨a, e, q⟩ := r
    cases e2 : s[n]? with
    | none => simp [viL, e2] at h
    | some c =>
      have rc := st.at_ n c a e2 e
      cases c with
      | lst es =>
        simp [viL, e2] at h
        subst h
        obtain ⟨vs, ea, r⟩ := rc
        exact ⟨a, vs, q, SqL.of ea, r⟩
      | _ => simp [viL, e2] at h
  | _ => cases h
theorem mkT_rep {a : Addr} {vs : List V} (hT : SqT K H a vs) (r : RepDs K H m ds vs) : RepD K H m (mkT ds) (.ref a) := by
  unfold mkT
  cases e : allP ds with
  | none => exact ⟨a, vs, rfl, hT, r⟩
  | some ps =>
    have e' := allP_eq e
    subst e'
    exact ⟨a, vs, rfl, hT, RepPs.ofD r⟩
/-- a new tuple is laid -/
theorem new_tup {g : G} {m : List Addr} {H : Hp} {s : S} {Q : VK} {p : Addr} {xs : List V} {ds : List D} (st : StRep g.X.K g.ca m H s) (r : RepDs g.X.K H m ds xs) (hp : H p = none)
    (h : ∀ m' H' v, Ext m H m' H' → StRep g.X.K g.ca m' H' s → RepD g.X.K H' m' (mkT ds) v → Q v H') : Q (.ref p) (upd H p (.tup xs)) := by
  have x : Ext m H m (upd H p (.tup xs)) := Ext.new st hp
  exact h m _ _ x (st.updNew hp) (mkT_rep (SqT.of upd_same) (st.repDs x r))
/-- a new list that nobody changes -/
theorem new_lst {g : G} {m : List Addr} {H : Hp} {s : S} {Q : VK} {p : Addr} {xs : List V} {ds : List D} (st : StRep g.X.K g.ca m H s) (r : RepDs g.X.K H m ds xs) (hp : H p = none)
    (h : ∀ m' H' v, Ext m H m' H' → StRep g.X.K g.ca m' H' s → RepD g.X.K H' m' (.lst ds) v → Q v H') : Q (.ref p) (upd H p (.lst xs)) := by
  have x : Ext m H m (upd H p (.lst xs)) := Ext.new st hp
  exact h m _ _ x (st.updNew hp) ⟨p, xs, rfl, ⟨upd_same, st.fresh hp⟩, st.repDs x r⟩
/-- a new list as a cell -/
theorem new_cell {g : G} {m : List Addr} {H : Hp} {s : S} {Q : VK} {p : Addr} {xs : List V} {ds : List D} (st : StRep g.X.K g.ca m H s) (r : RepDs g.X.K H m ds xs) (hp : H p = none)
    (h : ∀ m' H' v, Ext m H m' H' → StRep g.X.K g.ca m' H' (s ++ [.lst ds]) → RepD g.X.K H' m' (.loc s.length) v → Q v H') : Q (.ref p) (upd H p (.lst xs)) := by
  have x : Ext m H (m ++ [p]) (upd H p (.lst xs)) := Ext.newM st hp
  refine h _ _ _ x (st.alloc hp ⟨xs, upd_same, st.repDs x r⟩) ⟨p, ?_, rfl⟩
  rw [← st.len, List.getElem?_append_right (Nat.le_refl _)]
  simp
end

@[simp] def alt (f f' : D → D → S → Option (D × S)) : D → D → S → Option (D × S) := fun x y s => match f x y s with
  | some r => some r
  | none => f' x y s
theorem OpS.alt {g : G} {f f' : D → D → S → Option (D × S)} {r r' : R2} (h : OpS g f r) (h' : OpS g f' r') : OpS g (alt f f') (fun x y H Q => r x y H Q ∨ r' x y H Q) := by
  intro m H s x y vx vy Q st rx ry ans
  unfold Mo.alt at ans
  cases e : f x y s with
  | some q => rw [e] at ans; exact .inl (h m H s x y vx vy Q st rx ry (by rw [e]; exact ans))
  | none => rw [e] at ans; exact .inr (h' m H s x y vx vy Q st rx ry ans)
section
variable {g : G} {a b c : Expr} {A B C_ : Ex} {pos : Pos}
/-- ints -/
@[simp] def fI (c : Int → Int → Bool) (f : Int → Int → P) : D → D → S → Option (D × S) := fun x y s => match x, y with
  | .p (.int i), .p (.int j) => if c i j = true then some (.p (f i j), s) else none
  | _, _ => none
theorem Ans.same {m : List Addr} {H : Hp} {s : S} {Q : VK} {d : D} {v : V} (a : Ans g m H Q (some (d, s))) (st : StRep g.X.K g.ca m H s) (r : RepD g.X.K H m d v) : Q v H := by
  obtain ⟨d', s', e, h⟩ := a
  cases e
  exact h m H v (Ext.refl m H) st r
theorem Ans.none {m : List Addr} {H : Hp} {Q : VK} (a : Ans g m H Q none) : False := by
  obtain ⟨d', s', e, h⟩ := a
  cases e
theorem fI_ok {c : Int → Int → Bool} {f : Int → Int → P} {C_ : Int → Int → Prop} {f' : Int → Int → V} (hc : ∀ i j, c i j = true → C_ i j) (hf : ∀ (i j : Int) (K : PySem.W.Frag) (H : Hp), RepP K H (f i j) (f' i j)) : OpS g (fI c f) (rI C_ f') := by
  intro m H s x y vx vy Q st rx ry ans
  unfold fI at ans
  split at ans
  · rename_i i j
    split at ans
    · rename_i hcc
      exact ⟨i, j, rx, ry, hc i j hcc, ans.same st (hf i j _ _)⟩
    · exact ans.none.elim
  · exact ans.none.elim
@[simp] def fS (c : Str → Str → Bool) (f : Str → Str → P) : D → D → S → Option (D × S) := fun x y s => match x, y with
  | .p (.str i), .p (.str j) => if c i j = true then some (.p (f i j), s) else none
  | _, _ => none
@[simp] def cT {α : Type} (_ _ : α) : Bool := true
def addS : D → D → S → Option (D × S) := fS (fun i j => decide (i.length + j.length ≤ sizeLine)) fun i j => .str (i ++ j)
theorem addS_ok : OpS g addS (fun x y H Q => ∃ i j, x = .str i ∧ y = .str j ∧ i.length + j.length ≤ sizeLine ∧ Q (.str (i ++ j)) H) := by
  intro m H s x y vx vy Q st rx ry ans
  unfold addS fS at ans
  split at ans
  · rename_i i j
    split at ans
    · rename_i hcc
      exact ⟨i, j, rx, ry, of_decide_eq_true hcc, ans.same st (v := .str (i ++ j)) rfl⟩
    · exact ans.none.elim
  · exact ans.none.elim
def addT : D → D → S → Option (D × S) := fun x y s => match viT x, viT y with
  | some xs, some ys => if xs.length + ys.length ≤ sizeLine then some (mkT (xs ++ ys), s) else none
  | _, _ => none
theorem mkT_vi {K : PySem.W.Frag} {m : List Addr} {H : Hp} {d : D} {v : V} {ds : List D} (r : RepD K H m d v) (h : viT d = some ds) : RepD K H m (mkT ds) v := by
  obtain ⟨a, vs, rfl, q, rr⟩ := viT_ok r h
  exact mkT_rep q rr
theorem addT_ok : OpS g addT (rCatA g.X.K) := by
  intro m H s x y vx vy Q st rx ry ans
  unfold addT at ans
  cases ex : viT x with
  | none => rw [ex] at ans; exact ans.none.elim
  | some xs =>
    cases ey : viT y with
    | none => rw [ex, ey] at ans; exact ans.none.elim
    | some ys =>
      rw [ex, ey] at ans
      obtain ⟨a, vs, rfl, qa, ra⟩ := viT_ok rx ex
      obtain ⟨b, ws, rfl, qb, rb⟩ := viT_ok ry ey
      simp only at ans
      split at ans
      · rename_i hl
        refine ⟨a, b, vs, ws, rfl, rfl, qa, qb, by rw [← ra.len, ← rb.len]; exact hl, fun e => ?_, fun _ e => ?_, fun _ _ p hp => ?_⟩
        · have : xs = [] := List.eq_nil_of_length_eq_zero (by rw [ra.len, e]; rfl)
          subst this
          exact ans.same st (mkT_rep qb rb)
        · have : ys = [] := List.eq_nil_of_length_eq_zero (by rw [rb.len, e]; rfl)
          subst this
          rw [List.append_nil] at ans
          exact ans.same st (mkT_rep qa ra)
        · obtain ⟨d', s', e, h⟩ := ans
          cases e
          exact new_tup st (ra.app rb) hp h
      · exact ans.none.elim
/-- a list that may be written -/
def viX (s : S) : D → Option (List D)
  | .lst ds => some ds
  | .loc n => match s[n]? with
    | some (.lst ds) => some ds
    | _ => none
  | _ => none
@[simp] theorem viX_p (s : S) (p : P) : viX s (.p p) = none := rfl
@[simp] theorem viX_mix (s : S) (ds : List D) : viX s (.mix ds) = none := rfl
@[simp] theorem viX_lst (s : S) (ds : List D) : viX s (.lst ds) = some ds := rfl
@[simp] theorem viX_loc (s : S) (n : Nat) : viX s (.loc n) = match s[n]? with
    | some (.lst ds) => some ds
    | _ => none := rfl
theorem viX_ok {K : PySem.W.Frag} {ca : Str → Addr} {m : List Addr} {H : Hp} {s : S} {d : D} {v : V} {ds : List D} (st : StRep K ca m H s) (r : RepD K H m d v) (h : viX s d = some ds) : ∃ a vs, v = .ref a ∧ H a = some (.lst vs) ∧ RepDs K H m ds vs := by
  cases d with
  | lst es => cases h; obtain ⟨a, vs, e, ⟨q, _⟩, r⟩ := r; exact ⟨a, vs, e, q, r⟩
  | loc n =>
    obtain ⟨a, e, q⟩ := r
    cases e2 : s[n]? with
    | none => simp [viX, e2] at h
    | some c =>
      have rc := st.at_ n c a e2 e
      cases c with
      | lst es =>
        simp [viX, e2] at h
        subst h
        obtain ⟨vs, ea, r⟩ := rc
        exact ⟨a, vs, q, ea, r⟩
      | _ => simp [viX, e2] at h
  | _ => cases h
def addL : D → D → S → Option (D × S) := fun x y s => match viX s x, viX s y with
  | some xs, some ys => if xs.length + ys.length ≤ sizeLine then some (.lst (xs ++ ys), s) else none
  | _, _ => none
theorem addL_ok : OpS g addL rCat := by
  intro m H s x y vx vy Q st rx ry ans
  unfold addL at ans
  cases ex : viX s x with
  | none => rw [ex] at ans; exact ans.none.elim
  | some xs =>
    cases ey : viX s y with
    | none => rw [ex, ey] at ans; exact ans.none.elim
    | some ys =>
      rw [ex, ey] at ans
      obtain ⟨a, vs, rfl, qa, ra⟩ := viX_ok st rx ex
      obtain ⟨b, ws, rfl, qb, rb⟩ := viX_ok st ry ey
      simp only at ans
      split at ans
      · rename_i hl
        refine ⟨a, b, vs, ws, rfl, rfl, qa, qb, by rw [← ra.len, ← rb.len]; exact hl, fun p hp => ?_⟩
        obtain ⟨d', s', e, h⟩ := ans
        cases e
        exact new_lst st (ra.app rb) hp h
      · exact ans.none.elim
theorem fI0_ok {f : Int → Int → P} {f' : Int → Int → V} (hf : ∀ (i j : Int) (K : PySem.W.Frag) (H : Hp), RepP K H (f i j) (f' i j)) : OpS g (fI cT f) (rI0 f') := by
  intro m H s x y vx vy Q st rx ry ans
  obtain ⟨i, j, e1, e2, _, q⟩ := (fI_ok (g := g) (c := cT) (f := f) (C_ := fun _ _ => True) (f' := f') (fun _ _ _ => trivial) hf) m H s x y vx vy Q st rx ry ans
  exact ⟨i, j, e1, e2, q⟩
def addI : D → D → S → Option (D × S) := fI cT fun i j => .int (i + j)
theorem addI_ok : OpS g addI (rI0 fun i j => .int (i + j)) := fI0_ok (f := fun i j => .int (i + j)) fun _ _ _ _ => rfl
def dAdd : D → D → S → Option (D × S) := alt addI (alt addS (alt addT addL))
theorem ev_add (ha : EvE g a A) (hb : EvE g b B) : EvE g (.BinOp a .Add b pos) (eOp dAdd A B) :=
  ev_op (OpR.or op_add (OpR.or op_add_str (OpR.or op_catA op_cat))) (addI_ok.alt (addS_ok.alt (addT_ok.alt addL_ok))) ha hb
def dSub : D → D → S → Option (D × S) := fI cT fun i j => .int (i - j)
theorem ev_sub (ha : EvE g a A) (hb : EvE g b B) : EvE g (.BinOp a .Sub b pos) (eOp dSub A B) := ev_op op_sub (fI0_ok (f := fun i j => .int (i - j)) fun _ _ _ _ => rfl) ha hb
def cMul (i j : Int) : Bool := (decide (-(2 ^ 64) < i) && decide (i < 2 ^ 64)) || (decide (-(2 ^ 64) < j) && decide (j < 2 ^ 64))
def dMul : D → D → S → Option (D × S) := fI cMul fun i j => .int (i * j)
theorem ev_mul (ha : EvE g a A) (hb : EvE g b B) : EvE g (.BinOp a .Mult b pos) (eOp dMul A B) :=
  ev_op op_mul (fI_ok (f := fun i j => .int (i * j)) (fun i j h => by
    unfold cMul at h
    simp only [Bool.or_eq_true, Bool.and_eq_true, decide_eq_true_eq] at h
    exact h) (fun _ _ _ _ => rfl)) ha hb
def dMod : D → D → S → Option (D × S) := fI (fun _ j => decide (0 < j)) fun i j => .int (i % j)
theorem ev_mod (ha : EvE g a A) (hb : EvE g b B) : EvE g (.BinOp a .Mod b pos) (eOp dMod A B) := ev_op op_mod (fI_ok (f := fun i j => .int (i % j)) (fun i j h => of_decide_eq_true h) (fun _ _ _ _ => rfl)) ha hb
def dDiv : D → D → S → Option (D × S) := fI (fun _ j => decide (0 < j) && decide (j < 1073741824)) fun i j => .int (i / j)
theorem ev_div (ha : EvE g a A) (hb : EvE g b B) : EvE g (.BinOp a .FloorDiv b pos) (eOp dDiv A B) := ev_op op_fdiv (fI_ok (f := fun i j => .int (i / j)) (fun i j h => by simpa [CDiv] using h) (fun _ _ _ _ => rfl)) ha hb
def dPow : D → D → S → Option (D × S) := fI (fun i j => decide (0 ≤ j) && (decide (j ≤ 1000000) && decide (i.natAbs < 2 ^ 64))) fun i j => .int (i ^ j.toNat)
theorem ev_pow (ha : EvE g a A) (hb : EvE g b B) : EvE g (.BinOp a .Pow b pos) (eOp dPow A B) := ev_op op_pow (fI_ok (f := fun i j => .int (i ^ j.toNat)) (fun i j h => by simpa [CPow] using h) (fun _ _ _ _ => rfl)) ha hb

/-! comparisons -/
def dLt : D → D → S → Option (D × S) := alt (fI cT fun i j => .bl (decide (i < j))) (fS cT fun i j => .bl (decide (i.cps.toList < j.cps.toList)))
theorem ltS_ok : OpS g (fS cT fun i j => .bl (decide (i.cps.toList < j.cps.toList))) (fun x y H Q => ∃ i j, x = .str i ∧ y = .str j ∧ Q (.bl (decide (i.cps.toList < j.cps.toList))) H) := by
  intro m H s x y vx vy Q st rx ry ans
  unfold fS at ans
  split at ans
  · rename_i i j
    exact ⟨i, j, rx, ry, ans.same st (v := .bl _) rfl⟩
  · exact ans.none.elim
theorem ev_lt (ha : EvE g a A) (hb : EvE g b B) : EvE g (.Compare a [.Lt] [b] pos) (eOp dLt A B) := ev_cmp (OpR.or op_lt op_lt_str) (OpS.alt (fI0_ok (f := fun i j => .bl (decide (i < j))) fun _ _ _ _ => rfl) ltS_ok) ha hb
def dLe : D → D → S → Option (D × S) := fI cT fun i j => .bl (decide (i ≤ j))
theorem ev_le (ha : EvE g a A) (hb : EvE g b B) : EvE g (.Compare a [.LtE] [b] pos) (eOp dLe A B) := ev_cmp op_le (fI0_ok (f := fun i j => .bl (decide (i ≤ j))) fun _ _ _ _ => rfl) ha hb
def dGt : D → D → S → Option (D × S) := fI cT fun i j => .bl (decide (j < i))
theorem ev_gt (ha : EvE g a A) (hb : EvE g b B) : EvE g (.Compare a [.Gt] [b] pos) (eOp dGt A B) := ev_cmp op_gt (fI0_ok (f := fun i j => .bl (decide (j < i))) fun _ _ _ _ => rfl) ha hb
def dGe : D → D → S → Option (D × S) := fI cT fun i j => .bl (decide (j ≤ i))
theorem ev_ge (ha : EvE g a A) (hb : EvE g b B) : EvE g (.Compare a [.GtE] [b] pos) (eOp dGe A B) := ev_cmp op_ge (fI0_ok (f := fun i j => .bl (decide (j ≤ i))) fun _ _ _ _ => rfl) ha hb
end
end
end Mo

set_option Elab.async false
set_option linter.all false
set_option maxRecDepth 100000
set_option maxHeartbeats 4000000
namespace Mo
open PySem PySem.Spec PyProof.Rows L2

/-! == and != of data -/
mutual
def toPD : P → PyData
  | .non => .none
  | .bl b => .bool b
  | .int i => .int i
  | .str x => .str x
  | .tup ps => .tuple (toPDs ps)
def toPDs : List P → List PyData
  | [] => []
  | p :: ps => toPD p :: toPDs ps
end
section
variable {K : PySem.W.Frag} {H : Hp}
mutual
theorem dp_of : ∀ {p : P} {v : V}, RepP K H p v → Dp K H v (toPD p)
  | .non, _, h => by cases h; exact .non
  | .bl b, _, h => by cases h; exact .bl b
  | .int i, _, h => by cases h; exact .int i
  | .str x, _, h => by cases h; exact .str x
  | .tup ps, _, h => by
    obtain ⟨a, vs, rfl, q, r⟩ := h
    exact .tup q (dps_of r)
theorem dps_of : ∀ {ps : List P} {vs : List V}, RepPs K H ps vs → DpAll K H vs (toPDs ps)
  | [], _, h => by cases h; exact .nil
  | p :: ps, _, h => by
    obtain ⟨v, r, rfl, h1, h2⟩ := h
    exact .cons (dp_of h1) (dps_of h2)
end
end
def eqP (a b : P) : Bool := PyData.eqv (toPD a) (toPD b)
def shp (a : P) : Bool := SeqAt.shaped (toPD a)
/-- scalars that == tells apart as they stand -/
def scP : P → P → Bool
  | .non, .non => true | .non, .int _ => true | .int _, .non => true | .non, .bl _ => true | .bl _, .non => true | .non, .str _ => true | .str _, .non => true
  | .int _, .int _ => true | .bl _, .bl _ => true | .str _, .str _ => true
  | .int _, .str _ => true | .str _, .int _ => true | .bl _, .str _ => true | .str _, .bl _ => true
  | _, _ => false
/-- the two readings of == together -/
@[simp] def fEq (n : Bool) : D → D → S → Option (D × S) := fun x y s => match x, y with
  | .p a, .p b => if scP a b = true then some (.p (.bl (xor n (decide (a = b)))), s) else if (shp a && shp b) = true then some (.p (.bl (xor n (eqP a b))), s) else none
  | _, _ => none
section
variable {g : G} {a b c : Expr} {A B C_ : Ex} {pos : Pos}
theorem scP_ok {K : PySem.W.Frag} {H : Hp} {a b : P} {v w : V} (h : scP a b = true) (ra : RepP K H a v) (rb : RepP K H b w) : scal v w = true ∧ decide (v = w) = decide (a = b) := by
  cases a <;> cases b <;> first
    | (cases (show false = true from h); done)
    | (cases ra; cases rb; exact ⟨rfl, by simp⟩)
theorem fEq_ok : OpS g (fEq false) (fun x y H Q => rEq x y H Q ∨ rEqD g.X.K x y H Q) := by
  intro m H s x y vx vy Q st rx ry ans
  unfold fEq at ans
  split at ans
  · rename_i a b
    split at ans
    · rename_i hs
      obtain ⟨h1, h2⟩ := scP_ok hs rx ry
      refine .inl ⟨h1, ?_⟩
      rw [h2]
      exact ans.same st (by simp; rfl)
    · split at ans
      · rename_i hs
        obtain ⟨h1, h2⟩ := Bool.and_eq_true_iff.mp hs
        exact .inr ⟨_, _, dp_of rx, dp_of ry, h1, h2, ans.same st (by simp; rfl)⟩
      · exact ans.none.elim
  · exact ans.none.elim
theorem fNe_ok : OpS g (fEq true) (fun x y H Q => rNe x y H Q ∨ rNeD g.X.K x y H Q) := by
  intro m H s x y vx vy Q st rx ry ans
  unfold fEq at ans
  split at ans
  · rename_i a b
    split at ans
    · rename_i hs
      obtain ⟨h1, h2⟩ := scP_ok hs rx ry
      refine .inl ⟨h1, ?_⟩
      rw [h2]
      exact ans.same st (by simp; rfl)
    · split at ans
      · rename_i hs
        obtain ⟨h1, h2⟩ := Bool.and_eq_true_iff.mp hs
        exact .inr ⟨_, _, dp_of rx, dp_of ry, h1, h2, ans.same st (by simp; rfl)⟩
      · exact ans.none.elim
  · exact ans.none.elim
def dEq : D → D → S → Option (D × S) := fEq false
def dNe : D → D → S → Option (D × S) := fEq true
theorem ev_eq (o : g.Ok) (ha : EvE g a A) (hb : EvE g b B) : EvE g (.Compare a [.Eq] [b] pos) (eOp dEq A B) := ev_cmp (OpR.or op_eq (op_eqD o.hr.units)) fEq_ok ha hb
theorem ev_ne (o : g.Ok) (ha : EvE g a A) (hb : EvE g b B) : EvE g (.Compare a [.NotEq] [b] pos) (eOp dNe A B) := ev_cmp (OpR.or op_ne (op_neD o.hr.units)) fNe_ok ha hb
/-! is None -/
def isN : D → Bool
  | .p .non => true
  | _ => false
theorem isN_ok {K : PySem.W.Frag} {H : Hp} {m : List Addr} {d : D} {v : V} (r : RepD K H m d v) : decide (v = .non) = isN d := by
  cases d with
  | p p => cases p <;> first | (cases r; rfl) | (obtain ⟨a, vs, rfl, _⟩ := r; rfl)
  | _ => obtain ⟨a, h⟩ := r; first | (obtain ⟨_, rfl⟩ := h; rfl) | (obtain ⟨_, rfl, _⟩ := h; rfl)
@[simp] def eIsN (A : Ex) (ρ : Env) (s : S) : Out D := (A ρ s).bind fun x s1 => .ok (.p (.bl (isN x))) s1
@[simp] def eNotN (A : Ex) (ρ : Env) (s : S) : Out D := (A ρ s).bind fun x s1 => .ok (.p (.bl (!isN x))) s1
theorem ev_isN {j pos'} (ha : EvE g a A) : EvE g (.Compare a [.Is] [.Constant .none j pos'] pos) (eIsN A) :=
  PE.imp (pe_cmp (pc_isN ha) rfl) fun σ H Q h => by
    obtain ⟨m, ρ, s, rel, h⟩ := h
    refine ⟨m, ρ, s, rel, (PO_.bind h).mono fun x s1 m1 H1 ⟨r1, h1⟩ v rv => ?_⟩
    show Q (.bl (decide (v = .non))) H1
    rw [isN_ok rv]
    exact h1 m1 H1 (Ext.refl _ _) r1 _ rfl
theorem ev_notN {j pos'} (ha : EvE g a A) : EvE g (.Compare a [.IsNot] [.Constant .none j pos'] pos) (eNotN A) :=
  PE.imp (pe_cmp (pc_notN ha) rfl) fun σ H Q h => by
    obtain ⟨m, ρ, s, rel, h⟩ := h
    refine ⟨m, ρ, s, rel, (PO_.bind h).mono fun x s1 m1 H1 ⟨r1, h1⟩ v rv => ?_⟩
    show Q (.bl (!decide (v = .non))) H1
    rw [isN_ok rv]
    exact h1 m1 H1 (Ext.refl _ _) r1 _ rfl
/-! - -/
@[simp] def eNeg (A : Ex) (ρ : Env) (s : S) : Out D := (A ρ s).bind fun x s1 => match x with
  | .p (.int i) => .ok (.p (.int (-i))) s1
  | _ => .no
theorem ev_neg (ha : EvE g a A) : EvE g (.UnaryOp .USub a pos) (eNeg A) :=
  PE.imp (pe_un un_neg ha) fun σ H Q h => by
    obtain ⟨m, ρ, s, rel, h⟩ := h
    refine ⟨m, ρ, s, rel, (PO_.bind h).mono fun x s1 m1 H1 ⟨r1, h1⟩ v rv => ?_⟩
    split at h1
    · exact ⟨_, rv, h1 m1 H1 (Ext.refl _ _) r1 _ rfl⟩
    · exact h1.elim

/-! tests: values that are True or False; not, and, or -/
@[simp] def tV (A : Ex) (ρ : Env) (s : S) : Out Bool := (A ρ s).bind fun x s1 => match x with
  | .p (.bl b) => .ok b s1
  | _ => .no
theorem et_val (ha : EvE g a A) (he : ∀ whole, isTrue a g.X.env whole = (do let v ← whole; standAt a.pos; holding [v] (truthy v)) := by intro _; rfl) : EvT g a (tV A) :=
  PT.imp (pt_val ha he) fun σ H Q h => by
    obtain ⟨m, ρ, s, rel, h⟩ := h
    refine ⟨m, ρ, s, rel, (PO_.bind h).mono fun x s1 m1 H1 ⟨r1, h1⟩ v rv => ?_⟩
    split at h1
    · exact ⟨_, rv, h1 m1 H1 (Ext.refl _ _) r1⟩
    · exact h1.elim
/-- a comparison as a test -/
theorem et_cmp {op : CmpOp} {f : D → D → S → Option (D × S)} {r : R2} (ho : OpR g.X (compareOp op) r) (hf : OpS g f r) (ha : EvE g a A) (hb : EvE g b B) (hm : behindInMarks op b = false := by first | exact nomark _ | rfl) : EvT g (.Compare a [op] [b] pos) (tV (eOp f A B)) :=
  PT.imp (pt_cmpR ho ha hb hm) fun σ H Q h => by
    have h2 : tE g.X.K g.ca g.W (eOp f A B) σ H (fun x H1 => ∃ k, x = .bl k ∧ Q k H1) := by
      obtain ⟨m, ρ, s, rel, h⟩ := h
      refine ⟨m, ρ, s, rel, (PO_.bind h).mono fun x s1 m1 H1 ⟨r1, h1⟩ v rv => ?_⟩
      split at h1
      · exact ⟨_, rv, h1 m1 H1 (Ext.refl _ _) r1⟩
      · exact h1.elim
    exact op2 hf h2
theorem et_eq (o : g.Ok) (ha : EvE g a A) (hb : EvE g b B) : EvT g (.Compare a [.Eq] [b] pos) (tV (eOp dEq A B)) := et_cmp (OpR.or op_eq (op_eqD o.hr.units)) fEq_ok ha hb
theorem et_ne (o : g.Ok) (ha : EvE g a A) (hb : EvE g b B) : EvT g (.Compare a [.NotEq] [b] pos) (tV (eOp dNe A B)) := et_cmp (OpR.or op_ne (op_neD o.hr.units)) fNe_ok ha hb
theorem et_lt (ha : EvE g a A) (hb : EvE g b B) : EvT g (.Compare a [.Lt] [b] pos) (tV (eOp dLt A B)) := et_cmp (OpR.or op_lt op_lt_str) (OpS.alt (fI0_ok (f := fun i j => .bl (decide (i < j))) fun _ _ _ _ => rfl) ltS_ok) ha hb
theorem et_le (ha : EvE g a A) (hb : EvE g b B) : EvT g (.Compare a [.LtE] [b] pos) (tV (eOp dLe A B)) := et_cmp op_le (fI0_ok (f := fun i j => .bl (decide (i ≤ j))) fun _ _ _ _ => rfl) ha hb
theorem et_gt (ha : EvE g a A) (hb : EvE g b B) : EvT g (.Compare a [.Gt] [b] pos) (tV (eOp dGt A B)) := et_cmp op_gt (fI0_ok (f := fun i j => .bl (decide (j < i))) fun _ _ _ _ => rfl) ha hb
theorem et_ge (ha : EvE g a A) (hb : EvE g b B) : EvT g (.Compare a [.GtE] [b] pos) (tV (eOp dGe A B)) := et_cmp op_ge (fI0_ok (f := fun i j => .bl (decide (j ≤ i))) fun _ _ _ _ => rfl) ha hb
theorem et_isN {j pos'} (ha : EvE g a A) : EvT g (.Compare a [.Is] [.Constant .none j pos'] pos) (tV (eIsN A)) :=
  PT.imp (pt_cmp (pc_isN ha) rfl) fun σ H Q h => by
    obtain ⟨m, ρ, s, rel, h⟩ := h
    have h' : PO_ g.X.K g.ca g.W m H ρ σ (fun b _ _ H' => Q b H') ((A ρ s).bind fun x s1 => .ok (isN x) s1) := by
      show PO_ _ _ _ _ _ _ _ _ _
      cases e : A ρ s <;> simpa [e] using h
    refine ⟨m, ρ, s, rel, (PO_.bind h').mono fun x s1 m1 H1 ⟨r1, h1⟩ v rv => ⟨_, rfl, ?_⟩⟩
    rw [isN_ok rv]
    exact h1 m1 H1 (Ext.refl _ _) r1
theorem et_notN {j pos'} (ha : EvE g a A) : EvT g (.Compare a [.IsNot] [.Constant .none j pos'] pos) (tV (eNotN A)) :=
  PT.imp (pt_cmp (pc_notN ha) rfl) fun σ H Q h => by
    obtain ⟨m, ρ, s, rel, h⟩ := h
    have h' : PO_ g.X.K g.ca g.W m H ρ σ (fun b _ _ H' => Q b H') ((A ρ s).bind fun x s1 => .ok (!isN x) s1) := by
      show PO_ _ _ _ _ _ _ _ _ _
      cases e : A ρ s <;> simpa [e] using h
    refine ⟨m, ρ, s, rel, (PO_.bind h').mono fun x s1 m1 H1 ⟨r1, h1⟩ v rv => ⟨_, rfl, ?_⟩⟩
    rw [isN_ok rv]
    exact h1 m1 H1 (Ext.refl _ _) r1
variable {T U : Te}
@[simp] def tNot_ (T : Te) (ρ : Env) (s : S) : Out Bool := (T ρ s).bind fun b s1 => .ok (!b) s1
theorem et_not (h : EvT g a T) : EvT g (.UnaryOp .Not a pos) (tNot_ T) :=
  PT.imp (pt_not h) fun σ H Q h => by
    obtain ⟨m, ρ, s, rel, h⟩ := h
    exact ⟨m, ρ, s, rel, (PO_.bind h).mono fun x s1 m1 H1 ⟨r1, h1⟩ => h1 m1 H1 (Ext.refl _ _) r1⟩
@[simp] def tAnd_ (T U : Te) (ρ : Env) (s : S) : Out Bool := (T ρ s).bind fun b s1 => if b = true then U ρ s1 else .ok false s1
@[simp] def tOr_ (T U : Te) (ρ : Env) (s : S) : Out Bool := (T ρ s).bind fun b s1 => if b = true then .ok true s1 else U ρ s1
/-- chains of and, or as tests -/
def EvW (g : G) (e : Expr) (A : Te) : Prop := PW g.X e (tT g.X.K g.ca g.W A)
theorem EvW.t (h : EvW g a T) : EvT g a T := PW.pt h
theorem ew_and1 (h : EvT g a T) : EvW g (.BoolOp .And [a] pos) T := pw_and1 h
theorem ew_or1 (h : EvT g a T) : EvW g (.BoolOp .Or [a] pos) T := pw_or1 h
theorem ew_and {rest : List Expr} (h : EvT g a T) (h' : EvW g (.BoolOp .And (b :: rest) pos) U) : EvW g (.BoolOp .And (a :: b :: rest) pos) (tAnd_ T U) :=
  PW.imp (pw_and h h') fun σ H Q h => by
    obtain ⟨m, ρ, s, rel, h⟩ := h
    refine ⟨m, ρ, s, rel, (PO_.bind h).mono fun x s1 m1 H1 ⟨r1, h1⟩ => ?_⟩
    cases x with
    | true => exact ⟨m1, ρ, s1, r1, h1⟩
    | false => exact h1 m1 H1 (Ext.refl _ _) r1
theorem ew_or {rest : List Expr} (h : EvT g a T) (h' : EvW g (.BoolOp .Or (b :: rest) pos) U) : EvW g (.BoolOp .Or (a :: b :: rest) pos) (tOr_ T U) :=
  PW.imp (pw_or h h') fun σ H Q h => by
    obtain ⟨m, ρ, s, rel, h⟩ := h
    refine ⟨m, ρ, s, rel, (PO_.bind h).mono fun x s1 m1 H1 ⟨r1, h1⟩ => ?_⟩
    cases x with
    | true => exact h1 m1 H1 (Ext.refl _ _) r1
    | false => exact ⟨m1, ρ, s1, r1, h1⟩
/-- .. as values: all but the last True or False -/
@[simp] def eAnd (A B : Ex) (ρ : Env) (s : S) : Out D := (A ρ s).bind fun x s1 => match x with
  | .p (.bl b) => if b = true then B ρ s1 else .ok (.p (.bl false)) s1
  | _ => .no
@[simp] def eOr (A B : Ex) (ρ : Env) (s : S) : Out D := (A ρ s).bind fun x s1 => match x with
  | .p (.bl b) => if b = true then .ok (.p (.bl true)) s1 else B ρ s1
  | _ => .no
@[simp] def eNot (A : Ex) (ρ : Env) (s : S) : Out D := (A ρ s).bind fun x s1 => match x with
  | .p (.bl b) => .ok (.p (.bl (!b))) s1
  | _ => .no
theorem ev_one {op} (h : EvE g a A) : EvE g (.BoolOp op [a] pos) A := pe_one h
theorem ev_and {rest : List Expr} (h : EvE g a A) (h' : EvE g (.BoolOp .And (b :: rest) pos) B) : EvE g (.BoolOp .And (a :: b :: rest) pos) (eAnd A B) :=
  PE.imp (pe_and h h') fun σ H Q h => by
    obtain ⟨m, ρ, s, rel, h⟩ := h
    refine ⟨m, ρ, s, rel, (PO_.bind h).mono fun x s1 m1 H1 ⟨r1, h1⟩ v rv => ?_⟩
    cases x with
    | p p => cases p with
      | bl k => cases k with
        | true => exact ⟨true, rv, by rw [if_pos rfl]; exact ⟨m1, ρ, s1, r1, h1⟩⟩
        | false => exact ⟨false, rv, by rw [if_neg Bool.false_ne_true]; exact h1 m1 H1 (Ext.refl _ _) r1 _ rfl⟩
      | _ => exact h1.elim
    | _ => exact h1.elim
theorem ev_or {rest : List Expr} (h : EvE g a A) (h' : EvE g (.BoolOp .Or (b :: rest) pos) B) : EvE g (.BoolOp .Or (a :: b :: rest) pos) (eOr A B) :=
  PE.imp (pe_or h h') fun σ H Q h => by
    obtain ⟨m, ρ, s, rel, h⟩ := h
    refine ⟨m, ρ, s, rel, (PO_.bind h).mono fun x s1 m1 H1 ⟨r1, h1⟩ v rv => ?_⟩
    cases x with
    | p p => cases p with
      | bl k => cases k with
        | true => exact ⟨true, rv, by rw [if_pos rfl]; exact h1 m1 H1 (Ext.refl _ _) r1 _ rfl⟩
        | false => exact ⟨false, rv, by rw [if_neg Bool.false_ne_true]; exact ⟨m1, ρ, s1, r1, h1⟩⟩
      | _ => exact h1.elim
    | _ => exact h1.elim
theorem ev_not (h : EvE g a A) : EvE g (.UnaryOp .Not a pos) (eNot A) :=
  PE.imp (pe_not h) fun σ H Q h => by
    obtain ⟨m, ρ, s, rel, h⟩ := h
    refine ⟨m, ρ, s, rel, (PO_.bind h).mono fun x s1 m1 H1 ⟨r1, h1⟩ v rv => ?_⟩
    split at h1
    · exact ⟨_, rv, h1 m1 H1 (Ext.refl _ _) r1 _ rfl⟩
    · exact h1.elim
@[simp] def eIf (T : Te) (A B : Ex) (ρ : Env) (s : S) : Out D := (T ρ s).bind fun b s1 => if b = true then A ρ s1 else B ρ s1
theorem ev_if (h : EvT g c T) (ha : EvE g a A) (hb : EvE g b B) : EvE g (.IfExp c a b pos) (eIf T A B) :=
  PE.imp (pe_ifExp h ha hb) fun σ H Q h => by
    obtain ⟨m, ρ, s, rel, h⟩ := h
    refine ⟨m, ρ, s, rel, (PO_.bind h).mono fun x s1 m1 H1 ⟨r1, h1⟩ => ?_⟩
    cases x with
    | true => exact ⟨m1, ρ, s1, r1, h1⟩
    | false => exact ⟨m1, ρ, s1, r1, h1⟩

/-! argument lists, displays -/
@[simp] def aNil (_ : Env) (s : S) : Out (List D) := .ok [] s
@[simp] def aCons (A : Ex) (Q : Ar) (ρ : Env) (s : S) : Out (List D) := (A ρ s).bind fun x s1 => (Q ρ s1).bind fun xs s2 => .ok (x :: xs) s2
variable {As : Ar} {es : List Expr}
theorem ea_nil : EvA g [] aNil := PA.imp pa_nil fun σ H Q h => by
  obtain ⟨m, ρ, s, rel, h⟩ := h
  exact h m H (Ext.refl _ _) rel _ rfl
theorem ea_cons (h : EvE g a A) (h' : EvA g es As) (hs : starEach (a :: es) g.X.env = (false, eval a g.X.env) :: starEach es g.X.env := by rfl) : EvA g (a :: es) (aCons A As) :=
  PA.imp (pa_cons h h' hs) fun σ H Q h => by
    obtain ⟨m, ρ, s, rel, h⟩ := h
    refine ⟨m, ρ, s, rel, (PO_.bind h).mono fun x s1 m1 H1 ⟨r1, h1⟩ v rv => ⟨m1, ρ, s1, r1, ?_⟩⟩
    have h2 := PO_.bind h1
    cases e : As ρ s1 with
    | no => rw [e] at h2; exact h2
    | ex y s2 => rw [e] at h2; exact h2
    | ok xs s2 =>
      rw [e] at h2
      intro m2 H2 x2 r2 vs rvs
      obtain ⟨_, h3⟩ := h2 m2 H2 x2 r2
      exact h3 m2 H2 (Ext.refl _ _) r2 _ ⟨v, vs, rfl, r1.sto.repD x2 rv, rvs⟩
@[simp] def eTup (As : Ar) (ρ : Env) (s : S) : Out D := (As ρ s).bind fun xs s1 => if xs.length ≤ sizeLine then .ok (mkT xs) s1 else .no
/-- a list that nobody changes; a list as a cell -/
@[simp] def eLst (As : Ar) (ρ : Env) (s : S) : Out D := (As ρ s).bind fun xs s1 => if xs.length ≤ sizeLine then .ok (.lst xs) s1 else .no
@[simp] def eLstC (As : Ar) (ρ : Env) (s : S) : Out D := (As ρ s).bind fun xs s1 => if xs.length ≤ sizeLine then .ok (.loc s1.length) (s1 ++ [.lst xs]) else .no
theorem ev_tup {k} (h : EvA g es As) : EvE g (.Tuple es k pos) (eTup As) :=
  PE.imp (pe_tup h) fun σ H Q h => by
    obtain ⟨m, ρ, s, rel, h⟩ := h
    refine ⟨m, ρ, s, rel, (PO_.bind h).mono fun xs s1 m1 H1 ⟨r1, h1⟩ vs rv => ?_⟩
    split at h1
    · rename_i hl
      exact ⟨by rw [← rv.len]; exact hl, fun p hp => new_tup r1.sto rv hp fun m' H' v x st r => h1 m' H' x (r1.ext x st) v r⟩
    · exact h1.elim
theorem ev_lst (h : EvA g es As) : EvE g (.List es pos) (eLst As) :=
  PE.imp (pe_lst h) fun σ H Q h => by
    obtain ⟨m, ρ, s, rel, h⟩ := h
    refine ⟨m, ρ, s, rel, (PO_.bind h).mono fun xs s1 m1 H1 ⟨r1, h1⟩ vs rv => ?_⟩
    split at h1
    · rename_i hl
      exact ⟨by rw [← rv.len]; exact hl, fun p hp => new_lst r1.sto rv hp fun m' H' v x st r => h1 m' H' x (r1.ext x st) v r⟩
    · exact h1.elim
theorem ev_lstC (h : EvA g es As) : EvE g (.List es pos) (eLstC As) :=
  PE.imp (pe_lst h) fun σ H Q h => by
    obtain ⟨m, ρ, s, rel, h⟩ := h
    refine ⟨m, ρ, s, rel, (PO_.bind h).mono fun xs s1 m1 H1 ⟨r1, h1⟩ vs rv => ?_⟩
    split at h1
    · rename_i hl
      exact ⟨by rw [← rv.len]; exact hl, fun p hp => new_cell r1.sto rv hp fun m' H' v x st r => h1 m' H' x (r1.ext x st) v r⟩
    · exact h1.elim
end
end Mo

set_option Elab.async false
set_option linter.all false
set_option maxRecDepth 100000
set_option maxHeartbeats 4000000
namespace Mo
open PySem PySem.Spec PyProof.Rows L2
section
variable {g : G} {a b c e : Expr} {A B C_ : Ex} {pos p2 : Pos} {es : List Expr} {As : Ar}

/-! x[i] of tuples, lists, texts -/
theorem RepDs.atI {K : PySem.W.Frag} {H : Hp} {m : List Addr} {ds : List D} {vs : List V} {i : Int} {d : D} (r : RepDs K H m ds vs) (h : atI ds i = some d) : ∃ v, atI vs i = some v ∧ RepD K H m d v := by
  unfold L2.atI at h ⊢
  rw [← r.len]
  cases e : ixN ds.length i with
  | none => rw [e] at h; cases h
  | some j =>
    rw [e] at h
    exact r.get (i := j) h
def ixT : D → D → S → Option (D × S) := fun x y s => match viT x, y with
  | some ds, .p (.int i) => (atI ds i).map fun d => (d, s)
  | _, _ => none
def ixL : D → D → S → Option (D × S) := fun x y s => match viL s x, y with
  | some ds, .p (.int i) => (atI ds i).map fun d => (d, s)
  | _, _ => none
def ixS : D → D → S → Option (D × S) := fun x y s => match x, y with
  | .p (.str z), .p (.int i) => if z.length ≤ sizeLine then (atI z.cps.toList i).map fun c => (.p (.str ⟨#[c]⟩), s) else none
  | _, _ => none
def dIx : D → D → S → Option (D × S) := alt ixT (alt ixL ixS)
theorem ixT_ok : OpS g ixT (rIxT g.X.K) := by
  intro m H s x y vx vy Q st rx ry ans
  unfold ixT at ans
  split at ans
  · rename_i ds i ex
    obtain ⟨a, vs, rfl, q, r⟩ := viT_ok rx ex
    cases ei : atI ds i with
    | none => rw [ei] at ans; exact ans.none.elim
    | some d =>
      rw [ei] at ans
      obtain ⟨v, ev, rv⟩ := r.atI ei
      exact ⟨a, vs, i, v, rfl, ry, q, ev, ans.same st rv⟩
  · exact ans.none.elim
theorem ixL_ok : OpS g ixL (rIxL g.X.K) := by
  intro m H s x y vx vy Q st rx ry ans
  unfold ixL at ans
  split at ans
  · rename_i ds i ex
    obtain ⟨a, vs, rfl, q, r⟩ := viL_ok st rx ex
    cases ei : atI ds i with
    | none => rw [ei] at ans; exact ans.none.elim
    | some d =>
      rw [ei] at ans
      obtain ⟨v, ev, rv⟩ := r.atI ei
      exact ⟨a, vs, i, v, rfl, ry, q, ev, ans.same st rv⟩
  · exact ans.none.elim
theorem ixS_ok : OpS g ixS rIxS := by
  intro m H s x y vx vy Q st rx ry ans
  unfold ixS at ans
  split at ans
  · rename_i z i
    split at ans
    · rename_i hl
      cases ei : atI z.cps.toList i with
      | none => rw [ei] at ans; exact ans.none.elim
      | some d =>
        rw [ei] at ans
        exact ⟨z, i, d, rx, ry, hl, ei, ans.same st (v := .str _) rfl⟩
    · exact ans.none.elim
  · exact ans.none.elim
theorem ev_ix (ha : EvE g a A) (hb : EvE g b B) (hs : PlainIx b := by exact fun _ _ => rfl) : EvE g (.Subscript a b pos) (eOp dIx A B) :=
  PE.imp (pe_ix (IxR.or ix_tup (IxR.or ix_list ix_str)) ha hb hs) fun _ _ _ h => op2 (ixT_ok.alt (ixL_ok.alt ixS_ok)) h

/-! slices -/
abbrev Pa := Env → S → Out (Option Int)
def tP (K : PySem.W.Frag) (ca : Str → Addr) (W : WX) (A : Pa) : TO := fun σ H Q => ∃ m ρ s, Rel K ca m H ρ σ s ∧ PO_ K ca W m H ρ σ (fun b _ _ H' => Q b H') (A ρ s)
def EvP (g : G) (e : Option Expr) (A : Pa) : Prop := PO g.X e (tP g.X.K g.ca g.W A)
@[simp] def pNo (_ : Env) (s : S) : Out (Option Int) := .ok none s
@[simp] def pSo (A : Ex) (ρ : Env) (s : S) : Out (Option Int) := (A ρ s).bind fun x s1 => match x with
  | .p (.int i) => .ok (some i) s1
  | _ => .no
theorem PO.imp {X : Cx} {e : Option Expr} {t t' : TO} (h : PO X e t) (i : ∀ σ H Q, t' σ H Q → t σ H Q) : PO X e t' := ⟨fun pins s σ H Q I q => h.run pins s σ H Q I (i σ H Q q)⟩
theorem ep_no : EvP g none pNo := PO.imp po_none fun σ H Q h => by
  obtain ⟨m, ρ, s, rel, h⟩ := h
  exact h m H (Ext.refl _ _) rel
theorem ep_so (h : EvE g a A) : EvP g (some a) (pSo A) := PO.imp (po_some h) fun σ H Q h => by
  obtain ⟨m, ρ, s, rel, h⟩ := h
  refine ⟨m, ρ, s, rel, (PO_.bind h).mono fun x s1 m1 H1 ⟨r1, h1⟩ v rv => ?_⟩
  split at h1
  · exact ⟨_, rv, h1 m1 H1 (Ext.refl _ _) r1⟩
  · exact h1.elim
def cutD (ds : List D) (lo hi : Option Int) : List D := (ds.drop (HT.sIx ds.length 0 lo)).take (HT.sIx ds.length ds.length hi - HT.sIx ds.length 0 lo)
theorem RepDs.cutD {K : PySem.W.Frag} {H : Hp} {m : List Addr} {ds : List D} {vs : List V} {lo hi : Option Int} (r : RepDs K H m ds vs) : RepDs K H m (cutD ds lo hi) (cutV vs lo hi) := by
  unfold Mo.cutD cutV
  rw [← r.len]
  exact (r.drop _).take _
def slT (x : D) (lo hi : Option Int) (s : S) : Option (D × S) := (viT x).map fun ds => (mkT (cutD ds lo hi), s)
def slL (x : D) (lo hi : Option Int) (s : S) : Option (D × S) := (viL s x).map fun ds => (.lst (cutD ds lo hi), s)
def slS (x : D) (lo hi : Option Int) (s : S) : Option (D × S) := match x with
  | .p (.str z) => if z.length ≤ sizeLine then some (.p (.str (cutS z lo hi)), s) else none
  | _ => none
def dSl (x : D) (lo hi : Option Int) (s : S) : Option (D × S) := match slT x lo hi s with
  | some r => some r
  | none => match slL x lo hi s with
    | some r => some r
    | none => slS x lo hi s
@[simp] def eSl (A : Ex) (P Q : Pa) (ρ : Env) (s : S) : Out D := (A ρ s).bind fun x s1 => (P ρ s1).bind fun lo s2 => (Q ρ s2).bind fun hi s3 => ofO (dSl x lo hi s3)
theorem slT_whole {xs : List V} {ds : List D} {lo hi : Option Int} (hl : ds.length = xs.length) (h : HT.sIx xs.length 0 lo = 0 ∧ HT.sIx xs.length xs.length hi = xs.length) : cutD ds lo hi = ds := by
  unfold cutD
  rw [hl, h.1, h.2]
  simp [← hl]
variable {Pl Ph : Pa} {lo hi : Option Expr}
theorem ev_sl (ha : EvE g a A) (hl : EvP g lo Pl) (hh : EvP g hi Ph) : EvE g (.Subscript a (.Slice lo hi none p2) pos) (eSl A Pl Ph) :=
  PE.imp (pe_slice (SlR.or sl_tupA (SlR.or sl_list sl_str)) ha hl hh) fun σ H Q h => by
    obtain ⟨m, ρ, s, rel, h⟩ := h
    refine ⟨m, ρ, s, rel, (PO_.bind h).mono fun x s1 m1 H1 ⟨r1, h1⟩ v rv => ⟨m1, ρ, s1, r1, ?_⟩⟩
    have h2 := PO_.bind h1
    cases e : Pl ρ s1 with
    | no => rw [e] at h2; exact h2
    | ex y s2 => rw [e] at h2; exact h2
    | ok l s2 =>
      rw [e] at h2
      intro m2 H2 x2 r2
      obtain ⟨_, h3⟩ := h2 m2 H2 x2 r2
      refine ⟨m2, ρ, s2, r2, ?_⟩
      have h4 := PO_.bind h3
      cases e2 : Ph ρ s2 with
      | no => rw [e2] at h4; exact h4
      | ex y s3 => rw [e2] at h4; exact h4
      | ok u s3 =>
        rw [e2] at h4
        intro m3 H3 x3 r3
        obtain ⟨_, h5⟩ := h4 m3 H3 x3 r3
        have rx := r2.sto.repD x3.toExtW (r1.sto.repD x2 rv)
        have ans := ans_of r3 h5
        have st := r3.sto
        unfold dSl at ans
        cases et : slT x l u s3 with
        | some q =>
          rw [et] at ans
          unfold slT at et
          cases ex : viT x with
          | none => rw [ex] at et; cases et
          | some ds =>
            rw [ex] at et
            cases et
            obtain ⟨a, vs, rfl, qa, ra⟩ := viT_ok rx ex
            replace ans : Ans g m3 H3 Q (some (mkT (cutD ds l u), s3)) := ans
            refine .inl ⟨a, vs, rfl, qa, fun hw => ?_, fun _ p hp => ?_⟩
            · rw [slT_whole ra.len hw] at ans
              exact ans.same st (mkT_rep qa ra)
            · obtain ⟨d', s', e, hh⟩ := ans
              cases e
              exact new_tup st ra.cutD hp hh
        | none =>
          rw [et] at ans
          cases el : slL x l u s3 with
          | some q =>
            rw [el] at ans
            unfold slL at el
            cases ex : viL s3 x with
            | none => rw [ex] at el; cases el
            | some ds =>
              rw [ex] at el
              cases el
              obtain ⟨a, vs, rfl, qa, ra⟩ := viL_ok st rx ex
              refine .inr (.inl ⟨a, vs, rfl, qa, fun p hp => ?_⟩)
              obtain ⟨d', s', e, hh⟩ := ans
              cases e
              exact new_lst st ra.cutD hp hh
          | none =>
            rw [el] at ans
            replace ans : Ans g m3 H3 Q (slS x l u s3) := ans
            unfold slS at ans
            split at ans
            · split at ans
              · rename_i hz
                exact .inr (.inr ⟨_, rx, hz, ans.same st (v := .str _) rfl⟩)
              · exact ans.none.elim
            · exact ans.none.elim

/-! calls of built-ins by values -/
/-- f tells what a call makes of its values -/
def CaS (g : G) (f : List D → S → Option (D × S)) (r : List V → Hp → VK → Prop) : Prop := ∀ (m : List Addr) (H : Hp) (s : S) (xs : List D) (vs : List V) (Q : VK), StRep g.X.K g.ca m H s → RepDs g.X.K H m xs vs → Ans g m H Q (f xs s) → r vs H Q
@[simp] def eCa (f : List D → S → Option (D × S)) (As : Ar) (ρ : Env) (s : S) : Out D := (As ρ s).bind fun xs s1 => ofO (f xs s1)
theorem ca_in {f : List D → S → Option (D × S)} {r : List V → Hp → VK → Prop} (hf : CaS g f r) {σ : L2.St} {H : Hp} {Q : VK} (h : tE g.X.K g.ca g.W (eCa f As) σ H Q) : tCB r (tA g.X.K g.ca g.W As) σ H Q := by
  obtain ⟨m, ρ, s, rel, h⟩ := h
  refine ⟨m, ρ, s, rel, (PO_.bind h).mono fun xs s1 m1 H1 ⟨r1, h1⟩ vs rv => ?_⟩
  exact hf m1 H1 s1 xs vs Q r1.sto rv (ans_of r1 h1)
theorem ev_b {id : String} {x : Str} {p : Pos} {f : List D → S → Option (D × S)} {r : List V → Hp → VK → Prop} (hc : CallR g.X (.builtin id) r) (hf : CaS g f r) (hm : g.X.mg x = none) (hv : bootBuiltins x = some (.builtin id)) (ha : EvA g (e :: es) As)
    (hg : Gl g.X x := by rfl) (hn : x ≠ "__name__" := by decide) (hdb : (x == ("__debug__" : Str)) = false := by decide)
    (he : starEach (e :: es) g.X.env = (false, eval e g.X.env) :: starEach es g.X.env := by rfl) (hpl : (backTo pos (starEach es g.X.env)).any (·.1) = false := by rfl) : EvE g (.Call (.Name x p) (e :: es) [] pos) (eCa f As) :=
  PE.imp (pe_callB hc hg hm hv ha hn hdb he hpl) fun _ _ _ h => ca_in hf h
theorem ev_bt {T : String} {x : Str} {p : Pos} {f : List D → S → Option (D × S)} {r : List V → Hp → VK → Prop} (hc : CallR g.X (.type T) r) (hf : CaS g f r) (hm : g.X.mg x = none) (hv : bootBuiltins x = some (.type T)) (ha : EvA g (e :: es) As)
    (hg : Gl g.X x := by rfl) (hn : x ≠ "__name__" := by decide) (hdb : (x == ("__debug__" : Str)) = false := by decide)
    (he : starEach (e :: es) g.X.env = (false, eval e g.X.env) :: starEach es g.X.env := by rfl) (hpl : (backTo pos (starEach es g.X.env)).any (·.1) = false := by rfl) : EvE g (.Call (.Name x p) (e :: es) [] pos) (eCa f As) :=
  PE.imp (pe_callTy hc hg hm hv ha hn hdb he hpl) fun _ _ _ h => ca_in hf h
/-- one value in -/
theorem RepDs.x1 {K : PySem.W.Frag} {H : Hp} {m : List Addr} {d : D} {vs : List V} (r : RepDs K H m [d] vs) : ∃ v, vs = [v] ∧ RepD K H m d v := by
  obtain ⟨v, r', e, h1, h2⟩ := r
  cases h2
  exact ⟨v, e, h1⟩
theorem RepDs.x2 {K : PySem.W.Frag} {H : Hp} {m : List Addr} {d d' : D} {vs : List V} (r : RepDs K H m [d, d'] vs) : ∃ v w, vs = [v, w] ∧ RepD K H m d v ∧ RepD K H m d' w := by
  obtain ⟨v, r', e, h1, h2⟩ := r
  obtain ⟨w, e2, h3⟩ := h2.x1
  subst e2
  exact ⟨v, w, e, h1, h3⟩
theorem CallR.or' {X : Cx} {f : Value} {r r' : List V → Hp → VK → Prop} (h : CallR X f r) (h' : CallR X f r') : CallR X f (fun xs H Q => r xs H Q ∨ r' xs H Q) := CallR.or h h'
def altC (f f' : List D → S → Option (D × S)) : List D → S → Option (D × S) := fun xs s => match f xs s with
  | some r => some r
  | none => f' xs s
theorem CaS.alt {f f' : List D → S → Option (D × S)} {r r' : List V → Hp → VK → Prop} (h : CaS g f r) (h' : CaS g f' r') : CaS g (altC f f') (fun xs H Q => r xs H Q ∨ r' xs H Q) := by
  intro m H s xs vs Q st rx ans
  unfold altC at ans
  cases e : f xs s with
  | some q => rw [e] at ans; exact .inl (h m H s xs vs Q st rx (by rw [e]; exact ans))
  | none => rw [e] at ans; exact .inr (h' m H s xs vs Q st rx ans)
/-- abs -/
def bAbs : List D → S → Option (D × S) := fun xs s => match xs with
  | [.p (.int i)] => some (.p (.int (if i < 0 then -i else i)), s)
  | _ => none
theorem bAbs_ok : CaS g bAbs (fun xs H Q => ∃ i, xs = [.int i] ∧ Q (.int (if i < 0 then -i else i)) H) := by
  intro m H s xs vs Q st rx ans
  unfold bAbs at ans
  split at ans
  · obtain ⟨v, rfl, rv⟩ := rx.x1
    cases rv
    exact ⟨_, rfl, ans.same st (v := .int _) rfl⟩
  · exact ans.none.elim
theorem ev_abs {p : Pos} (hm : g.X.mg "abs" = none) (ha : EvA g [e] As) (hg : Gl g.X "abs" := by rfl) (he : starEach [e] g.X.env = (false, eval e g.X.env) :: starEach [] g.X.env := by rfl) : EvE g (.Call (.Name "abs" p) [e] [] pos) (eCa bAbs As) :=
  ev_b call_abs bAbs_ok hm (by decide +kernel) ha hg (he := he) (hpl := by rfl)
/-- int -/
def bInt : List D → S → Option (D × S) := fun xs s => match xs with
  | [.p (.int i)] => some (.p (.int i), s)
  | [.p (.bl k)] => some (.p (.int (if k then 1 else 0)), s)
  | _ => none
theorem bInt_ok : CaS g bInt (fun xs H Q => (∃ i, xs = [.int i] ∧ Q (.int i) H) ∨ ∃ k, xs = [.bl k] ∧ Q (.int (if k then 1 else 0)) H) := by
  intro m H s xs vs Q st rx ans
  unfold bInt at ans
  split at ans
  · obtain ⟨v, rfl, rv⟩ := rx.x1
    cases rv
    exact .inl ⟨_, rfl, ans.same st (v := .int _) rfl⟩
  · obtain ⟨v, rfl, rv⟩ := rx.x1
    cases rv
    exact .inr ⟨_, rfl, ans.same st (v := .int _) rfl⟩
  · exact ans.none.elim
theorem ev_intc {p : Pos} (hm : g.X.mg "int" = none) (ha : EvA g [e] As) (hg : Gl g.X "int" := by rfl) (he : starEach [e] g.X.env = (false, eval e g.X.env) :: starEach [] g.X.env := by rfl) : EvE g (.Call (.Name "int" p) [e] [] pos) (eCa bInt As) :=
  ev_bt call_int1 bInt_ok hm (by decide +kernel) ha hg (he := he) (hpl := by rfl)
/-- str of an int -/
def bStr : List D → S → Option (D × S) := fun xs s => match xs with
  | [.p (.int i)] => if i.natAbs.log2 < 1920 then some (.p (.str (toString i)), s) else none
  | _ => none
theorem bStr_ok : CaS g bStr (fun xs H Q => ∃ i, xs = [.int i] ∧ i.natAbs.log2 < 1920 ∧ Q (.str (toString i)) H) := by
  intro m H s xs vs Q st rx ans
  unfold bStr at ans
  split at ans
  · split at ans
    · rename_i i hl
      obtain ⟨v, rfl, rv⟩ := rx.x1
      cases rv
      exact ⟨_, rfl, hl, ans.same st (v := .str _) rfl⟩
    · exact ans.none.elim
  · exact ans.none.elim
theorem ev_strc {p : Pos} (hm : g.X.mg "str" = none) (ha : EvA g [e] As) (hg : Gl g.X "str" := by rfl) (he : starEach [e] g.X.env = (false, eval e g.X.env) :: starEach [] g.X.env := by rfl) : EvE g (.Call (.Name "str" p) [e] [] pos) (eCa bStr As) :=
  ev_bt call_str_int bStr_ok hm (by decide +kernel) ha hg (he := he) (hpl := by rfl)
/-- max, min of two ints -/
def bMax2 : List D → S → Option (D × S) := fun xs s => match xs with
  | [.p (.int i), .p (.int j)] => some (.p (.int (if j > i then j else i)), s)
  | _ => none
def bMin2 : List D → S → Option (D × S) := fun xs s => match xs with
  | [.p (.int i), .p (.int j)] => some (.p (.int (if j < i then j else i)), s)
  | _ => none
theorem bMax2_ok : CaS g bMax2 (fun xs H Q => ∃ i j, xs = [.int i, .int j] ∧ Q (.int (if j > i then j else i)) H) := by
  intro m H s xs vs Q st rx ans
  unfold bMax2 at ans
  split at ans
  · obtain ⟨v, w, rfl, rv, rw_⟩ := rx.x2
    cases rv; cases rw_
    exact ⟨_, _, rfl, ans.same st (v := .int _) rfl⟩
  · exact ans.none.elim
theorem bMin2_ok : CaS g bMin2 (fun xs H Q => ∃ i j, xs = [.int i, .int j] ∧ Q (.int (if j < i then j else i)) H) := by
  intro m H s xs vs Q st rx ans
  unfold bMin2 at ans
  split at ans
  · obtain ⟨v, w, rfl, rv, rw_⟩ := rx.x2
    cases rv; cases rw_
    exact ⟨_, _, rfl, ans.same st (v := .int _) rfl⟩
  · exact ans.none.elim
theorem ev_max2 {e2 : Expr} {p : Pos} (hm : g.X.mg "max" = none) (ha : EvA g [e, e2] As) (hc : g.X.calm = true := by rfl) (hg : Gl g.X "max" := by rfl) (he : starEach [e, e2] g.X.env = (false, eval e g.X.env) :: starEach [e2] g.X.env := by rfl) (hpl : (backTo pos (starEach [e2] g.X.env)).any (·.1) = false := by rfl) : EvE g (.Call (.Name "max" p) [e, e2] [] pos) (eCa bMax2 As) :=
  ev_b (call_max2 hc) bMax2_ok hm (by decide +kernel) ha hg (he := he) (hpl := hpl)
theorem ev_min2 {e2 : Expr} {p : Pos} (hm : g.X.mg "min" = none) (ha : EvA g [e, e2] As) (hc : g.X.calm = true := by rfl) (hg : Gl g.X "min" := by rfl) (he : starEach [e, e2] g.X.env = (false, eval e g.X.env) :: starEach [e2] g.X.env := by rfl) (hpl : (backTo pos (starEach [e2] g.X.env)).any (·.1) = false := by rfl) : EvE g (.Call (.Name "min" p) [e, e2] [] pos) (eCa bMin2 As) :=
  ev_b (call_min2 hc) bMin2_ok hm (by decide +kernel) ha hg (he := he) (hpl := hpl)
end
end Mo

set_option Elab.async false
set_option linter.all false
set_option maxRecDepth 100000
set_option maxHeartbeats 4000000
namespace Mo
open PySem PySem.Spec PyProof.Rows L2
section
variable {K : PySem.W.Frag} {ca : Str → Addr} {W : WX} {m m1 : List Addr} {H H1 : Hp} {ρ : Env} {σ : L2.St} {s s1 : S}
/-- the same wish behind other ends that are as good -/
theorem PF_.ends {D_ D' : Ends} {o : Fl} (h : PF_ K ca W m H D_ o) (h1 : ∀ σ H, D_.nx σ H → D'.nx σ H) (h2 : ∀ σ H, D_.rt σ H → D'.rt σ H) (h3 : ∀ σ H, D_.bk σ H → D'.bk σ H) (h4 : ∀ σ H, D_.ct σ H → D'.ct σ H) : PF_ K ca W m H D' o := by
  cases o with
  | nx ρ s => exact fun m' H' σ' x r => h1 _ _ (h m' H' σ' x r)
  | bk ρ s => exact fun m' H' σ' x r => h3 _ _ (h m' H' σ' x r)
  | ct ρ s => exact fun m' H' σ' x r => h4 _ _ (h m' H' σ' x r)
  | rt d s => exact fun m' H' v x r q => h2 _ _ (h m' H' v x r q)
  | ex y ρ s => exact h
  | no => exact h
end
section
variable {g : G} {a b c e : Expr} {A B C_ : Ex} {T : Te} {pos pos' : Pos} {es : List Expr} {As : Ar} {st : Stmt} {rest : List Stmt} {B1 B2 : Bl}

/-! blocks -/
@[simp] def bNil (ρ : Env) (s : S) : Fl := .nx ρ s
@[simp] def bSeq (B1 B2 : Bl) (ρ : Env) (s : S) : Fl := (B1 ρ s).then_ B2
theorem eb_nil : EvB g [] bNil := PSs.imp pss_nil fun D σ H h => by
  obtain ⟨m, ρ, s, rel, h⟩ := h
  exact h m H σ (Ext.refl _ _) rel
theorem eb_cons (h1 : EvS g st B1) (h2 : EvB g rest B2) : EvB g (st :: rest) (bSeq B1 B2) :=
  PSs.imp (pss_cons h1 h2) fun D σ H h => by
    obtain ⟨m, ρ, s, rel, h⟩ := h
    refine ⟨m, ρ, s, rel, ?_⟩
    unfold bSeq at h
    cases e : B1 ρ s with
    | nx ρ' s' =>
      rw [e] at h
      exact fun m' H' σ' x r => ⟨m', ρ', s', r, PF_.on x h⟩
    | rt d s' => rw [e] at h; exact h
    | bk ρ' s' => rw [e] at h; exact h
    | ct ρ' s' => rw [e] at h; exact h
    | ex y ρ' s' => rw [e] at h; exact h
    | no => rw [e] at h; exact h
theorem eb_one (h1 : EvS g st B1) : EvB g [st] B1 := pss_one h1
theorem es_pass : EvS g (.Pass pos) bNil := PS.imp ps_pass fun D σ H h => by
  obtain ⟨m, ρ, s, rel, h⟩ := h
  exact h m H σ (Ext.refl _ _) rel
theorem es_doc {x j} : EvS g (.Expr (.Constant (.str x) j pos) pos') bNil := PS.imp ps_doc fun D σ H h => by
  obtain ⟨m, ρ, s, rel, h⟩ := h
  exact h m H σ (Ext.refl _ _) rel
@[simp] def bBrk (ρ : Env) (s : S) : Fl := .bk ρ s
@[simp] def bCont (ρ : Env) (s : S) : Fl := .ct ρ s
theorem es_brk : EvS g (.Break pos) bBrk := PS.imp ps_break fun D σ H h => by
  obtain ⟨m, ρ, s, rel, h⟩ := h
  exact h m H σ (Ext.refl _ _) rel
theorem es_cont : EvS g (.Continue pos) bCont := PS.imp ps_continue fun D σ H h => by
  obtain ⟨m, ρ, s, rel, h⟩ := h
  exact h m H σ (Ext.refl _ _) rel
@[simp] def bDrop (A : Ex) (ρ : Env) (s : S) : Fl := (A ρ s).fl ρ fun _ s1 => .nx ρ s1
theorem es_expr (ha : EvE g a A) (hs : swapsWith a none pos.line g.X.env = pure false := by rfl) : EvS g (.Expr a pos) (bDrop A) :=
  PS.imp (ps_expr ha hs) fun D σ H h => by
    obtain ⟨m, ρ, s, rel, h⟩ := h
    refine ⟨m, ρ, s, rel, (PO_.fl h).mono fun d s1 m1 H1 ⟨r1, h1⟩ v rv => ?_⟩
    exact h1 m1 H1 σ (Ext.refl _ _) r1
@[simp] def bRet (A : Ex) (ρ : Env) (s : S) : Fl := (A ρ s).fl ρ fun d s1 => .rt d s1
theorem es_ret (ha : EvE g a A) : EvS g (.Return (some a) pos) (bRet A) :=
  PS.imp (ps_ret ha) fun D σ H h => by
    obtain ⟨m, ρ, s, rel, h⟩ := h
    refine ⟨m, ρ, s, rel, (PO_.fl h).mono fun d s1 m1 H1 ⟨r1, h1⟩ v rv => ?_⟩
    exact h1 m1 H1 v (Ext.refl _ _) r1.sto rv
@[simp] def bRetN (_ : Env) (s : S) : Fl := .rt (.p .non) s
theorem es_retN : EvS g (.Return none pos) bRetN := PS.imp ps_retN fun D σ H h => by
  obtain ⟨m, ρ, s, rel, h⟩ := h
  exact h m H .non (Ext.refl _ _) rel.sto rfl
@[simp] def bIf (T : Te) (B1 B2 : Bl) (ρ : Env) (s : S) : Fl := (T ρ s).fl ρ fun b s1 => if b = true then B1 ρ s1 else B2 ρ s1
theorem es_if {s1 s2 : List Stmt} (h : EvT g c T) (h1 : EvB g s1 B1) (h2 : EvB g s2 B2) : EvS g (.If c s1 s2 pos) (bIf T B1 B2) :=
  PS.imp (ps_if h h1 h2) fun D σ H h => by
    obtain ⟨m, ρ, s, rel, h⟩ := h
    refine ⟨m, ρ, s, rel, (PO_.fl h).mono fun d s1 m1 H1 ⟨r1, h1⟩ => ?_⟩
    cases d with
    | true => exact ⟨m1, ρ, s1, r1, h1⟩
    | false => exact ⟨m1, ρ, s1, r1, h1⟩

/-! targets -/
abbrev Tg := D → Env → S → Option Env
def tG (K : PySem.W.Frag) (ca : Str → Addr) (T : Tg) : TG := fun v σ H Q => ∃ m ρ s d, Rel K ca m H ρ σ s ∧ RepD K H m d v ∧ ∃ ρ', T d ρ s = some ρ' ∧ ∀ σ', Rel K ca m H ρ' σ' s → Q σ' H
abbrev Tgs := List D → Env → S → Option Env
def tGs (K : PySem.W.Frag) (ca : Str → Addr) (T : Tgs) : TGs := fun vs σ H Q => ∃ m ρ s ds, Rel K ca m H ρ σ s ∧ RepDs K H m ds vs ∧ ∃ ρ', T ds ρ s = some ρ' ∧ ∀ σ', Rel K ca m H ρ' σ' s → Q σ' H
def EvG (g : G) (e : Expr) (T : Tg) : Prop := PG g.X e (tG g.X.K g.ca T)
def EvGs (g : G) (es : List Expr) (T : Tgs) : Prop := PGs g.X es (tGs g.X.K g.ca T)
@[simp] def gNm (i : Nat) : Tg := fun d ρ _ => some (ρ.set i (some d))
@[simp] def gsNil : Tgs := fun ds ρ _ => match ds with
  | [] => some ρ
  | _ => none
@[simp] def gsCons (T : Tg) (U : Tgs) : Tgs := fun ds ρ s => match ds with
  | d :: ds => (T d ρ s).bind fun ρ' => U ds ρ' s
  | [] => none
@[simp] def gTu (n : Nat) (U : Tgs) : Tg := fun d ρ s => match viT d with
  | some ds => if ds.length = n then U ds ρ s else none
  | none => none
theorem PG.imp {X : Cx} {e : Expr} {t t' : TG} (h : PG X e t) (i : ∀ v σ H Q, t' v σ H Q → t v σ H Q) : PG X e t' := ⟨fun pins s σ H v u Q I r q => h.run pins s σ H v u Q I r (i v σ H Q q)⟩
theorem PGs.imp {X : Cx} {e : List Expr} {t t' : TGs} (h : PGs X e t) (i : ∀ v σ H Q, t' v σ H Q → t v σ H Q) : PGs X e t' := ⟨fun pins s σ H v u Q I r q => h.run pins s σ H v u Q I r (i v σ H Q q)⟩
theorem eg_nm (i : Nat) {x : Str} (hN : g.X.N.Nodup) (hi : g.X.N[i]? = some x := by rfl) (hx : Loc g.X.env.scope x := by first | exact Or.inl rfl | exact Or.inr rfl) (hf : g.X.fn x = true ∨ g.X.env.scope.names.lookup x = some .local := by first | exact .inl rfl | exact .inr rfl) : EvG g (.Name x pos) (gNm i) :=
  PG.imp (pg_name hN hi hx hf) fun v σ H Q h => by
    obtain ⟨m, ρ, s, d, rel, rd, ρ', e, q⟩ := h
    cases e
    exact q _ ⟨rel.env.set i rd, rel.sto⟩
theorem egs_nil : EvGs g [] gsNil := PGs.imp pgs_nil fun v σ H Q h => by
  obtain ⟨m, ρ, s, ds, rel, rd, ρ', e, q⟩ := h
  unfold gsNil at e
  split at e
  · cases e
    cases rd
    exact ⟨rfl, q _ rel⟩
  · cases e
theorem egs_cons {T : Tg} {U : Tgs} (h1 : EvG g e T) (h2 : EvGs g es U) (hs : (assignEach (e :: es) g.X.env).map (·.2) = assign e g.X.env :: (assignEach es g.X.env).map (·.2) := by rfl) : EvGs g (e :: es) (gsCons T U) :=
  PGs.imp (pgs_cons h1 h2 hs) fun vs σ H Q h => by
    obtain ⟨m, ρ, s, ds, rel, rd, ρ', e, q⟩ := h
    unfold gsCons at e
    split at e
    · rename_i d ds
      obtain ⟨v, r, e2, h3, h4⟩ := rd
      obtain ⟨ρ1, e3, e4⟩ := Option.bind_eq_some_iff.mp e
      exact ⟨v, r, e2, m, ρ, s, d, rel, h3, ρ1, e3, fun σ1 rel1 => ⟨m, ρ1, s, ds, rel1, h4, ρ', e4, q⟩⟩
    · cases e
theorem eg_tup {U : Tgs} {k n : Nat} (h : EvGs g es U) (hc : g.X.calm = true := by rfl) (hn : (assignEach es g.X.env).length = n := by rfl) (hst : (assignEach es g.X.env).findIdx? (·.1) = none := by rfl) : EvG g (.Tuple es k pos) (gTu n U) :=
  PG.imp (pg_tup hc h hn hst) fun v σ H Q h => by
    obtain ⟨m, ρ, s, d, rel, rd, ρ', e, q⟩ := h
    unfold gTu at e
    cases ev : viT d with
    | none => rw [ev] at e; cases e
    | some ds =>
      rw [ev] at e
      obtain ⟨a, vs, rfl, qa, ra⟩ := viT_ok rd ev
      simp only at e
      split at e
      · rename_i hl
        exact ⟨a, vs, rfl, qa, by rw [← ra.len]; exact hl, m, ρ, s, ds, rel, ra, ρ', e, q⟩
      · cases e

/-! assignments -/
@[simp] def bSet (i : Nat) (A : Ex) (ρ : Env) (s : S) : Fl := (A ρ s).fl ρ fun d s1 => .nx (ρ.set i (some d)) s1
theorem es_set (i : Nat) {x : Str} (hN : g.X.N.Nodup) (ha : EvE g e A) (hi : g.X.N[i]? = some x := by rfl) (hx : Loc g.X.env.scope x := by first | exact Or.inl rfl | exact Or.inr rfl) (hs : swapsWith e (some (.Name x pos')) pos.line g.X.env = pure false := by rfl)
    (hf : g.X.fn x = true ∨ g.X.env.scope.names.lookup x = some .local := by first | exact .inl rfl | exact .inr rfl) : EvS g (.Assign [.Name x pos'] e pos) (bSet i A) :=
  PS.imp (ps_set hN hi hx ha hs hf) fun D σ H h => by
    obtain ⟨m, ρ, s, rel, h⟩ := h
    refine ⟨m, ρ, s, rel, (PO_.fl h).mono fun d s1 m1 H1 ⟨r1, h1⟩ v rv => ?_⟩
    exact h1 m1 H1 _ (Ext.refl _ _) ⟨r1.env.set i rv, r1.sto⟩
@[simp] def bAsg (A : Ex) (T : Tg) (ρ : Env) (s : S) : Fl := (A ρ s).fl ρ fun d s1 => match T d ρ s1 with
  | some ρ' => .nx ρ' s1
  | none => .no
theorem es_asg {T : Tg} {tg : Expr} (ha : EvE g e A) (hg : EvG g tg T) (hs : swapsWithSole [tg] e pos.line g.X.env = pure false := by rfl) (hw : swappedStores [tg] e g.X.env = pure none := by rfl)
    (h1 : (assignEach [tg] g.X.env).map (·.2) = [assign tg g.X.env] := by rfl) : EvS g (.Assign [tg] e pos) (bAsg A T) :=
  PS.imp (ps_asg ha hg hs hw h1) fun D σ H h => by
    obtain ⟨m, ρ, s, rel, h⟩ := h
    refine ⟨m, ρ, s, rel, (PO_.fl h).mono fun d s1 m1 H1 ⟨r1, h1⟩ v rv => ?_⟩
    cases et : T d ρ s1 with
    | none => rw [et] at h1; exact h1.elim
    | some ρ' =>
      rw [et] at h1
      exact ⟨m1, ρ, s1, d, r1, rv, ρ', et, fun σ' r' => h1 m1 H1 σ' (Ext.refl _ _) r'⟩
/-- a, b = x, y of plain names -/
@[simp] def bPar (is : List Nat) (As : Ar) (ρ : Env) (s : S) : Fl := (As ρ s).fl ρ fun ds s1 => match is, ds with
  | [i, j], [x, y] => .nx ((ρ.set i (some x)).set j (some y)) s1
  | [i, j, l], [x, y, z] => .nx (((ρ.set i (some x)).set j (some y)).set l (some z)) s1
  | _, _ => .no
theorem es_par2 (i j : Nat) {x y : Str} {px py pt : Pos} {kt k2 pt2} (hN : g.X.N.Nodup) (ha : EvA g [a, b] As) (hc : g.X.calm = true := by rfl) (hi : g.X.N[i]? = some x := by rfl) (hj : g.X.N[j]? = some y := by rfl) (hij : i ≠ j := by decide)
    (hx : g.X.env.scope.names.lookup x = some .local := by rfl) (hy : g.X.env.scope.names.lookup y = some .local := by rfl)
    (hw : swappedStores [.Tuple [.Name x px, .Name y py] kt pt] (.Tuple [a, b] k2 pt2) g.X.env = pure (some [x, y]) := by rfl)
    (hs : swapsWithSole [.Tuple [.Name x px, .Name y py] kt pt] (.Tuple [a, b] k2 pt2) pos.line g.X.env = pure false := by rfl) :
    EvS g (.Assign [.Tuple [.Name x px, .Name y py] kt pt] (.Tuple [a, b] k2 pt2) pos) (bPar [i, j] As) :=
  PS.imp (ps_par hc hN hi hj hij hx hy ha hw hs) fun D σ H h => by
    obtain ⟨m, ρ, s, rel, h⟩ := h
    refine ⟨m, ρ, s, rel, (PO_.fl h).mono fun ds s1 m1 H1 ⟨r1, h1⟩ vs rv => ?_⟩
    match ds, rv, h1 with
    | [d1, d2], rv, h1 =>
      obtain ⟨v, w, rfl, rv1, rv2⟩ := rv.x2
      exact ⟨v, w, rfl, h1 m1 H1 _ (Ext.refl _ _) ⟨(r1.env.set i rv1).set j rv2, r1.sto⟩⟩
    | [], _, h1 => exact h1.elim
    | [_], _, h1 => exact h1.elim
    | _ :: _ :: _ :: _, _, h1 => exact h1.elim
theorem es_par3 (i j l : Nat) {x y z : Str} {px py pz pt : Pos} {kt k2 pt2} (hN : g.X.N.Nodup) (ha : EvA g [a, b, c] As) (hc : g.X.calm = true := by rfl) (hi : g.X.N[i]? = some x := by rfl) (hj : g.X.N[j]? = some y := by rfl) (hl : g.X.N[l]? = some z := by rfl) (hij : i ≠ j := by decide) (hil : i ≠ l := by decide) (hjl : j ≠ l := by decide)
    (hx : g.X.env.scope.names.lookup x = some .local := by rfl) (hy : g.X.env.scope.names.lookup y = some .local := by rfl) (hz : g.X.env.scope.names.lookup z = some .local := by rfl)
    (hw : swappedStores [.Tuple [.Name x px, .Name y py, .Name z pz] kt pt] (.Tuple [a, b, c] k2 pt2) g.X.env = pure (some [x, y, z]) := by rfl)
    (hs : swapsWithSole [.Tuple [.Name x px, .Name y py, .Name z pz] kt pt] (.Tuple [a, b, c] k2 pt2) pos.line g.X.env = pure false := by rfl) :
    EvS g (.Assign [.Tuple [.Name x px, .Name y py, .Name z pz] kt pt] (.Tuple [a, b, c] k2 pt2) pos) (bPar [i, j, l] As) :=
  PS.imp (ps_par3 hc hN hi hj hl hij hil hjl hx hy hz ha hw hs) fun D σ H h => by
    obtain ⟨m, ρ, s, rel, h⟩ := h
    refine ⟨m, ρ, s, rel, (PO_.fl h).mono fun ds s1 m1 H1 ⟨r1, h1⟩ vs rv => ?_⟩
    match ds, rv, h1 with
    | [d1, d2, d3], rv, h1 =>
      obtain ⟨v, r, rfl, rv1, rr⟩ := rv
      obtain ⟨w, u, rfl, rv2, rv3⟩ := rr.x2
      exact ⟨v, w, u, rfl, h1 m1 H1 _ (Ext.refl _ _) ⟨((r1.env.set i rv1).set j rv2).set l rv3, r1.sto⟩⟩
    | [], _, h1 => exact h1.elim
    | [_], _, h1 => exact h1.elim
    | [_, _], _, h1 => exact h1.elim
    | _ :: _ :: _ :: _ :: _, _, h1 => exact h1.elim
/-- o[i] = e, o a list -/
def putL (o i d : D) (s : S) : Option S := match o, i with
  | .loc n, .p (.int k) => match s[n]? with
    | some (.lst ds) => (ixN ds.length k).map fun j => s.set n (.lst (ds.set j d))
    | _ => none
  | _, _ => none
@[simp] def bPut (put : D → D → D → S → Option S) (A O I : Ex) (ρ : Env) (s : S) : Fl := (A ρ s).fl ρ fun d s1 => (O ρ s1).fl ρ fun o s2 => (I ρ s2).fl ρ fun i s3 => match put o i d s3 with
  | some s4 => .nx ρ s4
  | none => .no
/-- what a store by a subscript does -/
def PuS (g : G) (put : D → D → D → S → Option S) (t : TSet) : Prop := ∀ (m : List Addr) (H : Hp) (s s' : S) (o i d : D) (vo vi vd : V) (Q : Hp → Prop), StRep g.X.K g.ca m H s → RepD g.X.K H m o vo → RepD g.X.K H m i vi → RepD g.X.K H m d vd →
  put o i d s = some s' → (∀ H', Ext m H m H' → StRep g.X.K g.ca m H' s' → Q H') → t vo vi vd H Q
theorem putL_ok : PuS g putL rSetL := by
  intro m H s s' o i d vo vi vd Q st ro ri rd e h
  unfold putL at e
  split at e
  · rename_i n k
    cases es : s[n]? with
    | none => rw [es] at e; cases e
    | some c =>
      rw [es] at e
      cases c with
      | lst ds =>
        simp only at e
        cases ej : ixN ds.length k with
        | none => rw [ej] at e; cases e
        | some j =>
          rw [ej] at e
          cases e
          obtain ⟨a, ea, rfl⟩ := ro
          obtain ⟨vs, eh, rr⟩ := st.at_ n _ a es ea
          have x : Ext m H m (upd H a (.lst (vs.set j vd))) := Ext.put (List.mem_of_getElem? ea) (nf_lst eh)
          refine ⟨a, vs, k, j, rfl, ri, eh, by rw [← rr.len]; exact ej, h _ x (st.put ea ⟨_, upd_same, st.repDs x (rr.set j rd)⟩)⟩
      | _ => cases e
  · cases e
theorem es_put {put : D → D → D → S → Option S} {t : TSet} {O I : Ex} {o i : Expr} {spos : Pos} (hp : PSet g.X t) (hq : PuS g put t) (ha : EvE g e A) (ho : EvE g o O) (hi : EvE g i I)
    (has : ∀ v, assign (.Subscript o i spos) g.X.env v = (do
      let ov ← holding [v] (eval o g.X.env)
      let iv ← holding [v, ov] (eval i g.X.env)
      standAt spos
      holding [v, ov, iv] (setItem ov iv v)
      release [v, ov, iv] []) := by intro _; rfl)
    (hs : swapsWithSole [.Subscript o i spos] e pos.line g.X.env = pure false := by rfl) (hw : swappedStores [.Subscript o i spos] e g.X.env = pure none := by rfl)
    (h1 : (assignEach [.Subscript o i spos] g.X.env).map (·.2) = [assign (.Subscript o i spos) g.X.env] := by rfl) : EvS g (.Assign [.Subscript o i spos] e pos) (bPut put A O I) :=
  PS.imp (ps_asg ha (pg_sub ho hi hp has) hs hw h1) fun D σ H h => by
    obtain ⟨m, ρ, s, rel, h⟩ := h
    refine ⟨m, ρ, s, rel, (PO_.fl h).mono fun d s1 m1 H1 ⟨r1, h1⟩ v rv => ⟨m1, ρ, s1, r1, ?_⟩⟩
    have h2 := PO_.fl (σ := σ) h1
    cases e : O ρ s1 with
    | no => rw [e] at h2; exact h2
    | ex y s2 => rw [e] at h2; exact h2
    | ok od s2 =>
      rw [e] at h2
      intro m2 H2 x2 r2 ov rov
      obtain ⟨_, h3⟩ := h2 m2 H2 x2 r2
      refine ⟨m2, ρ, s2, r2, ?_⟩
      have h4 := PO_.fl (σ := σ) h3
      cases e2 : I ρ s2 with
      | no => rw [e2] at h4; exact h4
      | ex y s3 => rw [e2] at h4; exact h4
      | ok id_ s3 =>
        rw [e2] at h4
        intro m3 H3 x3 r3 iv riv
        obtain ⟨_, h5⟩ := h4 m3 H3 x3 r3
        cases ep : put od id_ d s3 with
        | none => rw [ep] at h5; exact h5.elim
        | some s4 =>
          rw [ep] at h5
          refine hq m3 H3 s3 s4 od id_ d ov iv v _ r3.sto (r2.sto.repD x3 rov) riv (r2.sto.repD x3 (r1.sto.repD x2 rv)) ep fun H' x4 st4 => ?_
          exact h5 m3 H' σ x4 (r3.ext x4 st4)
theorem es_putL {O I : Ex} {o i : Expr} {spos : Pos} (ha : EvE g e A) (ho : EvE g o O) (hi : EvE g i I)
    (has : ∀ v, assign (.Subscript o i spos) g.X.env v = (do
      let ov ← holding [v] (eval o g.X.env)
      let iv ← holding [v, ov] (eval i g.X.env)
      standAt spos
      holding [v, ov, iv] (setItem ov iv v)
      release [v, ov, iv] []) := by intro _; rfl)
    (hs : swapsWithSole [.Subscript o i spos] e pos.line g.X.env = pure false := by rfl) (hw : swappedStores [.Subscript o i spos] e g.X.env = pure none := by rfl)
    (h1 : (assignEach [.Subscript o i spos] g.X.env).map (·.2) = [assign (.Subscript o i spos) g.X.env] := by rfl) : EvS g (.Assign [.Subscript o i spos] e pos) (bPut putL A O I) := es_put set_list putL_ok ha ho hi has hs hw h1

/-! what a def promises -/
/-- an answer to a caller -/
def PA_ (K : PySem.W.Frag) (ca : Str → Addr) (m : List Addr) (H : Hp) (Q : VK) (E : XK) : Out D → Prop
  | .ok d s => ∀ m' H' v, Ext m H m' H' → StRep K ca m' H' s → RepD K H' m' d v → Q v H'
  | .ex x s => ∀ m' H' c od, Ext m H m' H' → StRep K ca m' H' s → XRep K ca H' m' x c od → E c od H'
  | .no => False
def spF (K : PySem.W.Frag) (ca : Str → Addr) (n : Nat) (F : List D → S → Out D) : Sp := fun vs H Q E => vs.length = n ∧ ∃ m ds s, StRep K ca m H s ∧ RepDs K H m ds vs ∧ PA_ K ca m H Q E (F ds s)
/-- a def that may be called: its promise is F -/
structure Callee (P : Program) (w : World) (K : PySem.W.Frag) (mg : Str → Option Value) (base : Heap) (ca : Str → Addr) (k : Nat) (x : Str) (n : Nat) (F : List D → S → Out D) : Prop where
  ex : ∃ (f : Addr) (fd : FuncData) (ps : List Str), FnOk P w K mg base (L2.CX P w) k f fd ps (spF K ca n F) ∧ mg x = some (.ref f) ∧ PySem.W.keepIn K (.ref f) = true ∧ Binds K fd ps []
abbrev G.Call (g : G) (k : Nat) (x : Str) (n : Nat) (F : List D → S → Out D) : Prop := Callee g.X.prog g.X.w g.X.K g.X.mg g.X.base g.ca k x n F
@[simp] def eF (n : Nat) (F : List D → S → Out D) (As : Ar) (ρ : Env) (s : S) : Out D := (As ρ s).bind fun ds s1 => if ds.length = n then F ds s1 else .no
theorem ev_call {k n : Nat} {x : Str} {F : List D → S → Out D} {p : Pos} (o : g.Ok) (cl : g.Call k x n F) (hk : k ≤ g.k) (ha : EvA g (e :: es) As) (hg : Gl g.X x := by rfl) (hdb : (x == ("__debug__" : Str)) = false := by decide)
    (he : starEach (e :: es) g.X.env = (false, eval e g.X.env) :: starEach es g.X.env := by rfl) (hpl : (backTo pos (starEach es g.X.env)).any (·.1) = false := by rfl) : EvE g (.Call (.Name x p) (e :: es) [] pos) (eF n F As) := by
  obtain ⟨f, fd, ps, F1, hm, hkp, hb⟩ := cl.ex
  refine PE.imp (pe_callS (E := WE g.W) F1 (o.hr.mono hk) hg hm hkp hb (passAt o.tk) ha hdb he hpl) fun σ H Q h => ?_
  obtain ⟨m, ρ, s, rel, h⟩ := h
  refine ⟨m, ρ, s, rel, (PO_.bind h).mono fun ds s1 m1 H1 ⟨r1, h1⟩ vs rv => ?_⟩
  split at h1
  · rename_i hl
    refine ⟨by rw [← rv.len]; exact hl, m1, ds, s1, r1.sto, rv, ?_⟩
    cases e : F ds s1 with
    | no => rw [e] at h1; exact h1
    | ok d s2 => rw [e] at h1; exact fun m' H' v x st r => h1 m' H' x (r1.ext x st) v r
    | ex y s2 => rw [e] at h1; exact fun m' H' c od x st r => h1 m' H' c od x (r1.ext x st) r
  · exact h1.elim
/-- what a def comes to, from its body -/
def runF (n N : Nat) (B : Bl) : List D → S → Out D := fun ds s => if ds.length = n then match B (ds.map some ++ List.replicate (N - n) none) s with
  | .rt d s' => .ok (fin s d s').1 (fin s d s').2
  | .nx _ s' => .ok (fin s (.p .non) s').1 (fin s (.p .non) s').2
  | .ex x _ s' => .ex x s'
  | _ => .no
  else .no
theorem start_rel {K : PySem.W.Frag} {m : List Addr} {H : Hp} {N : List Str} : ∀ {ds : List D} {vs : List V}, RepDs K H m ds vs → ds.length ≤ N.length → EnvRep K m H (ds.map some ++ List.replicate (N.length - ds.length) none) (L2.start N vs) := by
  intro ds vs r hl
  unfold L2.start
  refine ⟨by simp [r.len], fun i d e => ?_⟩
  by_cases hi : i < ds.length
  · rw [List.getElem?_append_left (by simpa using hi), List.getElem?_map] at e
    cases e2 : ds[i]? with
    | none => rw [e2] at e; cases e
    | some d' =>
      rw [e2] at e
      cases e
      obtain ⟨v, e3, rv⟩ := r.get e2
      refine ⟨v, ?_, rv⟩
      rw [List.getElem?_append_left (by rw [List.length_map, ← r.len]; exact hi), List.getElem?_map, e3]
      rfl
  · rw [List.getElem?_append_right (by simpa using hi), List.getElem?_replicate] at e
    split at e <;> cases e
/-- THE RULE for a def: its body's denotation -/
theorem fn_def {P : Program} {w : World} {K : PySem.W.Frag} {mg : Str → Option Value} {base : Heap} {ca : Str → Addr} {x qual : Str} {params : Arguments} {body : List Stmt} {scope : Scope} {f : Addr} {fd : FuncData} {N ps : List Str} {k : Nat} {B : Bl} {dvs : List V}
    (F : FunD K x qual params body scope dvs [] f fd) (Sc : FnScope N ps scope)
    (hB : ∀ (cdv : Value) (A : Around) (outer : List PySem.Env) (s : Shared) (H : Hp) (E : XK), G.Ok ⟨cxOf (L2.CX P w) P w K mg base N qual scope f cdv A outer s H E, ca, fun c od _ H => E c od H, k⟩ →
      EvB ⟨cxOf (L2.CX P w) P w K mg base N qual scope f cdv A outer s H E, ca, fun c od _ H => E c od H, k⟩ body B) :
    FnOk P w K mg base (L2.CX P w) (k + 1) f fd ps (spF K ca ps.length (runF ps.length N.length B)) := by
  have hle : ps.length ≤ N.length := by
    have := congrArg List.length Sc.pre
    rw [List.length_take] at this
    omega
  refine F.ok Sc (fun vs H Q E h => h.1) fun cdv A outer s H vs Q E hr h => ?_
  refine ⟨_, hB cdv A outer s H E ⟨takes_of rfl rfl rfl rfl, hr⟩, ?_⟩
  obtain ⟨hl, m, ds, st, s0, rv, h⟩ := h
  unfold runF at h
  have hdl : ds.length = ps.length := by rw [rv.len]; exact hl
  rw [if_pos hdl] at h
  refine ⟨m, ds.map some ++ List.replicate (N.length - ps.length) none, st, ⟨?_, s0⟩, ?_⟩
  · rw [← hdl]
    exact start_rel rv (by omega)
  · cases e : B (ds.map some ++ List.replicate (N.length - ps.length) none) st with
    | rt d s' =>
      rw [e] at h
      intro m' H' v x st' r
      obtain ⟨m2, x2, s2, r2⟩ := fin_ok s0 x st' r
      exact h m2 H' v x2 s2 r2
    | nx ρ' s' =>
      rw [e] at h
      intro m' H' σ' x rel
      obtain ⟨m2, x2, s2, r2⟩ := fin_ok (d := .p .non) (v := .non) s0 x rel.sto rfl
      exact h m2 H' .non x2 s2 r2
    | ex y ρ' s' =>
      rw [e] at h
      exact fun m' H' σ' c od x rel q => h m' H' c od x rel.sto q
    | bk _ _ => rw [e] at h; exact h.elim
    | ct _ _ => rw [e] at h; exact h.elim
    | no => rw [e] at h; exact h.elim
end
end Mo

set_option Elab.async false
set_option linter.all false
set_option maxRecDepth 100000
set_option maxHeartbeats 4000000
namespace Mo
open PySem PySem.Spec PyProof.Rows L2
section
variable {g : G} {a b c e elt : Expr} {A B C_ : Ex} {T : Te} {pos pos' : Pos} {es : List Expr} {As : Ar} {st : Stmt} {rest body : List Stmt} {B1 B2 : Bl}

/-! targets by their slots -/
mutual
inductive Pt where
  | nm (i : Nat) | tu (ts : Pts)
inductive Pts where
  | nil | cons (t : Pt) (ts : Pts)
end
mutual
def Pt.sl : Pt → List Nat
  | .nm i => [i]
  | .tu ts => ts.sl
def Pts.sl : Pts → List Nat
  | .nil => []
  | .cons t ts => t.sl ++ ts.sl
end
mutual
def Pt.run : Pt → D → Env → Option Env
  | .nm i, d, ρ => some (ρ.set i (some d))
  | .tu ts, d, ρ => match viT d with
    | some ds => ts.run ds ρ
    | none => none
def Pts.run : Pts → List D → Env → Option Env
  | .nil, [], ρ => some ρ
  | .nil, _ :: _, _ => none
  | .cons _ _, [], _ => none
  | .cons t ts, d :: ds, ρ => (t.run d ρ).bind fun ρ' => ts.run ds ρ'
end
/-- the slots beside are as they were -/
def Besides (is : List Nat) (σ σ' : L2.St) : Prop := σ'.length = σ.length ∧ ∀ j, j ∉ is → σ'[j]? = σ[j]?
theorem Besides.refl {is : List Nat} {σ : L2.St} : Besides is σ σ := ⟨rfl, fun _ _ => rfl⟩
theorem Besides.trans {is js : List Nat} {σ σ1 σ2 : L2.St} (h : Besides is σ σ1) (h' : Besides js σ1 σ2) : Besides (is ++ js) σ σ2 :=
  ⟨h'.1.trans h.1, fun j hj => by
    simp only [List.mem_append, not_or] at hj
    rw [h'.2 j hj.2, h.2 j hj.1]⟩
def tG1 (K : PySem.W.Frag) (ca : Str → Addr) (T : Pt) : TG := fun v σ H Q => ∃ m ρ s d, Rel K ca m H ρ σ s ∧ RepD K H m d v ∧ ∃ ρ', T.run d ρ = some ρ' ∧ ∀ σ', Besides T.sl σ σ' → Rel K ca m H ρ' σ' s → Q σ' H
def tGs1 (K : PySem.W.Frag) (ca : Str → Addr) (T : Pts) : TGs := fun vs σ H Q => ∃ m ρ s ds, Rel K ca m H ρ σ s ∧ RepDs K H m ds vs ∧ ∃ ρ', T.run ds ρ = some ρ' ∧ ∀ σ', Besides T.sl σ σ' → Rel K ca m H ρ' σ' s → Q σ' H
def EvGt (g : G) (e : Expr) (T : Pt) : Prop := PG g.X e (tG1 g.X.K g.ca T)
def EvGts (g : G) (es : List Expr) (T : Pts) : Prop := PGs g.X es (tGs1 g.X.K g.ca T)
theorem et_nm (i : Nat) {x : Str} (hN : g.X.N.Nodup) (hi : g.X.N[i]? = some x := by rfl) (hx : Loc g.X.env.scope x := by first | exact Or.inl rfl | exact Or.inr rfl) (hf : g.X.fn x = true ∨ g.X.env.scope.names.lookup x = some .local := by first | exact .inl rfl | exact .inr rfl) : EvGt g (.Name x pos) (.nm i) :=
  PG.imp (pg_name hN hi hx hf) fun v σ H Q h => by
    obtain ⟨m, ρ, s, d, rel, rd, ρ', e, q⟩ := h
    cases e
    exact q _ ⟨by simp, fun j hj => by rw [List.getElem?_set_ne (by intro z; subst z; exact hj (List.mem_singleton.mpr rfl))]⟩ ⟨rel.env.set i rd, rel.sto⟩
theorem ets_nil : EvGts g [] .nil := PGs.imp pgs_nil fun v σ H Q h => by
  obtain ⟨m, ρ, s, ds, rel, rd, ρ', e, q⟩ := h
  cases ds with
  | nil => cases e; cases rd; exact ⟨rfl, q _ Besides.refl rel⟩
  | cons d ds => cases e
theorem ets_cons {T : Pt} {U : Pts} (h1 : EvGt g e T) (h2 : EvGts g es U) (hs : (assignEach (e :: es) g.X.env).map (·.2) = assign e g.X.env :: (assignEach es g.X.env).map (·.2) := by rfl) : EvGts g (e :: es) (.cons T U) :=
  PGs.imp (pgs_cons h1 h2 hs) fun vs σ H Q h => by
    obtain ⟨m, ρ, s, ds, rel, rd, ρ', e, q⟩ := h
    cases ds with
    | nil => cases e
    | cons d ds =>
      obtain ⟨v, r, e2, h3, h4⟩ := rd
      obtain ⟨ρ1, e3, e4⟩ := Option.bind_eq_some_iff.mp e
      exact ⟨v, r, e2, m, ρ, s, d, rel, h3, ρ1, e3, fun σ1 bs1 rel1 => ⟨m, ρ1, s, ds, rel1, h4, ρ', e4, fun σ2 bs2 rel2 => q σ2 (bs1.trans bs2) rel2⟩⟩
theorem et_tup {U : Pts} {k : Nat} (h : EvGts g es U) (hc : g.X.calm = true := by rfl) (hn : (assignEach es g.X.env).length = es.length := by rfl) (hU : ∀ ds ρ ρ', U.run ds ρ = some ρ' → ds.length = es.length := by intro ds ρ ρ' h; exact Mo.lenOk h rfl) (hst : (assignEach es g.X.env).findIdx? (·.1) = none := by rfl) : EvGt g (.Tuple es k pos) (.tu U) :=
  PG.imp (pg_tup hc h hn hst) fun v σ H Q h => by
    obtain ⟨m, ρ, s, d, rel, rd, ρ', e, q⟩ := h
    unfold Pt.run at e
    cases ev : viT d with
    | none => rw [ev] at e; cases e
    | some ds =>
      rw [ev] at e
      obtain ⟨a, vs, rfl, qa, ra⟩ := viT_ok rd ev
      exact ⟨a, vs, rfl, qa, by rw [← ra.len]; exact hU ds ρ ρ' e, m, ρ, s, ds, rel, ra, ρ', e, q⟩
end
def Pts.len : Pts → Nat
  | .nil => 0
  | .cons _ ts => ts.len + 1
theorem Pts.run_len : ∀ {U : Pts} {ds : List D} {ρ ρ' : Env}, U.run ds ρ = some ρ' → ds.length = U.len
  | .nil, [], _, _, _ => rfl
  | .nil, _ :: _, _, _, h => by cases h
  | .cons _ _, [], _, _, h => by cases h
  | .cons t ts, d :: ds, ρ, ρ', h => by
    obtain ⟨ρ1, e3, e4⟩ := Option.bind_eq_some_iff.mp h
    show ds.length + 1 = ts.len + 1
    rw [Pts.run_len e4]
theorem lenOk {U : Pts} {ds : List D} {ρ ρ' : Env} {n : Nat} (h : U.run ds ρ = some ρ') (e : U.len = n) : ds.length = n := e ▸ Pts.run_len h
end Mo

set_option Elab.async false
set_option linter.all false
set_option maxRecDepth 100000
set_option maxHeartbeats 4000000
namespace Mo
open PySem PySem.Spec PyProof.Rows L2
section
variable {g : G} {a b c e elt tg : Expr} {A B C_ : Ex} {T : Te} {pos pos' : Pos} {es : List Expr} {As : Ar} {st : Stmt} {rest body : List Stmt} {B1 B2 : Bl}

@[simp] def bAsgP (A : Ex) (T : Pt) (ρ : Env) (s : S) : Fl := (A ρ s).fl ρ fun d s1 => match T.run d ρ with
  | some ρ' => .nx ρ' s1
  | none => .no
theorem es_asgP {T : Pt} {tg : Expr} (ha : EvE g e A) (hg : EvGt g tg T) (hs : swapsWithSole [tg] e pos.line g.X.env = pure false := by rfl) (hw : swappedStores [tg] e g.X.env = pure none := by rfl)
    (h1 : (assignEach [tg] g.X.env).map (·.2) = [assign tg g.X.env] := by rfl) : EvS g (.Assign [tg] e pos) (bAsgP A T) :=
  PS.imp (ps_asg ha hg hs hw h1) fun D σ H h => by
    obtain ⟨m, ρ, s, rel, h⟩ := h
    refine ⟨m, ρ, s, rel, (PO_.fl h).mono fun d s1 m1 H1 ⟨r1, h1⟩ v rv => ?_⟩
    cases et : T.run d ρ with
    | none => rw [et] at h1; exact h1.elim
    | some ρ' =>
      rw [et] at h1
      exact ⟨m1, ρ, s1, d, r1, rv, ρ', et, fun σ' _ r' => h1 m1 H1 σ' (Ext.refl _ _) r'⟩

/-! what is walked -/
structure Wk where
  ds : List D
  ok : S → Bool
abbrev Sr := Env → S → Out Wk
/-- what a walk yields, while it stands -/
def JRep (K : PySem.W.Frag) (ca : Str → Addr) (m : List Addr) (H : Hp) (J : It) (k : Wk) : Prop := ∀ m' H' s', Ext m H m' H' → StRep K ca m' H' s' → k.ok s' = true → ∀ i, (k.ds.length ≤ i → J.stop i H') ∧
  ∀ d, k.ds[i]? = some d → J.go i H' ∧ ∀ x H2, J.yld i H' x H2 → Ext m' H' m' H2 ∧ StRep K ca m' H2 s' ∧ RepD K H2 m' d x
def tI (K : PySem.W.Frag) (ca : Str → Addr) (W : WX) (A : Sr) : TI := fun σ H R => ∃ m ρ s, Rel K ca m H ρ σ s ∧ PO_ K ca W m H ρ σ (fun k _ m' H' => ∀ J, JRep K ca m' H' J k → R J H') (A ρ s)
def EvI (g : G) (tg e : Expr) (A : Sr) : Prop := PI g.X tg e (tI g.X.K g.ca g.W A)
theorem PI.imp {X : Cx} {tg e : Expr} {t t' : TI} (h : PI X tg e t) (i : ∀ σ H R, t' σ H R → t σ H R) : PI X tg e t' := ⟨fun pins s σ H R I q => h.run pins s σ H R I (i σ H R q)⟩
theorem PI.or {X : Cx} {tg e : Expr} {t t' : TI} (h : PI X tg e t) (h' : PI X tg e t') : PI X tg e (fun σ H R => t σ H R ∨ t' σ H R) := ⟨fun pins s σ H R I q => q.elim (h.run pins s σ H R I) (h'.run pins s σ H R I)⟩
/-- a tuple or a list; a cell must stay as it is while it is walked -/
@[simp] def wkOf (s : S) (d : D) : Option Wk := match viT d with
  | some ds => some ⟨ds, fun _ => true⟩
  | none => match d with
    | .lst ds => some ⟨ds, fun _ => true⟩
    | .ro ds => some ⟨ds, fun _ => true⟩
    | .loc n => match s[n]? with
      | some (.lst ds) => some ⟨ds, fun s' => decide (s'[n]? = some (.lst ds))⟩
      | _ => none
    | _ => none
@[simp] def sAny (A : Ex) (ρ : Env) (s : S) : Out Wk := (A ρ s).bind fun d s1 => match wkOf s1 d with
  | some k => .ok k s1
  | none => .no
theorem jrep_tup {K : PySem.W.Frag} {ca : Str → Addr} {m : List Addr} {H : Hp} {a : Addr} {vs : List V} {ds : List D} {ok : S → Bool} (nt : NoTup m H) (q : SqT K H a vs) (r : RepDs K H m ds vs) : JRep K ca m H (Itt K a) ⟨ds, ok⟩ := by
  intro m' H' s' x st hk i
  have q' := x.sqt nt q
  have r' := r.ext x.toExtW nt
  refine ⟨fun hi => ⟨vs, q', by rw [← r.len]; exact hi⟩, fun d e => ?_⟩
  obtain ⟨v, ev, rv⟩ := r'.get e
  refine ⟨⟨vs, v, q', ev⟩, fun x2 H2 y => ?_⟩
  obtain ⟨rfl, y⟩ := y
  have := y vs q'
  rw [ev] at this
  cases this
  exact ⟨Ext.refl _ _, st, rv⟩
theorem jrep_lst {K : PySem.W.Frag} {ca : Str → Addr} {m : List Addr} {H : Hp} {a : Addr} {ds : List D} {ok : S → Bool} (nt : NoTup m H)
    (q : ∀ m' H' s', Ext m H m' H' → StRep K ca m' H' s' → ok s' = true → ∃ vs, SqL K H' a vs ∧ RepDs K H' m' ds vs) : JRep K ca m H (Itl K a) ⟨ds, ok⟩ := by
  intro m' H' s' x st hk i
  obtain ⟨vs, q', r'⟩ := q m' H' s' x st hk
  refine ⟨fun hi => ⟨vs, q', by rw [← r'.len]; exact hi⟩, fun d e => ?_⟩
  obtain ⟨v, ev, rv⟩ := r'.get e
  refine ⟨⟨vs, v, q', ev⟩, fun x2 H2 y => ?_⟩
  obtain ⟨rfl, y⟩ := y
  have := y vs q'
  rw [ev] at this
  cases this
  exact ⟨Ext.refl _ _, st, rv⟩
/-- a list by its walk: how its items stand at each turn -/
theorem wkOf_lst {K : PySem.W.Frag} {ca : Str → Addr} {m : List Addr} {H : Hp} {s : S} {d : D} {v : V} {k : Wk} (st : StRep K ca m H s) (r : RepD K H m d v) (hT : viT d = none) (e : wkOf s d = some k) :
    ∃ a vs, v = .ref a ∧ SqL K H a vs ∧ ∀ m' H' s', Ext m H m' H' → StRep K ca m' H' s' → k.ok s' = true → ∃ vs, SqL K H' a vs ∧ RepDs K H' m' k.ds vs := by
  unfold wkOf at e
  rw [hT] at e
  cases d with
  | lst ds =>
    cases e
    obtain ⟨a, vs, ev, q, rr⟩ := r
    refine ⟨a, vs, ev, SqL.of q.1, fun m' H' s' x st' _ => ?_⟩
    exact ⟨vs, SqL.of (x.lst a vs q.1 q.2), rr.ext x st.nt⟩
  | ro ds =>
    cases e
    obtain ⟨a, vs, ev, q, rr⟩ := r
    refine ⟨a, vs, ev, q.sql, fun m' H' s' x st' _ => ⟨vs, ?_, rr.ext x st.nt⟩⟩
    rcases q with ⟨q, n⟩ | q
    · exact .inl (x.keep a _ rfl q n).1
    · exact .inr q
  | loc n =>
    simp only at e
    cases es : s[n]? with
    | none => rw [es] at e; cases e
    | some c =>
      rw [es] at e
      cases c with
      | lst ds =>
        cases e
        obtain ⟨a, ea, ev⟩ := r
        obtain ⟨vs, eh, rr⟩ := st.at_ n _ a es ea
        refine ⟨a, vs, ev, SqL.of eh, fun m' H' s' x st' hk => ?_⟩
        have es' := of_decide_eq_true hk
        have ea' : m'[n]? = some a := by
          obtain ⟨t, rfl⟩ := x.pre
          rw [List.getElem?_append_left (List.getElem?_eq_some_iff.mp ea).1]; exact ea
        obtain ⟨vs', eh', rr'⟩ := st'.at_ n _ a es' ea'
        exact ⟨vs', SqL.of eh', rr'⟩
      | _ => cases e
  | _ => cases e
theorem ei_any (ha : EvE g a A) : EvI g tg a (sAny A) :=
  PI.imp (PI.or (pi_tup ha) (pi_list ha)) fun σ H R h => by
    obtain ⟨m, ρ, s, rel, h⟩ := h
    cases eA : A ρ s with
    | no => unfold sAny at h; rw [eA] at h; exact h.elim
    | ex y s1 =>
      refine .inl ⟨m, ρ, s, rel, ?_⟩
      unfold sAny at h
      rw [eA] at h ⊢
      exact h
    | ok d s1 =>
      unfold sAny at h
      rw [eA] at h
      cases ek : wkOf s1 d with
      | none => simp only [Out.bind, ek] at h; exact h.elim
      | some k =>
        simp only [Out.bind, ek] at h
        cases eT : viT d with
        | some ds =>
          refine .inl ⟨m, ρ, s, rel, ?_⟩
          rw [eA]
          intro m1 H1 x1 r1 v rv
          obtain ⟨a, vs, rfl, q, rr⟩ := viT_ok rv eT
          refine ⟨a, rfl, ⟨vs, q⟩, h m1 H1 x1 r1 _ ?_⟩
          have : k = ⟨ds, fun _ => true⟩ := by
            simp only [wkOf, eT] at ek
            exact (Option.some.inj ek).symm
          subst this
          exact jrep_tup r1.sto.nt q rr
        | none =>
          refine .inr ⟨m, ρ, s, rel, ?_⟩
          rw [eA]
          intro m1 H1 x1 r1 v rv
          obtain ⟨a, vs, rfl, q, hw⟩ := wkOf_lst r1.sto rv eT ek
          exact ⟨a, rfl, ⟨vs, q⟩, h m1 H1 x1 r1 _ (jrep_lst r1.sto.nt hw)⟩
/-- range -/
def rgD (lo c : Int) (n : Nat) : List D := (List.range n).map fun (i : Nat) => D.p (.int (lo + (i : Int) * c))
theorem rgD_get {lo c : Int} {n i : Nat} {d : D} (h : (rgD lo c n)[i]? = some d) : i < n ∧ d = .p (.int (lo + (i : Int) * c)) := by
  unfold rgD at h
  rw [List.getElem?_map] at h
  cases e : (List.range n)[i]? with
  | none => rw [e] at h; cases h
  | some j =>
    rw [e] at h
    cases h
    obtain ⟨hi, hj⟩ := List.getElem?_eq_some_iff.mp e
    simp at hi hj
    subst hj
    exact ⟨hi, rfl⟩
theorem rgD_len {lo c : Int} {n : Nat} : (rgD lo c n).length = n := by simp [rgD]
@[simp] def sRng1 (As : Ar) (ρ : Env) (s : S) : Out Wk := (As ρ s).bind fun ds s1 => match ds with
  | [.p (.int j)] => if -(2 ^ 62) ≤ j ∧ j < 2 ^ 62 then .ok ⟨rgD 0 1 j.toNat, fun _ => true⟩ s1 else .no
  | _ => .no
theorem ei_rng1 {p : Pos} (hm : g.X.mg "range" = none) (ha : EvA g [e] As) (hg : Gl g.X "range" := by rfl) (hs : starEach [e] g.X.env = [(false, eval e g.X.env)] := by rfl) : EvI g tg (.Call (.Name "range" p) [e] [] pos) (sRng1 As) :=
  PI.imp (pi_range1 hg hm ha hs) fun σ H R h => by
    obtain ⟨m, ρ, s, rel, h⟩ := h
    refine ⟨m, ρ, s, rel, (PO_.bind h).mono fun ds s1 m1 H1 ⟨r1, h1⟩ vs rv => ?_⟩
    split at h1
    · split at h1
      · rename_i hj
        obtain ⟨v, rfl, rv1⟩ := rv.x1
        cases rv1
        refine ⟨_, rfl, hj.1, hj.2, h1 m1 H1 (Ext.refl _ _) r1 _ ?_⟩
        intro m' H' s' x st hk i
        refine ⟨fun hi => (by rw [rgD_len] at hi; exact hi), fun d e => ?_⟩
        obtain ⟨hi, rfl⟩ := rgD_get e
        refine ⟨hi, fun x2 H2 y => ?_⟩
        obtain ⟨rfl, rfl⟩ := y
        refine ⟨Ext.refl _ _, st, ?_⟩
        show _ = _
        rw [Int.mul_one]
      · exact h1.elim
    · exact h1.elim
@[simp] def sRng2 (As : Ar) (ρ : Env) (s : S) : Out Wk := (As ρ s).bind fun ds s1 => match ds with
  | [.p (.int i), .p (.int j)] => if -(2 ^ 62) ≤ i ∧ i < 2 ^ 62 ∧ -(2 ^ 62) ≤ j ∧ j < 2 ^ 62 then .ok ⟨rgD i 1 (j - i).toNat, fun _ => true⟩ s1 else .no
  | _ => .no
theorem ei_rng2 {e2 : Expr} {p : Pos} (hm : g.X.mg "range" = none) (ha : EvA g [e, e2] As) (hg : Gl g.X "range" := by rfl) (hs : starEach [e, e2] g.X.env = [(false, eval e g.X.env), (false, eval e2 g.X.env)] := by rfl) (hs2 : starEach [e2] g.X.env = [(false, eval e2 g.X.env)] := by rfl) : EvI g tg (.Call (.Name "range" p) [e, e2] [] pos) (sRng2 As) :=
  PI.imp (pi_range2 hg hm ha hs hs2) fun σ H R h => by
    obtain ⟨m, ρ, s, rel, h⟩ := h
    refine ⟨m, ρ, s, rel, (PO_.bind h).mono fun ds s1 m1 H1 ⟨r1, h1⟩ vs rv => ?_⟩
    split at h1
    · split at h1
      · rename_i hj
        obtain ⟨v, w, rfl, rv1, rv2⟩ := rv.x2
        cases rv1; cases rv2
        refine ⟨_, _, rfl, hj, h1 m1 H1 (Ext.refl _ _) r1 _ ?_⟩
        intro m' H' s' x st hk i
        refine ⟨fun hi => (by rw [rgD_len] at hi; exact hi), fun d e => ?_⟩
        obtain ⟨hi, rfl⟩ := rgD_get e
        refine ⟨hi, fun x2 H2 y => ?_⟩
        obtain ⟨rfl, rfl⟩ := y
        refine ⟨Ext.refl _ _, st, ?_⟩
        show _ = _
        rw [Int.mul_one]
      · exact h1.elim
    · exact h1.elim
@[simp] def sRng3 (As : Ar) (ρ : Env) (s : S) : Out Wk := (As ρ s).bind fun ds s1 => match ds with
  | [.p (.int i), .p (.int j), .p (.int c)] => if c = -1 ∧ -(2 ^ 62) ≤ i ∧ i < 2 ^ 62 ∧ -(2 ^ 62) ≤ j ∧ j < 2 ^ 62 then .ok ⟨rgD i (-1) (i - j).toNat, fun _ => true⟩ s1 else .no
  | _ => .no
theorem ei_rng3 {e2 e3 : Expr} {p : Pos} (hm : g.X.mg "range" = none) (ha : EvA g [e, e2, e3] As) (hg : Gl g.X "range" := by rfl)
    (hs : starEach [e, e2, e3] g.X.env = (false, eval e g.X.env) :: starEach [e2, e3] g.X.env := by rfl) (hpl : (backTo pos (starEach [e2, e3] g.X.env)).any (·.1) = false := by rfl) : EvI g tg (.Call (.Name "range" p) [e, e2, e3] [] pos) (sRng3 As) :=
  PI.imp (pi_range3 hg hm ha hs hpl) fun σ H R h => by
    obtain ⟨m, ρ, s, rel, h⟩ := h
    refine ⟨m, ρ, s, rel, (PO_.bind h).mono fun ds s1 m1 H1 ⟨r1, h1⟩ vs rv => ?_⟩
    split at h1
    · split at h1
      · rename_i hj
        obtain ⟨v, r, rfl, rv1, rr⟩ := rv
        obtain ⟨w, u, rfl, rv2, rv3⟩ := rr.x2
        cases rv1; cases rv2; cases rv3
        obtain ⟨rfl, b1, b2, b3, b4⟩ := hj
        refine ⟨_, _, _, _, rfl, RgC.neg b1 b2 b3 b4, h1 m1 H1 (Ext.refl _ _) r1 _ ?_⟩
        intro m' H' s' x st hk i
        refine ⟨fun hi => (by rw [rgD_len] at hi; exact hi), fun d e => ?_⟩
        obtain ⟨hi, rfl⟩ := rgD_get e
        refine ⟨hi, fun x2 H2 y => ?_⟩
        obtain ⟨rfl, rfl⟩ := y
        exact ⟨Ext.refl _ _, st, rfl⟩
      · exact h1.elim
    · exact h1.elim

/-! for -/
/-- turn by turn -/
def forL (ok : S → Bool) (T : Pt) (B : Bl) : List D → Env → S → Fl
  | [], ρ, s => if ok s = true then .nx ρ s else .no
  | d :: ds, ρ, s => if ok s = true then match T.run d ρ with
    | none => .no
    | some ρ1 => match B ρ1 s with
      | .nx ρ2 s2 => forL ok T B ds ρ2 s2
      | .ct ρ2 s2 => forL ok T B ds ρ2 s2
      | .bk ρ2 s2 => .nx ρ2 s2
      | o => o
    else .no
@[simp] def bFor (A : Sr) (T : Pt) (B : Bl) (ρ : Env) (s : S) : Fl := (A ρ s).fl ρ fun k s1 => forL k.ok T B k.ds ρ s1
theorem drop_cons {α : Type} {l : List α} {i : Nat} {d : α} {ds : List α} (h : l.drop i = d :: ds) : l[i]? = some d ∧ l.drop (i + 1) = ds := by
  refine ⟨?_, ?_⟩
  · have := congrArg (·[0]?) h
    simpa using this
  · rw [← List.tail_drop, h]
    rfl
theorem drop_nil {α : Type} {l : List α} {i : Nat} (h : l.drop i = []) : l.length ≤ i := by simpa using h
theorem es_for {Sg : Sr} {T : Pt} {B : Bl} {iter : Expr} (hp : PassesOwn (model g.X.prog g.X.w) g.X.A g.X.env g.X.xe) (hi : EvI g tg iter Sg) (hg : EvGt g tg T) (hb : EvB g body B) (hc : g.X.calm = true := by rfl)
    (hs : ∀ x, foldedSetIterable iter g.X.env x = pure x := by intro _; rfl) : EvS g (.For tg iter body [] pos) (bFor Sg T B) :=
  PS.imp (ps_for hp hc hi hg hb hs) fun D_ σ H h => by
    obtain ⟨m, ρ, s, rel, h⟩ := h
    refine ⟨m, ρ, s, rel, (PO_.fl h).mono fun k s1 m1 H1 ⟨r1, h1⟩ J hJ => ?_⟩
    refine ⟨fun i n σ' H' => n = k.ds.length - i ∧ i ≤ k.ds.length ∧ ∃ m' ρ' s', Ext m1 H1 m' H' ∧ Rel g.X.K g.ca m' H' ρ' σ' s' ∧ PF_ g.X.K g.ca g.W m' H' D_ (forL k.ok T B (k.ds.drop i) ρ' s'), ⟨k.ds.length, by simp, Nat.zero_le _, m1, ρ, s1, Ext.refl _ _, r1, by simpa using h1⟩, ?_⟩
    rintro i n σ2 H2 ⟨rfl, hle, m2, ρ2, s2, x2, rel2, hF⟩
    cases eds : k.ds.drop i with
    | nil =>
      rw [eds] at hF
      unfold forL at hF
      split at hF
      · rename_i hok
        exact .inl ⟨((hJ m2 H2 s2 x2 rel2.sto hok) i).1 (drop_nil eds), hF m2 H2 σ2 (Ext.refl _ _) rel2⟩
      · exact hF.elim
    | cons d ds =>
      rw [eds] at hF
      obtain ⟨e1, e2⟩ := drop_cons eds
      unfold forL at hF
      split at hF
      · rename_i hok
        obtain ⟨hgo, hy⟩ := ((hJ m2 H2 s2 x2 rel2.sto hok) i).2 d e1
        have hlt : i < k.ds.length := (List.getElem?_eq_some_iff.mp e1).1
        refine .inr ⟨hgo, fun σ' H' => ∃ m' ρ' s', Ext m1 H1 m' H' ∧ Rel g.X.K g.ca m' H' ρ' σ' s' ∧ PF_ g.X.K g.ca g.W m' H' D_ (forL k.ok T B (k.ds.drop (i + 1)) ρ' s'), fun σ' H' p => ⟨_, by omega, rfl, by omega, p⟩, fun x H3 y => ?_⟩
        obtain ⟨x3, st3, rd⟩ := hy x H3 y
        cases eT : T.run d ρ2 with
        | none => rw [eT] at hF; exact hF.elim
        | some ρ3 =>
          rw [eT] at hF
          have rel3 := rel2.ext x3 st3
          refine ⟨m2, ρ2, s2, d, rel3, rd, ρ3, eT, fun σ4 _ rel4 => ⟨m2, ρ3, s2, rel4, ?_⟩⟩
          replace hF := PF_.on x3 hF
          dsimp only at hF
          have x4 := x2.trans x3
          cases eB : B ρ3 s2 with
          | nx ρ5 s5 =>
            rw [eB] at hF
            exact fun m' H' σ' x r => ⟨m', ρ5, s5, x4.trans x, r, by rw [e2]; exact PF_.on x hF⟩
          | ct ρ5 s5 =>
            rw [eB] at hF
            exact fun m' H' σ' x r => ⟨m', ρ5, s5, x4.trans x, r, by rw [e2]; exact PF_.on x hF⟩
          | bk ρ5 s5 =>
            rw [eB] at hF
            exact hF
          | rt d' s5 => rw [eB] at hF; exact hF
          | ex y' ρ5 s5 => rw [eB] at hF; exact hF
          | no => rw [eB] at hF; exact hF.elim
      · exact hF.elim

/-! while -/
def whileL (T : Te) (B : Bl) : Nat → Env → S → Fl
  | 0, _, _ => .no
  | n + 1, ρ, s => (T ρ s).fl ρ fun b s1 => if b = true then match B ρ s1 with
    | .nx ρ2 s2 => whileL T B n ρ2 s2
    | .ct ρ2 s2 => whileL T B n ρ2 s2
    | .bk ρ2 s2 => .nx ρ2 s2
    | o => o
    else .nx ρ s1
/-- n: how many turns at most -/
@[simp] def bWhile (n : Env → S → Nat) (T : Te) (B : Bl) (ρ : Env) (s : S) : Fl := whileL T B (n ρ s) ρ s
theorem es_while {B : Bl} (n : Env → S → Nat) (hp : PassesOwn (model g.X.prog g.X.w) g.X.A g.X.env g.X.xe) (ht : EvT g c T) (hb : EvB g body B) : EvS g (.While c body [] pos) (bWhile n T B) :=
  PS.imp (ps_while hp ht hb) fun D_ σ H h => by
    obtain ⟨m, ρ, s, rel, h⟩ := h
    refine ⟨fun k σ' H' => ∃ m' ρ' s', Rel g.X.K g.ca m' H' ρ' σ' s' ∧ PF_ g.X.K g.ca g.W m' H' D_ (whileL T B k ρ' s'), ⟨_, m, ρ, s, rel, h⟩, ?_⟩
    rintro k σ1 H1 ⟨m1, ρ1, s1, rel1, h1⟩
    cases k with
    | zero => exact h1.elim
    | succ k =>
      unfold whileL at h1
      refine ⟨m1, ρ1, s1, rel1, (PO_.fl h1).mono fun b s2 m2 H2 ⟨r2, h2⟩ => ?_⟩
      cases b with
      | false => exact h2 m2 H2 σ1 (Ext.refl _ _) r2
      | true =>
        rw [if_pos rfl] at h2 ⊢
        refine ⟨fun σ' H' => ∃ m' ρ' s', Rel g.X.K g.ca m' H' ρ' σ' s' ∧ PF_ g.X.K g.ca g.W m' H' D_ (whileL T B k ρ' s'), fun σ' H' p => ⟨k, Nat.lt_succ_self _, p⟩, m2, ρ1, s2, r2, ?_⟩
        cases eB : B ρ1 s2 with
        | nx ρ5 s5 =>
          rw [eB] at h2
          exact fun m' H' σ' x r => ⟨m', ρ5, s5, r, PF_.on x h2⟩
        | ct ρ5 s5 =>
          rw [eB] at h2
          exact fun m' H' σ' x r => ⟨m', ρ5, s5, r, PF_.on x h2⟩
        | bk ρ5 s5 => rw [eB] at h2; exact h2
        | rt d' s5 => rw [eB] at h2; exact h2
        | ex y' ρ5 s5 => rw [eB] at h2; exact h2
        | no => rw [eB] at h2; exact h2.elim
end
end Mo

set_option Elab.async false
set_option linter.all false
set_option maxRecDepth 100000
set_option maxHeartbeats 4000000
namespace Mo
open PySem PySem.Spec PyProof.Rows L2
/-! comprehensions -/
def Out.bindN {α β : Type} (o : Out α) (f : α → S → Out β) : Out β := match o with
  | .ok a s => f a s
  | _ => .no
@[simp] theorem Out.bindN_ok {α β : Type} (a : α) (s : S) (f : α → S → Out β) : (Out.ok a s).bindN f = f a s := rfl
@[simp] theorem Out.bindN_ex {α β : Type} (x : Xc) (s : S) (f : α → S → Out β) : (Out.ex x s).bindN f = .no := rfl
@[simp] theorem Out.bindN_no {α β : Type} (f : α → S → Out β) : (Out.no : Out α).bindN f = .no := rfl
def wipeE (ρ : Env) : List Nat → Env
  | [] => ρ
  | v :: vs => (wipeE ρ vs).set v none
/-- turn by turn; the new list is the cell k -/
def lcD (ok : S → Bool) (T : Pt) (U : Te) (A : Ex) (k : Nat) : List D → Env → S → Out Unit
  | [], _, s => if ok s = true then .ok () s else .no
  | d :: ds, ρ, s => if ok s = true then match T.run d ρ with
    | none => .no
    | some ρ1 => (U ρ1 s).bindN fun b s1 => if b = true then (A ρ1 s1).bindN fun y s2 => match s2[k]? with
        | some (.lst acc) => if acc.length < sizeLine then lcD ok T U A k ds ρ (s2.set k (.lst (acc ++ [y]))) else .no
        | _ => .no
      else lcD ok T U A k ds ρ s1
    else .no
@[simp] def tTrue (_ : Env) (s : S) : Out Bool := .ok true s
def eLc (Sg : Sr) (own : List Nat) (T : Pt) (U : Te) (A : Ex) : Ex := fun ρ s => (Sg ρ s).bind fun k s1 => (lcD k.ok T U A s1.length k.ds (wipeE ρ own) (s1 ++ [.lst []])).bindN fun _ s2 => .ok (fin s1 (.loc s1.length) s2).1 (fin s1 (.loc s1.length) s2).2
/-- the same, the list a cell that may be changed -/
def eLcC (Sg : Sr) (own : List Nat) (T : Pt) (U : Te) (A : Ex) : Ex := fun ρ s => (Sg ρ s).bind fun k s1 => (lcD k.ok T U A s1.length k.ds (wipeE ρ own) (s1 ++ [.lst []])).bindN fun _ s2 => .ok (.loc s1.length) s2
theorem wipe_get {σ : L2.St} {j : Nat} : ∀ {vs : List Nat}, (wipe σ vs)[j]? = if j ∈ vs then (if j < σ.length then some none else none) else σ[j]?
  | [] => by simp [wipe]
  | v :: vs => by
    unfold wipe
    by_cases h : v = j
    · subst h
      by_cases hl : v < σ.length
      · rw [List.getElem?_set_self (by rw [wipe_length]; exact hl)]
        simp [hl]
      · rw [List.getElem?_eq_none (by rw [List.length_set, wipe_length]; omega)]
        simp [hl]
    · rw [List.getElem?_set_ne h, wipe_get (vs := vs)]
      have : j ∈ v :: vs ↔ j ∈ vs := by simp [Ne.symm h]
      simp only [this]
theorem wipe_same {σ σ2 : L2.St} {is vs : List Nat} (h : Besides is (wipe σ vs) σ2) (hs : ∀ i ∈ is, i ∈ vs) : wipe σ2 vs = wipe σ vs := by
  apply List.ext_getElem?
  intro j
  rw [wipe_get, wipe_get]
  have hl : σ2.length = σ.length := by rw [h.1, wipe_length]
  by_cases hj : j ∈ vs
  · simp [hj, hl]
  · simp only [hj, if_false]
    rw [h.2 j fun z => hj (hs j z), wipe_get]
    simp [hj]
theorem wipeE_length (ρ : Env) : ∀ vs : List Nat, (wipeE ρ vs).length = ρ.length
  | [] => rfl
  | v :: vs => by unfold wipeE; rw [List.length_set, wipeE_length ρ vs]
theorem EnvRep.wipe {K : PySem.W.Frag} {m : List Addr} {H : Hp} {ρ : Env} {σ : L2.St} (h : EnvRep K m H ρ σ) : ∀ vs : List Nat, EnvRep K m H (wipeE ρ vs) (L2.wipe σ vs)
  | [] => h
  | v :: vs => by
    have ih := EnvRep.wipe h vs
    refine ⟨by unfold wipeE L2.wipe; simpa using ih.1, fun i d e => ?_⟩
    unfold wipeE at e
    unfold L2.wipe
    by_cases hv : v = i
    · subst hv
      by_cases hl : v < (wipeE ρ vs).length
      · rw [List.getElem?_set_self hl] at e; cases e
      · rw [List.getElem?_eq_none (by simpa using hl)] at e; cases e
    · rw [List.getElem?_set_ne hv] at e ⊢
      exact ih.2 i d e
section
variable {g : G} {a b c e elt tg iter : Expr} {A B C_ : Ex} {U : Te} {pos pos' : Pos} {es ifs : List Expr} {As : Ar} {Sg : Sr} {T : Pt} {own : List (Str × Nat)} {scope : Scope}
abbrev G.blk (g : G) (s : Shared) (H : Hp) (scope : Scope) (cl : List (Str × Addr)) (C : Addr) (fp : List Addr) : G := ⟨g.X.blk s H scope (compEnvC scope cl C g.X.env) fp, g.ca, fun _ _ _ _ => False, g.k⟩
theorem G.Ok.blk {g : G} (o : g.Ok) {s : Shared} {H : Hp} {scope : Scope} {cl : List (Str × Addr)} {C : Addr} {fp : List Addr} : (g.blk s H scope cl C fp).Ok := ⟨takes0, o.hr⟩
def EvTs (g : G) (es : List Expr) (U : Te) : Prop := PTs g.X es (tT g.X.K g.ca g.W U)
theorem PTs.imp {X : Cx} {e : List Expr} {t t' : TT} (h : PTs X e t) (i : ∀ σ H Q, t' σ H Q → t σ H Q) : PTs X e t' := ⟨fun pins s σ H Q I q => h.run pins s σ H Q I (i σ H Q q)⟩
theorem ets_no : EvTs g [] tTrue := PTs.imp pts_nil fun σ H Q h => by
  obtain ⟨m, ρ, s, rel, h⟩ := h
  exact h m H (Ext.refl _ _) rel
theorem ets_one (h : EvT g c U) : EvTs g [c] U := pts_one h
/-- the loop of a comprehension, over the layer -/
theorem lc_loop {σ : L2.St} {H1 : Hp} {m1 : List Addr} {ρ : Env} {s1 : S} {k : Wk} {J : It} {Qd : V → Hp → Prop} (r1 : Rel g.X.K g.ca m1 H1 ρ σ s1) (hJ : JRep g.X.K g.ca m1 H1 J k) (hsub : ∀ i ∈ T.sl, i ∈ own.map (·.2)) 
    (h : match lcD k.ok T U A s1.length k.ds (wipeE ρ (own.map (·.2))) (s1 ++ [.lst []]) with
      | .ok _ s2 => ∀ m' H' D0, Ext m1 H1 m' H' → StRep g.X.K g.ca m' H' s2 → m'[s1.length]? = some D0 → Qd (.ref D0) H'
      | _ => False) :
    ∀ D0, H1 D0 = none → ∃ W : Nat → Nat → Hp → Prop, (∃ m, W 0 m (upd H1 D0 (.lst []))) ∧ ∀ i m H, W i m H → (J.stop i H ∧ Qd (.ref D0) H) ∨ (J.go i H ∧ ∃ Nx : Hp → Prop, (∀ H', Nx H' → ∃ m', m' < m ∧ W (i + 1) m' H') ∧
      ∀ x H', J.yld i H x H' → tG1 g.X.K g.ca T x (L2.wipe σ (own.map (·.2))) H' fun σ2 H2 => L2.wipe σ2 (own.map (·.2)) = L2.wipe σ (own.map (·.2)) ∧ tT g.X.K g.ca (fun _ _ _ _ => False) U σ2 H2 fun b H3 =>
        if b = true then tE g.X.K g.ca (fun _ _ _ _ => False) A σ2 H3 fun y H4 => ∃ acc, H4 D0 = some (.lst acc) ∧ acc.length < sizeLine ∧ Nx (upd H4 D0 (.lst (acc ++ [y]))) else Nx H3) := by
  intro D0 hD0
  generalize hvs : own.map (·.2) = vs at *
  have st2 : StRep g.X.K g.ca (m1 ++ [D0]) (upd H1 D0 (.lst [])) (s1 ++ [.lst []]) := r1.sto.alloc hD0 ⟨[], upd_same, rfl⟩
  have x2 : Ext m1 H1 (m1 ++ [D0]) (upd H1 D0 (.lst [])) := Ext.newM r1.sto hD0
  have at0 : ∀ {m'}, (m1 ++ [D0]) <+: m' → m'[s1.length]? = some D0 := fun {m'} hp => by
    obtain ⟨t, rfl⟩ := hp
    rw [List.append_assoc, ← r1.sto.len, List.getElem?_append_right (Nat.le_refl _)]
    simp
  have env2 := (r1.env.ext x2.toExtW r1.sto.nt).wipe vs
  -- what is left to be done from turn i
  let Lf : S → List D → Prop := fun s' ds => match lcD k.ok T U A s1.length ds (wipeE ρ vs) s' with
      | .ok _ s2 => ∀ m' H' D0, Ext m1 H1 m' H' → StRep g.X.K g.ca m' H' s2 → m'[s1.length]? = some D0 → Qd (.ref D0) H'
      | _ => False
  let St' : Hp → List D → Prop := fun H' ds => ∃ m' s', Ext (m1 ++ [D0]) (upd H1 D0 (.lst [])) m' H' ∧ EnvRep g.X.K m' H' (wipeE ρ vs) (L2.wipe σ vs) ∧ StRep g.X.K g.ca m' H' s' ∧ Lf s' ds
  refine ⟨fun i n H' => n = k.ds.length - i ∧ i ≤ k.ds.length ∧ St' H' (k.ds.drop i), ⟨k.ds.length, by simp, Nat.zero_le _, _, _, Ext.refl _ _, env2, st2, by rw [List.drop_zero]; exact h⟩, ?_⟩
  rintro i n H2 ⟨rfl, hle, m2, s2, xx, env, sto, hF⟩
  have xa := x2.trans xx
  cases eds : k.ds.drop i with
  | nil =>
    rw [eds] at hF
    have hF : (match lcD k.ok T U A s1.length [] (wipeE ρ vs) s2 with
      | .ok _ s2 => ∀ m' H' D0, Ext m1 H1 m' H' → StRep g.X.K g.ca m' H' s2 → m'[s1.length]? = some D0 → Qd (.ref D0) H'
      | _ => False) := hF
    unfold lcD at hF
    split at hF
    · rename_i u s3 e3
      split at e3
      · rename_i hok
        cases e3
        exact .inl ⟨((hJ m2 H2 s2 xa sto hok) i).1 (drop_nil eds), hF m2 H2 D0 xa sto (at0 xx.pre)⟩
      · cases e3
    · exact hF.elim
  | cons d ds =>
    rw [eds] at hF
    obtain ⟨e1, e2⟩ := drop_cons eds
    have hF : (match lcD k.ok T U A s1.length (d :: ds) (wipeE ρ vs) s2 with
      | .ok _ s2 => ∀ m' H' D0, Ext m1 H1 m' H' → StRep g.X.K g.ca m' H' s2 → m'[s1.length]? = some D0 → Qd (.ref D0) H'
      | _ => False) := hF
    unfold lcD at hF
    by_cases hok : k.ok s2 = true
    · rw [if_pos hok] at hF
      obtain ⟨hgo, hy⟩ := ((hJ m2 H2 s2 xa sto hok) i).2 d e1
      have hlt : i < k.ds.length := (List.getElem?_eq_some_iff.mp e1).1
      refine .inr ⟨hgo, fun H' => St' H' (k.ds.drop (i + 1)), fun H' p => ⟨_, by omega, rfl, by omega, p⟩, fun x H3 y => ?_⟩
      obtain ⟨x3, st3, rd⟩ := hy x H3 y
      cases eT : T.run d (wipeE ρ vs) with
      | none => rw [eT] at hF; exact hF.elim
      | some ρ3 =>
        rw [eT] at hF
        dsimp only at hF
        have env3 := env.ext x3.toExtW sto.nt
        refine ⟨m2, wipeE ρ vs, s2, d, ⟨env3, st3⟩, rd, ρ3, eT, fun σ4 bs rel4 => ⟨wipe_same bs hsub, m2, ρ3, s2, rel4, ?_⟩⟩
        cases eU : U ρ3 s2 with
        | no => rw [eU] at hF; exact hF.elim
        | ex y' s4 => rw [eU] at hF; exact hF.elim
        | ok b s4 =>
          rw [eU] at hF
          intro m5 H5 x5 rel5
          have x15 : Ext (m1 ++ [D0]) (upd H1 D0 (.lst [])) m5 H5 := (xx.trans x3).trans x5
          have env5 := env3.ext x5.toExtW st3.nt
          cases b with
          | false =>
            exact iteF ⟨m5, s4, x15, env5, rel5.sto, by rw [e2]; exact hF⟩
          | true =>
            refine iteT ⟨m5, ρ3, s4, rel5, ?_⟩
            simp only [Out.bindN, if_true] at hF
            cases eA : A ρ3 s4 with
            | no => rw [eA] at hF; exact hF.elim
            | ex y' s6 => rw [eA] at hF; exact hF.elim
            | ok yd s6 =>
              rw [eA] at hF
              dsimp only at hF
              intro m7 H7 x7 rel7 yv ryv
              cases ek : s6[s1.length]? with
              | none => rw [ek] at hF; exact hF.elim
              | some cc =>
                rw [ek] at hF
                cases cc with
                | lst acc =>
                  dsimp only at hF
                  by_cases hz : acc.length < sizeLine
                  · rw [if_pos hz] at hF
                    have xl := x15.trans x7
                    have hk7 := at0 xl.pre
                    obtain ⟨accV, eH, rr⟩ := rel7.sto.at_ _ _ _ ek hk7
                    refine ⟨accV, eH, by rw [← rr.len]; exact hz, m7, _, xl.trans (Ext.put (List.mem_of_getElem? hk7) (nf_lst eH)), ?_, rel7.sto.put (c := .lst (acc ++ [yd])) hk7 ⟨_, upd_same, ?_⟩, by rw [e2]; exact hF⟩
                    · exact (env5.ext x7 rel5.sto.nt).ext (Ext.put (List.mem_of_getElem? hk7) (nf_lst eH)).toExtW rel7.sto.nt
                    · exact rel7.sto.repDs (Ext.put (List.mem_of_getElem? hk7) (nf_lst eH)).toExtW (rr.app (RepDs.one ryv))
                  · rw [if_neg hz] at hF; exact hF.elim
                | _ => exact hF.elim
    · rw [if_neg hok] at hF; exact hF.elim
theorem lc_in {Q : VK} {σ : L2.St} {H : Hp} (hsub : ∀ i ∈ T.sl, i ∈ own.map (·.2)) (h : tE g.X.K g.ca g.W (eLc Sg (own.map (·.2)) T U A) σ H Q) :
    tLc (tI g.X.K g.ca g.W Sg) (tG1 g.X.K g.ca T) (tT g.X.K g.ca (fun _ _ _ _ => False) U) (tE g.X.K g.ca (fun _ _ _ _ => False) A) (own.map (·.2)) σ H Q := by
  obtain ⟨m, ρ, s, rel, h⟩ := h
  unfold eLc at h
  refine ⟨m, ρ, s, rel, (PO_.bind h).mono fun k s1 m1 H1 ⟨r1, h1⟩ J hJ => ?_⟩
  refine lc_loop (Qd := Q) r1 hJ hsub ?_
  cases e : lcD k.ok T U A s1.length k.ds (wipeE ρ (own.map (·.2))) (s1 ++ [.lst []]) with
  | no => rw [e] at h1; exact h1
  | ex y s2 => rw [e] at h1; exact h1.elim
  | ok _ s2 =>
    rw [e] at h1
    intro m' H' D0 x st hD
    obtain ⟨m2, xm, sm, rm⟩ := fin_ok (d := .loc s1.length) (v := .ref D0) r1.sto x st ⟨D0, hD, rfl⟩
    exact h1 m2 H' xm (r1.ext xm sm) _ rm
theorem lc_inC {Q : VK} {σ : L2.St} {H : Hp} (hsub : ∀ i ∈ T.sl, i ∈ own.map (·.2)) (h : tE g.X.K g.ca g.W (eLcC Sg (own.map (·.2)) T U A) σ H Q) :
    tLc (tI g.X.K g.ca g.W Sg) (tG1 g.X.K g.ca T) (tT g.X.K g.ca (fun _ _ _ _ => False) U) (tE g.X.K g.ca (fun _ _ _ _ => False) A) (own.map (·.2)) σ H Q := by
  obtain ⟨m, ρ, s, rel, h⟩ := h
  unfold eLcC at h
  refine ⟨m, ρ, s, rel, (PO_.bind h).mono fun k s1 m1 H1 ⟨r1, h1⟩ J hJ => ?_⟩
  refine lc_loop (Qd := Q) r1 hJ hsub ?_
  cases e : lcD k.ok T U A s1.length k.ds (wipeE ρ (own.map (·.2))) (s1 ++ [.lst []]) with
  | no => rw [e] at h1; exact h1
  | ex y s2 => rw [e] at h1; exact h1.elim
  | ok _ s2 =>
    rw [e] at h1
    intro m' H' D0 x st hD
    exact h1 m' H' x (r1.ext x st) _ ⟨D0, hD, rfl⟩
/-- what a comprehension's block asks -/
structure Lc (g : G) (own : List (Str × Nat)) (scope : Scope) (tg : Expr) (T : Pt) (ifs : List Expr) (U : Te) (elt : Expr) (A : Ex) : Prop where
  ok : BlkOk g.X.N g.X.env.scope scope own
  sub : ∀ i ∈ T.sl, i ∈ own.map (·.2)
  hg : ∀ (s : Shared) (H : Hp) (C : Addr) (cl : List (Str × Addr)) (fp : List Addr), EvGt (g.blk s H scope cl C fp) tg T
  ht : ∀ (s : Shared) (H : Hp) (C : Addr) (cl : List (Str × Addr)) (fp : List Addr), EvTs (g.blk s H scope cl C fp) ifs U
  he : ∀ (s : Shared) (H : Hp) (C : Addr) (cl : List (Str × Addr)) (fp : List Addr), EvE (g.blk s H scope cl C fp) elt A
theorem ev_lc (hN : g.X.N.Nodup) (hi : EvI g tg iter Sg) (L : Lc g own scope tg T ifs U elt A) (hc : g.X.calm = true := by rfl) (hs : ∀ x, foldedSetIterable iter g.X.env x = pure x := by intro _; rfl) :
    EvE g (.ListComp elt [⟨tg, iter, ifs, 0⟩] scope pos) (eLc Sg (own.map (·.2)) T U A) :=
  PE.imp (pe_lc (g := tG1 g.X.K g.ca T) (tt := tT g.X.K g.ca (fun _ _ _ _ => False) U) (te := tE g.X.K g.ca (fun _ _ _ _ => False) A) hc hN hi L.ok L.hg L.ht L.he hs) fun σ H Q h => lc_in L.sub h
theorem ev_lcC (hN : g.X.N.Nodup) (hi : EvI g tg iter Sg) (L : Lc g own scope tg T ifs U elt A) (hc : g.X.calm = true := by rfl) (hs : ∀ x, foldedSetIterable iter g.X.env x = pure x := by intro _; rfl) :
    EvE g (.ListComp elt [⟨tg, iter, ifs, 0⟩] scope pos) (eLcC Sg (own.map (·.2)) T U A) :=
  PE.imp (pe_lc (g := tG1 g.X.K g.ca T) (tt := tT g.X.K g.ca (fun _ _ _ _ => False) U) (te := tE g.X.K g.ca (fun _ _ _ _ => False) A) hc hN hi L.ok L.hg L.ht L.he hs) fun σ H Q h => lc_inC L.sub h
end
end Mo

set_option Elab.async false
set_option linter.all false
set_option maxRecDepth 100000
set_option maxHeartbeats 4000000
namespace Mo
open PySem PySem.Spec PyProof.Rows L2
section
variable {g : G} {a b c e elt tg iter : Expr} {A B C_ : Ex} {U : Te} {pos pos' cpos apos : Pos} {es ifs : List Expr} {As : Ar} {Sg : Sr} {T : Pt} {own : List (Str × Nat)} {scope : Scope}
/-- name = [..] -/
theorem es_setLc (i : Nat) {y : Str} {py spos : Pos} (hN : g.X.N.Nodup) (hi : EvI g tg iter Sg) (L : Lc g own scope tg T ifs U elt A) (hc : g.X.calm = true := by rfl) (hy : g.X.N[i]? = some y := by rfl) (hyl : g.X.env.scope.names.lookup y = some .local := by rfl)
    (hsw : swapsWith (.ListComp elt [⟨tg, iter, ifs, 0⟩] scope pos) (some (.Name y py)) spos.line g.X.env = pure true := by exact sw_true rfl rfl rfl (by decide +kernel)) (hs : ∀ x, foldedSetIterable iter g.X.env x = pure x := by intro _; rfl) :
    EvS g (.Assign [.Name y py] (.ListComp elt [⟨tg, iter, ifs, 0⟩] scope pos) spos) (bSet i (eLc Sg (own.map (·.2)) T U A)) :=
  PS.imp (ps_setLc (g := tG1 g.X.K g.ca T) (tt := tT g.X.K g.ca (fun _ _ _ _ => False) U) (te := tE g.X.K g.ca (fun _ _ _ _ => False) A) hc hN hy hyl hsw hi L.ok L.hg L.ht L.he hs) fun D σ H h => by
    refine lc_in (Q := fun x H1 => D.nx (σ.set i (some x)) H1) L.sub ?_
    obtain ⟨m, ρ, s, rel, h⟩ := h
    refine ⟨m, ρ, s, rel, (PO_.fl h).mono fun d s1 m1 H1 ⟨r1, h1⟩ v rv => ?_⟩
    exact h1 m1 H1 _ (Ext.refl _ _) ⟨r1.env.set i rv, r1.sto⟩
/-- .. as a cell -/
theorem es_setLcC (i : Nat) {y : Str} {py spos : Pos} (hN : g.X.N.Nodup) (hi : EvI g tg iter Sg) (L : Lc g own scope tg T ifs U elt A) (hc : g.X.calm = true := by rfl) (hy : g.X.N[i]? = some y := by rfl) (hyl : g.X.env.scope.names.lookup y = some .local := by rfl)
    (hsw : swapsWith (.ListComp elt [⟨tg, iter, ifs, 0⟩] scope pos) (some (.Name y py)) spos.line g.X.env = pure true := by exact sw_true rfl rfl rfl (by decide +kernel)) (hs : ∀ x, foldedSetIterable iter g.X.env x = pure x := by intro _; rfl) :
    EvS g (.Assign [.Name y py] (.ListComp elt [⟨tg, iter, ifs, 0⟩] scope pos) spos) (bSet i (eLcC Sg (own.map (·.2)) T U A)) :=
  PS.imp (ps_setLc (g := tG1 g.X.K g.ca T) (tt := tT g.X.K g.ca (fun _ _ _ _ => False) U) (te := tE g.X.K g.ca (fun _ _ _ _ => False) A) hc hN hy hyl hsw hi L.ok L.hg L.ht L.he hs) fun D σ H h => by
    refine lc_inC (Q := fun x H1 => D.nx (σ.set i (some x)) H1) L.sub ?_
    obtain ⟨m, ρ, s, rel, h⟩ := h
    refine ⟨m, ρ, s, rel, (PO_.fl h).mono fun d s1 m1 H1 ⟨r1, h1⟩ v rv => ?_⟩
    exact h1 m1 H1 _ (Ext.refl _ _) ⟨r1.env.set i rv, r1.sto⟩

/-! len, tuple, all, any -/
@[simp] def viQ (s : S) (d : D) : Option (List D) := match viT d with
  | some ds => some ds
  | none => viL s d
theorem viQ_ok {K : PySem.W.Frag} {ca : Str → Addr} {m : List Addr} {H : Hp} {s : S} {d : D} {v : V} {ds : List D} (st : StRep K ca m H s) (r : RepD K H m d v) (h : viQ s d = some ds) : ∃ a vs, v = .ref a ∧ (SqL K H a vs ∨ SqT K H a vs) ∧ RepDs K H m ds vs := by
  unfold viQ at h
  cases eT : viT d with
  | some es =>
    rw [eT] at h; cases h
    obtain ⟨a, vs, e, q, r⟩ := viT_ok r eT
    exact ⟨a, vs, e, .inr q, r⟩
  | none =>
    rw [eT] at h
    obtain ⟨a, vs, e, q, r⟩ := viL_ok st r h
    exact ⟨a, vs, e, .inl q, r⟩
def lenQ : List D → S → Option (D × S) := fun xs s => match xs with
  | [d] => (viQ s d).map fun ds => (.p (.int ds.length), s)
  | _ => none
def lenS : List D → S → Option (D × S) := fun xs s => match xs with
  | [.p (.str z)] => if z.length ≤ sizeLine then some (.p (.int z.length), s) else none
  | _ => none
theorem lenQ_ok : CaS g lenQ (fun xs H Q => ∃ p ys, xs = [.ref p] ∧ (SqL g.X.K H p ys ∨ SqT g.X.K H p ys) ∧ Q (.int ys.length) H) := by
  intro m H s xs vs Q st rx ans
  unfold lenQ at ans
  split at ans
  · rename_i d
    obtain ⟨v, rfl, rv⟩ := rx.x1
    cases eq : viQ s d with
    | none => rw [eq] at ans; exact ans.none.elim
    | some ds =>
      rw [eq] at ans
      obtain ⟨a, ws, rfl, q, r⟩ := viQ_ok st rv eq
      exact ⟨a, ws, rfl, q, ans.same st (by rw [r.len]; rfl)⟩
  · exact ans.none.elim
theorem lenS_ok : CaS g lenS (fun xs H Q => ∃ z, xs = [.str z] ∧ z.length ≤ sizeLine ∧ Q (.int z.length) H) := by
  intro m H s xs vs Q st rx ans
  unfold lenS at ans
  split at ans
  · split at ans
    · rename_i hl
      obtain ⟨v, rfl, rv⟩ := rx.x1
      cases rv
      exact ⟨_, rfl, hl, ans.same st (v := .int _) rfl⟩
    · exact ans.none.elim
  · exact ans.none.elim
/-- a dict's keys and values -/
def viD (s : S) : D → Option (List Key × List D)
  | .dK ks ds => some (ks, ds)
  | .loc n => match s[n]? with
    | some (.dK ks ds) => some (ks, ds)
    | some (.lk ks ds) => some (ks, ds)
    | _ => none
  | _ => none
@[simp] theorem viD_p (s : S) (p : P) : viD s (.p p) = none := rfl
@[simp] theorem viD_mix (s : S) (ds : List D) : viD s (.mix ds) = none := rfl
@[simp] theorem viD_dK (s : S) (ks : List Key) (ds : List D) : viD s (.dK ks ds) = some (ks, ds) := rfl
@[simp] theorem viD_loc (s : S) (n : Nat) : viD s (.loc n) = match s[n]? with
    | some (.dK ks ds) => some (ks, ds)
    | some (.lk ks ds) => some (ks, ds)
    | _ => none := rfl
@[simp] theorem viD_lst (s : S) (ds : List D) : viD s (.lst ds) = none := rfl
@[simp] theorem viD_ro (s : S) (ds : List D) : viD s (.ro ds) = none := rfl
theorem viD_ok {K : PySem.W.Frag} {ca : Str → Addr} {m : List Addr} {H : Hp} {s : S} {d : D} {v : V} {ks : List Key} {ds : List D} (st : StRep K ca m H s) (r : RepD K H m d v) (h : viD s d = some (ks, ds)) : ∃ a vs, v = .ref a ∧ Rd H a (.dK (ks.zip vs)) ∧ ks.length = vs.length ∧ RepDs K H m ds vs := by
  cases d with
  | dK ks ds => cases h; obtain ⟨a, vs, e, ⟨q, _⟩, l, r⟩ := r; exact ⟨a, vs, e, q, l, r⟩
  | loc n =>
    obtain ⟨a, e, q⟩ := r
    cases e2 : s[n]? with
    | none => simp [viD, e2] at h
    | some c =>
      have rc := st.at_ n c a e2 e
      cases c with
      | dK es fs =>
        simp [viD, e2] at h
        obtain ⟨rfl, rfl⟩ := h
        obtain ⟨vs, ea, l, r⟩ := rc
        exact ⟨a, vs, q, .inl ea, l, r⟩
      | lk es fs =>
        simp [viD, e2] at h
        obtain ⟨rfl, rfl⟩ := h
        obtain ⟨o, vs, ea, l, r⟩ := rc
        exact ⟨a, vs, q, .inr ⟨o, ea⟩, l, r⟩
      | _ => simp [viD, e2] at h
  | _ => cases h
def bLen : List D → S → Option (D × S) := altC lenQ lenS
theorem ev_len {p : Pos} (hm : g.X.mg "len" = none) (ha : EvA g [e] As) (hg : Gl g.X "len" := by rfl) (he : starEach [e] g.X.env = (false, eval e g.X.env) :: starEach [] g.X.env := by rfl) : EvE g (.Call (.Name "len" p) [e] [] pos) (eCa bLen As) :=
  ev_b (CallR.or call_len_seq call_len_str) (lenQ_ok.alt lenS_ok) hm (by decide +kernel) ha hg (he := he) (hpl := by rfl)
/-- tuple(x) -/
def bTup : List D → S → Option (D × S) := fun xs s => match xs with
  | [d] => (viQ s d).map fun ds => (mkT ds, s)
  | _ => none
theorem bTup_ok : CaS g bTup (fun xs H Q => ∃ p ys, xs = [.ref p] ∧ ((SqL g.X.K H p ys ∧ ∀ l, H l = none → Q (.ref l) (upd H l (.tup ys))) ∨ (SqT g.X.K H p ys ∧ Q (.ref p) H))) := by
  intro m H s xs vs Q st rx ans
  unfold bTup at ans
  split at ans
  · rename_i d
    obtain ⟨v, rfl, rv⟩ := rx.x1
    cases eq : viQ s d with
    | none => rw [eq] at ans; exact ans.none.elim
    | some ds =>
      rw [eq] at ans
      obtain ⟨a, ws, rfl, q, r⟩ := viQ_ok st rv eq
      rcases q with q | q
      · refine ⟨a, ws, rfl, .inl ⟨q, fun p hp => ?_⟩⟩
        obtain ⟨d', s', e, h⟩ := ans
        cases e
        exact new_tup st r hp h
      · exact ⟨a, ws, rfl, .inr ⟨q, ans.same st (mkT_rep q r)⟩⟩
  · exact ans.none.elim
theorem ev_tuplec {p : Pos} (hm : g.X.mg "tuple" = none) (ha : EvA g [e] As) (hg : Gl g.X "tuple" := by rfl) (he : starEach [e] g.X.env = (false, eval e g.X.env) :: starEach [] g.X.env := by rfl) : EvE g (.Call (.Name "tuple" p) [e] [] pos) (eCa bTup As) :=
  ev_bt call_tuple_of bTup_ok hm (by decide +kernel) ha hg (he := he) (hpl := by rfl)
/-- list(x) -/
def bList : List D → S → Option (D × S) := fun xs s => match xs with
  | [d] => (viQ s d).map fun ds => (.lst ds, s)
  | _ => none
theorem bList_ok : CaS g bList (fun xs H Q => ∃ p ys, xs = [.ref p] ∧ (SqL g.X.K H p ys ∨ SqT g.X.K H p ys) ∧ ∀ l, H l = none → Q (.ref l) (upd H l (.lst ys))) := by
  intro m H s xs vs Q st rx ans
  unfold bList at ans
  split at ans
  · rename_i d
    obtain ⟨v, rfl, rv⟩ := rx.x1
    cases eq : viQ s d with
    | none => rw [eq] at ans; exact ans.none.elim
    | some ds =>
      rw [eq] at ans
      obtain ⟨a, ws, rfl, q, r⟩ := viQ_ok st rv eq
      refine ⟨a, ws, rfl, q, fun p hp => ?_⟩
      obtain ⟨d', s', e, h⟩ := ans
      cases e
      exact new_lst st r hp h
  · exact ans.none.elim
theorem ev_listc {p : Pos} (hm : g.X.mg "list" = none) (ha : EvA g [e] As) (hg : Gl g.X "list" := by rfl) (he : starEach [e] g.X.env = (false, eval e g.X.env) :: starEach [] g.X.env := by rfl) : EvE g (.Call (.Name "list" p) [e] [] pos) (eCa bList As) :=
  ev_bt call_list_of bList_ok hm (by decide +kernel) ha hg (he := he) (hpl := by rfl)
/-- all, any of True and False -/
def allB : List D → Option (List Bool)
  | [] => some []
  | .p (.bl b) :: ds => (allB ds).map (b :: ·)
  | _ :: _ => none
theorem allB_ok {K : PySem.W.Frag} {m : List Addr} {H : Hp} : ∀ {ds : List D} {vs : List V} {bs : List Bool}, RepDs K H m ds vs → allB ds = some bs → vs = bs.map V.bl
  | [], _, _, r, h => by cases h; cases r; rfl
  | .p (.bl b) :: ds, _, bs, r, h => by
    obtain ⟨v, r', rfl, h1, h2⟩ := r
    unfold allB at h
    cases e : allB ds with
    | none => rw [e] at h; cases h
    | some cs =>
      rw [e] at h
      cases h
      cases h1
      rw [allB_ok h2 e]
      rfl
  | .p .non :: _, _, _, _, h => by cases h
  | .p (.int _) :: _, _, _, _, h => by cases h
  | .p (.str _) :: _, _, _, _, h => by cases h
  | .p (.tup _) :: _, _, _, _, h => by cases h
  | .loc _ :: _, _, _, _, h => by cases h
  | .mix _ :: _, _, _, _, h => by cases h
  | .lst _ :: _, _, _, _, h => by cases h
  | .ro _ :: _, _, _, _, h => by cases h
  | .dK _ _ :: _, _, _, _, h => by cases h
  | .dT _ _ :: _, _, _, _, h => by cases h
@[simp] theorem allB_map : ∀ bs : List Bool, allB (bs.map fun b => D.p (.bl b)) = some bs
  | [] => rfl
  | b :: bs => by rw [List.map_cons]; unfold allB; rw [allB_map bs]; rfl
def bAll : List D → S → Option (D × S) := fun xs s => match xs with
  | [d] => (viL s d).bind fun ds => (allB ds).map fun bs => (.p (.bl (bs.all id)), s)
  | _ => none
def bAny : List D → S → Option (D × S) := fun xs s => match xs with
  | [d] => (viL s d).bind fun ds => (allB ds).map fun bs => (.p (.bl (bs.any id)), s)
  | _ => none
theorem bAll_ok : CaS g bAll (rAll g.X.K) := by
  intro m H s xs vs Q st rx ans
  unfold bAll at ans
  split at ans
  · rename_i d
    obtain ⟨v, rfl, rv⟩ := rx.x1
    cases eq : viL s d with
    | none => rw [eq] at ans; exact ans.none.elim
    | some ds =>
      rw [eq] at ans
      obtain ⟨a, ws, rfl, q, r⟩ := viL_ok st rv eq
      cases eb : allB ds with
      | none => simp only [Option.bind_some, eb] at ans; exact ans.none.elim
      | some bs =>
        simp only [Option.bind_some, eb] at ans
        have := allB_ok r eb
        subst this
        exact ⟨a, bs, rfl, q, ans.same st (v := .bl _) rfl⟩
  · exact ans.none.elim
theorem bAny_ok : CaS g bAny (rAny g.X.K) := by
  intro m H s xs vs Q st rx ans
  unfold bAny at ans
  split at ans
  · rename_i d
    obtain ⟨v, rfl, rv⟩ := rx.x1
    cases eq : viL s d with
    | none => rw [eq] at ans; exact ans.none.elim
    | some ds =>
      rw [eq] at ans
      obtain ⟨a, ws, rfl, q, r⟩ := viL_ok st rv eq
      cases eb : allB ds with
      | none => simp only [Option.bind_some, eb] at ans; exact ans.none.elim
      | some bs =>
        simp only [Option.bind_some, eb] at ans
        have := allB_ok r eb
        subst this
        exact ⟨a, bs, rfl, q, ans.same st (v := .bl _) rfl⟩
  · exact ans.none.elim
theorem ev_all {p : Pos} (hm : g.X.mg "all" = none) (ha : EvA g [e] As) (hc : g.X.calm = true := by rfl) (hg : Gl g.X "all" := by rfl) (he : starEach [e] g.X.env = (false, eval e g.X.env) :: starEach [] g.X.env := by rfl) : EvE g (.Call (.Name "all" p) [e] [] pos) (eCa bAll As) :=
  ev_b (cr_all hc) bAll_ok hm (by decide +kernel) ha hg (he := he) (hpl := by rfl)
theorem ev_any {p : Pos} (hm : g.X.mg "any" = none) (ha : EvA g [e] As) (hc : g.X.calm = true := by rfl) (hg : Gl g.X "any" := by rfl) (he : starEach [e] g.X.env = (false, eval e g.X.env) :: starEach [] g.X.env := by rfl) : EvE g (.Call (.Name "any" p) [e] [] pos) (eCa bAny As) :=
  ev_b (cr_any hc) bAny_ok hm (by decide +kernel) ha hg (he := he) (hpl := by rfl)

/-! isinstance with a built-in class -/
def tyP : P → String
  | .non => "NoneType"
  | .bl _ => "bool"
  | .int _ => "int"
  | .str _ => "str"
  | .tup _ => "tuple"
def tyD (s : S) : D → Option String
  | .p p => some (tyP p)
  | .mix _ => some "tuple"
  | .lst _ => some "list"
  | .ro _ => some "list"
  | .dK _ _ => some "dict"
  | .dT _ _ => none
  | .loc n => match s[n]? with
    | some (.lst _) => some "list"
    | some (.dK _ _) => some "dict"
    | some (.lk _ _) => some "dict"
    | _ => none
def isB (a b : String) : Bool := a == b || (a == "bool" && b == "int")
def tyNames : List String := ["NoneType", "bool", "int", "str", "tuple", "list", "dict"]
theorem kit_all : (tyNames.all fun a => tyNames.all fun b => decide (kitB a b = some (isB a b))) = true := by decide +kernel
theorem kit_at {a b : String} (ha : a ∈ tyNames) (hb : b ∈ tyNames) : kitB a b = some (isB a b) := of_decide_eq_true (List.all_eq_true.mp (List.all_eq_true.mp kit_all a ha) b hb)
theorem tyX_sqt {K : PySem.W.Frag} {H : Hp} {a : Addr} {vs : List V} (h : SqT K H a vs) : TyX K H (.ref a) (.type "tuple") := by
  rcases h with (h | ⟨o, h⟩) | ⟨o, its, n, h1, h2, _⟩
  · exact .base (.tup h)
  · exact .fTuple h
  · exact .kTuple h1 h2
theorem tyD_ok {K : PySem.W.Frag} {ca : Str → Addr} {m : List Addr} {H : Hp} {s : S} {d : D} {v : V} {t : String} (st : StRep K ca m H s) (r : RepD K H m d v) (h : tyD s d = some t) : TyX K H v (.type t) ∧ t ∈ tyNames := by
  cases d with
  | p p =>
    cases h
    cases p with
    | non => cases r; exact ⟨.base .non, (by decide : "NoneType" ∈ tyNames)⟩
    | bl b => cases r; exact ⟨.base (.bl b), (by decide : "bool" ∈ tyNames)⟩
    | int b => cases r; exact ⟨.base (.int b), (by decide : "int" ∈ tyNames)⟩
    | str b => cases r; exact ⟨.base (.str b), (by decide : "str" ∈ tyNames)⟩
    | tup ps => obtain ⟨a, vs, rfl, q, _⟩ := r; exact ⟨tyX_sqt q, (by decide : "tuple" ∈ tyNames)⟩
  | mix ds => cases h; obtain ⟨a, vs, rfl, q, _⟩ := r; exact ⟨tyX_sqt q, by decide⟩
  | lst ds => cases h; obtain ⟨a, vs, rfl, ⟨q, _⟩, _⟩ := r; exact ⟨.base (.lst q), by decide⟩
  | ro ds =>
    cases h
    obtain ⟨a, vs, rfl, q, _⟩ := r
    refine ⟨?_, by decide⟩
    rcases q with ⟨q | ⟨o, q⟩, _⟩ | ⟨o, its, n, h1, h2, _⟩
    · exact .base (.lst q)
    · exact .base (.frz q)
    · exact .kList h1 h2
  | dK ks ds =>
    cases h
    obtain ⟨a, vs, rfl, ⟨q, _⟩, _⟩ := r
    refine ⟨?_, by decide⟩
    rcases q with q | ⟨o, q⟩
    · exact .base (.dK q)
    · exact .fDict q
  | dT ks ds => cases h
  | loc n =>
    obtain ⟨a, e, rfl⟩ := r
    replace h : (match s[n]? with
      | some (.lst _) => some "list"
      | some (.dK _ _) => some "dict"
      | some (.lk _ _) => some "dict"
      | _ => none) = some t := h
    cases e2 : s[n]? with
    | none => rw [e2] at h; cases h
    | some c =>
      rw [e2] at h
      have rc := st.at_ n c a e2 e
      cases c with
      | lst ds => cases h; obtain ⟨vs, q, _⟩ := rc; exact ⟨.base (.lst q), by decide⟩
      | dK ks ds => cases h; obtain ⟨vs, q, _⟩ := rc; exact ⟨.base (.dK q), by decide⟩
      | lk ks ds => cases h; obtain ⟨o, vs, q, _⟩ := rc; exact ⟨.fDict q, by decide⟩
      | _ => cases h
@[simp] def eIsI (t : String) (A : Ex) (ρ : Env) (s : S) : Out D := (A ρ s).bind fun d s1 => match tyD s1 d with
  | some t' => .ok (.p (.bl (isB t' t))) s1
  | none => .no
theorem ev_isi (t : String) {x : Str} {p p1 : Pos} (hm : g.X.mg "isinstance" = none) (hmt : g.X.mg x = none) (ha : EvE g e A) (ht : t ∈ tyNames := by decide) (hv : bootBuiltins x = some (.type t) := by decide +kernel) (hgt : Gl g.X x := by rfl) (hg : Gl g.X "isinstance" := by rfl)
    (hn : x ≠ "__name__" := by decide) (hdb : (x == ("__debug__" : Str)) = false := by decide)
    (he : starEach [e, .Name x p1] g.X.env = (false, eval e g.X.env) :: starEach [.Name x p1] g.X.env := by rfl) : EvE g (.Call (.Name "isinstance" p) [e, .Name x p1] [] pos) (eIsI t A) :=
  PE.imp (pe_callB call_isi hg hm (by decide +kernel) (pa_cons ha (pa_cons (pe_bltn (v := .ty t) hgt hmt hv rfl hn hdb) pa_nil) he) (by decide) (by decide) he (by rfl)) fun σ H Q h => by
    obtain ⟨m, ρ, s, rel, h⟩ := h
    refine ⟨m, ρ, s, rel, (PO_.bind h).mono fun d s1 m1 H1 ⟨r1, h1⟩ v rv => ?_⟩
    cases et : tyD s1 d with
    | none => rw [et] at h1; exact h1.elim
    | some t' =>
      rw [et] at h1
      obtain ⟨tx, tn⟩ := tyD_ok r1.sto rv et
      exact ⟨v, .ty t, .type t', .type t, isB t' t, rfl, .ty t, tx, kit_ty (kit_at tn ht), h1 m1 H1 (Ext.refl _ _) r1 _ rfl⟩
end
end Mo

set_option Elab.async false
set_option linter.all false
set_option maxRecDepth 100000
set_option maxHeartbeats 4000000
namespace Mo
open PySem PySem.Spec PyProof.Rows L2
/-! dicts -/
section
variable {κ : Type} [DecidableEq κ] {α : Type}
def lkD : List κ → List α → κ → Option α
  | k' :: ks, d :: ds, k => if k' = k then some d else lkD ks ds k
  | _, _, _ => none
def putKs (ks : List κ) (k : κ) : List κ := if k ∈ ks then ks else ks ++ [k]
def putDs (ks : List κ) (ds : List α) (k : κ) (d : α) : List α := if k ∈ ks then List.zipWith (fun k' y => if k' = k then d else y) ks ds else ds ++ [d]
end
section
variable {κ : Type} [DecidableEq κ] {K : PySem.W.Frag} {H : Hp} {m : List Addr}
theorem lkD_ok : ∀ {ks : List κ} {ds : List D} {vs : List V} {k : κ}, RepDs K H m ds vs → (∀ d, lkD ks ds k = some d → ∃ v, valV (ks.zip vs) k = some v ∧ RepD K H m d v) ∧ (lkD ks ds k = none → valV (ks.zip vs) k = none)
  | [], ds, vs, k, r => ⟨fun d h => (by cases ds <;> cases h), fun _ => rfl⟩
  | k' :: ks, [], vs, k, r => by cases r; exact ⟨fun d h => (by cases h), fun _ => rfl⟩
  | k' :: ks, d :: ds, vs, k, r => by
    obtain ⟨v, r', rfl, h1, h2⟩ := r
    by_cases e : k' = k
    · refine ⟨fun d' h => ?_, fun h => ?_⟩
      · unfold lkD at h
        rw [if_pos e] at h
        cases h
        exact ⟨v, valV_pos e, h1⟩
      · unfold lkD at h
        rw [if_pos e] at h
        cases h
    · obtain ⟨i1, i2⟩ := lkD_ok (ks := ks) (k := k) h2
      refine ⟨fun d' h => ?_, fun h => ?_⟩
      · unfold lkD at h
        rw [if_neg e] at h
        obtain ⟨w, e1, e2⟩ := i1 d' h
        exact ⟨w, (valV_neg e).trans e1, e2⟩
      · unfold lkD at h
        rw [if_neg e] at h
        exact (valV_neg e).trans (i2 h)
theorem RepDs.zipPut : ∀ {ks : List κ} {ds : List D} {vs : List V} {k : κ} {d : D} {v : V}, RepDs K H m ds vs → RepD K H m d v →
    RepDs K H m (List.zipWith (fun k' y => if k' = k then d else y) ks ds) (List.zipWith (fun k' y => if k' = k then v else y) ks vs)
  | [], _, _, _, _, _, _, _ => by simp; rfl
  | _ :: _, [], _, _, _, _, r, _ => by cases r; rfl
  | k' :: ks, d' :: ds, _, k, d, v, r, h => by
    obtain ⟨w, r', rfl, h1, h2⟩ := r
    refine ⟨if k' = k then v else w, _, rfl, ?_, RepDs.zipPut h2 h⟩
    by_cases e : k' = k
    · simp only [e, if_true]; exact h
    · simp only [e, if_false]; exact h1
theorem RepDs.putDs {ks : List κ} {ds : List D} {vs : List V} {k : κ} {d : D} {v : V} (r : RepDs K H m ds vs) (h : RepD K H m d v) : RepDs K H m (Mo.putDs ks ds k d) (Mo.putDs ks vs k v) := by
  unfold Mo.putDs
  split
  · exact r.zipPut h
  · exact r.app (RepDs.one h)
theorem putK_zip : ∀ {ks : List κ} {vs : List V} {k : κ} {v : V}, ks.length = vs.length → putK (ks.zip vs) k v = (putKs ks k).zip (putDs ks vs k v) := by
  intro ks vs k v hl
  unfold putK putKs putDs
  have e1 : ((ks.zip vs).any fun kv => decide (kv.1 = k)) = decide (k ∈ ks) := by
    clear v
    induction ks generalizing vs with
    | nil => simp
    | cons k' ks ih =>
      cases vs with
      | nil => simp at hl
      | cons v' vs =>
        simp only [List.length_cons, Nat.add_right_cancel_iff] at hl
        rw [List.zip_cons_cons, List.any_cons, ih hl]
        by_cases e : k' = k
        · simp [e]
        · simp [e, Ne.symm e]
  rw [e1]
  by_cases hk : k ∈ ks
  · simp only [hk, decide_true, if_true]
    clear e1 hk
    induction ks generalizing vs with
    | nil => simp
    | cons k' ks ih =>
      cases vs with
      | nil => simp at hl
      | cons v' vs =>
        simp only [List.length_cons, Nat.add_right_cancel_iff] at hl
        rw [List.zip_cons_cons, List.map_cons, List.zipWith_cons_cons, List.zip_cons_cons, ih hl]
        by_cases e : k' = k <;> simp [e]
  · simp only [hk, decide_false, if_false, Bool.false_eq_true]
    rw [List.zip_append hl]
    rfl
theorem putX_len {ks : List κ} {vs : List V} {k : κ} {v : V} (hl : ks.length = vs.length) : (putKs ks k).length = (putDs ks vs k v).length := by
  unfold putKs putDs
  split
  · simp [hl]
  · simp [hl]
end
def keyD : D → Option Key
  | .p (.int i) => some (.inl i)
  | .p (.str x) => some (.inr x)
  | _ => none
theorem keyD_ok {K : PySem.W.Frag} {H : Hp} {m : List Addr} {d : D} {v : V} {k : Key} (r : RepD K H m d v) (h : keyD d = some k) : v = kV k := by
  unfold keyD at h
  split at h
  · cases h; cases r; rfl
  · cases h; cases r; rfl
  · cases h
section
variable {g : G} {a b c e elt tg iter : Expr} {A B C_ : Ex} {U : Te} {pos pos' cpos apos : Pos} {es ifs : List Expr} {As : Ar} {Sg : Sr} {T : Pt} {own : List (Str × Nat)} {scope : Scope}
theorem G.Ok.hu (o : g.Ok) : g.X.A.units + 1 < cLine := hu_of o.hr
/-- {} as a cell -/
@[simp] def eDNew (_ : Env) (s : S) : Out D := .ok (.loc s.length) (s ++ [.dK [] []])
theorem ev_dnew : EvE g (.Dict [] [] pos) eDNew := PE.imp pe_dnewK fun σ H Q h => by
  obtain ⟨m, ρ, s, rel, h⟩ := h
  intro p hp
  have x : Ext m H (m ++ [p]) (upd H p (.dK [])) := Ext.newM rel.sto hp
  refine h _ _ x (rel.ext x (rel.sto.alloc (c := .dK [] []) hp ⟨[], upd_same, rfl, rfl⟩)) _ ⟨p, ?_, rfl⟩
  rw [← rel.sto.len, List.getElem?_append_right (Nat.le_refl _)]
  simp
/-- d[k] -/
@[simp] def eDGet (A B : Ex) (ρ : Env) (s : S) : Out D := (A ρ s).bind fun x s1 => (B ρ s1).bind fun y s2 => match viD s2 x, keyD y with
  | some (ks, ds), some k => match lkD ks ds k with
    | some d => .ok d s2
    | none => .no
  | _, _ => .no
theorem ev_dget (o : g.Ok) (ha : EvE g a A) (hb : EvE g b B) (hs : NoSl b := by exact fun _ _ => rfl) : EvE g (.Subscript a b pos) (eDGet A B) :=
  PE.imp (pe_dget o.hu ha hb hs) fun σ H Q h => by
    obtain ⟨m, ρ, s, rel, h⟩ := h
    refine ⟨m, ρ, s, rel, (PO_.bind h).mono fun x s1 m1 H1 ⟨r1, h1⟩ v rv => ⟨m1, ρ, s1, r1, ?_⟩⟩
    have h2 := PO_.bind h1
    cases e : B ρ s1 with
    | no => rw [e] at h2; exact h2
    | ex y s2 => rw [e] at h2; exact h2
    | ok y s2 =>
      rw [e] at h2
      intro m2 H2 x2 r2 w rw_
      obtain ⟨_, h3⟩ := h2 m2 H2 x2 r2
      cases ed : viD s2 x with
      | none => rw [ed] at h3; exact h3.elim
      | some p =>
        obtain ⟨ks, ds⟩ := p
        cases ek : keyD y with
        | none => rw [ed, ek] at h3; exact h3.elim
        | some k =>
          rw [ed, ek] at h3
          dsimp only at h3
          obtain ⟨a, vs, rfl, hd, hl, rr⟩ := viD_ok r2.sto (r1.sto.repD x2 rv) ed
          cases el : lkD ks ds k with
          | none => rw [el] at h3; exact h3.elim
          | some d =>
            rw [el] at h3
            obtain ⟨u, eu, ru⟩ := (lkD_ok (k := k) rr).1 d el
            refine ⟨a, u, rfl, .inl ⟨_, k, hd, keyD_ok rw_ ek, eu.symm⟩, h3 m2 H2 (Ext.refl _ _) r2 u ru⟩
/-- k in d, k not in d -/
@[simp] def eDIn (n : Bool) (B A : Ex) (ρ : Env) (s : S) : Out D := (B ρ s).bind fun y s1 => (A ρ s1).bind fun x s2 => match viD s2 x, keyD y with
  | some (ks, ds), some k => .ok (.p (.bl (xor n (lkD ks ds k).isSome))) s2
  | _, _ => .no
theorem din_in {n : Bool} {σ : L2.St} {H : Hp} {Q : VK} (h : tE g.X.K g.ca g.W (eDIn n B A) σ H Q) : tE g.X.K g.ca g.W B σ H fun y H1 => tE g.X.K g.ca g.W A σ H1 fun x H2 => ∃ a o, x = .ref a ∧ DGet H2 a y o ∧ Q (.bl (xor n o.isSome)) H2 := by
  obtain ⟨m, ρ, s, rel, h⟩ := h
  refine ⟨m, ρ, s, rel, (PO_.bind h).mono fun y s1 m1 H1 ⟨r1, h1⟩ v rv => ⟨m1, ρ, s1, r1, ?_⟩⟩
  have h2 := PO_.bind h1
  cases e : A ρ s1 with
  | no => rw [e] at h2; exact h2
  | ex y s2 => rw [e] at h2; exact h2
  | ok x s2 =>
    rw [e] at h2
    intro m2 H2 x2 r2 w rw_
    obtain ⟨_, h3⟩ := h2 m2 H2 x2 r2
    cases ed : viD s2 x with
    | none => rw [ed] at h3; exact h3.elim
    | some p =>
      obtain ⟨ks, ds⟩ := p
      cases ek : keyD y with
      | none => rw [ed, ek] at h3; exact h3.elim
      | some k =>
        rw [ed, ek] at h3
        dsimp only at h3
        obtain ⟨a, vs, rfl, hd, hl, rr⟩ := viD_ok r2.sto rw_ ed
        refine ⟨a, _, rfl, .inl ⟨_, k, hd, keyD_ok (r1.sto.repD x2.toExtW rv) ek, rfl⟩, h3 m2 H2 (Ext.refl _ _) r2 _ ?_⟩
        have : (valV (ks.zip vs) k).isSome = (lkD ks ds k).isSome := by
          cases el : lkD ks ds k with
          | none => rw [(lkD_ok (k := k) rr).2 el]; rfl
          | some d => obtain ⟨u, eu, _⟩ := (lkD_ok (k := k) rr).1 d el; rw [eu]; rfl
        rw [this]
        rfl
theorem ev_din (o : g.Ok) (hb : EvE g b B) (ha : EvE g a A) (hm : behindInMarks .In a = false := by rfl) : EvE g (.Compare b [.In] [a] pos) (eDIn false B A) :=
  PE.imp (pe_cmp (pc_din o.hu hb ha) hm) fun σ H Q h => by
    have := din_in h
    simp only [Bool.false_xor] at this
    exact this
theorem ev_dnin (o : g.Ok) (hb : EvE g b B) (ha : EvE g a A) (hm : behindInMarks .NotIn a = false := by rfl) : EvE g (.Compare b [.NotIn] [a] pos) (eDIn true B A) :=
  PE.imp (pe_cmp (pc_dnotin o.hu hb ha) hm) fun σ H Q h => by
    have := din_in h
    simp only [Bool.true_xor] at this
    exact this
theorem tV_tE {σ : L2.St} {H : Hp} {Q : Bool → Hp → Prop} (h : tT g.X.K g.ca g.W (tV A) σ H Q) : tE g.X.K g.ca g.W A σ H fun x H1 => ∃ c, x = .bl c ∧ Q c H1 := by
  obtain ⟨m, ρ, s, rel, h⟩ := h
  refine ⟨m, ρ, s, rel, (PO_.bind h).mono fun x s1 m1 H1 ⟨r1, h1⟩ v rv => ?_⟩
  split at h1
  · exact ⟨_, rv, h1 m1 H1 (Ext.refl _ _) r1⟩
  · exact h1.elim
theorem et_din (o : g.Ok) (hb : EvE g b B) (ha : EvE g a A) (hm : behindInMarks .In a = false := by rfl) : EvT g (.Compare b [.In] [a] pos) (tV (eDIn false B A)) :=
  PT.imp (pt_cmp (pc_din o.hu hb ha) hm) fun σ H Q h => by
    have := din_in (tV_tE h)
    simp only [Bool.false_xor] at this
    exact this
theorem et_dnin (o : g.Ok) (hb : EvE g b B) (ha : EvE g a A) (hm : behindInMarks .NotIn a = false := by rfl) : EvT g (.Compare b [.NotIn] [a] pos) (tV (eDIn true B A)) :=
  PT.imp (pt_cmp (pc_dnotin o.hu hb ha) hm) fun σ H Q h => by
    have := din_in (tV_tE h)
    simp only [Bool.true_xor] at this
    exact this
/-- d[k] = v -/
def putD (x y d : D) (s : S) : Option S := match x, keyD y with
  | .loc n, some k => match s[n]? with
    | some (.dK ks ds) => if ks.length < sizeLine then some (s.set n (.dK (putKs ks k) (putDs ks ds k d))) else none
    | _ => none
  | _, _ => none
theorem es_dput {O I : Ex} {ob i : Expr} {spos : Pos} (o : g.Ok) (ha : EvE g e A) (ho : EvE g ob O) (hi : EvE g i I) (hs : swapsWith e (some (.Subscript ob i spos)) pos.line g.X.env = pure false := by rfl) : EvS g (.Assign [.Subscript ob i spos] e pos) (bPut putD A O I) :=
  PS.imp (ps_dput o.hu ho hi ha hs) fun D σ H h => by
    obtain ⟨m, ρ, s, rel, h⟩ := h
    refine ⟨m, ρ, s, rel, (PO_.fl h).mono fun d s1 m1 H1 ⟨r1, h1⟩ v rv => ⟨m1, ρ, s1, r1, ?_⟩⟩
    have h2 := PO_.fl (σ := σ) h1
    cases e : O ρ s1 with
    | no => rw [e] at h2; exact h2
    | ex y s2 => rw [e] at h2; exact h2
    | ok od s2 =>
      rw [e] at h2
      intro m2 H2 x2 r2 ov rov
      obtain ⟨_, h3⟩ := h2 m2 H2 x2 r2
      refine ⟨m2, ρ, s2, r2, ?_⟩
      have h4 := PO_.fl (σ := σ) h3
      cases e2 : I ρ s2 with
      | no => rw [e2] at h4; exact h4
      | ex y s3 => rw [e2] at h4; exact h4
      | ok id_ s3 =>
        rw [e2] at h4
        intro m3 H3 x3 r3 iv riv
        obtain ⟨_, h5⟩ := h4 m3 H3 x3 r3
        cases ep : putD od id_ d s3 with
        | none => rw [ep] at h5; exact h5.elim
        | some s4 =>
          rw [ep] at h5
          unfold putD at ep
          split at ep
          · rename_i n k ek
            cases es : s3[n]? with
            | none => rw [es] at ep; cases ep
            | some cc =>
              rw [es] at ep
              cases cc with
              | dK ks ds =>
                dsimp only at ep
                split at ep
                · rename_i hz
                  cases ep
                  obtain ⟨a, ea, rfl⟩ := r2.sto.repD x3.toExtW rov
                  obtain ⟨vs, eh, hl, rr⟩ := r3.sto.at_ n _ a es ea
                  have rd := r2.sto.repD x3.toExtW (r1.sto.repD x2 rv)
                  have xp : Ext m3 H3 m3 (upd H3 a (.dK (putK (ks.zip vs) k v))) := Ext.put (List.mem_of_getElem? ea) (nf_dK eh)
                  refine ⟨a, _, rfl, .inl ⟨_, k, eh, keyD_ok riv ek, by rw [List.length_zip, ← hl]; simpa using hz, rfl⟩, h5 m3 _ σ xp (r3.ext xp ?_)⟩
                  refine r3.sto.put (c := .dK (putKs ks k) (putDs ks ds k d)) ea ⟨putDs ks vs k v, ?_, putX_len hl, r3.sto.repDs xp (rr.putDs rd)⟩
                  rw [putK_zip hl]
                  exact upd_same
                · cases ep
              | _ => cases ep
          · cases ep
/-- dict(d): a copy, a cell -/
def bDict : List D → S → Option (D × S) := fun xs s => match xs with
  | [d] => (viD s d).map fun p => (.loc s.length, s ++ [.dK p.1 p.2])
  | _ => none
theorem bDict_ok : CaS g bDict (fun xs H Q => ∃ (a : Addr) (kvs : List (Key × V)), xs = [.ref a] ∧ Rd H a (.dK kvs) ∧ ∀ p, H p = none → Q (.ref p) (upd H p (.dK kvs))) := by
  intro m H s xs vs Q st rx ans
  unfold bDict at ans
  split at ans
  · rename_i d
    obtain ⟨v, rfl, rv⟩ := rx.x1
    cases eq : viD s d with
    | none => rw [eq] at ans; exact ans.none.elim
    | some q =>
      obtain ⟨ks, ds⟩ := q
      rw [eq] at ans
      obtain ⟨a, ws, rfl, q, hl, r⟩ := viD_ok st rv eq
      refine ⟨a, _, rfl, q, fun p hp => ?_⟩
      obtain ⟨d', s', e, h⟩ := ans
      cases e
      have x : Ext m H (m ++ [p]) (upd H p (.dK (ks.zip ws))) := Ext.newM st hp
      refine h _ _ _ x (st.alloc (c := .dK ks ds) hp ⟨ws, upd_same, hl, st.repDs x r⟩) ⟨p, ?_, rfl⟩
      rw [← st.len, List.getElem?_append_right (Nat.le_refl _)]
      simp
  · exact ans.none.elim
theorem ev_dictc {p : Pos} (hm : g.X.mg "dict" = none) (ha : EvA g [e] As) (hg : Gl g.X "dict" := by rfl) (he : starEach [e] g.X.env = (false, eval e g.X.env) :: starEach [] g.X.env := by rfl) : EvE g (.Call (.Name "dict" p) [e] [] pos) (eCa bDict As) :=
  ev_bt call_dictD bDict_ok hm (by decide +kernel) ha hg (he := he) (hpl := by rfl)
end
/-! sorted texts -/
def leS (a b : Str) : Bool := !ltCps b.cps.toList a.cps.toList
theorem ltCps_irr : ∀ a : List Nat, ltCps a a = false
  | [] => rfl
  | x :: r => by simp [ltCps, ltCps_irr r]
theorem ltCps_tri : ∀ a b : List Nat, ltCps a b = false → ltCps b a = false → a = b
  | [], [], _, _ => rfl
  | [], _ :: _, h, _ => by simp [ltCps] at h
  | _ :: _, [], _, h => by simp [ltCps] at h
  | x :: r, y :: t, h1, h2 => by
    simp only [ltCps, Bool.or_eq_false_iff, decide_eq_false_iff_not, Bool.and_eq_false_iff, beq_eq_false_iff_ne] at h1 h2
    have hxy : x = y := by omega
    subst hxy
    have a1 : ltCps r t = false := by rcases h1.2 with h | h; exact absurd rfl h; exact h
    have a2 : ltCps t r = false := by rcases h2.2 with h | h; exact absurd rfl h; exact h
    rw [ltCps_tri r t a1 a2]
theorem ltCps_trans : ∀ a b c : List Nat, ltCps a b = true → ltCps b c = true → ltCps a c = true
  | [], [], _, h, _ => by simp [ltCps] at h
  | _ :: _, [], _, h, _ => by simp [ltCps] at h
  | _, _ :: _, [], _, h => by simp [ltCps] at h
  | [], _ :: _, _ :: _, _, _ => rfl
  | x :: r, y :: t, z :: u, h1, h2 => by
    simp only [ltCps, Bool.or_eq_true, decide_eq_true_eq, Bool.and_eq_true, beq_iff_eq] at h1 h2 ⊢
    rcases h1 with h1 | ⟨e1, h1⟩ <;> rcases h2 with h2 | ⟨e2, h2⟩
    · exact .inl (by omega)
    · exact .inl (by omega)
    · exact .inl (by omega)
    · exact .inr ⟨by omega, ltCps_trans r t u h1 h2⟩
theorem leS_anti {a b : Str} (h1 : leS a b = true) (h2 : leS b a = true) : a = b := by
  unfold leS at h1 h2
  simp only [Bool.not_eq_true'] at h1 h2
  have e := ltCps_tri _ _ h2 h1
  obtain ⟨⟨l⟩⟩ := a
  obtain ⟨⟨r⟩⟩ := b
  simp at e
  rw [e]
theorem leS_total (a b : Str) : (leS a b || leS b a) = true := by
  unfold leS
  cases h : ltCps b.cps.toList a.cps.toList with
  | false => rfl
  | true =>
    cases h2 : ltCps a.cps.toList b.cps.toList with
    | false => rfl
    | true =>
      have := ltCps_trans _ _ _ h h2
      rw [ltCps_irr] at this
      cases this
theorem leS_trans (a b c : Str) (h1 : leS a b = true) (h2 : leS b c = true) : leS a c = true := by
  unfold leS at *
  simp only [Bool.not_eq_true'] at *
  cases h : ltCps c.cps.toList a.cps.toList with
  | false => rfl
  | true =>
    -- c < a; not b < a, not c < b
    cases hab : ltCps a.cps.toList b.cps.toList with
    | true =>
      have := ltCps_trans _ _ _ h hab
      rw [h2] at this; cases this
    | false =>
      have e := ltCps_tri _ _ hab h1
      rw [e] at h
      rw [h] at h2; cases h2
def srtS (l : List Str) : List Str := l.mergeSort leS
theorem srtS_perm (l : List Str) : (srtS l).Perm l := List.mergeSort_perm l leS
theorem srtS_pw (l : List Str) : (srtS l).Pairwise (fun a b => leS a b = true) := List.pairwise_mergeSort leS_trans leS_total l
theorem risingS_pw : ∀ (p : Str) (l : List Str), risingS p l = true → (p :: l).Pairwise (fun a b => leS a b = true)
  | p, [], _ => by simp
  | p, x :: r, h => by
    obtain ⟨h1, h2⟩ := Bool.and_eq_true_iff.mp (show (!ltCps x.cps.toList p.cps.toList && risingS x r) = true from h)
    have ih := risingS_pw x r h2
    refine List.pairwise_cons.mpr ⟨fun b hb => ?_, ih⟩
    rcases List.mem_cons.mp hb with rfl | hb
    · exact h1
    · exact leS_trans p x b h1 ((List.pairwise_cons.mp ih).1 b hb)
theorem sortedS_pw : ∀ (l : List Str), sortedS l = true → l.Pairwise (fun a b => leS a b = true)
  | [], _ => .nil
  | x :: r, h => risingS_pw x r h
theorem srtS_eq {l ys : List Str} (hp : ys.Perm l) (hs : sortedS ys = true) : ys = srtS l :=
  List.Perm.eq_of_pairwise (le := fun a b => leS a b = true) (fun a b _ _ h1 h2 => leS_anti h1 h2) (sortedS_pw ys hs) (srtS_pw l) (hp.trans (srtS_perm l).symm)
def strKs : List Key → Option (List Str)
  | [] => some []
  | .inr x :: ks => (strKs ks).map (x :: ·)
  | .inl _ :: _ => none
theorem strKs_ok : ∀ {ks : List Key} {xs : List Str}, strKs ks = some xs → ks = xs.map Sum.inr
  | [], _, h => by cases h; rfl
  | .inl _ :: _, _, h => by cases h
  | .inr x :: ks, _, h => by
    unfold strKs at h
    cases e : strKs ks with
    | none => rw [e] at h; cases h
    | some ys => rw [e] at h; cases h; rw [strKs_ok e]; rfl
@[simp] theorem strKs_map : ∀ xs : List Str, strKs (xs.map Sum.inr) = some xs
  | [] => rfl
  | x :: xs => by rw [List.map_cons]; unfold strKs; rw [strKs_map xs]; rfl
section
variable {g : G} {a b c e elt tg iter : Expr} {A B C_ : Ex} {pos : Pos} {es : List Expr} {As : Ar}
theorem RepDs.strs {K : PySem.W.Frag} {H : Hp} {m : List Addr} : ∀ xs : List Str, RepDs K H m (xs.map fun x => D.p (.str x)) (xs.map V.str)
  | [] => rfl
  | x :: xs => ⟨.str x, _, rfl, rfl, RepDs.strs xs⟩
/-- sorted(d) of a dict with text keys -/
def bSortD : List D → S → Option (D × S) := fun xs s => match xs with
  | [d] => (viD s d).bind fun p => (strKs p.1).bind fun ks => if ks.length < 64 then some (.lst ((srtS ks).map fun x => .p (.str x)), s) else none
  | _ => none
theorem bSortD_ok : CaS g bSortD (fun xs H Q => ∃ (a : Addr) (kvs : List (Key × V)) (ks : List Str), xs = [.ref a] ∧ Rd H a (.dK kvs) ∧ kvs.map (·.1) = ks.map Sum.inr ∧ ks.length < 64 ∧
    ∀ ys p, ys.Perm ks → sortedS ys = true → H p = none → Q (.ref p) (upd H p (.lst (ys.map V.str)))) := by
  intro m H s xs vs Q st rx ans
  unfold bSortD at ans
  split at ans
  · rename_i d
    obtain ⟨v, rfl, rv⟩ := rx.x1
    cases eq : viD s d with
    | none => rw [eq] at ans; exact ans.none.elim
    | some q =>
      obtain ⟨ks, ds⟩ := q
      rw [eq] at ans
      simp only [Option.bind_some] at ans
      cases ek : strKs ks with
      | none => rw [ek] at ans; exact ans.none.elim
      | some xs =>
        rw [ek] at ans
        simp only [Option.bind_some] at ans
        obtain ⟨a, ws, rfl, q, hl, r⟩ := viD_ok st rv eq
        split at ans
        · rename_i h64
          refine ⟨a, _, xs, rfl, q, ?_, h64, fun ys p hp hs hn => ?_⟩
          · rw [List.map_fst_zip (by rw [hl]; exact Nat.le_refl _)]
            exact strKs_ok ek
          · have := srtS_eq hp hs
            subst this
            obtain ⟨d', s', e, h⟩ := ans
            cases e
            exact new_lst st (RepDs.strs _) hn h
        · exact ans.none.elim
  · exact ans.none.elim
theorem ev_sortD {p : Pos} (hm : g.X.mg "sorted" = none) (ha : EvA g [e] As) (hc : g.X.calm = true := by rfl) (hg : Gl g.X "sorted" := by rfl) (he : starEach [e] g.X.env = (false, eval e g.X.env) :: starEach [] g.X.env := by rfl) : EvE g (.Call (.Name "sorted" p) [e] [] pos) (eCa bSortD As) :=
  ev_b (call_sortedD hc) bSortD_ok hm (by decide +kernel) ha hg (he := he) (hpl := by rfl)
end
end Mo

set_option Elab.async false
set_option linter.all false
set_option maxRecDepth 100000
set_option maxHeartbeats 4000000
namespace PySem
open Sem (wp)
open AutoSeq1 (wpAny_loadPart')
set_option maxHeartbeats 4000000 in
theorem moEnumNewT (l : Addr) (items : Array Value) (n : Nat) (dct : Option Addr) (sl : Array (Option Value)) :
    Meets (Builtin.«enumerate.__new__» ⟨[.type "enumerate", .ref l], []⟩) (fun _ R s => s.heap.get? l = some { cls := .type "tuple", dict := dct, data := .seq items n, slots := sl } ∧
      R (.ok (.ret (.ref (s.heap.push { cls := .type "tuple_iterator", data := .fields #[.ref l, .int 0 0] }).objs.size)))
        { s with heap := (s.heap.push { cls := .type "tuple_iterator", data := .fields #[.ref l, .int 0 0] }).push { cls := .type "enumerate", data := .fields #[.none, .bool false, .ref s.heap.objs.size, rawInt 0, .none, .none] } }) :=
  .of_wp fun prog w A R s h => by
    obtain ⟨hp, g, d, tk, os⟩ := s; obtain ⟨hl, h⟩ := h
    have hsub := sub_enumerate
    have hL : Heap.IsTuple (Shared.heap ⟨hp, g, d, tk, os⟩) l items := ⟨_, hl, rfl, n, rfl⟩
    wp_walk using wpAny_loadPart' hl
    refine wpAny_stack_any fun st => wpAny_pure ?_
    split
    · rename_i c _ _ _ _ _
      cases (c == Value.type "enumerate")
      · wp_walk using wpAny_loadPart' hl, wpAny_pyIter_tuple hL
        exact ⟨_, rfl, h⟩
      · wp_walk using wpAny_loadPart' hl, wpAny_pyIter_tuple hL
        exact ⟨_, rfl, h⟩
    · wp_walk using wpAny_loadPart' hl, wpAny_pyIter_tuple hL
      exact ⟨_, rfl, h⟩
section
variable {prog : Program} {w : World} {A : Around} {E : Value → Shared → Prop} {s : Shared}
theorem moCallEnumT {l : Addr} {items : Array Value} {Q : Value → Shared → Prop} (hL : s.heap.IsTuple l items)
    (h : ∀ h', IsEnum h' (s.heap.objs.size + 1) s.heap.objs.size 0 .none → h'.IsTupleIter s.heap.objs.size l 0 → h'.objs.size = s.heap.objs.size + 2 →
      (∀ b o, s.heap.get? b = some o → h'.get? b = some o) → Q (.ref (s.heap.objs.size + 1)) { s with heap := h' }) :
    wpAny (model prog w) A (call (.type "enumerate") [.ref l]) Q E s := by
  obtain ⟨⟨c, dct, dt, sl⟩, hl, hc, n, hd⟩ := hL
  replace hc : c = .type "tuple" := hc
  replace hd : dt = .seq items n := hd
  subst hc hd
  refine callType_new F.called_enumerate (by decide) (F.typeCall_enumerate_1 _) (F.newCall_enumerate_1 _) (fun obj => F.args_object_init_2 obj _) F.entry_enumerate_new
    (moEnumNewT l items n dct sl) ⟨hl, ?_⟩
  have hz : (s.heap.push { cls := .type "tuple_iterator", data := .fields #[.ref l, .int 0 0] }).objs.size = s.heap.objs.size + 1 := Heap.size_push ..
  show _ ∧ _
  rw [hz]
  have he : IsEnum ((s.heap.push { cls := .type "tuple_iterator", data := .fields #[.ref l, .int 0 0] }).push
      { cls := .type "enumerate", data := .fields #[.none, .bool false, .ref s.heap.objs.size, rawInt 0, .none, .none] }) (s.heap.objs.size + 1) s.heap.objs.size 0 .none := by
    have := Heap.get?_push_size (s.heap.push { cls := .type "tuple_iterator", data := .fields #[.ref l, .int 0 0] })
      (o := { cls := .type "enumerate", data := .fields #[.none, .bool false, .ref s.heap.objs.size, rawInt 0, .none, .none] }) rfl
    rw [hz] at this; exact this
  refine ⟨⟨_, he, rfl⟩, h _ he ⟨_, Heap.get?_push_of_some _ (Heap.get?_push_size _ rfl), rfl, rfl⟩ (by rw [Heap.size_push, hz]) fun b o x => Heap.get?_push_of_some _ (Heap.get?_push_of_some _ x)⟩
end
end PySem
namespace Mo
open PySem PySem.Spec PyProof.Rows L2
/-- the tuple at a, each item in a new pair with its number -/
def IteT (K : PySem.W.Frag) (a : Addr) : It :=
  ⟨fun i H => ∃ (xs : List V) (x : V), SqT K H a xs ∧ xs[i]? = some x, fun i H v H' => ∃ T x, v = .ref T ∧ H T = none ∧ H' = upd H T (.tup [.int (i : Nat), x]) ∧ ∀ xs, SqT K H a xs → xs[i]? = some x, fun i H => ∃ xs : List V, SqT K H a xs ∧ xs.length ≤ i⟩
theorem turn_enumT {P : Program} {w : World} {K : PySem.W.Frag} {elts : List Expr} {kk : Nat} {tpos : Pos} (a e it : Addr) :
    Turn P w K (.Tuple elts kk tpos) (IteT K a) [e, it] e (fun i h => (∃ old, IsEnum h e it ((i : Nat) : Int) old) ∧ h.IsTupleIter it a i ∧ e ≠ it) where
  mem := by simp
  obj := fun i h st b hb => by
    obtain ⟨⟨old, he⟩, ⟨o, ho, hc, hd⟩, _⟩ := st
    have e' : b = e ∨ b = it := by simpa using hb
    rcases e' with z | z
    · rw [z]; exact ⟨_, he, fun v q => nomatch q⟩
    · rw [z]; exact ⟨o, ho, fun v q => by rw [hd] at q; cases q⟩
  keep := fun i h h' st k => let ⟨⟨old, he⟩, hi, hne⟩ := st; ⟨⟨old, k e (by simp) _ he⟩, hi.at fun o q => k it (by simp) o q, hne⟩
  item := by
    intro X hP hw hK hc i pins s σ H E I hf st hg
    subst hP hw hK
    obtain ⟨⟨old, he⟩, hit, hne⟩ := st
    obtain ⟨xs, x, hq, hx⟩ := hg
    obtain ⟨its, rv, p, hz⟩ := I.tuple hq
    obtain ⟨u, hu, ru⟩ := rv.get hx
    have hel : e < s.heap.objs.size := Heap.lt_size he
    have hil : it < s.heap.objs.size := by obtain ⟨_, q, _⟩ := hit; exact Heap.lt_size q
    have hai : a ≠ it := fun z => by
      subst z
      obtain ⟨o1, e1, c1, _⟩ := show s.heap.IsTuple a its.toArray from p
      obtain ⟨o2, e2, c2, _⟩ := hit
      rw [e1] at e2; cases e2; rw [c1] at c2; exact absurd (Value.type.inj c2) (by decide)
    have hea : e ≠ a := fun z => by
      subst z
      obtain ⟨o1, e1, c1, _⟩ := show s.heap.IsTuple e its.toArray from p
      rw [show s.heap.get? e = _ from he] at e1; cases e1; exact absurd (Value.type.inj c1) (by decide)
    refine wpAny_pyNext_enum_itemD (Draws.tuple (A := X.A.in1) (I.ok.hd hc) it a hai its.toArray) he ⟨hit, p⟩ ?_ hne (by simp [hne, hea]) fun v h' tk hv ho hst hT hsz hk => ?_
    · have := (List.getElem?_eq_some_iff.mp hu).1
      simpa using this
    have hvu : v = u := by
      rw [show (its.toArray[i]? = some v) = (its[i]? = some v) by simp] at hv
      rw [hu] at hv; exact (Option.some.inj hv).symm
    subst hvu
    refine ⟨_, rfl, wpAny_letOwnedTupleGo_enum (s := { s with heap := h', toks := tk + 1 }) ho fun h'' he' sb => ?_⟩
    have hT2 : h''.get? s.heap.objs.size = some { cls := .type "tuple", data := .seq #[.int i tk, v] } := (sb.2 _ (Nat.ne_of_gt hel)).trans hT
    have new : ObjOk X.prog X.w (upd H s.heap.objs.size (.tup [.int (i : Nat), x])) h'' s.heap.objs.size (.tup [.int (i : Nat), x]) :=
      ⟨by show 2 ≤ sizeLine; decide, [.int i tk, v], .cons ⟨_, rfl⟩ (.cons ru .nil), ⟨_, hT2, rfl, _, rfl⟩⟩
    have I1 : Inv X pins σ (upd H s.heap.objs.size (.tup [.int (i : Nat), x])) { s with heap := h'', toks := tk + 1 } :=
      I.turnedNew (ch := [e, it]) (fun b ob hb q => (sb.2 b (fun z => hb (by simp [z]))).trans (hk b ob (fun z => hb (by simp [z])) (fun z => hb (by simp [z])) q)) hf (Nat.le_refl _) new
    refine ⟨.ref s.heap.objs.size, _, I1, rfl, ⟨_, x, rfl, I.hok.fresh (Nat.le_refl _), rfl, fun ys hy => by rw [I.tuple_inj hy hq]; exact hx⟩, ⟨⟨v, ?_⟩, hst.1.at fun o q => (sb.2 it (Ne.symm hne)).trans q, hne⟩, fun b hb => ?_⟩
    · have e1 : ((i + 1 : Nat) : Int) = (i : Int) + 1 := by omega
      rw [e1]; exact he'
    · have hb' : b < s.heap.objs.size := by
        have e' : b = e ∨ b = it := by simpa using hb
        rcases e' with z | z
        · rw [z]; exact hel
        · rw [z]; exact hil
      rw [upd_ne (Nat.ne_of_lt hb')]
      exact (hf b hb).1
  done := by
    intro X hP hw hK hc i pins s σ H E I hf st hg
    subst hP hw hK
    obtain ⟨⟨old, he⟩, hit, hne⟩ := st
    obtain ⟨xs, hq, hx⟩ := hg
    obtain ⟨its, rv, p, hz⟩ := I.tuple hq
    obtain ⟨f0, f1, f2, f3, f4, f5⟩ := hf it (by simp)
    have hl := rv.length
    unfold pyNext
    have hT : s.TypeIs (.ref e) "enumerate" := ⟨_, he, rfl⟩
    refine wpAny_bind (wpAny_attempt (wpAny_callSpecial?_slot (name := Str.ofString "__next__") hT F.slot_enumerate_next
      (wpAny_call_entry F.slot_enumerate_next hT F.entry_enumerate_next ?_ (F.args_enumerate_next_1 _))))
    show wpAny _ _ (field (.ref e) 2 >>= _) _ _ _
    refine wpAny_bind (wpAny_field he rfl (x := .ref it) rfl ?_)
    refine wpAny_bind (wpAny_nextOf_tuple_end (A := X.A.in1) (I.ok.hd hc) hit (show s.heap.IsTuple a its.toArray from p) (by simp; omega) fun h' x he' hx' => ?_)
    obtain ⟨o, ho, hcl⟩ := hx'
    refine wpAny_bind (wpAny_isInstance (T := "StopIteration") (b := true) ⟨o, ho, hcl⟩ isSubtype_stop ?_)
    exact wpAny_pure ⟨rfl, I.turned (t' := s.toks) (fun b o hb q => he' b o hb q) f0 f1 f3 f4 f5⟩
  self := fun A i s Q E st h => let ⟨⟨_, he⟩, _⟩ := st; wpAny_pyIter_enum he h
def iEnumT (K : PySem.W.Frag) (ta : TA) : TI := fun σ H R => ta σ H fun vs H1 => ∃ a xs, vs = [.ref a] ∧ SqT K H1 a xs ∧ R (IteT K a) H1
theorem pi_enumT {X : Cx} {e : Expr} {ta : TA} {p pos tpos : Pos} {elts : List Expr} {kk : Nat} (hg : Gl X "enumerate") (hm : X.mg "enumerate" = none) (ha : PA X [e] ta) (hs : starEach [e] X.env = [(false, eval e X.env)] := by rfl) :
    PI X (.Tuple elts kk tpos) (.Call (.Name "enumerate" p) [e] [] pos) (iEnumT X.K ta) := by
  refine ⟨fun pins s σ H R I h => ?_⟩
  refine Call_ (ld_blt I hg hm boot_enumerate (PyProof.Rows.callWith_type1 (thn (ha.run pos pins s σ H _ I h) fun us s1 ⟨vs, H1, I1, r1, q1⟩ => ?_) hs rfl))
  obtain ⟨a, xs, ex, hq, q⟩ := q1
  subst ex
  cases r1 with
  | cons r rr =>
    cases rr
    cases r
    obtain ⟨its, rv, p', hz⟩ := I1.tuple hq
    refine moCallEnumT (show s1.heap.IsTuple a its.toArray from p') fun h' he hit hsz hk => wpAny_pyIter_enum he ?_
    have I2 : Inv X pins σ H1 { s1 with heap := h' } := I1.kept (t' := s1.toks) hk
    refine ⟨s1.heap.objs.size + 1, [s1.heap.objs.size + 1, s1.heap.objs.size], _, _, H1, rfl, I2, turn_enumT a (s1.heap.objs.size + 1) s1.heap.objs.size, ⟨⟨.none, he⟩, hit, Nat.succ_ne_self _⟩, fun b hb => ?_, q⟩
    have e' : b = s1.heap.objs.size + 1 ∨ b = s1.heap.objs.size := by simpa using hb
    have hle : s1.heap.objs.size ≤ b := by
      rcases e' with z | z
      · rw [z]; exact Nat.le_add_right _ _
      · rw [z]; exact Nat.le_refl _
    exact I1.fpOk hle (I1.hok.fresh hle)
end Mo

set_option Elab.async false
set_option linter.all false
set_option maxRecDepth 100000
set_option maxHeartbeats 4000000
namespace Mo
open PySem PySem.Spec PyProof.Rows L2
section
variable {g : G} {a b c e o elt tg iter : Expr} {A B C_ O : Ex} {U : Te} {pos pos' cpos apos : Pos} {es ifs : List Expr} {As : Ar} {Sg : Sr} {T : Pt} {own : List (Str × Nat)} {scope : Scope}
/-! methods of builtin things -/
structure MeS (g : G) (T : String) (ty : S → D → Bool) (f : D → List D → S → Option (D × S)) (r : V → List V → Hp → VK → Prop) : Prop where
  ty : ∀ (m : List Addr) (H : Hp) (s : S) (x : D) (v : V), StRep g.X.K g.ca m H s → RepD g.X.K H m x v → ty s x = true → tyV g.X.K T v H
  run : ∀ (m : List Addr) (H : Hp) (s : S) (x : D) (xs : List D) (v : V) (vs : List V) (Q : VK), StRep g.X.K g.ca m H s → RepD g.X.K H m x v → RepDs g.X.K H m xs vs → Ans g m H Q (f x xs s) → r v vs H Q
@[simp] def eMe (ty : S → D → Bool) (f : D → List D → S → Option (D × S)) (O : Ex) (As : Ar) (ρ : Env) (s : S) : Out D := (O ρ s).bind fun o s1 => if ty s1 o = true then (As ρ s1).bind fun ds s2 => ofO (f o ds s2) else .no
theorem me_in {T : String} {ty : S → D → Bool} {f : D → List D → S → Option (D × S)} {r : V → List V → Hp → VK → Prop} (q : MeS g T ty f r) {σ : L2.St} {H : Hp} {Q : VK} (h : tE g.X.K g.ca g.W (eMe ty f O As) σ H Q) :
    tBM g.X.K T r (tE g.X.K g.ca g.W O) (tA g.X.K g.ca g.W As) σ H Q := by
  obtain ⟨m, ρ, s, rel, h⟩ := h
  refine ⟨m, ρ, s, rel, (PO_.bind h).mono fun x s1 m1 H1 ⟨r1, h1⟩ v rv => ?_⟩
  split at h1
  · rename_i ht
    refine ⟨q.ty m1 H1 s1 x v r1.sto rv ht, m1, ρ, s1, r1, ?_⟩
    have h2 := PO_.bind h1
    cases e : As ρ s1 with
    | no => rw [e] at h2; exact h2
    | ex y s2 => rw [e] at h2; exact h2
    | ok ds s2 =>
      rw [e] at h2
      intro m2 H2 x2 r2 vs rvs
      obtain ⟨_, h3⟩ := h2 m2 H2 x2 r2
      exact q.run m2 H2 s2 x ds v vs Q r2.sto (r1.sto.repD x2.toExtW rv) rvs (ans_of r2 h3)
  · exact h1.elim
/-! list.append -/
@[simp] def isL (s : S) (x : D) : Bool := (viL s x).isSome
def appL : D → List D → S → Option (D × S) := fun o ds s => match o, ds with
  | .loc n, [d] => match s[n]? with
    | some (.lst es) => if es.length < sizeLine then some (.p .non, s.set n (.lst (es ++ [d]))) else none
    | _ => none
  | _, _ => none
theorem isL_ty {m : List Addr} {H : Hp} {s : S} {x : D} {v : V} (st : StRep g.X.K g.ca m H s) (r : RepD g.X.K H m x v) (h : isL s x = true) : tyV g.X.K "list" v H := by
  obtain ⟨ds, e⟩ := Option.isSome_iff_exists.mp h
  obtain ⟨a, vs, rfl, q, _⟩ := viL_ok st r e
  exact .inl ⟨rfl, vs, q⟩
theorem appL_ok : MeS g "list" isL appL rAppend := ⟨fun m H s x v st r h => isL_ty st r h, fun m H s x xs v vs Q st r rs ans => by
  obtain ⟨d, s', e, h⟩ := ans
  unfold appL at e
  split at e
  · rename_i n d1
    cases es : s[n]? with
    | none => rw [es] at e; cases e
    | some c =>
      rw [es] at e
      cases c with
      | lst ds =>
        simp only at e
        split at e
        · rename_i hz
          cases e
          obtain ⟨a, ea, rfl⟩ := r
          obtain ⟨us, eh, rr⟩ := st.at_ n _ a es ea
          obtain ⟨w, rfl, rw1⟩ := rs.x1
          have x : Ext m H m (upd H a (.lst (us ++ [w]))) := Ext.put (List.mem_of_getElem? ea) (nf_lst eh)
          exact ⟨a, us, w, rfl, rfl, eh, by rw [← rr.len]; exact hz, h m _ .non x (st.put (c := .lst (ds ++ [d1])) ea ⟨_, upd_same, st.repDs x.toExtW (rr.app (RepDs.one rw1))⟩) rfl⟩
        · cases e
      | _ => cases e
  · cases e⟩
theorem mtM_R {X : Cx} {id : String} {r : V → List V → Hp → VK → Prop} (h : MtM X id r) : MtR X id r := h
theorem ev_app (ho : EvE g o O) (ha : EvA g [e] As) (hbase : attributeBase o "append" g.X.env (eval o g.X.env) = eval o g.X.env := by rfl)
    (hfew : ((backTo cpos (starEach [e] g.X.env)).all (fun x => !x.1) && (backToKw cpos (keywordEach [] g.X.env)).all (fun x => x.1.isSome)
      && decide (([e] : List Expr).length + ([] : List Keyword).length + (if ([] : List Keyword).isEmpty then 0 else 1) < 30)) = true := by rfl)
    (hline : (apos.endLine == cpos.line) = true := by rfl) (hs : starEach [e] g.X.env = (false, eval e g.X.env) :: starEach [] g.X.env := by rfl) :
    EvE g (.Call (.Attribute o "append" apos) [e] [] cpos) (eMe isL appL O As) :=
  PE.imp (pe_bm F.plainAttrs_list F.slot_list_append F.type_list_append (mtM_R mt_append) ho ha hbase hfew hline hs rfl) fun σ H Q h => me_in appL_ok h
/-! enumerate -/
def enF : Nat → List D → List D
  | _, [] => []
  | i, d :: ds => mkT [.p (.int (i : Nat)), d] :: enF (i + 1) ds
theorem enF_len : ∀ (ds : List D) (i : Nat), (enF i ds).length = ds.length
  | [], _ => rfl
  | d :: ds, i => by simp [enF, enF_len ds]
theorem enF_get : ∀ {ds : List D} {j i : Nat} {y : D}, (enF j ds)[i]? = some y → ∃ d, ds[i]? = some d ∧ y = mkT [.p (.int ((j + i : Nat) : Int)), d]
  | [], _, _, _, h => by simp [enF] at h
  | d :: ds, j, 0, y, h => by simp [enF] at h; exact ⟨d, rfl, h.symm⟩
  | d :: ds, j, i + 1, y, h => by
    obtain ⟨d', e1, e2⟩ := enF_get (ds := ds) (j := j + 1) (i := i) (y := y) (by simpa [enF] using h)
    exact ⟨d', by simpa using e1, by rw [e2]; congr 4; omega⟩
@[simp] def sEnum (As : Ar) (ρ : Env) (s : S) : Out Wk := (As ρ s).bind fun xs s1 => match xs with
  | [d] => match wkOf s1 d with
    | some k => .ok ⟨enF 0 k.ds, k.ok⟩ s1
    | none => .no
  | _ => .no
theorem new_pair {m : List Addr} {H : Hp} {s : S} {p : Addr} {xs : List V} {ds : List D} {K : PySem.W.Frag} {ca : Str → Addr} (st : StRep K ca m H s) (r : RepDs K H m ds xs) (hp : H p = none) :
    Ext m H m (upd H p (.tup xs)) ∧ StRep K ca m (upd H p (.tup xs)) s ∧ RepD K (upd H p (.tup xs)) m (mkT ds) (.ref p) := by
  have x : Ext m H m (upd H p (.tup xs)) := Ext.new st hp
  exact ⟨x, st.updNew hp, mkT_rep (SqT.of upd_same) (st.repDs x.toExtW r)⟩
theorem jrep_enT {K : PySem.W.Frag} {ca : Str → Addr} {m : List Addr} {H : Hp} {a : Addr} {vs : List V} {ds : List D} {ok : S → Bool} (nt : NoTup m H) (q : SqT K H a vs) (r : RepDs K H m ds vs) : JRep K ca m H (IteT K a) ⟨enF 0 ds, ok⟩ := by
  intro m' H' s' x st hk i
  have q' := x.sqt nt q
  have r' := r.ext x.toExtW nt
  refine ⟨fun hi => ⟨vs, q', by rw [← r.len, ← enF_len ds 0]; exact hi⟩, fun d e => ?_⟩
  obtain ⟨d', e1, rfl⟩ := enF_get e
  obtain ⟨v, ev, rv⟩ := r'.get e1
  refine ⟨⟨vs, v, q', ev⟩, fun x2 H2 y => ?_⟩
  obtain ⟨T, w, rfl, hT, rfl, y⟩ := y
  have := y vs q'
  rw [ev] at this
  cases this
  rw [Nat.zero_add]
  exact new_pair st ⟨_, _, rfl, rfl, RepDs.one rv⟩ hT
theorem jrep_enL {K : PySem.W.Frag} {ca : Str → Addr} {m : List Addr} {H : Hp} {a : Addr} {ds : List D} {ok : S → Bool}
    (q : ∀ m' H' s', Ext m H m' H' → StRep K ca m' H' s' → ok s' = true → ∃ vs, SqL K H' a vs ∧ RepDs K H' m' ds vs) : JRep K ca m H (Ite K a) ⟨enF 0 ds, ok⟩ := by
  intro m' H' s' x st hk i
  obtain ⟨vs, q', r'⟩ := q m' H' s' x st hk
  refine ⟨fun hi => ⟨vs, q', by rw [← r'.len, ← enF_len ds 0]; exact hi⟩, fun d e => ?_⟩
  obtain ⟨d', e1, rfl⟩ := enF_get e
  obtain ⟨v, ev, rv⟩ := r'.get e1
  refine ⟨⟨vs, v, q', ev⟩, fun x2 H2 y => ?_⟩
  obtain ⟨T, w, rfl, hT, rfl, y⟩ := y
  have := y vs q'
  rw [ev] at this
  cases this
  rw [Nat.zero_add]
  exact new_pair st ⟨_, _, rfl, rfl, RepDs.one rv⟩ hT
theorem ei_enum {p tpos : Pos} {elts : List Expr} {kk : Nat} (hm : g.X.mg "enumerate" = none) (ha : EvA g [e] As) (hg : Gl g.X "enumerate" := by rfl) (hs : starEach [e] g.X.env = [(false, eval e g.X.env)] := by rfl) :
    EvI g (.Tuple elts kk tpos) (.Call (.Name "enumerate" p) [e] [] pos) (sEnum As) :=
  PI.imp (PI.or (pi_enumT hg hm ha hs) (pi_enum hg hm ha hs)) fun σ H R h => by
    obtain ⟨m, ρ, s, rel, h⟩ := h
    have wrong : ∀ {xs : List D} {s1 : S}, As ρ s = .ok xs s1 → ∃ d k, xs = [d] ∧ wkOf s1 d = some k := fun {xs s1} e => by
      unfold sEnum at h
      rw [e] at h
      match xs, h with
      | [d], h =>
        cases ek : wkOf s1 d with
        | none => simp only [Out.bind, ek] at h; exact h.elim
        | some k => exact ⟨d, k, rfl, ek⟩
      | [], h => exact h.elim
      | _ :: _ :: _, h => exact h.elim
    cases eA : As ρ s with
    | no => unfold sEnum at h; rw [eA] at h; exact h.elim
    | ex y s1 =>
      refine .inl ⟨m, ρ, s, rel, ?_⟩
      unfold sEnum at h
      rw [eA] at h ⊢
      exact h
    | ok xs s1 =>
      obtain ⟨d, k, rfl, ek⟩ := wrong eA
      unfold sEnum at h
      rw [eA] at h
      simp only [Out.bind, ek] at h
      cases eT : viT d with
      | some ds =>
        refine .inl ⟨m, ρ, s, rel, ?_⟩
        rw [eA]
        intro m1 H1 x1 r1 vs rvs
        obtain ⟨v, rfl, rv⟩ := rvs.x1
        obtain ⟨a, vs, rfl, q, rr⟩ := viT_ok rv eT
        refine ⟨a, vs, rfl, q, h m1 H1 x1 r1 _ ?_⟩
        have : k = ⟨ds, fun _ => true⟩ := by
          simp only [wkOf, eT] at ek
          exact (Option.some.inj ek).symm
        subst this
        exact jrep_enT r1.sto.nt q rr
      | none =>
        refine .inr ⟨m, ρ, s, rel, ?_⟩
        rw [eA]
        intro m1 H1 x1 r1 vs rvs
        obtain ⟨v, rfl, rv⟩ := rvs.x1
        obtain ⟨a, vs, rfl, q, hw⟩ := wkOf_lst r1.sto rv eT ek
        exact ⟨a, vs, rfl, q, h m1 H1 x1 r1 _ (jrep_enL hw)⟩
end

/-! a dict's keys, walked by a comprehension, the dict in a slot -/
@[simp] def kD : Key → D
  | .inl i => .p (.int i)
  | .inr x => .p (.str x)
theorem kD_ok {K : PySem.W.Frag} {H : Hp} {m : List Addr} (k : Key) : RepD K H m (kD k) (kV k) := by
  cases k <;> rfl
def lockS (s : S) : D → List Key → List D → S
  | .loc n, ks, ds => s.set n (.lk ks ds)
  | _, _, _ => s
def unlockS (s : S) : D → List Key → List D → Option S
  | .loc n, ks, ds => if s[n]? = some (.lk ks ds) then some (s.set n (.dK ks ds)) else none
  | _, _, _ => some s
def isLk (s : S) : D → Bool
  | .loc n => match s[n]? with
    | some (.dK _ _) => true
    | _ => false
  | _ => true
def eLcK (i : Nat) (own : List Nat) (T : Pt) (U : Te) (A : Ex) : Ex := fun ρ s => match ρ[i]? with
  | some (some d) => match viD s d with
    | some (ks, ds) => if isLk s d = true then (lcD (fun _ => true) T U A s.length (ks.map kD) (wipeE ρ own) (lockS s d ks ds ++ [.lst []])).bindN fun _ s2 =>
        match unlockS (fin (lockS s d ks ds) (.loc s.length) s2).2 d ks ds with
        | some s3 => .ok (fin (lockS s d ks ds) (.loc s.length) s2).1 s3
        | none => .no
      else .no
    | none => .no
  | _ => .no
section
variable {K : PySem.W.Frag} {ca : Str → Addr} {m m' : List Addr} {H H' : Hp} {s s' : S} {a : Addr} {ks : List Key} {ds : List D} {vs : List V} {od : Obj}
theorem Ext.lock {u : HO} (h : H a = some u) (hu : ¬ Fx u) (hl : ∀ xs, u ≠ .lst xs) : Ext m H m (upd H a (.frz od u)) :=
  ⟨⟨List.prefix_refl _, fun b w p q n => ⟨by
      by_cases hb : b = a
      · subst hb
        rcases q with q | ⟨o, q⟩
        · rw [h] at q; cases q; exact .inr ⟨od, upd_same⟩
        · rw [h] at q; cases q; exact absurd trivial hu
      · rcases q with q | ⟨o, q⟩
        · exact .inl ((upd_ne hb).trans q)
        · exact .inr ⟨o, (upd_ne hb).trans q⟩, n⟩, fun b xs q n => by
      have hb : b ≠ a := fun z => by rw [z, h] at q; cases q; exact absurd rfl (hl _)
      exact (upd_ne hb).trans q⟩, fun b w hw q => by
      have hb : b ≠ a := fun z => by rw [z, h] at q; cases q; exact hu hw
      exact (upd_ne hb).trans q⟩
theorem ExtW.unlock {u : HO} (h : H a = some (.frz od u)) : ExtW m H m (upd H a u) :=
  ⟨List.prefix_refl _, fun b w p q n => ⟨by
      by_cases hb : b = a
      · subst hb
        rcases q with q | ⟨o, q⟩
        · rw [h] at q; cases q; exact absurd p (by simp [pl])
        · rw [h] at q; cases q; exact .inl upd_same
      · rcases q with q | ⟨o, q⟩
        · exact .inl ((upd_ne hb).trans q)
        · exact .inr ⟨o, (upd_ne hb).trans q⟩, n⟩, fun b xs q n => by
      have hb : b ≠ a := fun z => by rw [z, h] at q; cases q
      exact (upd_ne hb).trans q⟩
/-- locked, gone on, unlocked -/
theorem Ext.round {u : HO} (h : H a = some u) (hu : ¬ Fx u) (hl : ∀ xs, u ≠ .lst xs) (x : Ext m (upd H a (.frz od u)) m' H') : Ext m H m' (upd H' a u) := by
  have y := (Ext.lock (m := m) (od := od) h hu hl).trans x
  have ha : H' a = some (.frz od u) := x.frz a od u upd_same
  exact ⟨y.toExtW.trans (ExtW.unlock ha), fun b w hw q => by
    have hb : b ≠ a := fun z => by rw [z, h] at q; cases q; exact hu hw
    exact (upd_ne hb).trans (y.fx b w hw q)⟩
theorem zip_inj {α β : Type} : ∀ {ks : List α} {vs ws : List β}, ks.length = vs.length → ks.length = ws.length → ks.zip vs = ks.zip ws → vs = ws
  | [], [], [], _, _, _ => rfl
  | k :: ks, v :: vs, w :: ws, h1, h2, e => by
    simp only [List.zip_cons_cons, List.cons.injEq, Prod.mk.injEq] at e
    rw [e.1.2, zip_inj (by simpa using h1) (by simpa using h2) e.2]
  | [], [], _ :: _, _, h, _ => by simp at h
  | [], _ :: _, _, h, _, _ => by simp at h
  | _ :: _, [], _, h, _, _ => by simp at h
  | _ :: _, _ :: _, [], _, h, _ => by simp at h
/-- the dict that d stands for is locked -/
theorem lock_ok {d : D} (st : StRep K ca m H s) (r : RepD K H m d (.ref a)) (e : viD s d = some (ks, ds)) (hl : ks.length = vs.length) (rr : RepDs K H m ds vs) (h : H a = some (.dK (ks.zip vs))) :
    StRep K ca m (upd H a (.frz od (.dK (ks.zip vs)))) (lockS s d ks ds) := by
  have x : Ext m H m (upd H a (.frz od (.dK (ks.zip vs)))) := Ext.lock h (fun z => z) (fun _ z => nomatch z)
  cases d with
  | loc n =>
    obtain ⟨b, eb, q⟩ := r
    cases q
    exact st.put (c := .lk ks ds) eb ⟨od, vs, upd_same, hl, st.repDs x.toExtW rr⟩
  | dK ks' ds' =>
    obtain ⟨b, vs', q, ⟨_, n⟩, _⟩ := r
    cases q
    exact st.same x.toExtW fun b hb => upd_ne fun z => n (z ▸ hb)
  | _ => cases e
theorem unlock_ok {d : D} {H0 : Hp} {m0 : List Addr} {s3 : S} {y : D} {v : V} (hpre : m0 <+: m) (r : RepD K H0 m0 d (.ref a)) (hn : a ∉ m0 → a ∉ m) (e : unlockS s d ks ds = some s3) (hl : ks.length = vs.length) (h : H a = some (.frz od (.dK (ks.zip vs)))) (st : StRep K ca m H s)
    (ev : ∃ s0, viD s0 d = some (ks, ds)) (ry : RepD K H m y v) :
    StRep K ca m (upd H a (.dK (ks.zip vs))) s3 ∧ RepD K (upd H a (.dK (ks.zip vs))) m y v := by
  have x : ExtW m H m (upd H a (.dK (ks.zip vs))) := ExtW.unlock h
  refine ⟨?_, st.repD x ry⟩
  obtain ⟨s0, ev⟩ := ev
  cases d with
  | loc n =>
    obtain ⟨b, eb, q⟩ := r
    cases q
    have eb' : m[n]? = some a := by
      obtain ⟨t, rfl⟩ := hpre
      rw [List.getElem?_append_left (List.getElem?_eq_some_iff.mp eb).1]; exact eb
    simp only [unlockS] at e
    split at e
    · rename_i en
      cases e
      obtain ⟨o, ws, eh, hl2, rr⟩ := st.at_ n _ a en eb'
      rw [h] at eh
      have : ks.zip vs = ks.zip ws := by injection eh with z; injection z with z1 z2; injection z2
      have := zip_inj hl hl2 this
      subst this
      exact st.put (c := .dK ks ds) eb' ⟨vs, upd_same, hl, st.repDs x rr⟩
    · cases e
  | dK ks' ds' =>
    obtain ⟨b, vs', q, ⟨_, n⟩, _⟩ := r
    cases q
    cases e
    exact st.same x fun b hb => upd_ne fun z => hn n (z ▸ hb)
  | _ => cases ev
theorem jrep_keys {ok : S → Bool} {o : Obj} (h : H a = some (.frz o (.dK (ks.zip vs)))) (hl : ks.length = vs.length) : JRep K ca m H (Itk a o (ks.zip vs)) ⟨ks.map kD, ok⟩ := by
  intro m' H' s' x st hk i
  have h' := x.frz a o _ h
  have hz : (ks.zip vs).length = ks.length := by rw [List.length_zip]; omega
  refine ⟨fun hi => ⟨h', by rw [hz]; simpa using hi⟩, fun d e => ?_⟩
  rw [List.getElem?_map] at e
  cases ek : ks[i]? with
  | none => rw [ek] at e; cases e
  | some k =>
    rw [ek] at e
    cases e
    have hi := (List.getElem?_eq_some_iff.mp ek).1
    refine ⟨⟨h', by rw [hz]; exact hi⟩, fun x2 H2 y => ?_⟩
    obtain ⟨rfl, k', v', e2, rfl⟩ := y
    have : k' = k := by
      have e3 : (ks.zip vs)[i]? = some (k', v') := e2
      rw [List.getElem?_zip_eq_some] at e3
      rw [e3.1] at ek
      exact Option.some.inj ek
    subst this
    exact ⟨Ext.refl _ _, st, kD_ok _⟩
end
section
variable {g : G} {a b c e o elt tg iter : Expr} {A B C_ O : Ex} {U : Te} {pos pos' cpos apos : Pos} {es ifs : List Expr} {As : Ar} {Sg : Sr} {T : Pt} {own : List (Str × Nat)} {scope : Scope}
theorem PE.or {X : Cx} {e : Expr} {t t' : TE} (h : PE X e t) (h' : PE X e t') : PE X e (fun σ H Q => t σ H Q ∨ t' σ H Q) := ⟨fun pins s σ H Q I q => q.elim (h.run pins s σ H Q I) (h'.run pins s σ H Q I)⟩
/-- the comprehension's own words, the dict locked -/
theorem lck_in {i : Nat} {m : List Addr} {ρ : Env} {s : S} {σ : L2.St} {H : Hp} {Qd : VK} {ad : Addr} {od : Obj} {ks : List Key} {vs : List V} (hsub : ∀ j ∈ T.sl, j ∈ own.map (·.2)) (rel : Rel g.X.K g.ca m H ρ σ s) (ev : σ[i]? = some (some (.ref ad))) (hd : H ad = some (.frz od (.dK (ks.zip vs)))) (hl : ks.length = vs.length)
    (h : match lcD (fun _ => true) T U A s.length (ks.map kD) (wipeE ρ (own.map (·.2))) (s ++ [.lst []]) with
      | .ok _ s2 => ∀ m' H' D0, Ext m H m' H' → StRep g.X.K g.ca m' H' s2 → m'[s.length]? = some D0 → Qd (.ref D0) H'
      | _ => False) :
    tLc (iKeys (tVar i)) (tG1 g.X.K g.ca T) (tT g.X.K g.ca (fun _ _ _ _ => False) U) (tE g.X.K g.ca (fun _ _ _ _ => False) A) (own.map (·.2)) σ H Qd :=
  ⟨_, ev, ad, od, rfl, .inl ⟨_, hd, lc_loop (g := g) (Qd := Qd) (k := ⟨ks.map kD, fun _ => true⟩) rel (jrep_keys hd hl) hsub h⟩⟩
theorem ev_lcK (i : Nat) {x : Str} {px : Pos} (hN : g.X.N.Nodup) (L : Lc g own scope tg T ifs U elt A) (hx : g.X.N[i]? = some x := by rfl) (hv : Vis g.X.env.scope x := by first | exact Or.inl rfl | exact Or.inr (Or.inl rfl) | exact Or.inr (Or.inr rfl)) (hdb : (x == ("__debug__" : Str)) = false := by decide)
    (hcd : (x == ("__classdict__" : Str)) = false := by decide) (hc : g.X.calm = true := by rfl) (hs : ∀ y, foldedSetIterable (.Name x px) g.X.env y = pure y := by intro _; rfl) :
    EvE g (.ListComp elt [⟨tg, .Name x px, ifs, 0⟩] scope pos) (eLcK i (own.map (·.2)) T U A) := by
  have P0 := pe_lc (g := tG1 g.X.K g.ca T) (tt := tT g.X.K g.ca (fun _ _ _ _ => False) U) (te := tE g.X.K g.ca (fun _ _ _ _ => False) A) (pos := pos) hc hN (pi_keys (pe_var (i := i) (pos := px) hx hv hdb hcd)) L.ok L.hg L.ht L.he hs
  refine PE.imp (PE.or P0 (pe_lock P0)) fun σ H Q h => ?_
  obtain ⟨m, ρ, s, rel, h⟩ := h
  unfold eLcK at h
  cases ei : ρ[i]? with
  | none => rw [ei] at h; exact h.elim
  | some od =>
    cases od with
    | none => rw [ei] at h; exact h.elim
    | some d =>
      rw [ei] at h
      obtain ⟨v, ev, rv⟩ := rel.env.2 i d ei
      cases ed : viD s d with
      | none => simp only [ed] at h; exact h.elim
      | some p =>
        obtain ⟨ks, ds⟩ := p
        obtain ⟨ad, vs, rfl, hr, hl, rr⟩ := viD_ok rel.sto rv ed
        simp only [ed] at h
        by_cases hk : isLk s d = true
        · rw [if_pos hk] at h
          rcases hr with hr | ⟨o, hr⟩
          · -- not locked yet
            refine .inr ⟨ad, _, hr, trivial, fun od => ?_⟩
            have x0 : Ext m H m (upd H ad (.frz od (.dK (ks.zip vs)))) := Ext.lock hr (fun z => z) (fun _ z => nomatch z)
            have st1 : StRep g.X.K g.ca m (upd H ad (.frz od (.dK (ks.zip vs)))) (lockS s d ks ds) := lock_ok rel.sto rv ed hl rr hr
            have rel1 := rel.ext x0 st1
            have hsl : (lockS s d ks ds).length = s.length := by rw [← st1.len, rel.sto.len]
            refine lck_in (g := g) L.sub rel1 ev upd_same hl ?_
            rw [hsl]
            cases e : lcD (fun _ => true) T U A s.length (ks.map kD) (wipeE ρ (own.map (·.2))) (lockS s d ks ds ++ [.lst []]) with
            | no => rw [e] at h; exact h
            | ex y s2 => rw [e] at h; exact h.elim
            | ok _ s2 =>
              rw [e] at h
              simp only [Out.bindN] at h
              intro m' H' D0 x st hD
              obtain ⟨m2, xm, sm, rm⟩ := fin_ok (d := .loc s.length) (v := .ref D0) st1 x st ⟨D0, hD, rfl⟩
              have ha : H' ad = some (.frz od (.dK (ks.zip vs))) := xm.frz ad od _ upd_same
              refine ⟨ha, ?_⟩
              cases eu : unlockS (fin (lockS s d ks ds) (.loc s.length) s2).2 d ks ds with
              | none => rw [eu] at h; exact h.elim
              | some s3 =>
                rw [eu] at h
                have hn : ad ∉ m → ad ∉ m2 := fun hn => (xm.keep ad (.dK (ks.zip vs)) rfl (.inr ⟨od, upd_same⟩) hn).2
                obtain ⟨sf, rf⟩ := unlock_ok xm.pre rv hn eu hl ha sm ⟨s, ed⟩ rm
                have xr := Ext.round hr (fun z => z) (fun _ z => nomatch z) xm
                exact h m2 _ xr (rel.ext xr sf) _ rf
          · -- locked before: a value
            refine .inl ?_
            have hd : lockS s d ks ds = s ∧ ∀ q, unlockS q d ks ds = some q := by
              cases d with
              | loc n =>
                obtain ⟨a', ea, q⟩ := rv
                cases q
                simp only [isLk] at hk
                cases es : s[n]? with
                | none => rw [es] at hk; cases hk
                | some c =>
                  rw [es] at hk
                  cases c with
                  | dK a1 a2 =>
                    obtain ⟨us, eh, _⟩ := rel.sto.at_ n _ _ es ea
                    rw [hr] at eh; cases eh
                  | _ => cases hk
              | dK a1 a2 => exact ⟨rfl, fun _ => rfl⟩
              | _ => cases ed
            rw [hd.1] at h
            refine lck_in (g := g) L.sub rel ev hr hl ?_
            cases e : lcD (fun _ => true) T U A s.length (ks.map kD) (wipeE ρ (own.map (·.2))) (s ++ [.lst []]) with
            | no => rw [e] at h; exact h
            | ex y s2 => rw [e] at h; exact h.elim
            | ok _ s2 =>
              rw [e] at h
              simp only [Out.bindN, hd.2] at h
              intro m' H' D0 x st hD
              obtain ⟨m2, xm, sm, rm⟩ := fin_ok (d := .loc s.length) (v := .ref D0) rel.sto x st ⟨D0, hD, rfl⟩
              exact h m2 H' xm (rel.ext xm sm) _ rm
        · rw [if_neg hk] at h; exact h.elim

/-! calls by keywords -/
/-- the values in the parameters' order -/
def arr {α : Type} [Inhabited α] (pi : List Nat) (xs : List α) : List α := pi.map fun i => xs.getD i default
instance : Inhabited V := ⟨.non⟩
instance : Inhabited Value := ⟨.none⟩
structure KwCallee (P : Program) (w : World) (K : PySem.W.Frag) (mg : Str → Option Value) (base : Heap) (ca : Str → Addr) (k : Nat) (x : Str) (n : Nat) (F : List D → S → Out D) (j : Nat) (ks : List Str) (pi : List Nat) : Prop where
  ex : ∃ (f : Addr) (fd : FuncData) (ps : List Str), FnOk P w K mg base (L2.CX P w) k f fd ps (spF K ca n F) ∧ mg x = some (.ref f) ∧ PySem.W.keepIn K (.ref f) = true ∧ 
    ∀ (s : Shared) (us ws : List Value), K.In s.heap → us.length = j → ws.length = ks.length → BindsTo s fd ⟨us, ks.zip ws⟩ (ps.zip (arr pi (us ++ ws)))
  lt : ∀ i ∈ pi, i < j + ks.length
abbrev G.KwCall (g : G) (k : Nat) (x : Str) (n : Nat) (F : List D → S → Out D) (j : Nat) (ks : List Str) (pi : List Nat) : Prop := KwCallee g.X.prog g.X.w g.X.K g.X.mg g.X.base g.ca k x n F j ks pi
def EvK (g : G) (kws : List Keyword) (A : Ar) : Prop := PK g.X kws (tA g.X.K g.ca g.W A)
theorem PK.imp {X : Cx} {e : List Keyword} {t t' : TA} (h : PK X e t) (i : ∀ σ H Q, t' σ H Q → t σ H Q) : PK X e t' := ⟨fun pos pins s σ H Q I q => h.run pos pins s σ H Q I (i σ H Q q)⟩
theorem tcons_in {σ : L2.St} {H : Hp} {Q : List V → Hp → Prop} (h : tA g.X.K g.ca g.W (aCons A As) σ H Q) : tCons (tE g.X.K g.ca g.W A) (tA g.X.K g.ca g.W As) σ H Q := by
  obtain ⟨m, ρ, s, rel, h⟩ := h
  refine ⟨m, ρ, s, rel, (PO_.bind h).mono fun x s1 m1 H1 ⟨r1, h1⟩ v rv => ⟨m1, ρ, s1, r1, ?_⟩⟩
  have h2 := PO_.bind h1
  cases e : As ρ s1 with
  | no => rw [e] at h2; exact h2
  | ex y s2 => rw [e] at h2; exact h2
  | ok ys s2 =>
    rw [e] at h2
    intro m2 H2 x2 r2 ws rw_
    obtain ⟨_, h3⟩ := h2 m2 H2 x2 r2
    exact h3 m2 H2 (Ext.refl _ _) r2 _ ⟨_, _, rfl, r1.sto.repD x2.toExtW rv, rw_⟩
theorem ek_nil : EvK g [] aNil := PK.imp pk_nil fun σ H Q h => by
  obtain ⟨m, ρ, s, rel, h⟩ := h
  exact h m H (Ext.refl _ _) rel [] rfl
theorem ek_cons {nm : Option Str} {kpos : Pos} {kws : List Keyword} (h : EvE g a A) (h' : EvK g kws As) : EvK g (⟨nm, a, kpos⟩ :: kws) (aCons A As) := PK.imp (pk_cons h h') fun _ _ _ q => tcons_in q
@[simp] def eFK (n : Nat) (F : List D → S → Out D) (pi : List Nat) (As Bs : Ar) (ρ : Env) (s : S) : Out D := (As ρ s).bind fun ds s1 => (Bs ρ s1).bind fun es s2 => if ds.length + es.length = n then F (arr pi (ds ++ es)) s2 else .no
theorem arr_rep {K : PySem.W.Frag} {H : Hp} {m : List Addr} {ds : List D} {vs : List V} (r : RepDs K H m ds vs) : ∀ {pi : List Nat}, (∀ i ∈ pi, i < ds.length) → RepDs K H m (arr pi ds) (arr pi vs)
  | [], _ => rfl
  | i :: pi, h => by
    refine ⟨vs.getD i default, arr pi vs, rfl, ?_, arr_rep r fun j hj => h j (List.mem_cons_of_mem _ hj)⟩
    have hi := h i (List.mem_cons_self ..)
    obtain ⟨v, ev, rv⟩ := r.get (i := i) (d := ds[i]) (List.getElem?_eq_getElem hi)
    show RepD K H m (ds.getD i default) (vs.getD i default)
    rw [List.getD_eq_getElem?_getD, List.getD_eq_getElem?_getD, ev, List.getElem?_eq_getElem hi]
    exact rv
theorem arr_vals {vs : List V} {us : List Value} (r : Vals vs us) : ∀ {pi : List Nat}, (∀ i ∈ pi, i < vs.length) → Vals (arr pi vs) (arr pi us)
  | [], _ => .nil
  | i :: pi, h => by
    have hi := h i (List.mem_cons_self ..)
    obtain ⟨u, eu, ru⟩ := r.get (i := i) (x := vs[i]) (List.getElem?_eq_getElem hi)
    refine .cons (?_ : RelV (vs.getD i default) (us.getD i default)) (arr_vals r fun j hj => h j (List.mem_cons_of_mem _ hj))
    rw [List.getD_eq_getElem?_getD, List.getD_eq_getElem?_getD, eu, List.getElem?_eq_getElem hi]
    exact ru
theorem run_fnKw {X : Cx} {CX : CXT} {k j : Nat} {f : Addr} {fd : FuncData} {ps ks : List Str} {sp : Sp} {E : L2.St → XK} {pi : List Nat} {pins : List (Addr × Obj)} {σ : L2.St} {H : Hp} {s : Shared} {Q : VK} {us ws : List Value} {vs zs : List V} (F : FnOk X.prog X.w X.K X.mg X.base CX k f fd ps sp) (hr : Room k X.A)
    (hb : ∀ (s : Shared) (us ws : List Value), X.K.In s.heap → us.length = j → ws.length = ks.length → BindsTo s fd ⟨us, ks.zip ws⟩ (ps.zip (arr pi (us ++ ws)))) (hx : PassesAt CX X σ (E σ)) (hpi : ∀ i ∈ pi, i < j + ks.length)
    (I : Inv X pins σ H s) (r : Vals vs us) (rz : Vals zs ws) (l1 : vs.length = j) (l2 : zs.length = ks.length) (h : sp (arr pi (vs ++ zs)) H Q (E σ)) : wpAny (model X.prog X.w) X.A (call (.ref f) us (ks.zip ws)) (EP X pins σ Q) X.xe s := by
  have b := hb s us ws I.kIn (r.length.symm.trans l1) (rz.length.symm.trans l2)
  refine wpAny_call (codeAny_mono (F.run X.A X.stack s H ⟨us, ks.zip ws⟩ (arr pi (us ++ ws)) (arr pi (vs ++ zs)) Q (E σ) hr I.env0 b (arr_vals (r.append rz) fun i hi => by rw [List.length_append, l1, l2]; exact hpi i hi) h) fun r s' hq => ?_)
  cases r with
  | error e => exact hx pins H s e s' I hq
  | ok fl =>
    cases fl with
    | ret u => exact I.after hq
    | next => exact False.elim hq
    | brk => exact False.elim hq
    | cont => exact False.elim hq
theorem kw_in {k j n : Nat} {ks : List Str} {pi : List Nat} {F : List D → S → Out D} {As Bs : Ar} {f : Addr} {fd : FuncData} {ps : List Str} (hn : n = j + ks.length) (hj : pi.length = n) (hpi : ∀ i ∈ pi, i < j + ks.length) {σ : L2.St} {H : Hp} {Q : VK} 
    (h : tE g.X.K g.ca g.W (eFK n F pi As Bs) σ H Q) : tA g.X.K g.ca g.W As σ H fun vs H1 => tA g.X.K g.ca g.W Bs σ H1 fun zs H2 => (vs.length + zs.length = n → spF g.X.K g.ca n F (arr pi (vs ++ zs)) H2 Q (WE g.W σ)) ∧ vs.length + zs.length = n := by
  obtain ⟨m, ρ, s, rel, h⟩ := h
  refine ⟨m, ρ, s, rel, (PO_.bind h).mono fun ds s1 m1 H1 ⟨r1, h1⟩ vs rv => ⟨m1, ρ, s1, r1, ?_⟩⟩
  have h2 := PO_.bind h1
  cases e : Bs ρ s1 with
  | no => rw [e] at h2; exact h2
  | ex y s2 => rw [e] at h2; exact h2
  | ok es s2 =>
    rw [e] at h2
    intro m2 H2 x2 r2 ws rw_
    obtain ⟨_, h3⟩ := h2 m2 H2 x2 r2
    split at h3
    · rename_i hl
      have rv2 := r1.sto.repDs x2.toExtW rv
      refine ⟨fun _ => ⟨by simp [arr, hj], m2, arr pi (ds ++ es), s2, r2.sto, arr_rep (rv2.app rw_) fun i hi => ?_, ?_⟩, by rw [← rv2.len, ← rw_.len]; exact hl⟩
      · rw [List.length_append, hl, hn]; exact hpi i hi
      · cases e : F (arr pi (ds ++ es)) s2 with
        | no => rw [e] at h3; exact h3
        | ok d s3 => rw [e] at h3; exact fun m' H' v x st r => h3 m' H' x (r2.ext x st) v r
        | ex y s3 => rw [e] at h3; exact fun m' H' c od x st r => h3 m' H' c od x (r2.ext x st) r
    · exact h3.elim
/-- f(k = e, ..) -/
theorem ev_callK0 {k n : Nat} {x : Str} {F : List D → S → Out D} {p : Pos} {kws : List Keyword} {ks : List Str} {pi : List Nat} {Bs : Ar} (o : g.Ok) (cl : g.KwCall k x n F 0 ks pi) (hk : k ≤ g.k) (hkw : EvK g kws Bs) (hn : n = 0 + ks.length := by rfl) (hj : pi.length = n := by rfl) (hg : Gl g.X x := by rfl) (hdb : (x == ("__debug__" : Str)) = false := by decide)
    (hall : (backToKw pos (keywordEach kws g.X.env)).all (·.1.isSome) = true := by rfl) (hks : (backToKw pos (keywordEach kws g.X.env)).filterMap (·.1) = ks := by rfl)
    (hpl : ((backTo pos (starEach [] g.X.env)).any (·.1) || (backToKw pos (keywordEach kws g.X.env)).any (·.1.isNone)) = false := by rfl) : EvE g (.Call (.Name x p) [] kws pos) (eFK n F pi aNil Bs) := by
  obtain ⟨f, fd, ps, F1, hm, hkp, hb⟩ := cl.ex
  refine ⟨fun pins s σ H Q I h => ?_⟩
  obtain h' := kw_in (k := k) (f := f) (fd := fd) (ps := ps) hn hj cl.lt h
  refine wpAny_Call_Name_kw (ld_glob I hg hm ?_ hdb)
  refine PySem.W.callWith_KW0 (h₀ := g.X.base) I.ok.mod.kin hkp hall ?_ hpl
  obtain ⟨m, ρ, s0, rel, h'⟩ := h'
  have h'' := h' m H (Ext.refl _ _) rel [] rfl
  refine thn (hkw.run pos pins s σ H _ I h'') fun ws s2 ⟨zs, H2, I2, rz, q2, l2⟩ => ⟨I2.kIn, ?_⟩
  rw [hks]
  exact run_fnKw (E := WE g.W) F1 (o.hr.mono hk) hb (passAt o.tk σ) cl.lt I2 .nil rz rfl (by simpa [hn] using l2) (q2 l2)
/-- f(e, .., k = e, ..) -/
theorem ev_callK {k j n : Nat} {x : Str} {F : List D → S → Out D} {p : Pos} {kws : List Keyword} {ks : List Str} {pi : List Nat} {Bs : Ar} (o : g.Ok) (cl : g.KwCall k x n F j ks pi) (hk : k ≤ g.k) (ha : EvA g (e :: es) As) (hkw : EvK g kws Bs) (hl : ∀ ρ s ds s', As ρ s = .ok ds s' → ds.length = j) (hn : n = j + ks.length := by rfl) (hj : pi.length = n := by rfl) (hg : Gl g.X x := by rfl) (hdb : (x == ("__debug__" : Str)) = false := by decide)
    (hall : (backToKw pos (keywordEach kws g.X.env)).all (·.1.isSome) = true := by rfl) (hks : (backToKw pos (keywordEach kws g.X.env)).filterMap (·.1) = ks := by rfl) (he : starEach (e :: es) g.X.env = (false, eval e g.X.env) :: starEach es g.X.env := by rfl)
    (hpl : ((backTo pos (starEach (e :: es) g.X.env)).any (·.1) || (backToKw pos (keywordEach kws g.X.env)).any (·.1.isNone)) = false := by rfl) : EvE g (.Call (.Name x p) (e :: es) kws pos) (eFK n F pi As Bs) := by
  obtain ⟨f, fd, ps, F1, hm, hkp, hb⟩ := cl.ex
  refine ⟨fun pins s σ H Q I h => ?_⟩
  obtain h' := kw_in (k := k) (f := f) (fd := fd) (ps := ps) hn hj cl.lt h
  refine wpAny_Call_Name_kw (ld_glob I hg hm ?_ hdb)
  have h2 : tA g.X.K g.ca g.W As σ H fun vs H1 => vs.length = j ∧ tA g.X.K g.ca g.W Bs σ H1 fun zs H2 => (vs.length + zs.length = n → spF g.X.K g.ca n F (arr pi (vs ++ zs)) H2 Q (WE g.W σ)) ∧ vs.length + zs.length = n := by
    obtain ⟨m, ρ, s0, rel, h'⟩ := h'
    refine ⟨m, ρ, s0, rel, ?_⟩
    cases eA : As ρ s0 with
    | no => rw [eA] at h'; exact h'
    | ex y s1 => rw [eA] at h'; exact h'
    | ok ds s1 =>
      rw [eA] at h'
      intro m1 H1 x1 r1 vs rvs
      exact ⟨by rw [← rvs.len]; exact hl ρ s0 ds s1 eA, h' m1 H1 x1 r1 vs rvs⟩
  refine PySem.W.callWith_KW (h₀ := g.X.base) I.ok.mod.kin hkp hall (thn (ha.run pos pins s σ H _ I h2) fun us s1 ⟨vs, H1, I1, r, l1, q⟩ => ?_) hpl he
  refine thn (hkw.run pos pins s1 σ H1 _ I1 q) fun ws s2 ⟨zs, H2, I2, rz, q2, l2⟩ => ⟨I2.kIn, ?_⟩
  rw [hks]
  exact run_fnKw (E := WE g.W) F1 (o.hr.mono hk) hb (passAt o.tk σ) cl.lt I2 r rz l1 (by omega) (q2 l2)
end
end Mo

set_option Elab.async false
set_option linter.all false
set_option maxRecDepth 100000
set_option maxHeartbeats 4000000
/-! own exceptions whose __init__ says super().__init__(..) and keeps its parameters as fields -/
namespace Mo
open PySem PySem.Spec PyProof.Rows L2
/-- the context of such an __init__ -/
def cxI (P : Program) (w : World) (K : PySem.W.Frag) (mg : Str → Option Value) (base : Heap) (N : List Str) (qual : Str) (scope : Scope) (f cda cc : Addr) (A : Around) (outer : List PySem.Env) (s : Shared) (H : Hp) (E : XK) : Cx where
  prog := P
  w := w
  K := K
  mg := mg
  base := base
  A := A.deeper (PySem.W.ksEnv qual scope s.heap.objs.size f (.ref cda) cc)
  N := N
  s_0 := s
  H_0 := H
  env := PySem.W.ksEnv qual scope s.heap.objs.size f (.ref cda) cc
  outer := outer
  stack := PySem.W.ksEnv qual scope s.heap.objs.size f (.ref cda) cc :: outer
  ex := []
  calm := true
  fn := fun x => x != "__class__"
  pn := []
  xe := fun e s' => wpAny (model P w) (A.deeper (PySem.W.ksEnv qual scope s.heap.objs.size f (.ref cda) cc)) (leaving (PySem.W.ksEnv qual scope s.heap.objs.size f (.ref cda) cc) e) (fun _ s'' => L2.CX P w outer H s E e s'') (fun e' s'' => L2.CX P w outer H s E e' s'') s'
/-- names of such an __init__ -/
structure InScope (N : List Str) (sc : Scope) : Prop where
  kind : sc.kind = .function
  co : sc.isCoroutine = false
  gen : sc.isGenerator = false
  nd : N.Nodup
  par : ∀ x ∈ N, sc.names.lookup x = some .local
  nocell : ∀ y ∈ sc.names, y.2 ≠ .cell
  free : ∀ y ∈ sc.names, y.2 = .free → y.1 = ("__class__" : Str)
  hks : sc.names.lookup ("super" : Str) = some .globalImplicit
  hkc : sc.names.lookup ("__class__" : Str) = some .free
/-- what the written part says of the class at C and of its __init__ -/
structure InK (P : Program) (K : PySem.W.Frag) (mg : Str → Option Value) (C f cda cc : Addr) (qual : Str) (params : Arguments) (body : List Stmt) (scope : Scope) (fd : FuncData) (fs : List Str) : Prop where
  lk : ∃ oc od dV kV doc pm an ct osl, K.lookup f = some ⟨oc, od, .func fd, osl⟩ ∧ fd = PySem.W.ksFn "__init__" qual params body scope dV kV doc pm an (.ref cda) ct cc ∧ dV = .none
  hcd : PySem.W.codeIn K (.ref cda) qual = true
  code : ∃ ccl cdd vs ccs file tf, K.lookup cda = some ⟨ccl, cdd, .fields vs, ccs⟩ ∧ vs[2]? = some (.str file tf) ∧ ((P.main.file : Str) == file) = true
  cell : ∃ cl cld csl, K.lookup cc = some ⟨cl, cld, .cell (some (.ref C)), csl⟩
  T : OexC K C
  sub : PySem.W.mroIn K C (.ref C) = some true
  sup : PySem.W.ks_superIn K C C "__init__" = some (some (.builtin "ValueError.__init__"))
  isVE : PySem.W.subIn K (.ref C) (.type "ValueError") = some true
  noany : PySem.W.nsIn K cStatics "thirdparty.any" = some none
  top : (P.main.scope.names.lookup ("super" : Str)).isSome = false
  hm : mg "super" = none
  init : PySem.W.findIn K (.ref C) "__init__" = some (some (.ref f))
  tI : PySem.W.typeIn K (.ref f) = some (.type "function")
  fld : ∀ x ∈ fs, PySem.W.findIn K (.ref C) x = some none
theorem lookup_rev {x : Str} {v : Value} : ∀ {P : List Str} {us : List Value} {i : Nat}, P.Nodup → P[i]? = some x → us[i]? = some v → (P.zip us).reverse.lookup x = some v
  | [], _, _, _, h, _ => by simp at h
  | _ :: _, [], _, _, _, h => by simp at h
  | p :: P, u :: us, 0, nd, h1, h2 => by
    simp at h1 h2
    subst h1 h2
    rw [List.zip_cons_cons, List.reverse_cons, List.lookup_append]
    have : (P.zip us).reverse.lookup p = none := by
      rw [List.lookup_eq_none_iff]
      intro q hq
      have := List.of_mem_zip (List.mem_reverse.mp hq)
      have hne : p ≠ q.1 := fun e => (List.nodup_cons.mp nd).1 (e ▸ this.1)
      simpa using hne
    rw [this]
    simp [List.lookup]
  | p :: P, u :: us, i + 1, nd, h1, h2 => by
    rw [List.zip_cons_cons, List.reverse_cons, List.lookup_append, lookup_rev (List.nodup_cons.mp nd).2 (by simpa using h1) (by simpa using h2)]
    rfl
theorem inv_init {P : Program} {w : World} {K : PySem.W.Frag} {mg : Str → Option Value} {base : Heap} {ps : List Str} {qual : Str} {scope : Scope} {f cda cc : Addr} {A : Around} {outer : List PySem.Env} {s : Shared} {H : Hp} {E : XK} {us : List Value} {vs : List V} {h1 : Heap} {tk : Nat}
    (S : InScope ps scope) (hd : A.handled = none) (e0 : Env0 P w K mg base A outer s H) (hl : vs.length = ps.length) (r : Vals vs us) (hcc : ∃ v, base.IsCell cc (some v)) (hns : h1.Ns s.heap.objs.size (fun x => (ps.zip us).reverse.lookup x)) (hk : ∀ b o, s.heap.get? b = some o → h1.get? b = some o) :
    Inv (cxI P w K mg base ps qual scope f cda cc A outer s H E) [] (vs.map some) H { s with heap := h1, toks := tk } := by
  have cl : ∀ {x : Str} {c : Addr}, ([(("__class__" : Str), cc)] : List (Str × Addr)).lookup x = some c → x = "__class__" ∧ c = cc := fun {x c} h => by
    have e := PySem.mem_of_lookup h
    simp at e
    exact e
  obtain ⟨cv, co, hco, hcd⟩ := hcc
  have hc0 := e0.bs cc _ hco
  have noA : ∀ b : Addr, b ∉ (cxI P w K mg base ps qual scope f cda cc A outer s H E).ex := fun b z => absurd (show b ∈ ([] : List Addr) from z) (by simp)
  refine ⟨⟨e0.mod, S.kind, rfl, rfl, Nat.le_refl _, fun y z c h1 h2 => by rw [(cl h1).1, (cl h2).1], fun y hy => ?_, fun y c hfn h => ?_, fun _ => hd, Around.frames_deeper e0.frames, .inr ⟨rfl, rfl⟩, fun b z => absurd z (noA b), e0.bs, e0.bsz, fun b _ _ => noA b, fun b z => absurd z (noA b), e0.funs, e0.frf⟩,
    rfl, e0.bare, Un.kept hk, ⟨_, hns, fun i y v h1 h2 h3 => ?_⟩, fun y c h => ?_, e0.hok.fresh (Nat.le_refl _), fun y c h => ?_, fun p hp => absurd (show p ∈ ([] : List (Addr × Obj)) from hp) (by simp), e0.hok.kept hk, ?_⟩
  · have hy : scope.names.lookup y = some .cell ∨ scope.names.lookup y = some .free := hy
    rcases hy with hy | hy
    · exact absurd rfl (S.nocell _ (PySem.mem_of_lookup hy))
    · refine ⟨cc, ?_⟩
      have := S.free _ (PySem.mem_of_lookup hy) rfl
      show ([(("__class__" : Str), cc)] : List (Str × Addr)).lookup y = some cc
      rw [show y = ("__class__" : Str) from this]
      rfl
  · have := (cl h).1
    subst this
    have hfn : (("__class__" : Str) != ("__class__" : Str)) = true := hfn
    simp at hfn
  · rw [List.getElem?_map] at h2
    cases e : vs[i]? with
    | none => rw [e] at h2; cases h2
    | some a =>
      rw [e] at h2
      cases h2
      obtain ⟨u, hu, rv⟩ := r.get e
      exact ⟨u, rv, .inl ⟨S.par y (List.mem_of_getElem? h1), lookup_rev S.nd h1 hu⟩⟩
  · rw [(cl h).2]
    exact ⟨_, co, hk _ _ hc0.1, hcd⟩
  · rw [(cl h).2]
    exact hc0.2
  · show (vs.map some).length = ps.length
    rw [List.length_map, hl]
/-- the fields stored, the last first -/
def accF : List Str → List V → List (Str × V) → List (Str × V)
  | f :: fs, w :: ws, a => accF fs ws ((f, w) :: a)
  | _, _, a => a
/-- what __init__ promises -/
def spI (K : PySem.W.Frag) (C : Addr) (fs : List Str) : Sp := fun vs H Q _ => ∃ a ws, vs = .ref a :: ws ∧ ws.length = fs.length ∧ H a = some (exo a C none) ∧
  ∀ d H2, H d = none → d ≠ a → H2 a = some (exo a C (some d)) → H2 d = some (exd d (accF fs ws [])) → (∀ b, b ≠ a → b ≠ d → H2 b = H b) → Q .non H2
/-- the stores -/
def tSts (K : PySem.W.Frag) : List Str → Nat → TS
  | [], _ => tNext
  | f :: fs, i => tSeq (tOst K f (tVar 0) (tVar i)) (tSts K fs (i + 1))
theorem sts_run {K : PySem.W.Frag} {C a : Addr} (T : OexC K C) {D : Ends} {σ : L2.St} {H0 : Hp} (h0 : σ[0]? = some (some (.ref a))) {d : Addr} (hda : d ≠ a) : ∀ {fs : List Str} {ws : List V} {i : Nat} {acc : List (Str × V)} {H : Hp},
    (∀ x ∈ fs, PySem.W.findIn K (.ref C) x = some none) → fs.length = ws.length → (∀ j w, ws[j]? = some w → σ[i + j]? = some (some w)) → acc.length + fs.length ≤ 900 → H a = some (exo a C (some d)) → H d = some (exd d acc) → (∀ b, b ≠ a → b ≠ d → H b = H0 b) →
    (∀ H2, H2 a = some (exo a C (some d)) → H2 d = some (exd d (accF fs ws acc)) → (∀ b, b ≠ a → b ≠ d → H2 b = H0 b) → D.nx σ H2) → tSts K fs i D σ H
  | [], [], i, acc, H, hf, hl, hσ, hz, ea, ed, hb, h => h H ea ed hb
  | [], _ :: _, _, _, _, _, hl, _, _, _, _, _, _ => by simp at hl
  | _ :: _, [], _, _, _, _, hl, _, _, _, _, _, _ => by simp at hl
  | f :: fs, w :: ws, i, acc, H, hf, hl, hσ, hz, ea, ed, hb, h => by
    refine ⟨w, by simpa using hσ 0 w rfl, .ref a, h0, a, C, rfl, T, hf f (List.mem_cons_self ..), .inr ⟨d, acc, ea, ed, by simp at hz; omega, ?_⟩⟩
    refine sts_run T h0 hda (fs := fs) (ws := ws) (i := i + 1) (acc := (f, w) :: acc) (fun x hx => hf x (List.mem_cons_of_mem _ hx)) (by simpa using hl) (fun j w' e => ?_) (by simp at hz ⊢; omega) ((upd_ne (Ne.symm hda)).trans ea) upd_same (fun b h1 h2 => (upd_ne h2).trans (hb b h1 h2)) h
    have := hσ (j + 1) w' (by simpa using e)
    rw [show i + 1 + j = i + (j + 1) by omega]
    exact this
/-- the first store makes the dict -/
theorem sts_first {K : PySem.W.Frag} {C a : Addr} (T : OexC K C) {D : Ends} {σ : L2.St} {H : Hp} (h0 : σ[0]? = some (some (.ref a))) {f : Str} {fs : List Str} {ws : List V} (hf : ∀ x ∈ f :: fs, PySem.W.findIn K (.ref C) x = some none) (hl : (f :: fs).length = ws.length) (hσ : ∀ j w, ws[j]? = some w → σ[1 + j]? = some (some w)) (hz : (f :: fs).length ≤ 900)
    (ea : H a = some (exo a C none)) (h : ∀ d H2, H d = none → d ≠ a → H2 a = some (exo a C (some d)) → H2 d = some (exd d (accF (f :: fs) ws [])) → (∀ b, b ≠ a → b ≠ d → H2 b = H b) → D.nx σ H2) : tSts K (f :: fs) 1 D σ H := by
  match ws, hl, hσ, h with
  | [], hl, _, _ => simp at hl
  | w :: ws, hl, hσ, h =>
    refine ⟨w, by simpa using hσ 0 w rfl, .ref a, h0, a, C, rfl, T, hf f (List.mem_cons_self ..), .inl ⟨ea, fun d nd hda => ?_⟩⟩
    refine sts_run (H0 := H) T h0 hda (fs := fs) (ws := ws) (i := 2) (acc := [(f, w)]) (fun x hx => hf x (List.mem_cons_of_mem _ hx)) (by simpa using hl) (fun j w' e => ?_) (by simp at hz ⊢; omega) upd_same ((upd_ne hda).trans upd_same) (fun b h1 h2 => (upd_ne h1).trans (upd_ne h2)) fun H2 e1 e2 e3 => h d H2 nd hda e1 e2 e3
    have := hσ (j + 1) w' (by simpa using e)
    rw [show 2 + j = 1 + (j + 1) by omega]
    exact this
/-- ValueError.__init__, bound, called -/
theorem veinit_bound {X : Cx} {pins : List (Addr × Obj)} {σ : L2.St} {H : Hp} {s : Shared} {a C u : Addr} {us : List Value} {Q : Value → Shared → Prop} {A : Around} {E : Value → Shared → Prop} (T : OexC X.K C) (I : Inv X pins σ H s) (e : H a = some (exo a C none)) (hu : s.heap.get? u = some (PySem.W.kxs_mw "ValueError.__init__" a)) (hl : us.length ≤ sizeLine)
    (h : ∀ s', Inv X pins σ H s' → Q .none s') : wpAny (model X.prog X.w) A (call (.ref u) us) Q E s := by
  obtain ⟨nm, q, N, bs, bm, sn, sub, ab, col, dd, k0, k1, k2, k3, k5, hC, hbm⟩ := T.cls
  obtain ⟨t1, ho⟩ := exo_at I.hok e
  have hCs := I.kIn _ _ hC
  have fin : ∀ h', (∀ b o, b ≠ a → s.heap.get? b = some o → h'.get? b = some o) → h'.get? a = some ({ cls := .ref C, dict := none, data := .fields #[.ref s.heap.objs.size, .none, .none, .none, .bool false, .none] } : Obj) → Q .none { s with heap := h' } := fun h' k hx => by
    have J := I.write (t' := s.toks) (x := a) (e := a) (o := exo a C none) (by rw [e]; exact True.intro) (.inl rfl) k ⟨_, hx⟩ (exo_ok hx)
    have eu : upd H a (exo a C none) = H := by
      funext b
      by_cases hb : b = a
      · rw [hb, upd_same, e]
      · rw [upd_ne hb]
    rw [eu] at J
    exact h _ J
  obtain ⟨hh, g, d, tk, os⟩ := s
  refine wpAny_call (codeAny_of_tree ?_)
  show wpAny _ A.in1 (callAny (.ref u) ⟨us, []⟩) _ _ _
  simp only [callAny]
  refine wpAny_bind (wpAny_load hu ?_)
  simp only [PySem.W.kxs_mw, show (Value.type "method-wrapper" == Value.type "method" || Value.type "method-wrapper" == Value.type "builtin_function_or_method" || Value.type "method-wrapper" == Value.type "method-wrapper") = true by decide, if_true]
  refine PySem.W.KFB.if_so (by decide) ?_
  refine wpAny_bind (PySem.W.check_bound_init F.excBase_ValueError.toExcCallFacts hCs ho rfl ?_)
  refine wpAny_bind (wpAny_pure (wpAny_pure ?_))
  refine ⟨plainId_quiet F.excBase_ValueError.init.plain _, codeAny_builtin F.excBase_ValueError.initEntry ?_⟩
  exact PySem.W.exc_init_tree (cls := .ref C) (t0 := t1) (dv := none) (c2 := .none) (c3 := .none) (b4 := .bool false) ho hl fun h' k e' _ => fin h' k e'
end Mo

set_option Elab.async false
set_option linter.all false
set_option maxRecDepth 100000
set_option maxHeartbeats 4000000
namespace Mo
open PySem PySem.Spec PyProof.Rows L2
theorem fn_init {P : Program} {w : World} {K : PySem.W.Frag} {mg : Str → Option Value} {base : Heap} {C f cda cc : Addr} {qual : Str} {params : Arguments} {scope : Scope} {fd : FuncData} {f0 : Str} {fs : List Str} {self : Str} {pargs : List Str} {p0 p1 apos cpos pos : Pos} {e : Expr} {es : List Expr} {rest : List Stmt} {ar : Arg}
    (D : InK P K mg C f cda cc qual params (.Expr (.Call (.Attribute (.Call (.Name "super" p0) [] [] p1) "__init__" apos) (e :: es) [] cpos) pos :: rest) scope fd (f0 :: fs)) (S : InScope (self :: pargs) scope) (hp : (params.posonlyargs ++ params.args).head? = some ar) (har : ar.arg = self) (hself : (self == ("__classdict__" : Str)) = false)
    (hin : K.In base) (hpl : pargs.length = (f0 :: fs).length) (hz : (f0 :: fs).length ≤ 900)
    (ha : ∀ (A : Around) (outer : List PySem.Env) (s : Shared) (H : Hp) (E : XK), ∃ ta, PA (cxI P w K mg base (self :: pargs) qual scope f cda cc A outer s H E) (e :: es) ta ∧ ∀ σ H Q, (∀ vs, vs.length ≤ 900 → Q vs H) → (∃ ws : List V, ws.length = pargs.length ∧ ∀ j w, ws[j]? = some w → σ[1 + j]? = some (some w)) → ta σ H Q)
    (hr : ∀ (A : Around) (outer : List PySem.Env) (s : Shared) (H : Hp) (E : XK), PSs (cxI P w K mg base (self :: pargs) qual scope f cda cc A outer s H E) rest (tSts K (f0 :: fs) 1))
    (hs : ∀ env : PySem.Env, starEach (e :: es) env = (false, eval e env) :: starEach es env := by intro _; rfl) (hpls : ∀ env : PySem.Env, (backTo cpos (starEach es env)).any (·.1) = false := by intro _; rfl)
    (hexp : ∀ env : PySem.Env, swapsWith (.Call (.Attribute (.Call (.Name "super" p0) [] [] p1) "__init__" apos) (e :: es) [] cpos) none pos.line env = pure false := by intro _; rfl)
    (hcall : ∃ pl, ∀ env : PySem.Env, eval (.Call (.Attribute (.Call (.Name "super" p0) [] [] p1) "__init__" apos) (e :: es) [] cpos) env = (do
      let ov ← attributeBase (.Call (.Name "super" p0) [] [] p1) "__init__" env (eval (.Call (.Name "super" p0) [] [] p1) env)
      standAt apos.atName
      let (f, first) ← holding [ov] (getMethod ov "__init__" pl)
      callWith cpos f first (backTo cpos (starEach (e :: es) env)) []) := by exact ⟨_, fun _ => rfl⟩) :
    FnOk P w K mg base (L2.CX P w) 1 f fd (self :: pargs) (spI K C (f0 :: fs)) := by
  obtain ⟨oc, od, dV, kV, doc, pm, an, ct, osl, lk, rfl, rfl⟩ := D.lk
  obtain ⟨pl, hcall⟩ := hcall
  refine ⟨fun vs H Q E h => ?_, fun A outer s H args us vs Q E hrm e0 hb r hsp => ?_⟩
  · obtain ⟨a, ws, rfl, hl, _⟩ := h
    simp [hl, hpl]
  have hlv : vs.length = (self :: pargs).length := by
    obtain ⟨a, ws, rfl, hl, _⟩ := hsp
    simp [hl, hpl]
  have KX : K.In s.heap := e0.mod.kin.keeps fun b o e => (e0.bs b o e).1
  have lim : s.heap.NoLimit := e0.mod.nolimit.keeps fun b o e => (e0.bs b o e).1
  obtain ⟨cl, cld, csl, hcell⟩ := D.cell
  obtain ⟨ccl, cdd, cvs, ccs, file, tf, hcode, hfile, hmain⟩ := D.code
  refine PySem.ks_codeAny_call_defAt hrm.depth (KX _ _ lk) rfl lim (PySem.W.codeRec_of KX D.hcd) rfl hb S.nocell (fun y hy => S.par y.1 (List.of_mem_zip hy).1) (fun h₀ hns hk => ?_) S.co S.gen S.kind
  obtain ⟨a, ws, rfl, hl, ea, hQ⟩ := hsp
  -- the context
  let X := cxI P w K mg base (self :: pargs) qual scope f cda cc A outer s H E
  have hcc : ∃ v, base.IsCell cc (some v) := ⟨_, _, hin _ _ hcell, rfl⟩
  have I : Inv X [] ((V.ref a :: ws).map some) H { s with heap := h₀, toks := s.toks + ((self :: pargs).zip us).length } := inv_init S hrm.hd e0 hlv r hcc hns hk
  have hσ0 : ((V.ref a :: ws).map some)[0]? = some (some (V.ref a)) := rfl
  have hσ : ∀ j w, ws[j]? = some w → ((V.ref a :: ws).map some)[1 + j]? = some (some w) := fun j w' e' => by
    rw [List.getElem?_map, show 1 + j = j + 1 by omega, List.getElem?_cons_succ, e']
    rfl
  have fin : ∀ {σ' : L2.St} {H' : Hp} {v : V} {u : Value} {s' : Shared}, Inv X [] σ' H' s' → RelV v u → Q v H' → CE outer P w H s Q u s' :=
    fun {σ' H' v u s'} J rv q => ⟨v, H', J.os, J.bare, J.base, J.hok, rv, q⟩
  -- the stores
  have stores : ∀ s', Inv X [] ((V.ref a :: ws).map some) H s' → wpAny (model P w) X.A (execs rest X.env) (fun fl s' => CR (L2.CX P w) outer P w H s Q E (.ok (.ret (match fl with | .ret v => v | _ => .none))) s') X.xe s' := fun s' J => by
    refine thn ((hr A outer s H E).run [] s' _ H { nx := fun _ H' => Q .non H', rt := Q } J ?_) fun fl s2 hs2 => ?_
    · exact sts_first (C := C) D.T (D := { nx := fun _ H' => Q .non H', rt := Q }) hσ0 D.fld hl.symm hσ hz ea fun d H2 h1 h2 h3 h4 h5 => hQ d H2 h1 h2 h3 h4 h5
    · cases fl with
      | ret u =>
        obtain ⟨v, σ', H', J, rv, q⟩ := hs2
        exact fin J rv q
      | next =>
        obtain ⟨σ', H', J, q⟩ := hs2
        exact fin (v := V.non) (u := Value.none) J rfl q
      | brk =>
        obtain ⟨_, _, _, q⟩ := hs2
        exact False.elim q
      | cont =>
        obtain ⟨_, _, _, q⟩ := hs2
        exact False.elim q
  refine PySem.ks_wpAt_execs_cons (PySem.ks_wpAt_Expr_any ?_ (show interactive X.env = false from by unfold interactive; rw [show X.env.scope.kind = ScopeKind.function from S.kind] <;> rfl) (hexp _))
  refine PySem.ks_wpAt_MethodCall (pl := pl) ?_ (hcall _)
  -- super()
  obtain ⟨mL, hnL, hlL⟩ := I.loc
  obtain ⟨uS, ruS, lS⟩ := hlL 0 self (V.ref a) rfl hσ0 (.inl (S.par self (List.mem_cons_self ..)))
  obtain rfl : uS = Value.ref a := ruS
  have hmS : mL self = some (.ref a) := by
    rcases lS with ⟨_, h⟩ | ⟨h, _⟩
    · exact h
    · have h2 : scope.names.lookup self = some .local := S.par self (List.mem_cons_self ..)
      have h3 : scope.names.lookup self = some .cell ∨ scope.names.lookup self = some .free := h
      rw [h2] at h3
      rcases h3 with h3 | h3 <;> cases h3
  have KI := I.kIn
  obtain ⟨t1, ho⟩ := exo_at I.hok ea
  obtain ⟨nm, q, N, bs, bm, sn, sub, ab, col, dd, k0, k1, k2, k3, k5, hC, hbm⟩ := D.T.cls
  have hcl : PySem.W.clsIn K C = some { name := nm, bases := bs, mro := .ref C :: bm, ns := N, qualname := q, hasDict := true, slotNames := sn, subclasses := sub, abstract := ab, collection := col, hasDel := false } := by unfold PySem.W.clsIn; rw [hC] <;> rfl
  have IA : PySem.W.InstAt h₀ a { cls := .ref C, dict := none, data := .fields #[.ref t1, .none, .none, .none, .bool false, .none] } C none := ⟨ho, rfl, rfl, trivial⟩
  obtain ⟨mb, hb1, hb2⟩ := e0.mod.blt
  have bk : ∀ b o, base.get? b = some o → h₀.get? b = some o := fun b o e => I.bk b o e
  refine PySem.ks_wpAt_super_base (env := X.env) S.hks S.hkc (by decide) rfl (KI _ _ lk) rfl hp rfl (KI _ _ hcode) rfl hfile hmain D.top ?_
  refine PySem.W.ks_loadName_global S.kind S.hks (Calls.loadGlobal_builtin (env := X.env) (mg := mg) (mb := mb) (e0.mod.glob.keeps bk) D.hm (hb1.keeps bk) ((hb2 _ (by decide)).trans (show bootBuiltins ("super" : Str) = some (.type "super") from by first | rfl | kernel_rfl)) ⟨rfl, ?_⟩)
  refine wpAny_loadName_free S.kind S.hkc (c := cc) rfl ⟨_, KI _ _ hcell, rfl⟩ ?_
  rw [har]
  refine wpAny_loadName_local S.kind (S.par self (List.mem_cons_self ..)) hnL hmS ?_
  have hCs := KI _ _ hC
  refine PySem.ks_wpAny_isType_cls hCs rfl ⟨rfl, ?_⟩
  refine PySem.ks_wpAny_call_super hCs rfl ho rfl (fun c e => by cases e) (PySem.W.looks_mroIn KI D.sub) (fun h' hso hk' => ?_)
  have I2 : Inv X [] ((V.ref a :: ws).map some) H { s with heap := h', toks := s.toks + ((self :: pargs).zip us).length } := I.kept (t' := s.toks + ((self :: pargs).zip us).length) hk'
  have KI2 := I2.kIn
  have ho2 := hk' _ _ ho
  have IA2 : PySem.W.InstAt h' a { cls := .ref C, dict := none, data := .fields #[.ref t1, .none, .none, .none, .bool false, .none] } C none := ⟨ho2, rfl, rfl, trivial⟩
  have hmro : PySem.W.Looks (model P w) h' (mroOf (.ref C)) (.ref C :: bm) := (PySem.W.looks_clsIn KI2 hcl).andThen .now
  have hsup : PySem.W.alongIn K "__init__" (((Value.ref C :: bm).dropWhile (· != .ref C)).drop 1) = some (some (.builtin "ValueError.__init__")) := by
    have z := D.sup
    unfold PySem.W.ks_superIn at z
    rw [hcl] at z
    exact z
  refine PySem.W.kxs_getMethod PySem.W.kxs_ValueError hso (PySem.W.looks_opaque KI2 D.noany) hmro rfl KI2 hsup (IA2.type.andThen (PySem.W.looks_subIn KI2 D.isVE)) (PySem.W.ks_ne KI2 IA2 hcl) (by decide) ?_
  have hk3 : ∀ b o, h'.get? b = some o → (h'.push (PySem.W.kxs_mw "ValueError.__init__" a)).get? b = some o := fun b o e => Heap.get?_push_of_some _ e
  have I3 := I2.kept (t' := s.toks + ((self :: pargs).zip us).length + 1) hk3
  have hu : (h'.push (PySem.W.kxs_mw "ValueError.__init__" a)).get? h'.objs.size = some (PySem.W.kxs_mw "ValueError.__init__" a) := Heap.get?_push_at rfl rfl
  -- the wrapper is pinned
  have I4 : Inv X [(h'.objs.size, PySem.W.kxs_mw "ValueError.__init__" a)] ((V.ref a :: ws).map some) H { s with heap := h'.push (PySem.W.kxs_mw "ValueError.__init__" a), toks := s.toks + ((self :: pargs).zip us).length + 1 } :=
    ClX.pin_new (t' := s.toks + ((self :: pargs).zip us).length + 1) (s := { s with heap := h', toks := s.toks + ((self :: pargs).zip us).length }) I2 hk3 (Nat.le_refl _) hu fun v q => nomatch q
  obtain ⟨ta, hta, htr⟩ := ha A outer s H E
  refine PySem.W.kxs_callWith (i := "ValueError.__init__") (x := a) (by rw [hs]; show (false || (backTo cpos (starEach es X.env)).any (·.1)) = false; rw [hpls] <;> rfl) ?_
  have hA := hta.run cpos _ _ _ H (fun vs H' => vs.length ≤ 900 ∧ H' = H) I4 (htr _ _ _ (fun vs hv => ⟨hv, rfl⟩) ⟨ws, by rw [hl, hpl], hσ⟩)
  rw [hs] at hA ⊢
  refine Calls.evalArgs_plain (thn hA fun us' s5 hu5 => ?_)
  obtain ⟨vs', H5, I5, r5, hv5, rfl⟩ := hu5
  have hu5 := (I5.pin (h'.objs.size, PySem.W.kxs_mw "ValueError.__init__" a) (List.mem_append_right _ List.mem_cons_self)).1
  refine ⟨hu5, ?_⟩
  have I6 : Inv X [] ((V.ref a :: ws).map some) H5 s5 := ClX.unpin I5
  show wpAny _ _ (call (.ref h'.objs.size) us' []) _ _ _
  exact veinit_bound D.T I6 ea hu5 (by rw [← r5.length, sizeLine_eq]; omega) fun s' J => wpAt_of_wpAny (stores s' J)
end Mo

set_option Elab.async false
set_option linter.all false
set_option maxRecDepth 100000
set_option maxHeartbeats 4000000
/-! raise, try -/
namespace Mo
open PySem PySem.Spec PyProof.Rows L2
/-- an exception class that may be made: n parameters, kept as fields -/
structure ExcOk (P : Program) (w : World) (K : PySem.W.Frag) (mg : Str → Option Value) (base : Heap) (ca : Str → Addr) (k : Nat) (x : Str) (fs : List Str) : Prop where
  T : OexC K (ca x)
  hm : mg x = some (.ref (ca x))
  ex : ∃ (f : Addr) (fd : FuncData) (ps : List Str), FnOk P w K mg base (L2.CX P w) k f fd ps (spI K (ca x) fs) ∧ PySem.W.findIn K (.ref (ca x)) "__init__" = some (some (.ref f)) ∧ PySem.W.typeIn K (.ref f) = some (.type "function") ∧ Binds K fd ps []
abbrev G.Exc (g : G) (k : Nat) (x : Str) (fs : List Str) : Prop := ExcOk g.X.prog g.X.w g.X.K g.X.mg g.X.base g.ca k x fs
@[simp] def bRaise (x : Str) (fs : List Str) (As : Ar) (ρ : Env) (s : S) : Fl := (As ρ s).fl ρ fun ds s1 => if ds.length = fs.length ∧ ds.length ≤ 900 ∧ fs.Nodup then .ex ⟨x, fs.zip ds⟩ ρ s1 else .no
theorem accF_lookup {K : PySem.W.Frag} {H : Hp} {m : List Addr} : ∀ {fs : List Str} {ds : List D} {vs : List V} {acc : List (Str × V)} {f : Str} {dv : D}, fs.Nodup → fs.length = ds.length → RepDs K H m ds vs → (fs.zip ds).lookup f = some dv → ∃ v, (accF fs vs acc).lookup f = some v ∧ RepD K H m dv v
  | [], _, _, _, _, _, _, _, _, h => by simp at h
  | _ :: _, [], _, _, _, _, _, hl, _, _ => by simp at hl
  | f' :: fs, d :: ds, vs, acc, f, dv, nd, hl, r, h => by
    obtain ⟨v, r', rfl, h1, h2⟩ := r
    rw [List.zip_cons_cons] at h
    have past : ∀ {fs : List Str} {ws : List V} {acc : List (Str × V)}, f ∉ fs → (accF fs ws acc).lookup f = acc.lookup f := by
      intro fs
      induction fs with
      | nil => intro ws acc _; cases ws <;> rfl
      | cons g fs ih =>
        intro ws acc hn
        cases ws with
        | nil => rfl
        | cons w ws =>
          simp only [List.mem_cons, not_or] at hn
          show (accF fs ws ((g, w) :: acc)).lookup f = _
          rw [ih hn.2, lookup_put, if_neg hn.1]
    by_cases e : f = f'
    · subst e
      have : dv = d := by simpa [List.lookup] using h.symm
      subst this
      refine ⟨v, ?_, h1⟩
      show (accF fs r' ((f, v) :: acc)).lookup f = _
      rw [past (List.nodup_cons.mp nd).1, lookup_put, if_pos rfl]
    · have e' : (f == f') = false := by simpa using e
      rw [List.lookup, e'] at h
      exact accF_lookup (acc := (f', v) :: acc) (List.nodup_cons.mp nd).2 (by simpa using hl) h2 h
section
variable {g : G} {a b c e o elt tg iter : Expr} {A B C_ O : Ex} {U : Te} {pos pos' cpos apos : Pos} {es ifs : List Expr} {As : Ar} {Sg : Sr} {T : Pt} {own : List (Str × Nat)} {scope : Scope}
theorem es_raise {k : Nat} {x : Str} {fs : List Str} {p : Pos} (o : g.Ok) (cl : g.Exc k x fs) (hk : k + 1 ≤ g.k) (ha : EvA g (e :: es) As) (hc : g.X.calm = true := by rfl) (hg : Gl g.X x := by rfl) (hdb : (x == ("__debug__" : Str)) = false := by decide)
    (he : starEach (e :: es) g.X.env = (false, eval e g.X.env) :: starEach es g.X.env := by rfl) (hpl : (backTo cpos (starEach es g.X.env)).any (·.1) = false := by rfl) : EvS g (.Raise (some (.Call (.Name x p) (e :: es) [] cpos)) none pos) (bRaise x fs As) := by
  obtain ⟨f, fd, ps, F1, hi, ht, hb⟩ := cl.ex
  have hx : Passes (L2.CX g.X.prog g.X.w) g.X (fun _ _ _ => False) := fun pins σ H s e s' I c => passes_call o.tk (fun _ _ _ _ z => z.elim) pins σ H s e s' I c
  refine PS.imp (ps_raise hc o.tk (pmk_oex cl.T hi ht F1 (o.hr.mono hk) hb .nil hx hg cl.hm ha hdb he hpl)) fun D σ H h => ?_
  obtain ⟨m, ρ, s, rel, h⟩ := h
  refine ⟨m, ρ, s, rel, (PO_.fl h).mono fun ds s1 m1 H1 ⟨r1, h1⟩ vs rv => ?_⟩
  split at h1
  · rename_i hl
    obtain ⟨hl, hz, nd⟩ := hl
    refine ⟨by rw [← rv.len]; omega, fun ad had => ⟨ad, vs, by simp, by rw [← rv.len]; exact hl, upd_same, fun d H2 hd hda e1 e2 e3 => ⟨rfl, d, _, e1, e2, ?_, ?_⟩⟩⟩
    · rw [upd_ne hda] at hd; exact hd
    · rw [upd_ne hda] at hd
      have key : ∀ b, b ≠ ad → b ≠ d → upd (del H2 ad) d (.xd (accF fs vs [])) b = H1 b := fun b n1 n2 => by
        rw [upd_ne n2, del_ne n1, e3 b n1 n2, upd_ne n1]
      have ne1 : ∀ {b : Addr} {u : HO}, H1 b = some u → b ≠ ad ∧ b ≠ d := fun {b u} q => ⟨fun z => (by rw [z, had] at q; cases q), fun z => (by rw [z, hd] at q; cases q)⟩
      have x : Ext m1 H1 m1 (upd (del H2 ad) d (.xd (accF fs vs []))) := ⟨⟨List.prefix_refl _, fun b u p q n => ⟨by
          rcases q with q | ⟨o, q⟩
          · exact .inl ((key b (ne1 q).1 (ne1 q).2).trans q)
          · exact .inr ⟨o, (key b (ne1 q).1 (ne1 q).2).trans q⟩, n⟩, fun b us q n => (key b (ne1 q).1 (ne1 q).2).trans q⟩, fun b u _ q => (key b (ne1 q).1 (ne1 q).2).trans q⟩
      have st : StRep g.X.K g.ca m1 (upd (del H2 ad) d (.xd (accF fs vs []))) s1 := r1.sto.same x.toExtW fun b hb => by
        obtain ⟨u, q⟩ := r1.sto.here hb
        exact key b (ne1 q).1 (ne1 q).2
      refine h1 m1 _ σ _ _ x (r1.ext x st) ⟨rfl, .inr ⟨d, _, rfl, upd_same, fun f' dv hf => ?_⟩⟩
      obtain ⟨v, l, rv'⟩ := accF_lookup (acc := []) nd hl.symm rv hf
      exact ⟨v, l, r1.sto.repD x.toExtW rv'⟩
  · exact h1.elim
/-! try .. except x as n: return (..) -/
/-- what a suite hands back: constants, the exception's fields -/
inductive XI where
  | c (p : P) | f (n : Str)
def xiD (x : Xc) : XI → Option D
  | .c p => some (.p p)
  | .f n => x.fs.lookup n
def xiDs (x : Xc) : List XI → Option (List D)
  | [] => some []
  | i :: is => (xiD x i).bind fun d => (xiDs x is).map (d :: ·)
theorem xiDs_len {x : Xc} : ∀ {is : List XI} {ds : List D}, xiDs x is = some ds → ds.length = is.length
  | [], _, h => by cases h; rfl
  | i :: is, ds, h => by
    cases e1 : xiD x i with
    | none => simp [xiDs, e1] at h
    | some d =>
      cases e2 : xiDs x is with
      | none => simp [xiDs, e1, e2] at h
      | some ds' =>
        simp [xiDs, e1, e2] at h
        subst h
        simp [xiDs_len e2]
def atomV : P → Option V
  | .non => some .non
  | .bl b => some (.bl b)
  | .int i => some (.int i)
  | .str x => some (.str x)
  | .tup _ => none
/-- the value that a suite's expression has -/
inductive XV where
  | one (i : XI) | tup (is : List XI)
def xvD (x : Xc) : XV → Option D
  | .one i => xiD x i
  | .tup is => (xiDs x is).map mkT
/-- in a suite: an item's reading -/
structure XiE (X : Cx) (i : Nat) (cc : Addr) (e : Expr) (t : XI) : Prop where
  run : ∀ (a : Addr) (oe : Obj) (cls : Value) (d : Option Addr) (pn : List (Addr × Obj)), Zc cls d oe → (∃ vs, oe.data = .fields vs) → ∃ te : TE, PE (X.suite a ((a, oe) :: pn)) e te ∧
    ∀ (σ : L2.St) (H : Hp) (Q : VK) (ca : Str → Addr) (m : List Addr) (x : Xc) (dv : D), σ[i]? = some (some (.ref a)) → XRep X.K ca H m x cls d → cc = ca x.cls → xiD x t = some dv → (∀ v, RepD X.K H m dv v → Q v H) → te σ H Q
structure XiA (X : Cx) (i : Nat) (cc : Addr) (es : List Expr) (ts : List XI) : Prop where
  run : ∀ (a : Addr) (oe : Obj) (cls : Value) (d : Option Addr) (pn : List (Addr × Obj)), Zc cls d oe → (∃ vs, oe.data = .fields vs) → ∃ ta : TA, PA (X.suite a ((a, oe) :: pn)) es ta ∧
    ∀ (σ : L2.St) (H : Hp) (Q : List V → Hp → Prop) (ca : Str → Addr) (m : List Addr) (x : Xc) (ds : List D), σ[i]? = some (some (.ref a)) → XRep X.K ca H m x cls d → cc = ca x.cls → xiDs x ts = some ds → (∀ vs, RepDs X.K H m ds vs → Q vs H) → ta σ H Q
theorem xi_c {X : Cx} {i : Nat} {cc : Addr} {p : P} {v : V} (h : ∀ X : Cx, PE X e (tC v)) (hp : ∀ (K : PySem.W.Frag) (H : Hp), RepP K H p v) : XiE X i cc e (.c p) :=
  ⟨fun a oe cls d pn hz hf => ⟨_, h _, fun σ H Q ca m x dv hσ hx hcc e q => by cases e; exact q _ (hp _ _)⟩⟩
theorem xi_str {X : Cx} {i : Nat} {cc : Addr} {z : Str} {j} : XiE X i cc (.Constant (.str z) j pos) (.c (.str z)) := xi_c (fun _ => pe_str) fun _ _ => rfl
theorem xi_non {X : Cx} {i : Nat} {cc : Addr} {j} : XiE X i cc (.Constant .none j pos) (.c .non) := xi_c (fun _ => pe_non) fun _ _ => rfl
theorem xi_bl {X : Cx} {i : Nat} {cc : Addr} {b : Bool} {j} : XiE X i cc (.Constant (.bool b) j pos) (.c (.bl b)) := xi_c (fun _ => pe_bl) fun _ _ => rfl
theorem xi_int {X : Cx} {i : Nat} {cc : Addr} {b : Int} {j} : XiE X i cc (.Constant (.int b) j pos) (.c (.int b)) := xi_c (fun _ => pe_int) fun _ _ => rfl
theorem xi_f {X : Cx} {i : Nat} {cc : Addr} {n y : Str} {py : Pos} (T : XfC X.K cc) (hno : PySem.W.findIn X.K (.ref cc) n = some none) (hN : X.N[i]? = some y := by rfl) (hv : Vis X.env.scope y := by first | exact Or.inl rfl | exact Or.inr (Or.inl rfl) | exact Or.inr (Or.inr rfl)) (hd : (y == ("__debug__" : Str)) = false := by decide) (hcd : (y == ("__classdict__" : Str)) = false := by decide)
    (hb : attributeBase (.Name y py) n X.env (eval (.Name y py) X.env) = eval (.Name y py) X.env := by rfl) : XiE X i cc (.Attribute (.Name y py) n pos) (.f n) :=
  ⟨fun a oe cls d pn hz hf => ⟨_, pe_xf (X := X) (C := cc) T hno hz hf (pe_var (i := i) (X := X.suite a ((a, oe) :: pn)) hN hv hd hcd) hb, fun σ H Q ca m x dv hσ hx hcc e q => by
    obtain ⟨h1, h2⟩ := hx
    rcases h2 with h2 | ⟨dd, fs, rfl, hd, hl⟩
    · have e : x.fs.lookup n = some dv := e
      rw [h2] at e; cases e
    · obtain ⟨v, lv, rv⟩ := hl n dv e
      exact ⟨_, hσ, rfl, by rw [h1, hcc], dd, fs, v, rfl, hd, lv, q v rv⟩⟩⟩
theorem xa_nil {X : Cx} {i : Nat} {cc : Addr} : XiA X i cc [] [] := ⟨fun a oe cls d pn hz hf => ⟨_, pa_nil, fun σ H Q ca m x ds hσ hx hcc e q => by cases e; exact q [] rfl⟩⟩
theorem xa_cons {X : Cx} {i : Nat} {cc : Addr} {t : XI} {ts : List XI} (h : XiE X i cc e t) (h' : XiA X i cc es ts) (hs : starEach (e :: es) X.env = (false, eval e X.env) :: starEach es X.env := by rfl) : XiA X i cc (e :: es) (t :: ts) :=
  ⟨fun a oe cls d pn hz hf => by
    obtain ⟨te, pe, he⟩ := h.run a oe cls d pn hz hf
    obtain ⟨ta, pa, ha⟩ := h'.run a oe cls d pn hz hf
    refine ⟨_, pa_cons pe pa hs, fun σ H Q ca m x ds hσ hx hcc e q => ?_⟩
    cases e1 : xiD x t with
    | none => simp [xiDs, e1] at e
    | some d1 =>
      cases e2 : xiDs x ts with
      | none => simp [xiDs, e1, e2] at e
      | some ds' =>
        simp [xiDs, e1, e2] at e
        subst e
        exact he σ H _ ca m x d1 hσ hx hcc e1 fun v rv => ha σ H _ ca m x ds' hσ hx hcc e2 fun vs rvs => q _ ⟨v, vs, rfl, rv, rvs⟩⟩
structure XvE (X : Cx) (i : Nat) (cc : Addr) (e : Expr) (t : XV) : Prop where
  run : ∀ (a : Addr) (oe : Obj) (cls : Value) (d : Option Addr) (pn : List (Addr × Obj)), Zc cls d oe → (∃ vs, oe.data = .fields vs) → ∃ te : TE, PE (X.suite a ((a, oe) :: pn)) e te ∧
    ∀ (σ : L2.St) (H : Hp) (Q : VK) (ca : Str → Addr) (m : List Addr) (s : S) (x : Xc) (dv : D), σ[i]? = some (some (.ref a)) → StRep X.K ca m H s → XRep X.K ca H m x cls d → cc = ca x.cls → xvD x t = some dv → (∀ H' v, Ext m H m H' → StRep X.K ca m H' s → RepD X.K H' m dv v → Q v H') → te σ H Q
theorem xv_one {X : Cx} {i : Nat} {cc : Addr} {t : XI} (h : XiE X i cc e t) : XvE X i cc e (.one t) :=
  ⟨fun a oe cls d pn hz hf => by
    obtain ⟨te, pe, he⟩ := h.run a oe cls d pn hz hf
    exact ⟨te, pe, fun σ H Q ca m s x dv hσ st hx hcc e q => he σ H Q ca m x dv hσ hx hcc e fun v rv => q H v (Ext.refl _ _) st rv⟩⟩
theorem xv_tup {X : Cx} {i : Nat} {cc : Addr} {ts : List XI} {k : Nat} (h : XiA X i cc es ts) (hz : ts.length ≤ 1000 := by decide) : XvE X i cc (.Tuple es k pos) (.tup ts) :=
  ⟨fun a oe cls d pn hzc hf => by
    obtain ⟨ta, pa, ha⟩ := h.run a oe cls d pn hzc hf
    refine ⟨_, pe_tup pa, fun σ H Q ca m s x dv hσ st hx hcc e q => ?_⟩
    cases e1 : xiDs x ts with
    | none => simp [xvD, e1] at e
    | some ds =>
      simp [xvD, e1] at e
      subst e
      refine ha σ H _ ca m x ds hσ hx hcc e1 fun vs rvs => ⟨?_, fun p hp => ?_⟩
      · rw [← rvs.len, xiDs_len e1, sizeLine_eq]
        omega
      · obtain ⟨x1, st1, r1⟩ := new_pair st rvs hp
        exact q _ _ x1 st1 r1⟩
/-- one clause -/
@[simp] def bTryR (i : Nat) (B : Bl) (ex : Str → Option Bool) (c : Str) (t : XV) (ρ : Env) (s : S) : Fl := match B ρ s with
  | .ex x ρ' s' => match ex x.cls with
    | some true => if x.cls = c ∧ i < ρ'.length then match xvD x t with
        | some d => .rt d s'
        | none => .no
      else .no
    | some false => .ex x ρ' s'
    | none => .no
  | o => o
/-- the body's context -/
abbrev G.tr (g : G) (W : WX) (pn : List (Addr × Obj)) (xe : Value → Shared → Prop) : G := ⟨g.X.tr pn xe, g.ca, W, g.k⟩
theorem G.Ok.tr {g : G} (o : g.Ok) {W : WX} {pn : List (Addr × Obj)} {xe : Value → Shared → Prop} (tk : Takes (g.X.tr pn xe) W) : (g.tr W pn xe).Ok := ⟨tk, o.hr⟩
theorem es_tryR {B : Bl} {ex : Str → Option Bool} {c x y : Str} {i : Nat} {t : XV} {np pos2 rpos : Pos} {body : List Stmt} (o : g.Ok) (hN : g.X.N.Nodup) (hi : g.X.N[i]? = some y) (hy : g.X.env.kindOf y = some .local) (hg : Gl g.X x) (hdb : (x == ("__debug__" : Str)) = false) (hm : g.X.mg x = some (.ref (g.ca x)))
    (hex : ∀ z b, ex z = some b → PySem.W.exmOne g.X.K (.ref (g.ca z)) (.ref (g.ca x)) = some b) (hb : ∀ (W : WX) (pn : List (Addr × Obj)) (xe : Value → Shared → Prop), (g.tr W pn xe).Ok → PassesOwn (model g.X.prog g.X.w) g.X.A g.X.env xe → EvB (g.tr W pn xe) body B)
    (hv : XvE g.X i (g.ca c) e t) (hs : g.X.stack = g.X.env :: g.X.outer := by rfl) (hf : g.X.env.frame = some g.X.env.locals := by rfl) :
    EvS g (.Try body [.ExceptHandler (some (.Name x np)) (some y) [.Return (some e) rpos] pos2] [] [] pos) (bTryR i B ex c t) := by
  refine PS.imp (ps_try_as (c := .ref (g.ca x)) (i := i) (tb := fun W => tS g.X.K g.ca W B) (ts := fun a cls d D σ H => ∃ m s x dv, σ[i]? = some (some (.ref a)) ∧ StRep g.X.K g.ca m H s ∧ XRep g.X.K g.ca H m x cls d ∧ g.ca c = g.ca x.cls ∧ xvD x t = some dv ∧ ∀ H' v, Ext m H m H' → StRep g.X.K g.ca m H' s → RepD g.X.K H' m dv v → D.rt v H') hs hf hN hi hy ⟨hg, hdb, .inl hm⟩ o.tk
    (fun W pn xe tk pa => hb W pn xe (o.tr tk) pa) fun a oe cls d pn hz hfl => ?_) fun D σ H h => ?_
  · obtain ⟨te, pe, hte⟩ := hv.run a oe cls d pn hz hfl
    exact PSs.imp (pss_one (ps_ret pe)) fun D σ H h => by
      obtain ⟨m, s, x, dv, h1, h2, h3, h4, h5, h6⟩ := h
      exact hte σ H _ g.ca m s x dv h1 h2 h3 h4 h5 h6
  · obtain ⟨m, ρ, s, rel, h⟩ := h
    refine ⟨m, ρ, s, rel, ?_⟩
    unfold bTryR at h
    cases eB : B ρ s with
    | ex z ρ' s' =>
      rw [eB] at h
      simp only at h
      cases ez : ex z.cls with
      | none => rw [ez] at h; exact h.elim
      | some b =>
        rw [ez] at h
        intro m' H' σ' cv od x r q
        have hcv : cv = .ref (g.ca z.cls) := q.1
        refine ⟨b, by rw [hcv]; exact hex _ _ ez, fun hb a ha => ?_, fun hb => ?_⟩
        · subst hb
          simp only at h
          split at h
          · rename_i hzc
            cases ev : xvD z t with
            | none => rw [ev] at h; exact h.elim
            | some dv =>
              rw [ev] at h
              refine ⟨m', s', z, dv, ?_, r.sto, q, by rw [hzc.1], ev, fun H2 v x2 st2 r2 => h m' H2 v (x.trans x2) st2 r2⟩
              have hl : i < σ'.length := by rw [← r.env.1]; exact hzc.2
              rw [List.getElem?_set_self hl]
          · exact h.elim
        · subst hb
          exact h m' H' σ' cv od x r q
    | nx ρ' s' => rw [eB] at h; exact h
    | rt d s' => rw [eB] at h; exact h
    | bk ρ' s' => rw [eB] at h; exact h
    | ct ρ' s' => rw [eB] at h; exact h
    | no => rw [eB] at h; exact h.elim
end
end Mo

set_option Elab.async false
set_option linter.all false
set_option maxRecDepth 100000
set_option maxHeartbeats 4000000
/-! one reading or another; in -/
namespace Mo
open PySem PySem.Spec PyProof.Rows L2
@[simp] def orE (A B : Ex) (ρ : Env) (s : S) : Out D := match A ρ s with
  | .no => B ρ s
  | o => o
@[simp] def orT (A B : Te) (ρ : Env) (s : S) : Out Bool := match A ρ s with
  | .no => B ρ s
  | o => o
@[simp] def orB (A B : Bl) (ρ : Env) (s : S) : Fl := match A ρ s with
  | .no => B ρ s
  | o => o
section
variable {g : G} {a b c e o elt tg iter : Expr} {A B C_ O : Ex} {T U : Te} {pos pos' cpos apos : Pos} {es ifs : List Expr} {As : Ar} {st : Stmt} {B1 B2 : Bl}
theorem ev_or2 (h : EvE g e A) (h' : EvE g e B) : EvE g e (orE A B) := PE.imp (PE.or h h') fun σ H Q q => by
  obtain ⟨m, ρ, s, rel, q⟩ := q
  unfold orE at q
  cases eA : A ρ s with
  | no => rw [eA] at q; exact .inr ⟨m, ρ, s, rel, q⟩
  | ok d s1 => rw [eA] at q; exact .inl ⟨m, ρ, s, rel, by rw [eA]; exact q⟩
  | ex x s1 => rw [eA] at q; exact .inl ⟨m, ρ, s, rel, by rw [eA]; exact q⟩
theorem PT.or {X : Cx} {e : Expr} {t t' : TT} (h : PT X e t) (h' : PT X e t') : PT X e (fun σ H Q => t σ H Q ∨ t' σ H Q) := ⟨fun pins s σ H Q I q => q.elim (h.run pins s σ H Q I) (h'.run pins s σ H Q I)⟩
theorem PS.or {X : Cx} {e : Stmt} {t t' : TS} (h : PS X e t) (h' : PS X e t') : PS X e (fun D σ H => t D σ H ∨ t' D σ H) := ⟨fun pins s σ H D I q => q.elim (h.run pins s σ H D I) (h'.run pins s σ H D I)⟩
theorem et_or2 (h : EvT g e T) (h' : EvT g e U) : EvT g e (orT T U) := PT.imp (PT.or h h') fun σ H Q q => by
  obtain ⟨m, ρ, s, rel, q⟩ := q
  unfold orT at q
  cases eA : T ρ s with
  | no => rw [eA] at q; exact .inr ⟨m, ρ, s, rel, q⟩
  | ok d s1 => rw [eA] at q; exact .inl ⟨m, ρ, s, rel, by rw [eA]; exact q⟩
  | ex x s1 => rw [eA] at q; exact .inl ⟨m, ρ, s, rel, by rw [eA]; exact q⟩
theorem es_or2 (h : EvS g st B1) (h' : EvS g st B2) : EvS g st (orB B1 B2) := PS.imp (PS.or h h') fun D σ H q => by
  obtain ⟨m, ρ, s, rel, q⟩ := q
  unfold orB at q
  cases eA : B1 ρ s with
  | no => rw [eA] at q; exact .inr ⟨m, ρ, s, rel, q⟩
  | _ => rw [eA] at q; exact .inl ⟨m, ρ, s, rel, by rw [eA]; exact q⟩
/-! x in a list of data -/
theorem DpAll.ofPs {K : PySem.W.Frag} {H : Hp} {m : List Addr} {ps : List P} {vs : List V} (r : RepDs K H m (ps.map D.p) vs) : DpAll K H vs (toPDs ps) := dps_of (RepPs.ofD r)
theorem toPDs_map : ∀ ps : List P, toPDs ps = ps.map toPD
  | [] => rfl
  | p :: ps => by unfold toPDs; rw [toPDs_map ps]; rfl
def inD (n : Bool) : D → D → S → Option (D × S) := fun x y s => match x, (viL s y).bind allP with
  | .p a, some ps => if (shp a && SeqAt.shaped (.list (toPDs ps))) = true then some (.p (.bl (xor n (ps.any fun z => eqP z a))), s) else none
  | _, _ => none
theorem inD_pre {m : List Addr} {H : Hp} {s : S} {x y : D} {vx vy : V} {n : Bool} {Q : VK} (st : StRep g.X.K g.ca m H s) (rx : RepD g.X.K H m x vx) (ry : RepD g.X.K H m y vy) (ans : Ans g m H Q (inD n x y s)) :
    ∃ d ds, Dp g.X.K H vx d ∧ Dp g.X.K H vy (.list ds) ∧ SeqAt.shaped d = true ∧ SeqAt.shaped (.list ds) = true ∧ Q (.bl (xor n (ds.any fun z => PyData.eqv z d))) H := by
  unfold inD at ans
  split at ans
  · rename_i a ps e
    split at ans
    · rename_i hs
      obtain ⟨h1, h2⟩ := Bool.and_eq_true_iff.mp hs
      cases ev : viL s y with
      | none => rw [ev] at e; cases e
      | some ds =>
        rw [ev] at e
        have := allP_eq (show allP ds = some ps from e)
        subst this
        obtain ⟨ad, vs, rfl, q, rr⟩ := viL_ok st ry ev
        refine ⟨_, _, dp_of rx, .lst q (DpAll.ofPs rr), h1, h2, ?_⟩
        have : ((toPDs ps).any fun z => PyData.eqv z (toPD a)) = ps.any fun z => eqP z a := by rw [toPDs_map, List.any_map]; rfl
        rw [this]
        exact ans.same st (v := .bl _) rfl
    · exact ans.none.elim
  · exact ans.none.elim
theorem inD_ok : OpS g (inD false) (rInD g.X.K) := fun m H s x y vx vy Q st rx ry ans => by
  obtain ⟨d, ds, h1, h2, h3, h4, h5⟩ := inD_pre st rx ry ans
  exact ⟨d, ds, h1, h2, h3, h4, by simpa using h5⟩
theorem ninD_ok : OpS g (inD true) (rNotInD g.X.K) := fun m H s x y vx vy Q st rx ry ans => by
  obtain ⟨d, ds, h1, h2, h3, h4, h5⟩ := inD_pre st rx ry ans
  exact ⟨d, ds, h1, h2, h3, h4, by simpa using h5⟩
theorem G.Ok.hu65 (o : g.Ok) : g.X.A.units + 65 < cLine := by have := o.hr.un; omega
/-! in a tuple, in a text -/
def rInDT (K : PySem.W.Frag) (n : Bool) : R2 := fun x y H Q => ∃ d ds, Dp K H x d ∧ Dp K H y (.tuple ds) ∧ SeqAt.shaped d = true ∧ SeqAt.shaped (.tuple ds) = true ∧ Q (.bl (xor n (ds.any fun z => PyData.eqv z d))) H
theorem op_inDT {X : Cx} (hu : X.A.units + 65 < cLine) : OpR X (compareOp .In) (rInDT X.K false) := by
  intro pins s σ H x y v u Q I rx ry h
  obtain ⟨d, ds, hd, he, sd, se, q⟩ := h
  obtain ⟨as, r1⟩ := Dp.reads I d x v hd rx
  obtain ⟨bs, r2⟩ := Dp.reads I (.tuple ds) y u he ry
  rw [Bool.false_xor] at q
  exact SeqAt.in_tuple_reads r2 r1 (SeqAt.canLay_of_shaped se) (SeqAt.canLay_of_shaped sd) (room_in_shaped sd hu) ⟨.bl _, H, I, rfl, q⟩
theorem op_ninDT {X : Cx} (hu : X.A.units + 65 < cLine) : OpR X (compareOp .NotIn) (rInDT X.K true) := by
  intro pins s σ H x y v u Q I rx ry h
  obtain ⟨d, ds, hd, he, sd, se, q⟩ := h
  obtain ⟨as, r1⟩ := Dp.reads I d x v hd rx
  obtain ⟨bs, r2⟩ := Dp.reads I (.tuple ds) y u he ry
  rw [Bool.true_xor] at q
  exact SeqAt.notIn_tuple_reads r2 r1 (SeqAt.canLay_of_shaped se) (SeqAt.canLay_of_shaped sd) (room_in_shaped sd hu) ⟨.bl _, H, I, rfl, q⟩
def inT (n : Bool) : D → D → S → Option (D × S) := fun x y s => match x, (viT y).bind allP with
  | .p a, some ps => if (shp a && SeqAt.shaped (.tuple (toPDs ps))) = true then some (.p (.bl (xor n (ps.any fun z => eqP z a))), s) else none
  | _, _ => none
theorem inT_ok {n : Bool} : OpS g (inT n) (rInDT g.X.K n) := fun m H s x y vx vy Q st rx ry ans => by
  unfold inT at ans
  split at ans
  · rename_i a ps e
    split at ans
    · rename_i hs
      obtain ⟨h1, h2⟩ := Bool.and_eq_true_iff.mp hs
      cases ev : viT y with
      | none => rw [ev] at e; cases e
      | some ds =>
        rw [ev] at e
        have := allP_eq (show allP ds = some ps from e)
        subst this
        obtain ⟨ad, vs, rfl, q, rr⟩ := viT_ok ry ev
        refine ⟨_, _, dp_of rx, .tup q (DpAll.ofPs rr), h1, h2, ?_⟩
        have : ((toPDs ps).any fun z => PyData.eqv z (toPD a)) = ps.any fun z => eqP z a := by rw [toPDs_map, List.any_map]; rfl
        rw [this]
        exact ans.same st (v := .bl _) rfl
    · exact ans.none.elim
  · exact ans.none.elim
/-- a text in a text -/
def occ (i j : Str) : Bool := !(Builtin.Str.occurrences j i 0 j.length 1).isEmpty
def inSt (n : Bool) : D → D → S → Option (D × S) := fS cT fun i j => .bl (xor n (occ i j))
theorem inS_ok : OpS g (inSt false) (fun x y H Q => ∃ i j, x = .str i ∧ y = .str j ∧ Q (.bl (!(Builtin.Str.occurrences j i 0 j.length 1).isEmpty)) H) := by
  intro m H s x y vx vy Q st rx ry ans
  unfold inSt fS at ans
  split at ans
  · rename_i i j
    refine ⟨i, j, rx, ry, ?_⟩
    simp only [cT, if_true, Bool.false_xor] at ans
    exact ans.same st (v := .bl _) rfl
  · exact ans.none.elim
theorem ninS_ok : OpS g (inSt true) (fun x y H Q => ∃ i j, x = .str i ∧ y = .str j ∧ Q (.bl (!(!(Builtin.Str.occurrences j i 0 j.length 1).isEmpty))) H) := by
  intro m H s x y vx vy Q st rx ry ans
  unfold inSt fS at ans
  split at ans
  · rename_i i j
    refine ⟨i, j, rx, ry, ?_⟩
    simp only [cT, if_true, Bool.true_xor] at ans
    exact ans.same st (v := .bl _) rfl
  · exact ans.none.elim
def dInA (n : Bool) : D → D → S → Option (D × S) := alt (inD n) (alt (inT n) (inSt n))
theorem ev_inD (o : g.Ok) (ha : EvE g a A) (hb : EvE g b B) (hm : behindInMarks .In b = false := by rfl) : EvE g (.Compare a [.In] [b] pos) (eOp (dInA false) A B) := ev_cmp (OpR.or (op_inD o.hu65) (OpR.or (op_inDT o.hu65) op_in_str)) (inD_ok.alt (inT_ok.alt inS_ok)) ha hb hm
theorem ev_ninD (o : g.Ok) (ha : EvE g a A) (hb : EvE g b B) (hm : behindInMarks .NotIn b = false := by rfl) : EvE g (.Compare a [.NotIn] [b] pos) (eOp (dInA true) A B) := ev_cmp (OpR.or (op_notInD o.hu65) (OpR.or (op_ninDT o.hu65) op_notin_str)) (ninD_ok.alt (inT_ok.alt ninS_ok)) ha hb hm
theorem et_inD (o : g.Ok) (ha : EvE g a A) (hb : EvE g b B) (hm : behindInMarks .In b = false := by rfl) : EvT g (.Compare a [.In] [b] pos) (tV (eOp (dInA false) A B)) := et_cmp (OpR.or (op_inD o.hu65) (OpR.or (op_inDT o.hu65) op_in_str)) (inD_ok.alt (inT_ok.alt inS_ok)) ha hb hm
theorem et_ninD (o : g.Ok) (ha : EvE g a A) (hb : EvE g b B) (hm : behindInMarks .NotIn b = false := by rfl) : EvT g (.Compare a [.NotIn] [b] pos) (tV (eOp (dInA true) A B)) := et_cmp (OpR.or (op_notInD o.hu65) (OpR.or (op_ninDT o.hu65) op_notin_str)) (ninD_ok.alt (inT_ok.alt ninS_ok)) ha hb hm
@[simp] def eSub (A B : Ex) : Ex := orE (eOp dIx A B) (eDGet A B)
theorem ev_subs (o : g.Ok) (ha : EvE g a A) (hb : EvE g b B) (hs : PlainIx b := by exact fun _ _ => rfl) (hs' : NoSl b := by exact fun _ _ => rfl) : EvE g (.Subscript a b pos) (eSub A B) := ev_or2 (ev_ix ha hb hs) (ev_dget o ha hb hs')
@[simp] def eIn (n : Bool) (A B : Ex) : Ex := orE (eOp (dInA n) A B) (eDIn n A B)
@[simp] def tIn (n : Bool) (A B : Ex) : Te := orT (tV (eOp (dInA n) A B)) (tV (eDIn n A B))
theorem ev_in (o : g.Ok) (ha : EvE g a A) (hb : EvE g b B) (hm : behindInMarks .In b = false := by rfl) : EvE g (.Compare a [.In] [b] pos) (eIn false A B) := ev_or2 (ev_inD o ha hb hm) (ev_din o ha hb hm)
theorem ev_nin (o : g.Ok) (ha : EvE g a A) (hb : EvE g b B) (hm : behindInMarks .NotIn b = false := by rfl) : EvE g (.Compare a [.NotIn] [b] pos) (eIn true A B) := ev_or2 (ev_ninD o ha hb hm) (ev_dnin o ha hb hm)
theorem et_in (o : g.Ok) (ha : EvE g a A) (hb : EvE g b B) (hm : behindInMarks .In b = false := by rfl) : EvT g (.Compare a [.In] [b] pos) (tIn false A B) := et_or2 (et_inD o ha hb hm) (et_din o ha hb hm)
theorem et_nin (o : g.Ok) (ha : EvE g a A) (hb : EvE g b B) (hm : behindInMarks .NotIn b = false := by rfl) : EvT g (.Compare a [.NotIn] [b] pos) (tIn true A B) := et_or2 (et_ninD o ha hb hm) (et_dnin o ha hb hm)
end
end Mo

set_option Elab.async false
set_option linter.all false
set_option maxRecDepth 100000
set_option maxHeartbeats 4000000
namespace Mo
open PySem PySem.Spec PyProof.Rows L2
theorem fn_no {P : Program} {w : World} {K : PySem.W.Frag} {mg : Str → Option Value} {base : Heap} {ca : Str → Addr} {CX : CXT} {k n : Nat} {f : Addr} {fd : FuncData} {ps : List Str} (h : ps.length = n) : FnOk P w K mg base CX k f fd ps (spF K ca n fun _ _ => .no) :=
  ⟨fun vs H Q E h' => by rw [h]; exact h'.1, fun A outer s H args us vs Q E _ _ _ _ h' => by
    obtain ⟨_, m, ds, st, _, _, e⟩ := h'
    exact e.elim⟩
theorem ex_of {K : PySem.W.Frag} {ca : Str → Addr} {x : Str} (e : PySem.W.exmOne K (.ref (ca x)) (.ref (ca x)) = some true) : ∀ z b, (fun z : Str => if z = x then some true else none) z = some b → PySem.W.exmOne K (.ref (ca z)) (.ref (ca x)) = some b := fun z b h => by
  by_cases hz : z = x
  · subst hz
    simp at h
    subst h
    exact e
  · simp [hz] at h
end Mo
namespace Mo
open PySem PySem.Spec PyProof.Rows L2
theorem lc_mk {g : G} {own : List (Str × Nat)} {scope : Scope} {tg : Expr} {T : Pt} {ifs : List Expr} {U : Te} {elt : Expr} {A : Ex} (o : g.Ok) (ok : BlkOk g.X.N g.X.env.scope scope own) (sub : ∀ i ∈ T.sl, i ∈ own.map (·.2))
    (hg : ∀ (s : Shared) (H : Hp) (C : Addr) (cl : List (Str × Addr)) (fp : List Addr), EvGt (g.blk s H scope cl C fp) tg T) (ht : ∀ (s : Shared) (H : Hp) (C : Addr) (cl : List (Str × Addr)) (fp : List Addr), (g.blk s H scope cl C fp).Ok → EvTs (g.blk s H scope cl C fp) ifs U)
    (he : ∀ (s : Shared) (H : Hp) (C : Addr) (cl : List (Str × Addr)) (fp : List Addr), (g.blk s H scope cl C fp).Ok → EvE (g.blk s H scope cl C fp) elt A) : Lc g own scope tg T ifs U elt A :=
  ⟨ok, sub, hg, fun s H C cl fp => ht s H C cl fp o.blk, fun s H C cl fp => he s H C cl fp o.blk⟩
end Mo

set_option Elab.async false
set_option linter.all false
set_option maxRecDepth 100000
set_option maxHeartbeats 4000000
/-! a tuple turned round -/
namespace Mo
open PySem PySem.Spec PyProof.Rows L2 HT
section
variable {prog : Program} {w : World} {A : Around} {E : Value → Shared → Prop} {s : Shared}
theorem adjust_rev (n : Nat) : Builtin.Slice.sliceAdjust none none (-1) (n : Int) = ((n : Int) - 1, -1) := by
  unfold Builtin.Slice.sliceAdjust
  simp
theorem places_rev (n : Nat) : Builtin.Slice.slicePlaces ((n : Int) - 1) (-1) (-1) = n := by
  unfold Builtin.Slice.slicePlaces
  have h1 : ¬ ((-1 : Int) > 0) := by decide
  have h2 : (- -1 : Int) = 1 := by decide
  simp only [h1, if_false, h2, Int.ediv_one]
  split <;> omega
theorem applied_rev {sl : Addr} {vl vu vs : Value} {n : Nat} {Q : Int × Int × Nat → Shared → Prop} (hs : s.heap.IsSliceOf sl vl vu vs) (pl : IsPart vl none) (pu : IsPart vu none) (ps : IsPart vs (some (-1)))
    (h : Q ((n : Int) - 1, -1, n) s) : wpAny (model prog w) A (Builtin.Slice.sliceApplied (.ref sl) (pure (n : Int))) Q E s := by
  obtain ⟨os, hos, hcs, hds⟩ := id hs
  unfold Builtin.Slice.sliceApplied Builtin.Slice.sliceFields
  refine wpAny_bind (wpAny_bind (wpAny_field hos hds (x := vl) rfl (wpAny_bind (wpAny_field hos hds (x := vu) rfl (wpAny_bind (wpAny_field hos hds (x := vs) rfl (wpAny_pure ?_)))))))
  refine wpAny_bind (slicePart_ ps ?_)
  show wpAny _ _ (if ((-1 : Int) == 0) = true then _ else _) _ _ s
  rw [if_neg (by decide)]
  refine wpAny_bind (slicePart_ pl (wpAny_bind (slicePart_ pu (wpAny_bind (wpAny_pure ?_)))))
  show wpAny _ _ (match Builtin.Slice.sliceAdjust none none (-1) (n : Int) with | (lo, hi) => pure (lo, (-1 : Int), Builtin.Slice.slicePlaces lo hi (-1))) _ _ s
  rw [adjust_rev n]
  show wpAny _ _ (pure ((n : Int) - 1, (-1 : Int), Builtin.Slice.slicePlaces ((n : Int) - 1) (-1) (-1))) _ _ s
  rw [places_rev]
  exact wpAny_pure h
theorem pick_rev (xs : Array Value) : ((List.range xs.size).filterMap fun (m : Nat) => xs[(((xs.size : Int) - 1) + (m : Int) * (-1)).toNat]?).toArray = xs.toList.reverse.toArray := by
  congr 1
  apply List.ext_getElem?
  intro i
  have key : ∀ (l : List Nat) (f : Nat → Option Value) (g : Nat → Value), (∀ m ∈ l, f m = some (g m)) → l.filterMap f = l.map g := by
    intro l f g
    induction l with
    | nil => intro _; rfl
    | cons m l ih =>
      intro h
      rw [List.filterMap_cons, h m (List.mem_cons_self ..), List.map_cons, ih fun k hk => h k (List.mem_cons_of_mem _ hk)]
  by_cases h0 : xs.size = 0
  · simp [h0]
  · have d : 0 < xs.size := by omega
    rw [key _ _ (fun m => xs[xs.size - 1 - m]'(by omega)) fun m hm => by
      have := List.mem_range.mp hm
      have e : (((xs.size : Int) - 1) + (m : Int) * (-1)).toNat = xs.size - 1 - m := by omega
      rw [e]
      exact Array.getElem?_eq_getElem (by omega)]
    by_cases hi : i < xs.size
    · rw [List.getElem?_map, List.getElem?_range hi, Option.map_some, List.getElem?_reverse (by simpa using hi)]
      rw [List.getElem?_eq_getElem (by simp; omega)]
      simp
    · rw [List.getElem?_eq_none (by simp; omega), List.getElem?_eq_none (by simp; omega)]
theorem getItem_rev {t sl : Addr} {items : Array Value} {vl vu vs : Value} {Q : Value → Shared → Prop} (ht : IsTup s.heap t items) (hs : s.heap.IsSliceOf sl vl vu vs) (pl : IsPart vl none) (pu : IsPart vu none) (ps : IsPart vs (some (-1)))
    (h : Q (.ref s.heap.objs.size) { s with heap := s.heap.push { cls := .type "tuple", data := .seq items.toList.reverse.toArray } }) (hsz : items.size ≤ sizeLine) : wpAny (model prog w) A (getItem (.ref t) (.ref sl)) Q E s := by
  have htake : sizeOk (.seq items.toList.reverse.toArray) := by
    show items.toList.reverse.toArray.size ≤ sizeLine
    simpa using hsz
  obtain ⟨os, hos, hcs, hds⟩ := id hs
  have hTs : s.TypeIs (.ref sl) "slice" := ⟨os, hos, hcs⟩
  unfold getItem
  try with_reducible refine wpAny_holding ?_
  first | refine wpAny_bind (wpAny_pure ?_) | skip
  refine wpAny_bind (wpAny_sequenceKey ht.typeIs (by decide) ?_)
  refine wpAny_bind (wpAny_callSpecial?_slot (name := Str.ofString "__getitem__") ht.typeIs PyProof.Rows.slot_tuple_getitem
    (wpAny_call_entry PyProof.Rows.slot_tuple_getitem ht.typeIs entry_tuple_getitem ?_ (args_tuple_getitem _ _)))
  show wpAny _ _ (Builtin.Tuple.tupleItemsOf (.ref t) >>= _) _ _ s
  refine wpAny_bind (tupleItemsOf_ ht ?_)
  refine wpAny_bind (wpAny_typeOf hTs ?_)
  rw [if_pos (by decide)]
  refine wpAny_bind (applied_rev hs pl pu ps ?_)
  have hno : ¬ ((((items.size : Int) - 1) == 0 && (-1 : Int) == 1 && items.size == items.size) = true) := by
    intro q
    rw [Bool.and_eq_true, Bool.and_eq_true] at q
    exact absurd q.1.2 (by decide)
  show wpAny _ _ (if (((items.size : Int) - 1) == 0 && (-1 : Int) == 1 && items.size == items.size) = true then _ else _) _ _ s
  rw [if_neg hno, pick_rev]
  first
    | exact wpAny_bind (m := Builtin.Tuple.tupleExact _) (wpAny_newObj_type (wpAny_pure ⟨_, rfl, wpAny_pure h⟩) htake)
    | exact wpAny_bind (m := Builtin.Tuple.tupleExact _) (wpAny_newObj_type (wpAny_bind (wpAny_pure (wpAny_pure ⟨_, rfl, wpAny_pure h⟩))) htake)
    | exact wpAny_bind (wpAny_bind (m := Builtin.Tuple.tupleExact _) (wpAny_newObj_type (wpAny_pure (wpAny_pure ⟨_, rfl, wpAny_pure h⟩)) htake))
    | exact wpAny_bind (wpAny_bind (m := Builtin.Tuple.tupleExact _) (wpAny_newObj_type (wpAny_pure ⟨_, rfl, wpAny_pure h⟩) htake))
end
def tRevT (K : PySem.W.Frag) (te : TE) : TE := fun σ H Q => te σ H fun x H1 => ∃ a xs, x = .ref a ∧ SqT K H1 a xs ∧ ∀ p, H1 p = none → Q (.ref p) (upd H1 p (.tup xs.reverse))
theorem pe_revT {X : Cx} {e : Expr} {te : TE} {k : Nat} {p1 p2 p3 pos : Pos} (he : PE X e te) : PE X (.Subscript e (.Slice none none (some (.UnaryOp .USub (.Constant (.int 1) k p1) p2)) p3) pos) (tRevT X.K te) := by
  refine ⟨fun pins s σ H Q I h => ?_⟩
  refine Subscript_ (thn (he.run pins s σ H _ I h) fun v s1 ⟨x, H1, I1, r1, q1⟩ => ?_)
  obtain ⟨a, xs, ex, hx, q⟩ := q1
  subst ex
  cases r1
  have hst : PO X (some (.UnaryOp .USub (.Constant (.int 1) k p1) p2)) (tPart (tUn (rU fun i => .int (-i)) (tC (.int 1)))) := po_some (pe_un un_neg pe_int)
  refine wpAny_Slice (thn (po_none.run pins s1 σ H1 (fun o H2 => o = none ∧ H2 = H1) I1 ⟨rfl, rfl⟩) fun vl s2 ⟨l, H2, I2, pl, el, e2⟩ => ?_)
  subst el e2
  refine thn (po_none.run pins s2 σ H2 (fun o H3 => o = none ∧ H3 = H2) I2 ⟨rfl, rfl⟩) fun vu s3 ⟨u, H3, I3, pu, eu, e3⟩ => ?_
  subst eu e3
  refine thn (hst.run pins s3 σ H3 (fun o H4 => o = some (-1) ∧ H4 = H3) I3 ⟨1, rfl, -1, rfl, rfl, rfl⟩) fun vs s4 ⟨o, H4, I4, ps, eo, e4⟩ => ?_
  subst eo e4
  have I5 : Inv X pins σ H4 { s4 with heap := s4.heap.push { cls := .type "slice", data := .fields #[vl, vu, vs] } } := I4.kept (t' := s4.toks) fun b ob q => Heap.get?_push_of_some _ q
  obtain ⟨its, r, ht, hz⟩ := I5.tuple hx
  have hlen := r.length
  show wpAny (model X.prog X.w) X.A (subscriptTail e (.Slice none none (some (.UnaryOp .USub (.Constant (.int 1) k p1) p2)) p3) (.ref a) (.ref s4.heap.objs.size)) (EP X pins σ Q) X.xe { s4 with heap := s4.heap.push { cls := .type "slice", data := .fields #[vl, vu, vs] } }
  refine tail_any (ops := [.ref a, .ref s4.heap.objs.size]) ht.typeIs (PyProof.Rows.slot_tuple_getitem.lookup) ?_ (by with_unfolding_all rfl)
  refine getItem_rev ht (Heap.IsSliceOf.new _ vl vu vs) pl pu ps ?_ (by rw [List.size_toArray]; omega)
  refine ⟨.ref _, _, I5.laid (t' := s4.toks) (o := .tup xs.reverse) (fun b ob q => Heap.get?_push_of_some _ q) (Nat.le_refl _) ?_, rfl, q _ (I5.hok.fresh (Nat.le_refl _))⟩
  exact ⟨by rw [List.length_reverse]; exact hz, _, r.reverse, IsTup.new _ _⟩
end Mo

set_option Elab.async false
set_option linter.all false
set_option maxRecDepth 100000
set_option maxHeartbeats 4000000
/-! texts' methods, sums, zip, lists turned round, list.index -/
namespace Mo
open PySem PySem.Spec PyProof.Rows L2
section
variable {g : G} {a b c e o elt tg iter : Expr} {A B C_ O : Ex} {U : Te} {pos pos' cpos apos : Pos} {es ifs : List Expr} {As : Ar} {Sg : Sr} {T : Pt} {own : List (Str × Nat)} {scope : Scope}
/-- a text's method with one value -/
def M1S (g : G) (f : D → D → S → Option (D × S)) (r : V → List V → Hp → VK → Prop) : Prop := ∀ (m : List Addr) (H : Hp) (s : S) (x y : D) (v w : V) (Q : VK), StRep g.X.K g.ca m H s → RepD g.X.K H m x v → RepD g.X.K H m y w → Ans g m H Q (f x y s) → r v [w] H Q
@[simp] def eM1 (f : D → D → S → Option (D × S)) (O A : Ex) (ρ : Env) (s : S) : Out D := (O ρ s).bind fun o s1 => match o with
  | .p (.str _) => (A ρ s1).bind fun x s2 => ofO (f o x s2)
  | _ => .no
theorem m1_in {f : D → D → S → Option (D × S)} {r : V → List V → Hp → VK → Prop} (q : M1S g f r) {σ : L2.St} {H : Hp} {Q : VK} (h : tE g.X.K g.ca g.W (eM1 f O A) σ H Q) : tM1 r (tE g.X.K g.ca g.W O) (tE g.X.K g.ca g.W A) σ H Q := by
  obtain ⟨m, ρ, s, rel, h⟩ := h
  refine ⟨m, ρ, s, rel, (PO_.bind h).mono fun x s1 m1 H1 ⟨r1, h1⟩ v rv => ?_⟩
  split at h1
  · rename_i z _h
    refine ⟨⟨z, rv⟩, m1, ρ, s1, r1, ?_⟩
    have h2 := PO_.bind h1
    cases e : A ρ s1 with
    | no => rw [e] at h2; exact h2
    | ex y s2 => rw [e] at h2; exact h2
    | ok d s2 =>
      rw [e] at h2
      intro m2 H2 x2 r2 w rw_
      obtain ⟨_, h3⟩ := h2 m2 H2 x2 r2
      exact q m2 H2 s2 (.p (.str z)) d v w Q r2.sto (r1.sto.repD x2.toExtW rv) rw_ (ans_of r2 h3)
  · exact h1.elim
def strsD (ys : List Str) : List D := ys.map fun y => .p (.str y)
def splS : D → D → S → Option (D × S) := fun x y s => match x, y with
  | .p (.str a), .p (.str b) => if ((b.length == 0) = false ∧ a.length + 2 ≤ sizeLine) then some (.lst (strsD (Txt.split a b)), s) else none
  | _, _ => none
theorem splS_ok : M1S g splS (fun x xs H Q => ∃ a b, x = .str a ∧ xs = [.str b] ∧ (b.length == 0) = false ∧ a.length + 2 ≤ sizeLine ∧ rNewStrs (Txt.split a b) H Q) := by
  intro m H s x y v w Q st rx ry ans
  unfold splS at ans
  split at ans
  · rename_i a b
    split at ans
    · rename_i hh
      refine ⟨a, b, rx, by rw [show w = .str b from ry], hh.1, hh.2, fun p hp => ?_⟩
      obtain ⟨d', s', e, h⟩ := ans
      cases e
      exact new_lst st (RepDs.strs _) hp h
    · exact ans.none.elim
  · exact ans.none.elim
theorem ev_split (ho : EvE g o O) (ha : EvE g e A) (hs : starEach [e] g.X.env = [(false, eval e g.X.env)] := by rfl) (hbase : attributeBase o "split" g.X.env (eval o g.X.env) = eval o g.X.env := by rfl) (hline : (apos.endLine == pos.line) = true := by rfl) :
    EvE g (.Call (.Attribute o "split" apos) [e] [] pos) (eM1 splS O A) := PE.imp (pe_split ho ha hs hbase hline) fun _ _ _ h => m1_in splS_ok h
/-- all texts -/
def allS : List D → Option (List Str)
  | [] => some []
  | .p (.str x) :: ds => (allS ds).map (x :: ·)
  | _ :: _ => none
theorem allS_eq : ∀ {ds : List D} {ys : List Str}, allS ds = some ys → ds = strsD ys
  | [], _, h => by cases h; rfl
  | d :: ds, ys, h => by
    unfold allS at h
    split at h
    · cases h; rename_i e; cases e
    · rename_i x ds' e
      cases e
      cases e2 : allS ds with
      | none => rw [e2] at h; cases h
      | some qs => rw [e2] at h; cases h; rw [allS_eq e2]; rfl
    · cases h
@[simp] theorem allS_strs : ∀ ys : List Str, allS (strsD ys) = some ys
  | [] => rfl
  | y :: ys => by
    show (allS (strsD ys)).map _ = _
    rw [allS_strs ys]; rfl
def joiS : D → D → S → Option (D × S) := fun x y s => match x, (viQ s y).bind allS with
  | .p (.str a), some ys => if (ys.map (·.length)).sum + ys.length * a.length ≤ 16777216 then some (.p (.str (Txt.join a ys)), s) else none
  | _, _ => none
theorem joiS_ok : M1S g joiS (fun x xs H Q => ∃ a p, ∃ ys : List Str, x = .str a ∧ xs = [.ref p] ∧ (SqL g.X.K H p (ys.map V.str) ∨ SqT g.X.K H p (ys.map V.str)) ∧ (ys.map (·.length)).sum + ys.length * a.length ≤ 16777216 ∧ Q (.str (Txt.join a ys)) H) := by
  intro m H s x y v w Q st rx ry ans
  unfold joiS at ans
  split at ans
  · rename_i a ys e
    split at ans
    · rename_i hz
      cases eq : viQ s y with
      | none => rw [eq] at e; cases e
      | some ds =>
        rw [eq] at e
        have := allS_eq (show allS ds = some ys from e)
        subst this
        obtain ⟨ad, vs, rfl, q, rr⟩ := viQ_ok st ry eq
        have hv : vs = ys.map V.str := by
          have key : ∀ (ys : List Str) (vs : List V), RepDs g.X.K H m (strsD ys) vs → vs = ys.map V.str := by
            intro ys
            induction ys with
            | nil => intro vs h; exact h
            | cons y ys ih =>
              intro vs h
              obtain ⟨v, r, rfl, h1, h2⟩ := h
              rw [ih r h2, show v = .str y from h1]; rfl
          exact key ys vs rr
        subst hv
        exact ⟨a, ad, ys, rx, rfl, q, hz, ans.same st (v := .str _) rfl⟩
    · exact ans.none.elim
  · exact ans.none.elim
theorem ev_join (ho : EvE g o O) (ha : EvE g e A) (hs : starEach [e] g.X.env = [(false, eval e g.X.env)] := by rfl) (hbase : attributeBase o "join" g.X.env (eval o g.X.env) = eval o g.X.env := by rfl) (hline : (apos.endLine == pos.line) = true := by rfl) :
    EvE g (.Call (.Attribute o "join" apos) [e] [] pos) (eM1 joiS O A) := PE.imp (pe_join ho ha hs hbase hline) fun _ _ _ h => m1_in joiS_ok h
/-- a text's method without values -/
@[simp] def eM0 (f : D → S → Option (D × S)) (O : Ex) (ρ : Env) (s : S) : Out D := (O ρ s).bind fun o s1 => match o with
  | .p (.str _) => ofO (f o s1)
  | _ => .no
theorem m0_in {f : D → S → Option (D × S)} {r : V → List V → Hp → VK → Prop} (q : ∀ (m : List Addr) (H : Hp) (s : S) (x : D) (v : V) (Q : VK), StRep g.X.K g.ca m H s → RepD g.X.K H m x v → Ans g m H Q (f x s) → r v [] H Q) {σ : L2.St} {H : Hp} {Q : VK} (h : tE g.X.K g.ca g.W (eM0 f O) σ H Q) : tM0 r (tE g.X.K g.ca g.W O) σ H Q := by
  obtain ⟨m, ρ, s, rel, h⟩ := h
  refine ⟨m, ρ, s, rel, (PO_.bind h).mono fun x s1 m1 H1 ⟨r1, h1⟩ v rv => ?_⟩
  split at h1
  · rename_i z _h
    exact ⟨⟨z, rv⟩, q m1 H1 s1 (.p (.str z)) v Q r1.sto rv (ans_of r1 h1)⟩
  · exact h1.elim
def uppS : D → S → Option (D × S) := fun x s => match x with
  | .p (.str a) => if a.length ≤ 5592405 then some (.p (.str (Txt.upper a)), s) else none
  | _ => none
theorem ev_upper (ho : EvE g o O) (hbase : attributeBase o "upper" g.X.env (eval o g.X.env) = eval o g.X.env := by rfl) (hline : (apos.endLine == pos.line) = true := by rfl) :
    EvE g (.Call (.Attribute o "upper" apos) [] [] pos) (eM0 uppS O) := PE.imp (pe_upper ho hbase hline) fun _ _ _ h => m0_in (fun m H s x v Q st rx ans => by
      unfold uppS at ans
      split at ans
      · rename_i a
        split at ans
        · rename_i hz
          exact ⟨a, rx, rfl, hz, ans.same st (v := .str _) rfl⟩
        · exact ans.none.elim
      · exact ans.none.elim) h
/-! sum, max, min of a list of ints -/
def allI : List D → Option (List Int)
  | [] => some []
  | .p (.int x) :: ds => (allI ds).map (x :: ·)
  | _ :: _ => none
def intsD (ys : List Int) : List D := ys.map fun y => .p (.int y)
theorem allI_eq : ∀ {ds : List D} {ys : List Int}, allI ds = some ys → ds = intsD ys
  | [], _, h => by cases h; rfl
  | d :: ds, ys, h => by
    unfold allI at h
    split at h
    · cases h; rename_i e; cases e
    · rename_i x ds' e
      cases e
      cases e2 : allI ds with
      | none => rw [e2] at h; cases h
      | some qs => rw [e2] at h; cases h; rw [allI_eq e2]; rfl
    · cases h
@[simp] theorem allI_ints : ∀ ys : List Int, allI (intsD ys) = some ys
  | [] => rfl
  | y :: ys => by
    show (allI (intsD ys)).map _ = _
    rw [allI_ints ys]; rfl
theorem RepDs.ints {K : PySem.W.Frag} {H : Hp} {m : List Addr} : ∀ {ys : List Int} {vs : List V}, RepDs K H m (intsD ys) vs → vs = ys.map V.int
  | [], _, h => h
  | y :: ys, _, h => by
    obtain ⟨v, r, rfl, h1, h2⟩ := h
    rw [RepDs.ints h2, show v = .int y from h1]; rfl
/-- the greatest, the least -/
def maxI : List Int → Int
  | [] => 0
  | [x] => x
  | x :: xs => if maxI xs > x then maxI xs else x
def minI : List Int → Int
  | [] => 0
  | [x] => x
  | x :: xs => if minI xs < x then minI xs else x
theorem maxI_ge : ∀ {xs : List Int} {y : Int}, y ∈ xs → y ≤ maxI xs
  | [x], y, h => by rw [List.mem_singleton.mp h]; exact Int.le_refl _
  | x :: z :: xs, y, h => by
    unfold maxI
    rcases List.mem_cons.mp h with e | e
    · subst e; split <;> omega
    · have := maxI_ge e
      split <;> omega
theorem minI_le : ∀ {xs : List Int} {y : Int}, y ∈ xs → minI xs ≤ y
  | [x], y, h => by rw [List.mem_singleton.mp h]; exact Int.le_refl _
  | x :: z :: xs, y, h => by
    unfold minI
    rcases List.mem_cons.mp h with e | e
    · subst e; split <;> omega
    · have := minI_le e
      split <;> omega
theorem maxI_mem : ∀ {xs : List Int}, xs ≠ [] → maxI xs ∈ xs
  | [], h => absurd rfl h
  | [x], _ => List.mem_singleton.mpr rfl
  | x :: z :: xs, _ => by
    unfold maxI
    split
    · exact List.mem_cons_of_mem _ (maxI_mem (by simp))
    · exact List.mem_cons_self ..
theorem minI_mem : ∀ {xs : List Int}, xs ≠ [] → minI xs ∈ xs
  | [], h => absurd rfl h
  | [x], _ => List.mem_singleton.mpr rfl
  | x :: z :: xs, _ => by
    unfold minI
    split
    · exact List.mem_cons_of_mem _ (minI_mem (by simp))
    · exact List.mem_cons_self ..
def bSum : List D → S → Option (D × S) := fun xs s => match xs with
  | [d] => ((viL s d).bind allI).map fun ns => (.p (.int ns.sum), s)
  | _ => none
def bMaxL : List D → S → Option (D × S) := fun xs s => match xs with
  | [d] => ((viL s d).bind allI).bind fun ns => if ns = [] then none else some (.p (.int (maxI ns)), s)
  | _ => none
def bMinL : List D → S → Option (D × S) := fun xs s => match xs with
  | [d] => ((viL s d).bind allI).bind fun ns => if ns = [] then none else some (.p (.int (minI ns)), s)
  | _ => none
theorem listI {m : List Addr} {H : Hp} {s : S} {d : D} {v : V} {ns : List Int} (st : StRep g.X.K g.ca m H s) (r : RepD g.X.K H m d v) (h : (viL s d).bind allI = some ns) : ∃ a, v = .ref a ∧ SqL g.X.K H a (ns.map V.int) := by
  cases e : viL s d with
  | none => rw [e] at h; cases h
  | some ds =>
    rw [e] at h
    have := allI_eq (show allI ds = some ns from h)
    subst this
    obtain ⟨a, vs, rfl, q, rr⟩ := viL_ok st r e
    rw [rr.ints] at q
    exact ⟨a, rfl, q⟩
theorem bSum_ok : CaS g bSum (rSum g.X.K) := by
  intro m H s xs vs Q st rx ans
  unfold bSum at ans
  split at ans
  · rename_i d
    obtain ⟨v, rfl, rv⟩ := rx.x1
    cases e : (viL s d).bind allI with
    | none => rw [e] at ans; exact ans.none.elim
    | some ns =>
      rw [e] at ans
      obtain ⟨a, rfl, q⟩ := listI st rv e
      exact ⟨a, ns, rfl, q, ans.same st (v := .int _) rfl⟩
  · exact ans.none.elim
theorem bMaxL_ok : CaS g bMaxL (rMax g.X.K) := by
  intro m H s xs vs Q st rx ans
  unfold bMaxL at ans
  split at ans
  · rename_i d
    obtain ⟨v, rfl, rv⟩ := rx.x1
    cases e : (viL s d).bind allI with
    | none => rw [e] at ans; exact ans.none.elim
    | some ns =>
      rw [e] at ans
      obtain ⟨a, rfl, q⟩ := listI st rv e
      simp only [Option.bind_some] at ans
      split at ans
      · exact ans.none.elim
      · rename_i hne
        refine ⟨a, ns, rfl, q, List.length_pos_iff.mpr hne, fun k hk hge => ?_⟩
        have : k = maxI ns := by
          have h1 := hge _ (maxI_mem hne)
          have h2 := maxI_ge hk
          omega
        subst this
        exact ans.same st (v := .int _) rfl
  · exact ans.none.elim
theorem bMinL_ok : CaS g bMinL (rMin g.X.K) := by
  intro m H s xs vs Q st rx ans
  unfold bMinL at ans
  split at ans
  · rename_i d
    obtain ⟨v, rfl, rv⟩ := rx.x1
    cases e : (viL s d).bind allI with
    | none => rw [e] at ans; exact ans.none.elim
    | some ns =>
      rw [e] at ans
      obtain ⟨a, rfl, q⟩ := listI st rv e
      simp only [Option.bind_some] at ans
      split at ans
      · exact ans.none.elim
      · rename_i hne
        refine ⟨a, ns, rfl, q, List.length_pos_iff.mpr hne, fun k hk hge => ?_⟩
        have : k = minI ns := by
          have h1 := hge _ (minI_mem hne)
          have h2 := minI_le hk
          omega
        subst this
        exact ans.same st (v := .int _) rfl
  · exact ans.none.elim
theorem ev_sum {p : Pos} (hm : g.X.mg "sum" = none) (ha : EvA g [e] As) (hc : g.X.calm = true := by rfl) (hg : Gl g.X "sum" := by rfl) (he : starEach [e] g.X.env = (false, eval e g.X.env) :: starEach [] g.X.env := by rfl) : EvE g (.Call (.Name "sum" p) [e] [] pos) (eCa bSum As) :=
  ev_b (cr_sum hc) bSum_ok hm (by decide +kernel) ha hg (he := he) (hpl := by rfl)
theorem ev_maxL {p : Pos} (hm : g.X.mg "max" = none) (ha : EvA g [e] As) (hc : g.X.calm = true := by rfl) (hg : Gl g.X "max" := by rfl) (he : starEach [e] g.X.env = (false, eval e g.X.env) :: starEach [] g.X.env := by rfl) : EvE g (.Call (.Name "max" p) [e] [] pos) (eCa bMaxL As) :=
  ev_b (cr_max hc) bMaxL_ok hm (by decide +kernel) ha hg (he := he) (hpl := by rfl)
theorem ev_minL {p : Pos} (hm : g.X.mg "min" = none) (ha : EvA g [e] As) (hc : g.X.calm = true := by rfl) (hg : Gl g.X "min" := by rfl) (he : starEach [e] g.X.env = (false, eval e g.X.env) :: starEach [] g.X.env := by rfl) : EvE g (.Call (.Name "min" p) [e] [] pos) (eCa bMinL As) :=
  ev_b (cr_min hc) bMinL_ok hm (by decide +kernel) ha hg (he := he) (hpl := by rfl)
/-- str of an int or a text; int of an int, a bool or a text -/
def bStrS : List D → S → Option (D × S) := fun xs s => match xs with
  | [.p (.str z)] => some (.p (.str z), s)
  | _ => none
theorem bStrS_ok : CaS g bStrS (fun xs H Q => ∃ a, xs = [.str a] ∧ Q (.str a) H) := by
  intro m H s xs vs Q st rx ans
  unfold bStrS at ans
  split at ans
  · rename_i z
    obtain ⟨v, rfl, rv⟩ := rx.x1
    exact ⟨z, by rw [show v = .str z from rv], ans.same st (v := .str _) rfl⟩
  · exact ans.none.elim
def bStr2 : List D → S → Option (D × S) := altC bStr bStrS
theorem ev_strc2 {p : Pos} (hm : g.X.mg "str" = none) (ha : EvA g [e] As) (hg : Gl g.X "str" := by rfl) (he : starEach [e] g.X.env = (false, eval e g.X.env) :: starEach [] g.X.env := by rfl) : EvE g (.Call (.Name "str" p) [e] [] pos) (eCa bStr2 As) :=
  ev_bt (CallR.or' call_str_int SkE.call_str_str) (bStr_ok.alt bStrS_ok) hm (by decide +kernel) ha hg (he := he) (hpl := by rfl)
def bIntS : List D → S → Option (D × S) := fun xs s => match xs with
  | [.p (.str z)] => if z.length ≤ 640 then (PySem.intText? z).map fun n => (.p (.int n), s) else none
  | _ => none
theorem bIntS_ok : CaS g bIntS (fun xs H Q => ∃ a n, xs = [.str a] ∧ PySem.intText? a = some n ∧ a.length ≤ 640 ∧ Q (.int n) H) := by
  intro m H s xs vs Q st rx ans
  unfold bIntS at ans
  split at ans
  · rename_i z
    obtain ⟨v, rfl, rv⟩ := rx.x1
    split at ans
    · rename_i hz
      cases e : PySem.intText? z with
      | none => rw [e] at ans; exact ans.none.elim
      | some n =>
        rw [e] at ans
        exact ⟨z, n, by rw [show v = .str z from rv], e, hz, ans.same st (v := .int _) rfl⟩
    · exact ans.none.elim
  · exact ans.none.elim
def bInt2 : List D → S → Option (D × S) := altC bInt bIntS
theorem ev_intc2 {p : Pos} (hm : g.X.mg "int" = none) (ha : EvA g [e] As) (hg : Gl g.X "int" := by rfl) (he : starEach [e] g.X.env = (false, eval e g.X.env) :: starEach [] g.X.env := by rfl) : EvE g (.Call (.Name "int" p) [e] [] pos) (eCa bInt2 As) :=
  ev_bt (CallR.or' call_int1 call_int_str) (bInt_ok.alt bIntS_ok) hm (by decide +kernel) ha hg (he := he) (hpl := by rfl)
/-! xs[::-1] -/
def revQ : D → S → Option (D × S) := fun x s => match viT x with
  | some ds => some (mkT ds.reverse, s)
  | none => (viL s x).map fun ds => (.lst ds.reverse, s)
@[simp] def eUn (f : D → S → Option (D × S)) (A : Ex) (ρ : Env) (s : S) : Out D := (A ρ s).bind fun x s1 => ofO (f x s1)
theorem RepDs.rev {K : PySem.W.Frag} {H : Hp} {m : List Addr} : ∀ {ds : List D} {vs : List V}, RepDs K H m ds vs → RepDs K H m ds.reverse vs.reverse
  | [], _, h => by rw [show _ = _ from h]; rfl
  | d :: ds, _, h => by
    obtain ⟨v, r, rfl, h1, h2⟩ := h
    rw [List.reverse_cons, List.reverse_cons]
    exact (RepDs.rev h2).app (RepDs.one h1)
theorem ev_rev {k : Nat} {p1 p2 p3 : Pos} (ha : EvE g a A) : EvE g (.Subscript a (.Slice none none (some (.UnaryOp .USub (.Constant (.int 1) k p1) p2)) p3) pos) (eUn revQ A) :=
  PE.imp (PE.or (pe_revT ha) (pe_revL ha)) fun σ H Q h => by
    obtain ⟨m, ρ, s, rel, h⟩ := h
    have h0 := h
    unfold eUn at h
    cases eA : A ρ s with
    | no => rw [eA] at h; exact h.elim
    | ex y s1 =>
      refine .inl ⟨m, ρ, s, rel, ?_⟩
      rw [eA] at h ⊢
      exact h
    | ok x s1 =>
      rw [eA] at h
      simp only [Out.bind_ok] at h
      cases eT : viT x with
      | some ds =>
        refine .inl ⟨m, ρ, s, rel, ?_⟩
        rw [eA]
        intro m1 H1 x1 r1 v rv
        obtain ⟨ad, vs, rfl, q, rr⟩ := viT_ok rv eT
        refine ⟨ad, vs, rfl, q, fun p hp => ?_⟩
        simp only [revQ, eT] at h
        exact new_tup r1.sto rr.rev hp fun m' H' v x' st' rv' => h m' H' (x1.trans x') (r1.ext x' st') v rv'
      | none =>
        refine .inr ⟨m, ρ, s, rel, ?_⟩
        rw [eA]
        intro m1 H1 x1 r1 v rv
        simp only [revQ, eT] at h
        cases eL : viL s1 x with
        | none => rw [eL] at h; exact h.elim
        | some ds =>
          rw [eL] at h
          obtain ⟨ad, vs, rfl, q, rr⟩ := viL_ok r1.sto rv eL
          refine ⟨ad, vs, rfl, q, fun p hp => ?_⟩
          exact new_lst r1.sto rr.rev hp fun m' H' v x' st' rv' => h m' H' (x1.trans x') (r1.ext x' st') v rv'
/-! zip of two -/
def zipF : List D → List D → List D := List.zipWith fun x y => mkT [x, y]
/-- two lists or two tuples -/
@[simp] def sZip (As : Ar) (ρ : Env) (s : S) : Out Wk := (As ρ s).bind fun xs s1 => match xs with
  | [d, e] => match viT d, viT e with
    | some ds, some es => .ok ⟨zipF ds es, fun _ => true⟩ s1
    | none, none => match wkOf s1 d, wkOf s1 e with
      | some k, some k' => .ok ⟨zipF k.ds k'.ds, fun s => k.ok s && k'.ok s⟩ s1
      | _, _ => .no
    | _, _ => .no
  | _ => .no
theorem zipF_get {ds es : List D} {i : Nat} {y : D} (h : (zipF ds es)[i]? = some y) : ∃ d e, ds[i]? = some d ∧ es[i]? = some e ∧ y = mkT [d, e] := by
  unfold zipF at h
  rw [List.getElem?_zipWith] at h
  split at h
  · rename_i d e h1 h2
    cases h
    exact ⟨d, e, h1, h2, rfl⟩
  · cases h
theorem zipF_len (ds es : List D) : (zipF ds es).length = min ds.length es.length := by simp [zipF]
theorem jrep_zipT {K : PySem.W.Frag} {ca : Str → Addr} {m : List Addr} {H : Hp} {a b : Addr} {vs ws : List V} {ds es : List D} {ok : S → Bool} (nt : NoTup m H) (q : SqT K H a vs) (r : RepDs K H m ds vs) (q2 : SqT K H b ws) (r2 : RepDs K H m es ws) : JRep K ca m H (RZ.ItzT K a b) ⟨zipF ds es, ok⟩ := by
  intro m' H' s' x st hk i
  have q' := x.sqt nt q
  have r' := r.ext x.toExtW nt
  have q2' := x.sqt nt q2
  have r2' := r2.ext x.toExtW nt
  refine ⟨fun hi => ⟨vs, ws, q', q2', by have := hi; simp only [zipF_len] at this; rw [← r'.len, ← r2'.len]; omega⟩, fun d e => ?_⟩
  obtain ⟨d1, d2, e1, e2, rfl⟩ := zipF_get e
  obtain ⟨v, ev, rv⟩ := r'.get e1
  obtain ⟨w, ew, rw_⟩ := r2'.get e2
  refine ⟨⟨vs, ws, v, w, q', q2', ev, ew⟩, fun x2 H2 y => ?_⟩
  obtain ⟨T, v', w', rfl, hT, rfl, y1, y2⟩ := y
  have := y1 vs q'
  rw [ev] at this
  cases this
  have := y2 ws q2'
  rw [ew] at this
  cases this
  exact new_pair st ⟨_, _, rfl, rv, RepDs.one rw_⟩ hT
theorem jrep_zipL {K : PySem.W.Frag} {ca : Str → Addr} {m : List Addr} {H : Hp} {a b : Addr} {ds es : List D} {ok ok' : S → Bool}
    (q : ∀ m' H' s', Ext m H m' H' → StRep K ca m' H' s' → ok s' = true → ∃ vs, SqL K H' a vs ∧ RepDs K H' m' ds vs)
    (q2 : ∀ m' H' s', Ext m H m' H' → StRep K ca m' H' s' → ok' s' = true → ∃ vs, SqL K H' b vs ∧ RepDs K H' m' es vs) : JRep K ca m H (Itz K a b) ⟨zipF ds es, fun s => ok s && ok' s⟩ := by
  intro m' H' s' x st hk i
  obtain ⟨k1, k2⟩ := Bool.and_eq_true_iff.mp hk
  obtain ⟨vs, q', r'⟩ := q m' H' s' x st k1
  obtain ⟨ws, q2', r2'⟩ := q2 m' H' s' x st k2
  refine ⟨fun hi => ⟨vs, ws, q', q2', by have := hi; simp only [zipF_len] at this; rw [← r'.len, ← r2'.len]; omega⟩, fun d e => ?_⟩
  obtain ⟨d1, d2, e1, e2, rfl⟩ := zipF_get e
  obtain ⟨v, ev, rv⟩ := r'.get e1
  obtain ⟨w, ew, rw_⟩ := r2'.get e2
  refine ⟨⟨vs, ws, v, w, q', q2', ev, ew⟩, fun x2 H2 y => ?_⟩
  obtain ⟨T, v', w', rfl, hT, rfl, y1, y2⟩ := y
  have := y1 vs q'
  rw [ev] at this
  cases this
  have := y2 ws q2'
  rw [ew] at this
  cases this
  exact new_pair st ⟨_, _, rfl, rv, RepDs.one rw_⟩ hT
theorem ei_zip {e2 : Expr} {p tpos : Pos} {elts : List Expr} {kk : Nat} (hm : g.X.mg "zip" = none) (ha : EvA g [e, e2] As) (hg : Gl g.X "zip" := by rfl) (hs : starEach [e, e2] g.X.env = (false, eval e g.X.env) :: starEach [e2] g.X.env := by rfl) (hpl : (backTo pos (starEach [e2] g.X.env)).any (·.1) = false := by rfl) :
    EvI g (.Tuple elts kk tpos) (.Call (.Name "zip" p) [e, e2] [] pos) (sZip As) :=
  PI.imp (RZ.pi_zipA hg hm ha hs hpl) fun σ H R h => by
    obtain ⟨m, ρ, s, rel, h⟩ := h
    refine ⟨m, ρ, s, rel, ?_⟩
    unfold sZip at h
    cases eA : As ρ s with
    | no => rw [eA] at h; exact h.elim
    | ex y s1 => rw [eA] at h; exact h
    | ok xs s1 =>
      rw [eA] at h
      simp only [Out.bind_ok] at h
      match xs, h with
      | [], h => exact h.elim
      | [_], h => exact h.elim
      | _ :: _ :: _ :: _, h => exact h.elim
      | [d1, d2], h =>
        intro m1 H1 x1 r1 vs rvs
        obtain ⟨v, w, rfl, rv, rw_⟩ := rvs.x2
        cases e1 : viT d1 with
        | some ds =>
          cases e2 : viT d2 with
          | none => simp only [e1, e2] at h; exact h.elim
          | some es =>
            simp only [e1, e2] at h
            obtain ⟨a, vs, rfl, q, r⟩ := viT_ok rv e1
            obtain ⟨b, ws, rfl, q2, r2⟩ := viT_ok rw_ e2
            exact ⟨a, b, vs, ws, rfl, .inr ⟨q, q2, h m1 H1 x1 r1 _ (jrep_zipT r1.sto.nt q r q2 r2)⟩⟩
        | none =>
          cases e2 : viT d2 with
          | some es => simp only [e1, e2] at h; exact h.elim
          | none =>
            simp only [e1, e2] at h
            cases k1 : wkOf s1 d1 with
            | none => simp only [k1] at h; exact h.elim
            | some k =>
              cases k2 : wkOf s1 d2 with
              | none => simp only [k1, k2] at h; exact h.elim
              | some k' =>
                simp only [k1, k2] at h
                obtain ⟨a, vs, rfl, q, hw⟩ := wkOf_lst r1.sto rv e1 k1
                obtain ⟨b, ws, rfl, q2, hw2⟩ := wkOf_lst r1.sto rw_ e2 k2
                exact ⟨a, b, vs, ws, rfl, .inl ⟨q, q2, h m1 H1 x1 r1 _ (jrep_zipL hw hw2)⟩⟩
/-! list.index of ints -/
def idxL : D → List D → S → Option (D × S) := fun o ds s => match ds, (viL s o).bind allI with
  | [.p (.int k)], some ns => (ns.findIdx? (· == k)).map fun j => (.p (.int (j : Nat)), s)
  | _, _ => none
theorem idxL_ok : MeS g "list" isL idxL (rIndex g.X.K) := ⟨fun m H s x v st r h => isL_ty st r h, fun m H s x xs v vs Q st r rs ans => by
  unfold idxL at ans
  split at ans
  · rename_i k ns en
    cases ej : ns.findIdx? (· == k) with
    | none => rw [ej] at ans; exact ans.none.elim
    | some j =>
      rw [ej] at ans
      obtain ⟨w, rfl, rw1⟩ := rs.x1
      obtain rfl : w = .int k := rw1
      obtain ⟨a, rfl, q⟩ := listI st r en
      obtain ⟨hj, hjk, hno⟩ := List.findIdx?_eq_some_iff_getElem.mp ej
      have hk : ns[j] = k := by simpa using hjk
      refine ⟨a, ns.map V.int, .int k, j, .int k, rfl, rfl, q, rfl, ?_, ?_, ?_, ?_, ans.same st (v := .int _) rfl⟩
      · rw [List.all_map]; exact List.all_eq_true.mpr fun _ _ => rfl
      · rw [List.getElem?_map, List.getElem?_eq_getElem hj, hk]; rfl
      · show (k == k) = true
        exact beq_self_eq_true k
      · intro i z' hi ez
        rw [List.getElem?_map] at ez
        have hi' : i < ns.length := by omega
        rw [List.getElem?_eq_getElem hi'] at ez
        cases ez
        have := hno i hi
        show (ns[i] == k) = false
        simpa using this
  · exact ans.none.elim⟩
theorem ev_index (ho : EvE g o O) (ha : EvA g [e] As) (hbase : attributeBase o "index" g.X.env (eval o g.X.env) = eval o g.X.env := by rfl)
    (hfew : ((backTo cpos (starEach [e] g.X.env)).all (fun x => !x.1) && (backToKw cpos (keywordEach [] g.X.env)).all (fun x => x.1.isSome)
      && decide (([e] : List Expr).length + ([] : List Keyword).length + (if ([] : List Keyword).isEmpty then 0 else 1) < 30)) = true := by rfl)
    (hline : (apos.endLine == cpos.line) = true := by rfl) (hs : starEach [e] g.X.env = (false, eval e g.X.env) :: starEach [] g.X.env := by rfl) :
    EvE g (.Call (.Attribute o "index" apos) [e] [] cpos) (eMe isL idxL O As) :=
  PE.imp (pe_bm F.plainAttrs_list F.slot_list_index F.type_list_index mt_index ho ha hbase hfew hline hs rfl) fun σ H Q h => me_in idxL_ok h
/-! constants of the module -/
theorem ev_glob {x : Str} {p : P} (h : ∃ u v, g.X.mg x = some u ∧ RelV v u ∧ ∀ H, RepP g.X.K H p v) (hg : Gl g.X x := by rfl) (hdb : (x == ("__debug__" : Str)) = false := by decide) : EvE g (.Name x pos) (eC p) := by
  obtain ⟨u, v, hm, r, hp⟩ := h
  exact ev_const (pe_glob hg hm r hdb) hp
end
end Mo

set_option Elab.async false
set_option linter.all false
set_option maxRecDepth 100000
set_option maxHeartbeats 4000000
/-! a dict's values, pairs, walked by a comprehension; calls with defaults; stores into several places -/
namespace Mo
open PySem PySem.Spec PyProof.Rows L2
/-- f: the items of keys and values -/
def eLcG (f : List Key → List D → List D) (i : Nat) (own : List Nat) (T : Pt) (U : Te) (A : Ex) : Ex := fun ρ s => match ρ[i]? with
  | some (some d) => match viD s d with
    | some (ks, ds) => if isLk s d = true then (lcD (fun _ => true) T U A s.length (f ks ds) (wipeE ρ own) (lockS s d ks ds ++ [.lst []])).bindN fun _ s2 =>
        match unlockS (fin (lockS s d ks ds) (.loc s.length) s2).2 d ks ds with
        | some s3 => .ok (fin (lockS s d ks ds) (.loc s.length) s2).1 s3
        | none => .no
      else .no
    | none => .no
  | _ => .no
def dVals (_ : List Key) (ds : List D) : List D := ds
def dItems (ks : List Key) (ds : List D) : List D := List.zipWith (fun k d => mkT [kD k, d]) ks ds
/-- how a locked dict is walked -/
def LkW (K : PySem.W.Frag) (ca : Str → Addr) (f : List Key → List D → List D) (i : Nat) (ti : TI) : Prop := ∀ (m : List Addr) (ρ : Env) (s : S) (σ : L2.St) (H : Hp) (R : It → Hp → Prop) (ad : Addr) (od : Obj) (ks : List Key) (ds : List D) (vs : List V), Rel K ca m H ρ σ s → σ[i]? = some (some (.ref ad)) → H ad = some (.frz od (.dK (ks.zip vs))) →
  ks.length = vs.length → RepDs K H m ds vs → (∀ J, JRep K ca m H J ⟨f ks ds, fun _ => true⟩ → R J H) → ti σ H R
section
variable {K : PySem.W.Frag} {ca : Str → Addr} {m : List Addr} {H : Hp} {a : Addr} {ks : List Key} {ds : List D} {vs : List V}
theorem jrep_vals {ok : S → Bool} {o : Obj} (nt : NoTup m H) (h : H a = some (.frz o (.dK (ks.zip vs)))) (hl : ks.length = vs.length) (r : RepDs K H m ds vs) : JRep K ca m H (Itd a o (ks.zip vs)) ⟨dVals ks ds, ok⟩ := by
  intro m' H' s' x st hk i
  have h' := x.frz a o _ h
  have r' := r.ext x.toExtW nt
  have hz : (ks.zip vs).length = ks.length := by rw [List.length_zip]; omega
  have hd : ds.length = ks.length := by rw [r.len, hl]
  refine ⟨fun hi => ⟨h', by rw [hz, ← hd]; exact hi⟩, fun d e => ?_⟩
  obtain ⟨v, ev, rv⟩ := r'.get (show ds[i]? = some d from e)
  have hi := (List.getElem?_eq_some_iff.mp ev).1
  refine ⟨⟨h', by rw [hz]; omega⟩, fun x2 H2 y => ?_⟩
  obtain ⟨rfl, k', e2⟩ := y
  have e3 : (ks.zip vs)[i]? = some (k', x2) := e2
  rw [List.getElem?_zip_eq_some] at e3
  rw [e3.2] at ev
  cases ev
  exact ⟨Ext.refl _ _, st, rv⟩
theorem jrep_items {ok : S → Bool} {o : Obj} (nt : NoTup m H) (h : H a = some (.frz o (.dK (ks.zip vs)))) (hl : ks.length = vs.length) (r : RepDs K H m ds vs) : JRep K ca m H (Iti a o (ks.zip vs)) ⟨dItems ks ds, ok⟩ := by
  intro m' H' s' x st hk i
  have h' := x.frz a o _ h
  have r' := r.ext x.toExtW nt
  have hz : (ks.zip vs).length = ks.length := by rw [List.length_zip]; omega
  have hd : ds.length = ks.length := by rw [r.len, hl]
  refine ⟨fun hi => ⟨h', by have : (dItems ks ds).length ≤ i := hi; unfold dItems at this; rw [List.length_zipWith] at this; omega⟩, fun d e => ?_⟩
  have e : (List.zipWith (fun k d => mkT [kD k, d]) ks ds)[i]? = some d := e
  rw [List.getElem?_zipWith] at e
  split at e
  · rename_i k d1 e1 e2
    cases e
    obtain ⟨v, ev, rv⟩ := r'.get e2
    have hi := (List.getElem?_eq_some_iff.mp ev).1
    refine ⟨⟨h', by rw [hz]; omega⟩, fun x2 H2 y => ?_⟩
    obtain ⟨T, k', v', e3, rfl, hT, rfl⟩ := y
    have e3 : (ks.zip vs)[i]? = some (k', v') := e3
    rw [List.getElem?_zip_eq_some] at e3
    rw [e3.2] at ev
    cases ev
    rw [e3.1] at e1
    cases e1
    exact new_pair st ⟨_, _, rfl, kD_ok _, RepDs.one rv⟩ hT
  · cases e
end
theorem lkw_vals {K : PySem.W.Frag} {ca : Str → Addr} {i : Nat} : LkW K ca dVals i (iVals (tVar i)) := fun m ρ s σ H R ad od ks ds vs rel ev hd hl r h => ⟨_, ev, ad, od, ks.zip vs, rfl, hd, h _ (jrep_vals rel.sto.nt hd hl r)⟩
theorem lkw_items {K : PySem.W.Frag} {ca : Str → Addr} {i : Nat} : LkW K ca dItems i (iItems (tVar i)) := fun m ρ s σ H R ad od ks ds vs rel ev hd hl r h => ⟨_, ev, ad, od, ks.zip vs, rfl, hd, h _ (jrep_items rel.sto.nt hd hl r)⟩
section
variable {g : G} {a b c e o elt tg iter : Expr} {A B C_ O : Ex} {U : Te} {pos pos' cpos apos : Pos} {es ifs : List Expr} {As : Ar} {Sg : Sr} {T : Pt} {own : List (Str × Nat)} {scope : Scope} {f : List Key → List D → List D} {ti : TI}
theorem lcg_in {i : Nat} {m : List Addr} {ρ : Env} {s : S} {σ : L2.St} {H : Hp} {Qd : VK} {ad : Addr} {od : Obj} {ks : List Key} {ds : List D} {vs : List V} (hw : LkW g.X.K g.ca f i ti) (hsub : ∀ j ∈ T.sl, j ∈ own.map (·.2)) (rel : Rel g.X.K g.ca m H ρ σ s) (ev : σ[i]? = some (some (.ref ad))) (hd : H ad = some (.frz od (.dK (ks.zip vs)))) (hl : ks.length = vs.length) (r : RepDs g.X.K H m ds vs)
    (h : match lcD (fun _ => true) T U A s.length (f ks ds) (wipeE ρ (own.map (·.2))) (s ++ [.lst []]) with
      | .ok _ s2 => ∀ m' H' D0, Ext m H m' H' → StRep g.X.K g.ca m' H' s2 → m'[s.length]? = some D0 → Qd (.ref D0) H'
      | _ => False) :
    tLc ti (tG1 g.X.K g.ca T) (tT g.X.K g.ca (fun _ _ _ _ => False) U) (tE g.X.K g.ca (fun _ _ _ _ => False) A) (own.map (·.2)) σ H Qd :=
  hw m ρ s σ H _ ad od ks ds vs rel ev hd hl r fun J hJ => lc_loop (g := g) (Qd := Qd) (k := ⟨f ks ds, fun _ => true⟩) rel hJ hsub h
theorem ev_lcG (i : Nat) (hN : g.X.N.Nodup) (pi : PI g.X tg iter ti) (hw : LkW g.X.K g.ca f i ti) (L : Lc g own scope tg T ifs U elt A) (hc : g.X.calm = true := by rfl) (hs : ∀ y, foldedSetIterable iter g.X.env y = pure y := by intro _; rfl) :
    EvE g (.ListComp elt [⟨tg, iter, ifs, 0⟩] scope pos) (eLcG f i (own.map (·.2)) T U A) := by
  have P0 := pe_lc (g := tG1 g.X.K g.ca T) (tt := tT g.X.K g.ca (fun _ _ _ _ => False) U) (te := tE g.X.K g.ca (fun _ _ _ _ => False) A) (pos := pos) hc hN pi L.ok L.hg L.ht L.he hs
  refine PE.imp (PE.or P0 (pe_lock P0)) fun σ H Q h => ?_
  obtain ⟨m, ρ, s, rel, h⟩ := h
  unfold eLcG at h
  cases ei : ρ[i]? with
  | none => rw [ei] at h; exact h.elim
  | some od =>
    cases od with
    | none => rw [ei] at h; exact h.elim
    | some d =>
      rw [ei] at h
      obtain ⟨v, ev, rv⟩ := rel.env.2 i d ei
      cases ed : viD s d with
      | none => simp only [ed] at h; exact h.elim
      | some p =>
        obtain ⟨ks, ds⟩ := p
        obtain ⟨ad, vs, rfl, hr, hl, rr⟩ := viD_ok rel.sto rv ed
        simp only [ed] at h
        by_cases hk : isLk s d = true
        · rw [if_pos hk] at h
          rcases hr with hr | ⟨o, hr⟩
          · -- not locked yet
            refine .inr ⟨ad, _, hr, trivial, fun od => ?_⟩
            have x0 : Ext m H m (upd H ad (.frz od (.dK (ks.zip vs)))) := Ext.lock hr (fun z => z) (fun _ z => nomatch z)
            have st1 : StRep g.X.K g.ca m (upd H ad (.frz od (.dK (ks.zip vs)))) (lockS s d ks ds) := lock_ok rel.sto rv ed hl rr hr
            have rel1 := rel.ext x0 st1
            have hsl : (lockS s d ks ds).length = s.length := by rw [← st1.len, rel.sto.len]
            refine lcg_in (g := g) hw L.sub rel1 ev upd_same hl (rel.sto.repDs x0.toExtW rr) ?_
            rw [hsl]
            cases e : lcD (fun _ => true) T U A s.length (f ks ds) (wipeE ρ (own.map (·.2))) (lockS s d ks ds ++ [.lst []]) with
            | no => rw [e] at h; exact h
            | ex y s2 => rw [e] at h; exact h.elim
            | ok _ s2 =>
              rw [e] at h
              simp only [Out.bindN] at h
              intro m' H' D0 x st hD
              obtain ⟨m2, xm, sm, rm⟩ := fin_ok (d := .loc s.length) (v := .ref D0) st1 x st ⟨D0, hD, rfl⟩
              have ha : H' ad = some (.frz od (.dK (ks.zip vs))) := xm.frz ad od _ upd_same
              refine ⟨ha, ?_⟩
              cases eu : unlockS (fin (lockS s d ks ds) (.loc s.length) s2).2 d ks ds with
              | none => rw [eu] at h; exact h.elim
              | some s3 =>
                rw [eu] at h
                have hn : ad ∉ m → ad ∉ m2 := fun hn => (xm.keep ad (.dK (ks.zip vs)) rfl (.inr ⟨od, upd_same⟩) hn).2
                obtain ⟨sf, rf⟩ := unlock_ok xm.pre rv hn eu hl ha sm ⟨s, ed⟩ rm
                have xr := Ext.round hr (fun z => z) (fun _ z => nomatch z) xm
                exact h m2 _ xr (rel.ext xr sf) _ rf
          · -- locked before: a value
            refine .inl ?_
            have hd : lockS s d ks ds = s ∧ ∀ q, unlockS q d ks ds = some q := by
              cases d with
              | loc n =>
                obtain ⟨a', ea, q⟩ := rv
                cases q
                simp only [isLk] at hk
                cases es : s[n]? with
                | none => rw [es] at hk; cases hk
                | some c =>
                  rw [es] at hk
                  cases c with
                  | dK a1 a2 =>
                    obtain ⟨us, eh, _⟩ := rel.sto.at_ n _ _ es ea
                    rw [hr] at eh; cases eh
                  | _ => cases hk
              | dK a1 a2 => exact ⟨rfl, fun _ => rfl⟩
              | _ => cases ed
            rw [hd.1] at h
            refine lcg_in (g := g) hw L.sub rel ev hr hl rr ?_
            cases e : lcD (fun _ => true) T U A s.length (f ks ds) (wipeE ρ (own.map (·.2))) (s ++ [.lst []]) with
            | no => rw [e] at h; exact h
            | ex y s2 => rw [e] at h; exact h.elim
            | ok _ s2 =>
              rw [e] at h
              simp only [Out.bindN, hd.2] at h
              intro m' H' D0 x st hD
              obtain ⟨m2, xm, sm, rm⟩ := fin_ok (d := .loc s.length) (v := .ref D0) rel.sto x st ⟨D0, hD, rfl⟩
              exact h m2 H' xm (rel.ext xm sm) _ rm
        · rw [if_neg hk] at h; exact h.elim


theorem ev_lcVals (i : Nat) {x : Str} {px : Pos} (hN : g.X.N.Nodup) (L : Lc g own scope tg T ifs U elt A) (hx : g.X.N[i]? = some x := by rfl) (hv : Vis g.X.env.scope x := by first | exact Or.inl rfl | exact Or.inr (Or.inl rfl) | exact Or.inr (Or.inr rfl)) (hdb : (x == ("__debug__" : Str)) = false := by decide)
    (hcd : (x == ("__classdict__" : Str)) = false := by decide) (hbase : attributeBase (.Name x px) "values" g.X.env (eval (.Name x px) g.X.env) = eval (.Name x px) g.X.env := by rfl) (hline : (apos.endLine == cpos.line) = true := by rfl) (hc : g.X.calm = true := by rfl)
    (hs : ∀ y, foldedSetIterable (.Call (.Attribute (.Name x px) "values" apos) [] [] cpos) g.X.env y = pure y := by intro _; rfl) :
    EvE g (.ListComp elt [⟨tg, .Call (.Attribute (.Name x px) "values" apos) [] [] cpos, ifs, 0⟩] scope pos) (eLcG dVals i (own.map (·.2)) T U A) :=
  ev_lcG i hN (pi_values (pe_var (i := i) (pos := px) hx hv hdb hcd) hbase hline) lkw_vals L hc hs
theorem ev_lcItems (i : Nat) {x : Str} {px tpos : Pos} {elts : List Expr} {kk : Nat} (hN : g.X.N.Nodup) (L : Lc g own scope (.Tuple elts kk tpos) T ifs U elt A) (hx : g.X.N[i]? = some x := by rfl) (hv : Vis g.X.env.scope x := by first | exact Or.inl rfl | exact Or.inr (Or.inl rfl) | exact Or.inr (Or.inr rfl)) (hdb : (x == ("__debug__" : Str)) = false := by decide)
    (hcd : (x == ("__classdict__" : Str)) = false := by decide) (hbase : attributeBase (.Name x px) "items" g.X.env (eval (.Name x px) g.X.env) = eval (.Name x px) g.X.env := by rfl) (hline : (apos.endLine == cpos.line) = true := by rfl) (hc : g.X.calm = true := by rfl)
    (hs : ∀ y, foldedSetIterable (.Call (.Attribute (.Name x px) "items" apos) [] [] cpos) g.X.env y = pure y := by intro _; rfl) :
    EvE g (.ListComp elt [⟨.Tuple elts kk tpos, .Call (.Attribute (.Name x px) "items" apos) [] [] cpos, ifs, 0⟩] scope pos) (eLcG dItems i (own.map (·.2)) T U A) :=
  ev_lcG i hN (pi_items (pe_var (i := i) (pos := px) hx hv hdb hcd) hbase hline) lkw_items L hc hs
/-! calls with defaults -/
structure DCallee (P : Program) (w : World) (K : PySem.W.Frag) (mg : Str → Option Value) (base : Heap) (ca : Str → Addr) (k : Nat) (x : Str) (n : Nat) (F : List D → S → Out D) (qs : List Mo.P) : Prop where
  ex : ∃ (f : Addr) (fd : FuncData) (ps : List Str) (us : List Value) (vs : List V), FnOk P w K mg base (L2.CX P w) k f fd ps (spF K ca n F) ∧ mg x = some (.ref f) ∧ PySem.W.keepIn K (.ref f) = true ∧ Binds K fd ps us ∧ Vals vs us ∧ ∀ H, RepPs K H qs vs
abbrev G.DCall (g : G) (k : Nat) (x : Str) (n : Nat) (F : List D → S → Out D) (qs : List Mo.P) : Prop := DCallee g.X.prog g.X.w g.X.K g.X.mg g.X.base g.ca k x n F qs
/-- the last values are the defaults qs -/
@[simp] def eFD (n : Nat) (F : List D → S → Out D) (qs : List Mo.P) (As : Ar) (ρ : Env) (s : S) : Out D := (As ρ s).bind fun ds s1 => if ds.length + qs.length = n then F (ds ++ qs.map D.p) s1 else .no
theorem ev_callD {k n : Nat} {x : Str} {F : List D → S → Out D} {qs : List Mo.P} {p : Pos} (o : g.Ok) (cl : g.DCall k x n F qs) (hk : k ≤ g.k) (ha : EvA g (e :: es) As) (hg : Gl g.X x := by rfl) (hdb : (x == ("__debug__" : Str)) = false := by decide)
    (he : starEach (e :: es) g.X.env = (false, eval e g.X.env) :: starEach es g.X.env := by rfl) (hpl : (backTo pos (starEach es g.X.env)).any (·.1) = false := by rfl) : EvE g (.Call (.Name x p) (e :: es) [] pos) (eFD n F qs As) := by
  obtain ⟨f, fd, ps, us, ws, F1, hm, hkp, hb, hv, hq⟩ := cl.ex
  refine PE.imp (pe_callSD (E := WE g.W) F1 (o.hr.mono hk) hg hm hkp hb hv (passAt o.tk) ha hdb he hpl) fun σ H Q h => ?_
  obtain ⟨m, ρ, s, rel, h⟩ := h
  refine ⟨m, ρ, s, rel, (PO_.bind h).mono fun ds s1 m1 H1 ⟨r1, h1⟩ vs rv => ?_⟩
  have rq : RepDs g.X.K H1 m1 (qs.map D.p) ws := RepDs.ofP (hq H1)
  split at h1
  · rename_i hl
    refine ⟨by rw [List.length_append, ← rv.len, ← rq.len, List.length_map]; exact hl, m1, ds ++ qs.map D.p, s1, r1.sto, rv.app rq, ?_⟩
    cases e : F (ds ++ qs.map D.p) s1 with
    | no => rw [e] at h1; exact h1
    | ok d s2 => rw [e] at h1; exact fun m' H' v x st r => h1 m' H' x (r1.ext x st) v r
    | ex y s2 => rw [e] at h1; exact fun m' H' c od x st r => h1 m' H' c od x (r1.ext x st) r
  · exact h1.elim
/-! targets that store -/
abbrev Tb := D → Bl
def tGB (K : PySem.W.Frag) (ca : Str → Addr) (T : Tb) : TG := fun v σ H Q => ∃ m ρ s d, Rel K ca m H ρ σ s ∧ RepD K H m d v ∧ ∃ ρ' s', T d ρ s = .nx ρ' s' ∧ ∀ m' H' σ', Ext m H m' H' → Rel K ca m' H' ρ' σ' s' → Q σ' H'
def tGBs (K : PySem.W.Frag) (ca : Str → Addr) (T : List D → Bl) : TGs := fun vs σ H Q => ∃ m ρ s ds, Rel K ca m H ρ σ s ∧ RepDs K H m ds vs ∧ ∃ ρ' s', T ds ρ s = .nx ρ' s' ∧ ∀ m' H' σ', Ext m H m' H' → Rel K ca m' H' ρ' σ' s' → Q σ' H'
def EvGB (g : G) (e : Expr) (T : Tb) : Prop := PG g.X e (tGB g.X.K g.ca T)
def EvGBs (g : G) (es : List Expr) (T : List D → Bl) : Prop := PGs g.X es (tGBs g.X.K g.ca T)
@[simp] def bNm (i : Nat) : Tb := fun d ρ s => .nx (ρ.set i (some d)) s
@[simp] def bSub (put : D → D → D → S → Option S) (O I : Ex) : Tb := fun d ρ s => (O ρ s).fl ρ fun o s2 => (I ρ s2).fl ρ fun i s3 => match put o i d s3 with
  | some s4 => .nx ρ s4
  | none => .no
@[simp] def bNils (ds : List D) : Bl := fun ρ s => match ds with
  | [] => .nx ρ s
  | _ => .no
@[simp] def bConss (T : Tb) (U : List D → Bl) (ds : List D) : Bl := fun ρ s => match ds with
  | d :: ds => (T d ρ s).then_ (U ds)
  | [] => .no
@[simp] def bTus (n : Nat) (U : List D → Bl) : Tb := fun d ρ s => match viT d with
  | some ds => if ds.length = n then U ds ρ s else .no
  | none => .no
theorem egb_nm (i : Nat) {x : Str} (hN : g.X.N.Nodup) (hi : g.X.N[i]? = some x := by rfl) (hx : Loc g.X.env.scope x := by first | exact Or.inl rfl | exact Or.inr rfl) (hf : g.X.fn x = true ∨ g.X.env.scope.names.lookup x = some .local := by first | exact .inl rfl | exact .inr rfl) : EvGB g (.Name x pos) (bNm i) :=
  PG.imp (pg_name hN hi hx hf) fun v σ H Q h => by
    obtain ⟨m, ρ, s, d, rel, rd, ρ', s', e, q⟩ := h
    cases e
    exact q m H _ (Ext.refl _ _) ⟨rel.env.set i rd, rel.sto⟩
theorem egb_sub {put : D → D → D → S → Option S} {t : TSet} {O I : Ex} {o i : Expr} (hp : PSet g.X t) (hq : PuS g put t) (ho : EvE g o O) (hi : EvE g i I)
    (has : ∀ v, assign (.Subscript o i pos) g.X.env v = (do
      let ov ← holding [v] (eval o g.X.env)
      let iv ← holding [v, ov] (eval i g.X.env)
      standAt pos
      holding [v, ov, iv] (setItem ov iv v)
      release [v, ov, iv] []) := by intro _; rfl) : EvGB g (.Subscript o i pos) (bSub put O I) :=
  PG.imp (pg_sub ho hi hp has) fun v σ H Q h => by
    obtain ⟨m, ρ, s, d, rel, rd, ρ', s', e, q⟩ := h
    unfold bSub at e
    cases e1 : O ρ s with
    | no => rw [e1] at e; cases e
    | ex y s2 => rw [e1] at e; cases e
    | ok od s2 =>
      rw [e1] at e
      simp only [Out.fl_ok] at e
      cases e2 : I ρ s2 with
      | no => rw [e2] at e; cases e
      | ex y s3 => rw [e2] at e; cases e
      | ok id_ s3 =>
        rw [e2] at e
        simp only [Out.fl_ok] at e
        cases e3 : put od id_ d s3 with
        | none => rw [e3] at e; cases e
        | some s4 =>
          rw [e3] at e
          cases e
          refine ⟨m, ρ, s, rel, ?_⟩
          rw [e1]
          intro m2 H2 x2 r2 ov rov
          refine ⟨m2, ρ, s2, r2, ?_⟩
          rw [e2]
          intro m3 H3 x3 r3 iv riv
          exact hq m3 H3 s3 _ od id_ d ov iv v _ r3.sto (r2.sto.repD x3.toExtW rov) riv (r2.sto.repD x3.toExtW (rel.sto.repD x2.toExtW rd)) e3 fun H' x4 st4 => q m3 H' σ ((x2.trans x3).trans x4) (r3.ext x4 st4)
theorem egb_subL {O I : Ex} {o i : Expr} (ho : EvE g o O) (hi : EvE g i I)
    (has : ∀ v, assign (.Subscript o i pos) g.X.env v = (do
      let ov ← holding [v] (eval o g.X.env)
      let iv ← holding [v, ov] (eval i g.X.env)
      standAt pos
      holding [v, ov, iv] (setItem ov iv v)
      release [v, ov, iv] []) := by intro _; rfl) : EvGB g (.Subscript o i pos) (bSub putL O I) := egb_sub set_list putL_ok ho hi has
theorem egbs_nil : EvGBs g [] bNils := PGs.imp pgs_nil fun v σ H Q h => by
  obtain ⟨m, ρ, s, ds, rel, rd, ρ', s', e, q⟩ := h
  unfold bNils at e
  split at e
  · cases e
    cases rd
    exact ⟨rfl, q m H σ (Ext.refl _ _) rel⟩
  · cases e
theorem egbs_cons {T : Tb} {U : List D → Bl} (h1 : EvGB g e T) (h2 : EvGBs g es U) (hs : (assignEach (e :: es) g.X.env).map (·.2) = assign e g.X.env :: (assignEach es g.X.env).map (·.2) := by rfl) : EvGBs g (e :: es) (bConss T U) :=
  PGs.imp (pgs_cons h1 h2 hs) fun vs σ H Q h => by
    obtain ⟨m, ρ, s, ds, rel, rd, ρ', s', e, q⟩ := h
    unfold bConss at e
    split at e
    · rename_i d ds
      obtain ⟨v, r, e2, h3, h4⟩ := rd
      cases e1 : T d ρ s with
      | nx ρ1 s1 =>
        rw [e1] at e
        exact ⟨v, r, e2, m, ρ, s, d, rel, h3, ρ1, s1, e1, fun m1 H1 σ1 x1 rel1 => ⟨m1, ρ1, s1, ds, rel1, rel.sto.repDs x1.toExtW h4, ρ', s', e, fun m' H' σ' x r => q m' H' σ' (x1.trans x) r⟩⟩
      | _ => rw [e1] at e; cases e
    · cases e
theorem egb_tup {U : List D → Bl} {k n : Nat} (h : EvGBs g es U) (hc : g.X.calm = true := by rfl) (hn : (assignEach es g.X.env).length = n := by rfl) (hst : (assignEach es g.X.env).findIdx? (·.1) = none := by rfl) : EvGB g (.Tuple es k pos) (bTus n U) :=
  PG.imp (pg_tup hc h hn hst) fun v σ H Q h => by
    obtain ⟨m, ρ, s, d, rel, rd, ρ', s', e, q⟩ := h
    unfold bTus at e
    cases ev : viT d with
    | none => rw [ev] at e; cases e
    | some ds =>
      rw [ev] at e
      obtain ⟨a, vs, rfl, qa, ra⟩ := viT_ok rd ev
      simp only at e
      split at e
      · rename_i hl
        exact ⟨a, vs, rfl, qa, by rw [← ra.len]; exact hl, m, ρ, s, ds, rel, ra, ρ', s', e, q⟩
      · cases e
@[simp] def bAsgB (A : Ex) (T : Tb) (ρ : Env) (s : S) : Fl := (A ρ s).fl ρ fun d s1 => match T d ρ s1 with
  | .nx ρ' s' => .nx ρ' s'
  | _ => .no
theorem es_asgB {T : Tb} {tg : Expr} (ha : EvE g e A) (hg : EvGB g tg T) (hs : swapsWithSole [tg] e pos.line g.X.env = pure false := by rfl) (hw : swappedStores [tg] e g.X.env = pure none := by rfl)
    (h1 : (assignEach [tg] g.X.env).map (·.2) = [assign tg g.X.env] := by rfl) : EvS g (.Assign [tg] e pos) (bAsgB A T) :=
  PS.imp (ps_asg ha hg hs hw h1) fun D σ H h => by
    obtain ⟨m, ρ, s, rel, h⟩ := h
    refine ⟨m, ρ, s, rel, (PO_.fl h).mono fun d s1 m1 H1 ⟨r1, h1⟩ v rv => ?_⟩
    cases e : T d ρ s1 with
    | nx ρ' s' =>
      rw [e] at h1
      exact ⟨m1, ρ, s1, d, r1, rv, ρ', s', e, fun m' H' σ' x r => h1 m' H' σ' x r⟩
    | _ => rw [e] at h1; exact h1.elim
/-- how many values -/
theorem al_nil : ∀ (ρ : Env) (s : S) (ds : List D) (s' : S), aNil ρ s = .ok ds s' → ds.length = 0 := fun ρ s ds s' e => by cases e; rfl
theorem al_cons {n : Nat} (h : ∀ (ρ : Env) (s : S) (ds : List D) (s' : S), As ρ s = .ok ds s' → ds.length = n) : ∀ (ρ : Env) (s : S) (ds : List D) (s' : S), aCons A As ρ s = .ok ds s' → ds.length = n + 1 := fun ρ s ds s' e => by
  unfold aCons at e
  cases ea : A ρ s with
  | no => rw [ea] at e; cases e
  | ex x s1 => rw [ea] at e; cases e
  | ok x s1 =>
    rw [ea] at e
    simp only [Out.bind_ok] at e
    cases es : As ρ s1 with
    | no => rw [es] at e; cases e
    | ex x s1 => rw [es] at e; cases e
    | ok ys s2 =>
      rw [es] at e
      cases e
      simp [h ρ s1 ys _ es]
/-! a text's signs -/
def sgD (x : Str) : List D := x.cps.toList.map fun c => .p (.str ⟨#[c]⟩)
def sTxt (A : Ex) (ρ : Env) (s : S) : Out Wk := (A ρ s).bind fun d s1 => match d with
  | .p (.str x) => .ok ⟨sgD x, fun _ => true⟩ s1
  | _ => .no
theorem ei_txt {tg : Expr} (ha : EvE g a A) : EvI g tg a (sTxt A) :=
  PI.imp (pi_str ha) fun σ H R h => by
    obtain ⟨m, ρ, s, rel, h⟩ := h
    refine ⟨m, ρ, s, rel, ?_⟩
    unfold sTxt at h
    cases eA : A ρ s with
    | no => rw [eA] at h; exact h.elim
    | ex y s1 => rw [eA] at h; exact h
    | ok d s1 =>
      rw [eA] at h
      simp only [Out.bind_ok] at h
      split at h
      · rename_i x
        intro m1 H1 x1 r1 v rv
        refine ⟨x, rv, h m1 H1 x1 r1 _ ?_⟩
        intro m' H' s' e' st' _ i
        refine ⟨fun hi => ?_, fun d ed => ?_⟩
        · unfold sgD at hi
          rw [List.length_map, Array.length_toList] at hi
          exact hi
        · unfold sgD at ed
          rw [List.getElem?_map] at ed
          cases ec : x.cps.toList[i]? with
          | none => rw [ec] at ed; cases ed
          | some c =>
            rw [ec] at ed
            cases ed
            rw [Array.getElem?_toList] at ec
            refine ⟨(Array.getElem?_eq_some_iff.mp ec).1, fun x2 H2 y => ?_⟩
            obtain ⟨rfl, c', ec', rfl⟩ := y
            rw [ec] at ec'
            cases ec'
            exact ⟨Ext.refl _ _, st', rfl⟩
      · exact h.elim
end
end Mo

set_option Elab.async false
set_option linter.all false
set_option maxRecDepth 100000
set_option maxHeartbeats 4000000
/-! plain lemmas about the layer's denotations -/
namespace Mo
open PySem
theorem chk_refl (k : Nat) : ∀ s : S, chk k s s = true
  | [] => rfl
  | c :: s => by simp [chk, chk_refl k s]
theorem chk_app (k : Nat) : ∀ s t : S, chk k s (s ++ t) = true
  | [], t => rfl
  | c :: s, t => by simp [chk, chk_app k s t]
@[simp] theorem clD_p (k : Nat) (p : P) : clD k (.p p) = true := rfl
@[simp] theorem clDs_map (k : Nat) : ∀ ps : List P, clDs k (ps.map D.p) = true
  | [] => rfl
  | p :: ps => by simp [clDs, clDs_map k ps]
theorem clDs_all {k : Nat} : ∀ {ds : List D}, (∀ d ∈ ds, clD k d = true) → clDs k ds = true
  | [], _ => rfl
  | d :: ds, h => by
    unfold clDs
    rw [h d (List.mem_cons_self ..), clDs_all fun e he => h e (List.mem_cons_of_mem _ he)]
    rfl
@[simp] theorem frzD_p (k : Nat) (s : S) (p : P) : frzD k s (.p p) = .p p := rfl
@[simp] theorem fin_p (s : S) (p : P) : fin s (.p p) s = (.p p, s) := by
  unfold fin
  simp [chk_refl]
@[simp] theorem fin_pa (s t : S) (p : P) : fin s (.p p) (s ++ t) = (.p p, s) := by
  unfold fin
  simp [chk_app]
theorem fin_pk {s s' : S} {p : P} (h : chk s.length s s' = true) : fin s (.p p) s' = (.p p, s'.take s.length) := by
  unfold fin
  simp [h]
theorem fin_new {s : S} {ds : List D} (h : clDs s.length ds = true) : fin s (.loc s.length) (s ++ [.lst ds]) = (.lst ds, s) := by
  have e : frzD s.length (s ++ [.lst ds]) (.loc s.length) = .lst ds := by simp [frzD, frz1]
  unfold fin
  rw [e]
  simp [clD, h, chk_app]
@[simp] theorem mkT_map (ps : List P) : mkT (ps.map D.p) = .p (.tup ps) := by simp [mkT]
@[simp] theorem mkT_nil : mkT [] = .p (.tup []) := rfl
/-- a loop that goes on or ends -/
def runSt {α β γ : Type} (stp : β → α → Sum β γ) : β → List α → Sum β γ
  | b, [] => .inl b
  | b, x :: l => match stp b x with
    | .inl b' => runSt stp b' l
    | .inr c => .inr c
/-- a plain end -/
def Fl.ends : Fl → Prop
  | .rt _ _ => True
  | .ex _ _ _ => True
  | _ => False
theorem forL_run {α β γ : Type} {g : α → D} {ok : S → Bool} {T : Pt} {B : Bl} {stp : β → α → Sum β γ} {I : β → Env → S → Prop} {R : γ → Fl → Prop} (hok : ∀ b ρ s, I b ρ s → ok s = true) : ∀ {l : List α},
    (∀ b x ρ s, x ∈ l → I b ρ s → ∃ ρ1, T.run (g x) ρ = some ρ1 ∧ match stp b x with
      | .inl b' => ∃ ρ2 s2, (B ρ1 s = .nx ρ2 s2 ∨ B ρ1 s = .ct ρ2 s2) ∧ I b' ρ2 s2
      | .inr c => R c (B ρ1 s) ∧ (B ρ1 s).ends) →
    ∀ {b : β} {ρ : Env} {s : S}, I b ρ s → match runSt stp b l with
      | .inl b' => ∃ ρ' s', forL ok T B (l.map g) ρ s = .nx ρ' s' ∧ I b' ρ' s'
      | .inr c => R c (forL ok T B (l.map g) ρ s)
  | [], _, b, ρ, s, h => ⟨ρ, s, by simp [forL, hok b ρ s h], h⟩
  | x :: l, hst, b, ρ, s, h => by
    obtain ⟨ρ1, e1, h1⟩ := hst b x ρ s (List.mem_cons_self ..) h
    have ih := fun {b' : β} {ρ' : Env} {s' : S} (h' : I b' ρ' s') => forL_run hok (l := l) (fun b x ρ s hx => hst b x ρ s (List.mem_cons_of_mem _ hx)) h'
    unfold runSt
    cases e2 : stp b x with
    | inl b' =>
      rw [e2] at h1
      obtain ⟨ρ2, s2, h2, h3⟩ := h1
      have := ih h3
      simp only at this ⊢
      have e : forL ok T B ((x :: l).map g) ρ s = forL ok T B (l.map g) ρ2 s2 := by
        rcases h2 with h2 | h2 <;> simp only [List.map_cons, forL, hok b ρ s h, e1, h2, if_true]
      rw [e]
      exact this
    | inr c =>
      rw [e2] at h1
      simp only at h1 ⊢
      have e : forL ok T B ((x :: l).map g) ρ s = B ρ1 s := by
        simp only [List.map_cons, forL, hok b ρ s h, e1, if_true]
        cases hB : B ρ1 s with
        | rt d s' => simp only
        | ex y ρ' s' => simp only
        | nx _ _ => rw [hB] at h1; exact h1.2.elim
        | bk _ _ => rw [hB] at h1; exact h1.2.elim
        | ct _ _ => rw [hB] at h1; exact h1.2.elim
        | no => rfl
      rw [e]
      exact h1.1
theorem lcD_pure {α : Type} {g : α → D} {u : α → Bool} {y : α → D} {ok : S → Bool} {T : Pt} {U : Te} {A : Ex} {ρ : Env} {s : S} (hok : ∀ s', ok s' = true) : ∀ {l : List α} {acc : List D},
    (∀ x ∈ l, ∃ ρx, T.run (g x) ρ = some ρx ∧ (∀ acc, U ρx (s ++ [.lst acc]) = .ok (u x) (s ++ [.lst acc])) ∧ (u x = true → ∀ acc, A ρx (s ++ [.lst acc]) = .ok (y x) (s ++ [.lst acc]))) → acc.length + l.length ≤ 1000000 →
    lcD ok T U A s.length (l.map g) ρ (s ++ [.lst acc]) = .ok () (s ++ [.lst (acc ++ (l.filter u).map y)])
  | [], acc, _, _ => by simp [lcD, hok]
  | x :: l, acc, h, hz => by
    obtain ⟨ρx, e1, e2, e3⟩ := h x (List.mem_cons_self ..)
    have ih := fun {acc : List D} (hz : acc.length + l.length ≤ 1000000) => lcD_pure (y := y) (u := u) hok (l := l) (acc := acc) (fun z hz => h z (List.mem_cons_of_mem _ hz)) hz
    rw [List.map_cons]
    unfold lcD
    rw [if_pos (hok _), e1]
    simp only [e2, Out.bindN]
    cases hu : u x with
    | false =>
      simp only [Bool.false_eq_true, if_false]
      rw [ih (by simp at hz; omega), List.filter_cons_of_neg (by simp [hu])]
    | true =>
      simp only [if_true, e3 hu]
      have : (s ++ [C.lst acc])[s.length]? = some (.lst acc) := by simp
      rw [this]
      simp only
      rw [if_pos (by rw [sizeLine_eq]; simp at hz; omega)]
      have e : (s ++ [C.lst acc]).set s.length (.lst (acc ++ [y x])) = s ++ [.lst (acc ++ [y x])] := by simp
      rw [e, ih (by simp at hz ⊢; omega), List.filter_cons_of_pos (by simp [hu])]
      simp
/-- a comprehension whose parts leave the store as it is -/
theorem eLc_pure {α : Type} {g : α → D} {u : α → Bool} {y : α → D} {Sg : Sr} {own : List Nat} {T : Pt} {U : Te} {A : Ex} {ρ : Env} {s : S} {ok : S → Bool} {l : List α} (hs : Sg ρ s = .ok ⟨l.map g, ok⟩ s) (hok : ∀ s', ok s' = true)
    (h : ∀ x ∈ l, ∃ ρx, T.run (g x) (wipeE ρ own) = some ρx ∧ (∀ acc, U ρx (s ++ [.lst acc]) = .ok (u x) (s ++ [.lst acc])) ∧ (u x = true → ∀ acc, A ρx (s ++ [.lst acc]) = .ok (y x) (s ++ [.lst acc]))) (hz : l.length ≤ 1000000)
    (hc : ∀ x ∈ l, clD s.length (y x) = true) : eLc Sg own T U A ρ s = .ok (.lst ((l.filter u).map y)) s := by
  unfold eLc
  rw [hs]
  simp only [Out.bind]
  rw [lcD_pure (y := y) (u := u) hok h (by simpa using hz)]
  simp only [Out.bindN, List.nil_append]
  rw [fin_new (clDs_all fun d hd => by
    obtain ⟨x, hx, rfl⟩ := List.mem_map.mp hd
    exact hc x (List.mem_filter.mp hx).1)]
end Mo

set_option Elab.async false
set_option linter.all false
set_option maxRecDepth 100000
set_option maxHeartbeats 4000000
/-! operations on plain values, as simp lemmas -/
namespace Mo
open PySem L2
@[simp] theorem dAdd_int (a b : Int) (s : S) : dAdd (.p (.int a)) (.p (.int b)) s = some (.p (.int (a + b)), s) := by simp [dAdd, addI]
theorem dAdd_str (a b : Str) (s : S) (h : a.length + b.length ≤ 1000000) : dAdd (.p (.str a)) (.p (.str b)) s = some (.p (.str (a ++ b)), s) := by
  have : a.length + b.length ≤ sizeLine := by rw [sizeLine_eq]; omega
  simp [dAdd, addI, addS, this]
theorem dAdd_tup (a b : List P) (s : S) (h : a.length + b.length ≤ 1000000) : dAdd (.p (.tup a)) (.p (.tup b)) s = some (.p (.tup (a ++ b)), s) := by
  have : a.length + b.length ≤ sizeLine := by rw [sizeLine_eq]; omega
  have e : mkT (a.map D.p ++ b.map D.p) = .p (.tup (a ++ b)) := by rw [← List.map_append, mkT_map]
  simp [dAdd, addI, addS, addT, this, e]
@[simp] theorem dSub_int (a b : Int) (s : S) : dSub (.p (.int a)) (.p (.int b)) s = some (.p (.int (a - b)), s) := by simp [dSub]
theorem dMod_int (a b : Int) (s : S) (h : 0 < b) : dMod (.p (.int a)) (.p (.int b)) s = some (.p (.int (a % b)), s) := by simp [dMod, h]
theorem dDiv_int (a b : Int) (s : S) (h : 0 < b) (h2 : b < 1073741824) : dDiv (.p (.int a)) (.p (.int b)) s = some (.p (.int (a / b)), s) := by simp [dDiv, h, h2]
theorem dMul_int (a b : Int) (s : S) (h : -(2 ^ 64) < b) (h2 : b < 2 ^ 64) : dMul (.p (.int a)) (.p (.int b)) s = some (.p (.int (a * b)), s) := by
  have e : cMul a b = true := by unfold cMul; rw [decide_eq_true h, decide_eq_true h2]; simp
  simp [dMul, e]
@[simp] theorem dLe_int (a b : Int) (s : S) : dLe (.p (.int a)) (.p (.int b)) s = some (.p (.bl (decide (a ≤ b))), s) := by simp [dLe]
@[simp] theorem dLt_int (a b : Int) (s : S) : dLt (.p (.int a)) (.p (.int b)) s = some (.p (.bl (decide (a < b))), s) := by simp [dLt]
@[simp] theorem dGt_int (a b : Int) (s : S) : dGt (.p (.int a)) (.p (.int b)) s = some (.p (.bl (decide (b < a))), s) := by simp [dGt]
@[simp] theorem dGe_int (a b : Int) (s : S) : dGe (.p (.int a)) (.p (.int b)) s = some (.p (.bl (decide (b ≤ a))), s) := by simp [dGe]
@[simp] theorem dEq_str (a b : Str) (s : S) : dEq (.p (.str a)) (.p (.str b)) s = some (.p (.bl (decide (a = b))), s) := by simp [dEq, scP]
@[simp] theorem dEq_int (a b : Int) (s : S) : dEq (.p (.int a)) (.p (.int b)) s = some (.p (.bl (decide (a = b))), s) := by simp [dEq, scP]
@[simp] theorem dEq_bl (a b : Bool) (s : S) : dEq (.p (.bl a)) (.p (.bl b)) s = some (.p (.bl (decide (a = b))), s) := by simp [dEq, scP]
@[simp] theorem dNe_str (a b : Str) (s : S) : dNe (.p (.str a)) (.p (.str b)) s = some (.p (.bl (!decide (a = b))), s) := by simp [dNe, scP]
theorem ixT_at {ps : List P} {i : Int} {p : P} (s : S) (h : atI (ps.map D.p) i = some (.p p)) : dIx (.p (.tup ps)) (.p (.int i)) s = some (.p p, s) := by simp [dIx, ixT, h]
theorem atI_nat {α : Type} {l : List α} {n : Nat} {x : α} (h : l[n]? = some x) : atI l (n : Int) = some x := by
  have hn := (List.getElem?_eq_some_iff.mp h).1
  unfold atI ixN
  rw [if_pos (by omega), if_pos (by omega)]
  simpa using h
theorem atI_int {α : Type} {l : List α} {i : Int} {x : α} (h0 : 0 ≤ i) (h : l[i.toNat]? = some x) : atI l i = some x := by
  have := atI_nat h
  rwa [Int.toNat_of_nonneg h0] at this
theorem atI_last {α : Type} {l : List α} {x : α} : atI (l ++ [x]) (-1) = some x := by
  unfold atI ixN
  rw [if_neg (by omega), if_pos (by simp; omega)]
  have : (-1 + ((l ++ [x]).length : Int)).toNat = l.length := by simp; omega
  rw [this]
  simp
@[simp] theorem dIx_0 (a : P) (l : List P) (s : S) : dIx (.p (.tup (a :: l))) (.p (.int 0)) s = some (.p a, s) := ixT_at s (atI_nat (n := 0) rfl)
@[simp] theorem dIx_1 (a b : P) (l : List P) (s : S) : dIx (.p (.tup (a :: b :: l))) (.p (.int 1)) s = some (.p b, s) := ixT_at s (atI_nat (n := 1) rfl)
@[simp] theorem dIx_2 (a b c : P) (l : List P) (s : S) : dIx (.p (.tup (a :: b :: c :: l))) (.p (.int 2)) s = some (.p c, s) := ixT_at s (atI_nat (n := 2) rfl)
@[simp] theorem dIx_3 (a b c d : P) (l : List P) (s : S) : dIx (.p (.tup (a :: b :: c :: d :: l))) (.p (.int 3)) s = some (.p d, s) := ixT_at s (atI_nat (n := 3) rfl)
@[simp] theorem dIx_4 (a b c d e : P) (l : List P) (s : S) : dIx (.p (.tup (a :: b :: c :: d :: e :: l))) (.p (.int 4)) s = some (.p e, s) := ixT_at s (atI_nat (n := 4) rfl)
theorem dIx_n {ps : List P} {i : Int} {p : P} (s : S) (h0 : 0 ≤ i) (h : ps[i.toNat]? = some p) : dIx (.p (.tup ps)) (.p (.int i)) s = some (.p p, s) := ixT_at s (atI_int h0 (by rw [List.getElem?_map, h]; rfl))
@[simp] theorem bTup_lst (ds : List D) (s : S) : bTup [.lst ds] s = some (mkT ds, s) := by simp [bTup]
@[simp] theorem bTup_tup (ps : List P) (s : S) : bTup [.p (.tup ps)] s = some (.p (.tup ps), s) := by simp [bTup]
theorem bTup_loc {n : Nat} {ds : List D} {s : S} (h : s[n]? = some (.lst ds)) : bTup [.loc n] s = some (mkT ds, s) := by simp [bTup, h]
@[simp] theorem bLen_tup (ps : List P) (s : S) : bLen [.p (.tup ps)] s = some (.p (.int ps.length), s) := by simp [bLen, altC, lenQ]
@[simp] theorem bLen_lst (ds : List D) (s : S) : bLen [.lst ds] s = some (.p (.int ds.length), s) := by simp [bLen, altC, lenQ]
theorem bLen_loc {n : Nat} {ds : List D} {s : S} (h : s[n]? = some (.lst ds)) : bLen [.loc n] s = some (.p (.int ds.length), s) := by simp [bLen, altC, lenQ, h]
theorem sIx_int {n d : Nat} {i : Int} (h : 0 ≤ i) : HT.sIx n d (some i) = min i.toNat n := by
  have := HT.sIx_nat n d i.toNat
  rwa [Int.toNat_of_nonneg h] at this
theorem cut_to {ds : List D} {i : Int} (h : 0 ≤ i) : cutD ds none (some i) = ds.take i.toNat := by
  unfold cutD
  rw [sIx_int h, HT.sIx_none]
  simp only [List.drop_zero, Nat.sub_zero]
  by_cases hl : i.toNat ≤ ds.length
  · rw [Nat.min_eq_left hl]
  · rw [Nat.min_eq_right (by omega), List.take_of_length_le (by omega), List.take_of_length_le (by omega)]
theorem cut_from {ds : List D} {i : Int} (h : 0 ≤ i) : cutD ds (some i) none = ds.drop i.toNat := by
  unfold cutD
  rw [sIx_int h, HT.sIx_none]
  by_cases hl : i.toNat ≤ ds.length
  · rw [Nat.min_eq_left hl, List.take_of_length_le (by simp)]
  · rw [Nat.min_eq_right (by omega), List.drop_of_length_le (by omega), List.drop_of_length_le (by omega)]
    simp
theorem sl_to (ps : List P) {i : Int} (s : S) (h : 0 ≤ i) : dSl (.p (.tup ps)) none (some i) s = some (.p (.tup (ps.take i.toNat)), s) := by
  have e : mkT ((ps.map D.p).take i.toNat) = .p (.tup (ps.take i.toNat)) := by rw [← List.map_take, mkT_map]
  simp [dSl, slT, cut_to h, e]
theorem sl_from (ps : List P) {i : Int} (s : S) (h : 0 ≤ i) : dSl (.p (.tup ps)) (some i) none s = some (.p (.tup (ps.drop i.toNat)), s) := by
  have e : mkT ((ps.map D.p).drop i.toNat) = .p (.tup (ps.drop i.toNat)) := by rw [← List.map_drop, mkT_map]
  simp [dSl, slT, cut_from h, e]
@[simp] theorem isN_none : isN (.p .non) = true := rfl
@[simp] theorem isN_str (x : Str) : isN (.p (.str x)) = false := rfl
@[simp] theorem isN_int (x : Int) : isN (.p (.int x)) = false := rfl
@[simp] theorem isN_tup (x : List P) : isN (.p (.tup x)) = false := rfl
@[simp] theorem isN_loc (x : Nat) : isN (.loc x) = false := rfl
@[simp] theorem isN_dK (x : List Key) (y : List D) : isN (.dK x y) = false := rfl
end Mo

set_option Elab.async false
set_option linter.all false
set_option maxRecDepth 100000
set_option maxHeartbeats 1000000
/-! a def's run from its body's run -/
namespace Mo
open PySem L2
theorem runF_rt {n N : Nat} {B : Bl} {ds : List D} {ρ : Env} {s s' : S} {d : D} (hl : ds.length = n) (hρ : ds.map some ++ List.replicate (N - n) none = ρ) (h : B ρ s = .rt d s') : runF n N B ds s = .ok (fin s d s').1 (fin s d s').2 := by
  subst hρ
  unfold runF
  rw [if_pos hl, h]
theorem runF_nx {n N : Nat} {B : Bl} {ds : List D} {ρ ρ' : Env} {s s' : S} (hl : ds.length = n) (hρ : ds.map some ++ List.replicate (N - n) none = ρ) (h : B ρ s = .nx ρ' s') : runF n N B ds s = .ok (fin s (.p .non) s').1 (fin s (.p .non) s').2 := by
  subst hρ
  unfold runF
  rw [if_pos hl, h]
theorem runF_ex {n N : Nat} {B : Bl} {ds : List D} {ρ ρ' : Env} {s s' : S} {x : Xc} (hl : ds.length = n) (hρ : ds.map some ++ List.replicate (N - n) none = ρ) (h : B ρ s = .ex x ρ' s') : runF n N B ds s = .ex x s' := by
  subst hρ
  unfold runF
  rw [if_pos hl, h]
theorem sRng1_ok {As : Ar} {ρ : Env} {s s1 : S} {L : Int} (h : As ρ s = .ok [.p (.int L)] s1) (h1 : -1000000000000 ≤ L) (h2 : L ≤ 1000000000000) : sRng1 As ρ s = .ok ⟨rgD 0 1 L.toNat, fun _ => true⟩ s1 := by
  rw [sRng1, h, Out.bind_ok]
  exact if_pos ⟨by omega, by omega⟩
end Mo

set_option Elab.async false
set_option linter.all false
set_option maxRecDepth 100000
set_option maxHeartbeats 2000000
/-! the head's facts for own exceptions: a Hook of our own -/
namespace Mo
open PySem PySem.Spec PyProof.Rows L2
/-- the j-th statement of a class -/
def clsAt (s : Stmt) (j : Nat) : Stmt := match s with
  | .ClassDef _ _ _ b _ _ _ _ _ _ _ => b.getD j (.Pass ⟨0, 0, 0, 0⟩)
  | _ => .Pass ⟨0, 0, 0, 0⟩
/-- an exception's class: its __init__, its fields -/
structure XcD where
  name : Str
  qual : Str
  params : Arguments
  body : List Stmt
  scope : Scope
  fs : List Str
def xcF (K : PySem.W.Frag) (x : Str) : Addr := He.ma K (He.ga K x) "__init__"
def cloC (l : List (Str × Addr)) : Addr := match l with
  | [(_, c)] => c
  | _ => 0
abbrev FnX : Type := Option (Str × Str × Arguments × FuncBody × Scope × Addr × List Str × Value × Addr)
def xcObs (K : PySem.W.Frag) (d : XcD) : FnX := match K.lookup (xcF K d.name) with
  | some ⟨_, _, .func fd, _⟩ => some (fd.name, fd.qualname, fd.params, fd.body, fd.scope, fd.globals, fd.closure.map (·.1), fd.defaults, fd.builtins)
  | _ => none
def XcD.val (d : XcD) : FnX := some ("__init__", d.qual, d.params, .stmts d.body, d.scope, mainGlobals, ["__class__"], .none, builtinsNs)
def oexB (K : PySem.W.Frag) (C : Addr) : Bool := (match K.lookup C with
  | some ⟨.type t, _, .cls cd, sl⟩ => decide (t = "type") && ((match cd.mro with
    | .ref c :: bm => decide (c = C) && PySem.HandSPX.refsVE bm
    | _ => false) && (cd.hasDict && (!cd.hasDel && (match sl.toList with
    | [_, _, _, _, some (.builtin i), _] => decide (i = "ValueError.__new__")
    | _ => false))))
  | _ => false) && (He.eqO (PySem.W.findIn K (.ref C) "__setattr__") (some (some (.builtin "object.__setattr__"))) && (decide (PySem.W.subIn K (.ref C) (.type "BaseException") = some true) && (decide (PySem.W.typeIn K (.ref C) = some (.type "type")) && PySem.W.keepIn K (.ref C))))
theorem oex_ok {K : PySem.W.Frag} {C : Addr} (h : oexB K C = true) : OexC K C := by
  obtain ⟨h1, h⟩ := He.ba h
  obtain ⟨h2, h⟩ := He.ba h
  obtain ⟨h3, h⟩ := He.ba h
  obtain ⟨h4, h5⟩ := He.ba h
  refine ⟨?_, He.eqO_ok h2, of_decide_eq_true h3, of_decide_eq_true h4, h5⟩
  split at h1
  · rename_i t dd cd sl e
    obtain ⟨a1, g1⟩ := He.ba h1
    clear h1
    obtain ⟨a2, g2⟩ := He.ba g1
    clear g1
    obtain ⟨a3, g3⟩ := He.ba g2
    clear g2
    obtain ⟨a4, a5⟩ := He.ba g3
    clear g3
    obtain ⟨nm, bs, mro, N, q, hd, sn, sub, ab, col, del⟩ := cd
    obtain ⟨sl⟩ := sl
    have a1 := of_decide_eq_true a1
    subst a1
    simp only at a2 a3 a4 a5
    split at a2
    · rename_i c bm
      obtain ⟨b1, b2⟩ := He.ba a2
      have b1 := of_decide_eq_true b1
      subst b1
      subst a3
      have a4 : del = false := by simpa using a4
      subst a4
      split at a5
      · rename_i k0 k1 k2 k3 i k5
        have a5 := of_decide_eq_true a5
        subst a5
        exact ⟨nm, q, N, bs, bm, sn, sub, ab, col, dd, k0, k1, k2, k3, k5, e, b2⟩
      · cases a5
    · cases a2
  · cases h1
def fileB (fl : Str) (K : PySem.W.Frag) (cd : Value) : Bool := match cd with
  | .ref a => (match K.lookup a with
    | some ⟨_, _, .fields vs, _⟩ => (match vs[2]? with
      | some (Value.str f _) => (fl == f)
      | _ => false)
    | _ => false)
  | _ => false
def xcB (fl : Str) (K : PySem.W.Frag) (d : XcD) : Bool :=
  He.eqO (PySem.W.findIn K (.ref (He.ga K d.name)) "__init__") (some (some (.ref (xcF K d.name)))) && (decide (PySem.W.typeIn K (.ref (xcF K d.name)) = some (.type "function")) &&
  ((match K.lookup (xcF K d.name) with
    | some ⟨_, _, .func fd, _⟩ => PySem.W.codeIn K fd.code d.qual && (fileB fl K fd.code && (match K.lookup (cloC fd.closure) with
      | some ⟨_, _, .cell (some (.ref c)), _⟩ => decide (c = He.ga K d.name)
      | _ => false))
    | _ => false) && (oexB K (He.ga K d.name) && (decide (PySem.W.mroIn K (He.ga K d.name) (.ref (He.ga K d.name)) = some true) &&
  (He.eqO (PySem.W.ks_superIn K (He.ga K d.name) (He.ga K d.name) "__init__") (some (some (.builtin "ValueError.__init__"))) && (decide (PySem.W.subIn K (.ref (He.ga K d.name)) (.type "ValueError") = some true) &&
  (He.eqO (PySem.W.nsIn K cStatics "thirdparty.any") (some none) && (d.fs.all (fun x => He.eqO (PySem.W.findIn K (.ref (He.ga K d.name)) x) (some none)) && (xfB K (He.ga K d.name) && decide (PySem.W.exmOne K (.ref (He.ga K d.name)) (.ref (He.ga K d.name)) = some true))))))))))
theorem xc_ok {P : Program} {K : PySem.W.Frag} {mg : Str → Option Value} {d : XcD} {fl : Str} (e : xcObs K d = d.val) (c : xcB fl K d = true) (hfl : (P.main.file : Str) = fl) (htop : (P.main.scope.names.lookup ("super" : Str)).isSome = false) (hm : mg "super" = none) :
    (∃ f cda cc fd, InK P K mg (He.ga K d.name) f cda cc d.qual d.params d.body d.scope fd d.fs) ∧ XfC K (He.ga K d.name) ∧ PySem.W.exmOne K (.ref (He.ga K d.name)) (.ref (He.ga K d.name)) = some true := by
  obtain ⟨c1, c⟩ := He.ba c
  obtain ⟨c2, c⟩ := He.ba c
  obtain ⟨c3, c⟩ := He.ba c
  obtain ⟨c4, c⟩ := He.ba c
  obtain ⟨c5, c⟩ := He.ba c
  obtain ⟨c6, c⟩ := He.ba c
  obtain ⟨c7, c⟩ := He.ba c
  obtain ⟨c8, c⟩ := He.ba c
  obtain ⟨c9, c⟩ := He.ba c
  obtain ⟨c10, c11⟩ := He.ba c
  refine ⟨?_, xfB_ok c10, of_decide_eq_true c11⟩
  unfold xcObs at e
  cases q : K.lookup (xcF K d.name) with
  | none => rw [q] at c3; cases c3
  | some o =>
    obtain ⟨oc, od, dt, osl⟩ := o
    rw [q] at c3 e
    cases dt with
    | func fd =>
      obtain ⟨n1, n2, n3, n4, n5, n6, n7, n8, n9, n10, n11, n12, n13, n14, n15⟩ := fd
      simp only at c3 e
      have e2 : (some (n1, n2, n3, n4, n5, n6, n7.map (·.1), n8, n15) : FnX) = d.val := e
      unfold XcD.val at e2
      simp only [Option.some.injEq, Prod.mk.injEq] at e2
      obtain ⟨h1, h2, h3, h4, h5, h6, h7, h8, h9⟩ := e2
      subst h1 h2 h3 h4 h5 h6 h8 h9
      obtain ⟨k1, k2⟩ := He.ba c3
      obtain ⟨k4, k3⟩ := He.ba k2
      clear k2
      match n7, h7 with
      | [(y, cc)], h7 =>
        simp only [List.map_cons, List.map_nil, List.cons.injEq, and_true] at h7
        subst h7
        unfold fileB at k4
        split at k4
        · rename_i cda
          refine ⟨_, cda, cc, _, ⟨⟨oc, od, .none, n9, n10, n11, n12, n14, osl, q, rfl, rfl⟩, k1, ?_, ?_, oex_ok c4, of_decide_eq_true c5, He.eqO_ok c6, of_decide_eq_true c7, He.eqO_ok c8, htop, hm, He.eqO_ok c1, of_decide_eq_true c2, fun x hx => He.eqO_ok (List.all_eq_true.mp c9 x hx)⟩⟩
          · split at k4
            · rename_i ccl cdd vs ccs ek
              split at k4
              · rename_i file tf ev
                exact ⟨ccl, cdd, vs, ccs, file, tf, ek, ev, by rw [hfl]; exact k4⟩
              · cases k4
            · cases k4
          · simp only [cloC] at k3
            split at k3
            · rename_i cl cld c' csl ek
              have k3 := of_decide_eq_true k3
              subst k3
              exact ⟨cl, cld, csl, ek⟩
            · cases k3
        · cases k4
    | _ => cases c3
/-! constants of the module -/
mutual
def relP (K : PySem.W.Frag) : P → Value → Bool
  | .non, u => (match u with
    | .none => true
    | _ => false)
  | .bl b, u => (match u with
    | .bool c => b == c
    | _ => false)
  | .int i, u => (match u with
    | .int j _ => decide (i = j)
    | _ => false)
  | .str x, u => (match u with
    | .str y _ => decide (x = y)
    | _ => false)
  | .tup ps, u => (match u with
    | .ref a => (match K.lookup a with
      | some ⟨.type c, _, .seq its _, _⟩ => decide (c = "tuple") && (decide (its.size ≤ sizeLine) && relPs K ps its.toList)
      | _ => false)
    | _ => false)
def relPs (K : PySem.W.Frag) : List P → List Value → Bool
  | [], us => us.isEmpty
  | p :: ps, us => (match us with
    | u :: us => relP K p u && relPs K ps us
    | [] => false)
end
mutual
theorem relP_ok {K : PySem.W.Frag} : ∀ {p : P} {u : Value}, relP K p u = true → ∃ v, RelV v u ∧ ∀ H, RepP K H p v
  | .non, u, h => by
    unfold relP at h
    split at h
    · exact ⟨.non, rfl, fun _ => rfl⟩
    · cases h
  | .bl b, u, h => by
    unfold relP at h
    split at h
    · rename_i c
      have : b = c := eq_of_beq h
      subst this
      exact ⟨.bl b, rfl, fun _ => rfl⟩
    · cases h
  | .int i, u, h => by
    unfold relP at h
    split at h
    · rename_i j t
      have : i = j := of_decide_eq_true h
      subst this
      exact ⟨.int i, ⟨t, rfl⟩, fun _ => rfl⟩
    · cases h
  | .str x, u, h => by
    unfold relP at h
    split at h
    · rename_i y t
      have : x = y := of_decide_eq_true h
      subst this
      exact ⟨.str x, ⟨t, rfl⟩, fun _ => rfl⟩
    · cases h
  | .tup ps, u, h => by
    unfold relP at h
    split at h
    · rename_i a
      split at h
      · rename_i c od its n osl q
        obtain ⟨h1, h2⟩ := He.ba h
        obtain ⟨h3, h4⟩ := He.ba h2
        obtain ⟨vs, hv, hr⟩ := relPs_ok h4
        have h1 := of_decide_eq_true h1
        subst h1
        exact ⟨.ref a, rfl, fun H => ⟨a, vs, rfl, .inr ⟨_, its, n, q, rfl, rfl, of_decide_eq_true h3, hv⟩, hr H⟩⟩
      · cases h
    · cases h
theorem relPs_ok {K : PySem.W.Frag} : ∀ {ps : List P} {us : List Value}, relPs K ps us = true → ∃ vs, Vals vs us ∧ ∀ H, RepPs K H ps vs
  | [], us, h => by
    cases us with
    | nil => exact ⟨[], .nil, fun _ => rfl⟩
    | cons u us => cases h
  | p :: ps, us, h => by
    cases us with
    | nil => cases h
    | cons u us =>
      obtain ⟨h1, h2⟩ := He.ba (show (relP K p u && relPs K ps us) = true from h)
      obtain ⟨v, r, q⟩ := relP_ok h1
      obtain ⟨vs, rs, qs⟩ := relPs_ok h2
      exact ⟨v :: vs, .cons r rs, fun H => ⟨v, vs, rfl, q H, qs H⟩⟩
end
def conB (K : PySem.W.Frag) (c : Str × P) : Bool := match PySem.W.nsIn K mainGlobals c.1 with
  | some (some u) => relP K c.2 u
  | _ => false
theorem con_ok {K : PySem.W.Frag} {h : Heap} {mg : Str → Option Value} (X : K.In h) (G : h.Ns mainGlobals mg) {c : Str × P} (e : conB K c = true) : ∃ u v, mg c.1 = some u ∧ RelV v u ∧ ∀ H, RepP K H c.2 v := by
  unfold conB at e
  split at e
  · rename_i u q
    obtain ⟨v, r, p⟩ := relP_ok e
    exact ⟨u, v, PySem.W.mg_of X G q, r, p⟩
  · cases e
/-! the Hook -/
abbrev AlX : Type := Bool × List He.FnW × List FnX
def obsX (fl : Str) (fa : List He.Fa) (fn : List He.DefD) (xs : List XcD) (cs : List (Str × P)) (K : PySem.W.Frag) : AlX := ((fa.all fun f => f.ok K) && ((fn.all fun d => d.ok K) && ((xs.all fun d => xcB fl K d) && cs.all fun c => conB K c)), fn.map fun d => He.fnW K d.at_, xs.map fun d => xcObs K d)
def valX (fn : List He.DefD) (xs : List XcD) : AlX := (true, fn.map He.DefD.val, xs.map XcD.val)
def SaysX (fl : Str) (fa : List He.Fa) (fn : List He.DefD) (xs : List XcD) (cs : List (Str × P)) (K : PySem.W.Frag) : Prop := obsX fl fa fn xs cs K = valX fn xs
def obsXG (n : Nat) (fl : Str) (fa : List He.Fa) (fn : List He.DefD) (xs : List XcD) (cs : List (Str × P)) (g : Addr → Option Obj) : AlX := obsX fl fa fn xs cs (He.frG g (cStatics :: He.asD g n))
def hookX (n : Nat) (fl : Str) (fa : List He.Fa) (fn : List He.DefD) (xs : List XcD) (cs : List (Str × P)) : PySem.W.Hook where
  α := AlX
  obs := fun s => obsXG n fl fa fn xs cs s.heap.get?
  val := fun _ => valX fn xs
  says := fun _ h => ∃ K : PySem.W.Frag, K.In h ∧ SaysX fl fa fn xs cs K
  of := fun _ _ e => ⟨_, He.frG_in, e⟩
  keeps := fun _ _ _ ⟨K, hK, c⟩ k => ⟨K, PySem.W.Frag.In.keeps hK k, c⟩
theorem obsXG_eq {n : Nat} {fl : Str} {fa : List He.Fa} {fn : List He.DefD} {xs : List XcD} {cs : List (Str × P)} {g : Addr → Option Obj} {s : Shared} (h : ∀ a, g a = s.heap.get? a) : obsXG n fl fa fn xs cs g = (hookX n fl fa fn xs cs).obs s := by
  have e : g = s.heap.get? := funext h
  rw [e] <;> rfl
section
variable {fl : Str} {fa : List He.Fa} {fn : List He.DefD} {xs : List XcD} {cs : List (Str × P)} {K : PySem.W.Frag}
theorem SaysX.fact (c : SaysX fl fa fn xs cs K) (i : Nat) {f : He.Fa} (h : fa[i]? = some f := by rfl) : f.ok K = true := by
  have c1 := (He.ba (show ((fa.all fun f => f.ok K) && ((fn.all fun d => d.ok K) && ((xs.all fun d => xcB fl K d) && cs.all fun c => conB K c))) = true from congrArg (fun z : AlX => z.1) c)).1
  exact List.all_eq_true.mp c1 f (List.mem_of_getElem? h)
theorem SaysX.def_ (c : SaysX fl fa fn xs cs K) (i : Nat) {d : He.DefD} (h : fn[i]? = some d := by rfl) : ∃ fd, FunD K d.name d.qual d.params d.body d.scope (d.dvs K) (d.kws K) (He.fAd K d.at_) fd := by
  have c2 := (He.ba (He.ba (show ((fa.all fun f => f.ok K) && ((fn.all fun d => d.ok K) && ((xs.all fun d => xcB fl K d) && cs.all fun c => conB K c))) = true from congrArg (fun z : AlX => z.1) c)).2).1
  have e : fn.map (fun d => He.fnW K d.at_) = fn.map He.DefD.val := congrArg (fun z : AlX => z.2.1) c
  have e2 : (fn.map fun d => He.fnW K d.at_)[i]? = (fn.map He.DefD.val)[i]? := by rw [e]
  rw [List.getElem?_map, List.getElem?_map, h] at e2
  exact He.DefD.funD (Option.some.inj e2) (List.all_eq_true.mp c2 d (List.mem_of_getElem? h))
theorem SaysX.exc (c : SaysX fl fa fn xs cs K) (i : Nat) {d : XcD} (h : xs[i]? = some d := by rfl) : xcObs K d = d.val ∧ xcB fl K d = true := by
  have c2 := (He.ba (He.ba (He.ba (show ((fa.all fun f => f.ok K) && ((fn.all fun d => d.ok K) && ((xs.all fun d => xcB fl K d) && cs.all fun c => conB K c))) = true from congrArg (fun z : AlX => z.1) c)).2).2).1
  have e : xs.map (fun d => xcObs K d) = xs.map XcD.val := congrArg (fun z : AlX => z.2.2) c
  have e2 : (xs.map fun d => xcObs K d)[i]? = (xs.map XcD.val)[i]? := by rw [e]
  rw [List.getElem?_map, List.getElem?_map, h] at e2
  exact ⟨Option.some.inj e2, List.all_eq_true.mp c2 d (List.mem_of_getElem? h)⟩
theorem SaysX.con (c : SaysX fl fa fn xs cs K) (i : Nat) {d : Str × P} (h : cs[i]? = some d := by rfl) : conB K d = true := by
  have c2 := (He.ba (He.ba (He.ba (show ((fa.all fun f => f.ok K) && ((fn.all fun d => d.ok K) && ((xs.all fun d => xcB fl K d) && cs.all fun c => conB K c))) = true from congrArg (fun z : AlX => z.1) c)).2).2).2
  exact List.all_eq_true.mp c2 d (List.mem_of_getElem? h)
end
/-- the law's end -/
def spLaw (K : PySem.W.Frag) (ca : Str → Addr) (F : List D → S → Out D) : Sp := spF K ca 1 F
theorem law_end {K : PySem.W.Frag} {ca : Str → Addr} {F : List D → S → Out D} {H : Hp} {a : Addr} {ns : List Int} (hS : SqL K H a (ns.map V.int)) (h : ∃ s, F [.ro (ns.map fun i => .p (.int i))] [] = .ok (.p (.bl true)) s) :
    spF K ca 1 F [.ref a] H (fun v _ => v = .bl true) (fun _ _ _ => False) := by
  obtain ⟨s, h⟩ := h
  refine ⟨rfl, [], [.ro (ns.map fun i => .p (.int i))], [], ⟨rfl, List.nodup_nil, fun n c b e1 _ => by simp at e1⟩, ⟨.ref a, [], rfl, ⟨a, ns.map V.int, rfl, ?_, ?_⟩, rfl⟩, ?_⟩
  · rcases hS with hS | hS
    · exact .inl ⟨hS, by simp⟩
    · exact .inr hS
  · have key : ∀ ns : List Int, RepDs K H [] (ns.map fun i => D.p (.int i)) (ns.map V.int) := by
      intro ns
      induction ns with
      | nil => rfl
      | cons n ns ih => exact ⟨.int n, _, rfl, rfl, ih⟩
    exact key ns
  · rw [h]
    intro m' H' v _ _ r
    exact r
end Mo
namespace Mo
open PySem PySem.Spec PyProof.Rows L2
/-- the law over such a head, whatever may be raised on the way -/
theorem walk_mo {l : PySem.W.OpenLaw} {n k : Nat} {q : Program} {loose : List Str} {XP : (Str → Option Value) → Heap → Prop} {YP : World → Heap → Prop} {d : DefRec} {x : Str} (hn : l.most = some n) (hn2 : n ≤ sizeLine) (hdf : d.params.defaults = []) (hr : Room k callerA)
    (F : ∀ (w : World) (mg : Str → Option Value) (fa : Addr) (h : Heap), YP w h → h.Ns mainGlobals mg → mg d.name = some (.ref fa) → ∃ (K : PySem.W.Frag) (fd : FuncData) (ca : Str → Addr) (G : List D → S → Out D), K.In h ∧ (∀ (s : Shared) (u : Value), BindsTo s fd ⟨[u], []⟩ [(x, u)]) ∧
      (∀ ns : List Int, ns.length ≤ n → ∃ s, G [.ro (ns.map fun i => .p (.int i))] [] = .ok (.p (.bl true)) s) ∧ ∀ base : Heap, K.In base → base.Ns mainGlobals mg → FnOk l.prog w K mg base (L2.CX l.prog w) k fa fd [x] (spF K ca 1 G)) :
    PySem.W.WalkO q loose XP YP l.row.toRowW d [] (fun f vs => PySem.call f vs) :=
  Att.attach_call hn hdf fun w _ s₁ mg mb fa _ _ _ _ a vs ns G Y _ _ _ hmg hobj hints hlen hg => by
    obtain ⟨K, fd, ca, g, KX, hb, hsp, hF⟩ := F w mg fa _ Y G.T.g hmg
    refine law_call KX G.T.g G.T.b G.T.builtins G.T.nolimit hg hobj hints (Nat.le_trans hlen hn2) hr hF hb (fun H _ hS => law_end hS (hsp ns hlen)) fun H e s' hx => ?_
    obtain ⟨_, _, _, _, _, _, _, _, _, _, _, _, no⟩ := hx
    exact no
theorem bindsKw {K : PySem.W.Frag} {x qual : Str} {params : Arguments} {body : List Stmt} {scope : Scope} {kws : List (Str × V)} {f : Addr} {fd : FuncData} {ps ks : List Str} {pi : List Nat} {j : Nat} (F : FunD K x qual params body scope [] kws f fd)
    (h : ∀ (kV doc pm : Value) (an : Option Addr) (cdv ct : Value) (us ws : List Value), us.length = j → ws.length = ks.length → bindArgs (PySem.W.fnOf x qual params body scope .none kV doc pm an cdv ct) ⟨us, ks.zip ws⟩ = pure (ps.zip (arr pi (us ++ ws)))) :
    ∀ (s : Shared) (us ws : List Value), K.In s.heap → us.length = j → ws.length = ks.length → BindsTo s fd ⟨us, ks.zip ws⟩ (ps.zip (arr pi (us ++ ws))) := fun s us ws _ l1 l2 => by
  obtain ⟨oc, od, dV, kV, doc, pm, an, cdv, ct, osl, rfl, lk, hcd, hD, hK⟩ := F.ex
  rcases hD with ⟨_, rfl⟩ | ⟨e, _⟩
  · exact .of_eq (h kV doc pm an cdv ct us ws l1 l2)
  · exact absurd rfl e
theorem excOk_of {P : Program} {w : World} {K : PySem.W.Frag} {mg : Str → Option Value} {base : Heap} {ca : Str → Addr} {x : Str} {f cda cc : Addr} {fd : FuncData} {qual : Str} {params : Arguments} {body : List Stmt} {scope : Scope} {ps fs : List Str} (hm : mg x = some (.ref (ca x)))
    (D : InK P K mg (ca x) f cda cc qual params body scope fd fs) (F : FnOk P w K mg base (L2.CX P w) 1 f fd ps (spI K (ca x) fs))
    (hb : ∀ (kV doc pm : Value) (an : Option Addr) (cdv ct : Value) (cc : Addr) (us : List Value), us.length = ps.length → bindArgs (PySem.W.ksFn "__init__" qual params body scope .none kV doc pm an cdv ct cc) ⟨us, []⟩ = pure (ps.zip us)) : ExcOk P w K mg base ca 1 x fs := by
  refine ⟨D.T, hm, f, fd, ps, F, D.init, D.tI, ?_⟩
  obtain ⟨oc, od, dV, kV, doc, pm, an, ct, osl, lk, rfl, rfl⟩ := D.lk
  exact .all (hb kV doc pm an _ ct cc)
end Mo

set_option Elab.async false
set_option linter.all false
set_option maxRecDepth 100000
set_option maxHeartbeats 1000000
/-! what a block asks, name by name: conditions drawn from the denotations -/
namespace Mo
open PySem L2
def wO {α : Type} (o : Out α) (Q : α → S → Prop) (E : Xc → S → Prop) : Prop := match o with
  | .ok a s => Q a s
  | .ex x s => E x s
  | .no => False
@[simp] theorem wO_ok {α : Type} (a : α) (s : S) (Q : α → S → Prop) (E : Xc → S → Prop) : wO (.ok a s) Q E = Q a s := rfl
@[simp] theorem wO_ex {α : Type} (x : Xc) (s : S) (Q : α → S → Prop) (E : Xc → S → Prop) : wO (.ex x s) Q E = E x s := rfl
@[simp] theorem wO_no {α : Type} (Q : α → S → Prop) (E : Xc → S → Prop) : wO .no Q E = False := rfl
theorem wO.mono {α : Type} {o : Out α} {Q Q' : α → S → Prop} {E E' : Xc → S → Prop} (h : wO o Q E) (h1 : ∀ a s, Q a s → Q' a s) (h2 : ∀ x s, E x s → E' x s) : wO o Q' E' := by
  cases o with
  | ok a s => exact h1 _ _ h
  | ex x s => exact h2 _ _ h
  | no => exact h
theorem wO.bind {α β : Type} {o : Out α} {f : α → S → Out β} {Q : β → S → Prop} {E : Xc → S → Prop} (h : wO o (fun a s => wO (f a s) Q E) E) : wO (o.bind f) Q E := by
  cases o with
  | ok a s => exact h
  | ex x s => exact h
  | no => exact h
theorem wO.of {α : Type} {o : Out α} {Q : α → S → Prop} (h : wO o Q fun _ _ => False) : ∃ a s, o = .ok a s ∧ Q a s := by
  cases o with
  | ok a s => exact ⟨a, s, rfl, h⟩
  | ex x s => exact h.elim
  | no => exact h.elim
def vO {α : Type} (o : Option (α × S)) (k : α → S → Prop) : Prop := match o with
  | some (d, s) => k d s
  | none => False
@[simp] theorem vO_some {α : Type} (d : α) (s : S) (k : α → S → Prop) : vO (some (d, s)) k = k d s := rfl
@[simp] theorem vO_none {α : Type} (k : α → S → Prop) : vO none k = False := rfl
theorem vO_eq {α : Type} {o : Option (α × S)} {d : α} {s : S} {k : α → S → Prop} (e : o = some (d, s)) (h : k d s) : vO o k := by rw [e]; exact h
def vP (o : Option S) (k : S → Prop) : Prop := match o with
  | some s => k s
  | none => False
@[simp] theorem vP_some (s : S) (k : S → Prop) : vP (some s) k = k s := rfl
def vI (d : D) (k : Int → Prop) : Prop := match d with
  | .p (.int i) => k i
  | _ => False
@[simp] theorem vI_int (i : Int) (k : Int → Prop) : vI (.p (.int i)) k = k i := rfl
def vBl (d : D) (k : Bool → Prop) : Prop := match d with
  | .p (.bl b) => k b
  | _ => False
@[simp] theorem vBl_bl (b : Bool) (k : Bool → Prop) : vBl (.p (.bl b)) k = k b := rfl
/-- one way or the other, then k -/
def vC {α : Type} (b : Bool) (A B : (α → S → Prop) → Prop) (k : α → S → Prop) : Prop := if b = true then A k else B k
@[simp] theorem vC_true {α : Type} (A B : (α → S → Prop) → Prop) (k : α → S → Prop) : vC true A B k = A k := rfl
@[simp] theorem vC_false {α : Type} (A B : (α → S → Prop) → Prop) (k : α → S → Prop) : vC false A B k = B k := rfl
def vT (d : D) (k : List D → Prop) : Prop := match viT d with
  | some ds => k ds
  | none => False
theorem vT_eq {d : D} {ds : List D} {k : List D → Prop} (e : viT d = some ds) (h : k ds) : vT d k := by unfold vT; rw [e]; exact h
@[simp] theorem vT_tup (ps : List P) (k : List D → Prop) : vT (.p (.tup ps)) k = k (ps.map D.p) := rfl
def vH (ds : List D) (k : D → List D → Prop) : Prop := match ds with
  | d :: r => k d r
  | [] => False
@[simp] theorem vH_cons (d : D) (r : List D) (k : D → List D → Prop) : vH (d :: r) k = k d r := rfl
def vN (ds : List D) (k : Unit → Prop) : Prop := match ds with
  | [] => k ()
  | _ => False
@[simp] theorem vN_nil (k : Unit → Prop) : vN [] k = k () := rfl
def vTy (s : S) (d : D) (k : String → Prop) : Prop := match tyD s d with
  | some t => k t
  | none => False
@[simp] theorem vTy_p (s : S) (p : P) (k : String → Prop) : vTy s (.p p) k = k (tyP p) := rfl
/-- x[y] of a list, a tuple, a text, a dict -/
def dGet (x y : D) (s : S) : Option (D × S) := match viD s x, keyD y with
  | some (ks, ds), some k => match lkD ks ds k with
    | some d => some (d, s)
    | none => none
  | _, _ => none
def dSb (x y : D) (s : S) : Option (D × S) := match dIx x y s with
  | some r => some r
  | none => dGet x y s
theorem dSb_ix {x y d : D} {s s' : S} (h : dIx x y s = some (d, s')) : dSb x y s = some (d, s') := by unfold dSb; rw [h]
@[simp] theorem dSb_0 (a : P) (l : List P) (s : S) : dSb (.p (.tup (a :: l))) (.p (.int 0)) s = some (.p a, s) := dSb_ix (dIx_0 ..)
@[simp] theorem dSb_1 (a b : P) (l : List P) (s : S) : dSb (.p (.tup (a :: b :: l))) (.p (.int 1)) s = some (.p b, s) := dSb_ix (dIx_1 ..)
@[simp] theorem dSb_2 (a b c : P) (l : List P) (s : S) : dSb (.p (.tup (a :: b :: c :: l))) (.p (.int 2)) s = some (.p c, s) := dSb_ix (dIx_2 ..)
@[simp] theorem dSb_3 (a b c d : P) (l : List P) (s : S) : dSb (.p (.tup (a :: b :: c :: d :: l))) (.p (.int 3)) s = some (.p d, s) := dSb_ix (dIx_3 ..)
@[simp] theorem dSb_4 (a b c d e : P) (l : List P) (s : S) : dSb (.p (.tup (a :: b :: c :: d :: e :: l))) (.p (.int 4)) s = some (.p e, s) := dSb_ix (dIx_4 ..)
/-- x in y -/
def dInn (n : Bool) (x y : D) (s : S) : Option (D × S) := match dInA n x y s with
  | some r => some r
  | none => match viD s y, keyD x with
    | some (ks, ds), some k => some (.p (.bl (xor n (lkD ks ds k).isSome)), s)
    | _, _ => none
def putA (o i d : D) (s : S) : Option S := match putL o i d s with
  | some r => some r
  | none => putD o i d s

/-! what is known of the slots -/
def Ap (a ρ : Env) : Prop := a.length = ρ.length ∧ ∀ (i : Nat) (d : D), a[i]? = some (some d) → ρ[i]? = some (some d)
theorem Ap.refl (a : Env) : Ap a a := ⟨rfl, fun _ _ h => h⟩
theorem Ap.set {a ρ : Env} (h : Ap a ρ) (i : Nat) (x : Option D) : Ap (a.set i x) (ρ.set i x) := by
  refine ⟨by simp [h.1], fun j d hj => ?_⟩
  by_cases e : i = j
  · subst e
    by_cases hl : i < a.length
    · rw [List.getElem?_set_self hl] at hj
      rw [List.getElem?_set_self (h.1 ▸ hl)]; exact hj
    · rw [List.getElem?_eq_none (by simp; omega)] at hj; cases hj
  · rw [List.getElem?_set_ne e] at hj ⊢
    exact h.2 j d hj
theorem Ap.wipe {a ρ : Env} (h : Ap a ρ) : ∀ own : List Nat, Ap (wipeE a own) (wipeE ρ own)
  | [] => h
  | v :: vs => (Ap.wipe h vs).set v none
inductive LeE : Env → Env → Prop
  | nil : LeE [] []
  | n {b a : Env} {x : Option D} : LeE b a → LeE (none :: b) (x :: a)
  | s {b a : Env} {d : D} : LeE b a → LeE (some d :: b) (some d :: a)
theorem LeE.ap {b a : Env} (h : LeE b a) : Ap b a := by
  induction h with
  | nil => exact Ap.refl _
  | n h ih =>
    refine ⟨by simp [ih.1], fun i d e => ?_⟩
    cases i with
    | zero => simp at e
    | succ i => simpa using ih.2 i d (by simpa using e)
  | s h ih =>
    refine ⟨by simp [ih.1], fun i d e => ?_⟩
    cases i with
    | zero => simpa using e
    | succ i => simpa using ih.2 i d (by simpa using e)
theorem Ap.trans {a b ρ : Env} (h : Ap a b) (h' : Ap b ρ) : Ap a ρ := ⟨h.1.trans h'.1, fun i d e => h'.2 i d (h.2 i d e)⟩

/-! expressions, tests, argument lists -/
abbrev Wt (α : Type) := S → (α → S → Prop) → (Xc → S → Prop) → Prop
def VE {α : Type} (a : Env) (A : Env → S → Out α) (w : Wt α) : Prop := ∀ ρ s Q E, Ap a ρ → w s Q E → wO (A ρ s) Q E
/-- .. and how many -/
def VA (n : Nat) (a : Env) (As : Ar) (w : Wt (List D)) : Prop := VE a As w ∧ ∀ ρ s xs s', As ρ s = .ok xs s' → xs.length = n
section
variable {a : Env} {A B : Ex} {wa wb : Wt D} {T U : Te} {wt wu : Wt Bool} {As : Ar} {ws : Wt (List D)} {n : Nat}
theorem ve_var {i : Nat} {d : D} (h : a[i]? = some (some d)) : VE a (eVar i) (fun s Q _ => Q d s) := fun ρ s Q E hp q => by
  have e := hp.2 i d h
  simp only [eVar, e]
  exact q
theorem ve_c {p : P} : VE a (eC p) (fun s Q _ => Q (.p p) s) := fun ρ s Q E hp q => q
theorem ve_op {f : D → D → S → Option (D × S)} (ha : VE a A wa) (hb : VE a B wb) : VE a (eOp f A B) (fun s Q E => wa s (fun x s1 => wb s1 (fun y s2 => vO (f x y s2) Q) E) E) := fun ρ s Q E hp q => by
  refine (ha ρ s _ _ hp q).mono (fun x s1 q1 => ?_) (fun _ _ h => h) |> wO.bind
  refine (hb ρ s1 _ _ hp q1).mono (fun y s2 q2 => ?_) (fun _ _ h => h) |> wO.bind
  cases e : f x y s2 with
  | none => rw [e] at q2; exact q2
  | some r => obtain ⟨d, s3⟩ := r; rw [e] at q2; exact q2
theorem ve_neg (ha : VE a A wa) : VE a (eNeg A) (fun s Q E => wa s (fun x s1 => vI x fun i => Q (.p (.int (-i))) s1) E) := fun ρ s Q E hp q => by
  refine (ha ρ s _ _ hp q).mono (fun x s1 q1 => ?_) (fun _ _ h => h) |> wO.bind
  unfold vI at q1
  split at q1
  · exact q1
  · exact q1.elim
theorem ve_not (ha : VE a A wa) : VE a (eNot A) (fun s Q E => wa s (fun x s1 => vBl x fun b => Q (.p (.bl (!b))) s1) E) := fun ρ s Q E hp q => by
  refine (ha ρ s _ _ hp q).mono (fun x s1 q1 => ?_) (fun _ _ h => h) |> wO.bind
  unfold vBl at q1
  split at q1
  · exact q1
  · exact q1.elim
theorem ve_isN (ha : VE a A wa) : VE a (eIsN A) (fun s Q E => wa s (fun x s1 => Q (.p (.bl (isN x))) s1) E) := fun ρ s Q E hp q =>
  (ha ρ s _ _ hp q).mono (fun x s1 q1 => q1) (fun _ _ h => h) |> wO.bind
theorem ve_notN (ha : VE a A wa) : VE a (eNotN A) (fun s Q E => wa s (fun x s1 => Q (.p (.bl (!isN x))) s1) E) := fun ρ s Q E hp q =>
  (ha ρ s _ _ hp q).mono (fun x s1 q1 => q1) (fun _ _ h => h) |> wO.bind
theorem ve_isI {t : String} (ha : VE a A wa) : VE a (eIsI t A) (fun s Q E => wa s (fun x s1 => vTy s1 x fun t' => Q (.p (.bl (isB t' t))) s1) E) := fun ρ s Q E hp q => by
  refine (ha ρ s _ _ hp q).mono (fun x s1 q1 => ?_) (fun _ _ h => h) |> wO.bind
  unfold vTy at q1
  split at q1
  · rename_i e; try rw [e]
    exact q1
  · exact q1.elim
theorem ve_tV (ha : VE a A wa) : VE a (tV A) (fun s Q E => wa s (fun x s1 => vBl x fun b => Q b s1) E) := fun ρ s Q E hp q => by
  refine (ha ρ s _ _ hp q).mono (fun x s1 q1 => ?_) (fun _ _ h => h) |> wO.bind
  unfold vBl at q1
  split at q1
  · exact q1
  · exact q1.elim
theorem ve_tTrue : VE a tTrue (fun s Q _ => Q true s) := fun ρ s Q E hp q => q
theorem ve_tNot (ht : VE a T wt) : VE a (tNot_ T) (fun s Q E => wt s (fun b s1 => Q (!b) s1) E) := fun ρ s Q E hp q =>
  (ht ρ s _ _ hp q).mono (fun x s1 q1 => q1) (fun _ _ h => h) |> wO.bind
theorem ve_tAnd (ht : VE a T wt) (hu : VE a U wu) : VE a (tAnd_ T U) (fun s Q E => wt s (fun b s1 => vC b (fun j => wu s1 j E) (fun j => j false s1) Q) E) := fun ρ s Q E hp q => by
  refine (ht ρ s _ _ hp q).mono (fun b s1 q1 => ?_) (fun _ _ h => h) |> wO.bind
  cases b with
  | true => exact hu ρ s1 _ _ hp q1
  | false => exact q1
theorem ve_tOr (ht : VE a T wt) (hu : VE a U wu) : VE a (tOr_ T U) (fun s Q E => wt s (fun b s1 => vC b (fun j => j true s1) (fun j => wu s1 j E) Q) E) := fun ρ s Q E hp q => by
  refine (ht ρ s _ _ hp q).mono (fun b s1 q1 => ?_) (fun _ _ h => h) |> wO.bind
  cases b with
  | true => exact q1
  | false => exact hu ρ s1 _ _ hp q1
theorem ve_and (ha : VE a A wa) (hb : VE a B wb) : VE a (eAnd A B) (fun s Q E => wa s (fun x s1 => vBl x fun b => vC b (fun j => wb s1 j E) (fun j => j (.p (.bl false)) s1) Q) E) := fun ρ s Q E hp q => by
  refine (ha ρ s _ _ hp q).mono (fun x s1 q1 => ?_) (fun _ _ h => h) |> wO.bind
  unfold vBl at q1
  split at q1
  · rename_i b
    cases b with
    | true => exact hb ρ s1 _ _ hp q1
    | false => exact q1
  · exact q1.elim
theorem ve_or (ha : VE a A wa) (hb : VE a B wb) : VE a (eOr A B) (fun s Q E => wa s (fun x s1 => vBl x fun b => vC b (fun j => j (.p (.bl true)) s1) (fun j => wb s1 j E) Q) E) := fun ρ s Q E hp q => by
  refine (ha ρ s _ _ hp q).mono (fun x s1 q1 => ?_) (fun _ _ h => h) |> wO.bind
  unfold vBl at q1
  split at q1
  · rename_i b
    cases b with
    | true => exact q1
    | false => exact hb ρ s1 _ _ hp q1
  · exact q1.elim
theorem ve_if (ht : VE a T wt) (ha : VE a A wa) (hb : VE a B wb) : VE a (eIf T A B) (fun s Q E => wt s (fun b s1 => vC b (fun j => wa s1 j E) (fun j => wb s1 j E) Q) E) := fun ρ s Q E hp q => by
  refine (ht ρ s _ _ hp q).mono (fun b s1 q1 => ?_) (fun _ _ h => h) |> wO.bind
  cases b with
  | true => exact ha ρ s1 _ _ hp q1
  | false => exact hb ρ s1 _ _ hp q1
theorem va_nil : VA 0 a aNil (fun s Q _ => Q [] s) := ⟨fun ρ s Q E hp q => q, fun ρ s xs s' e => by cases e; rfl⟩
theorem va_cons (ha : VE a A wa) (hs : VA n a As ws) : VA (n + 1) a (aCons A As) (fun s Q E => wa s (fun x s1 => ws s1 (fun xs s2 => Q (x :: xs) s2) E) E) := by
  refine ⟨fun ρ s Q E hp q => ?_, fun ρ s xs s' e => ?_⟩
  · refine (ha ρ s _ _ hp q).mono (fun x s1 q1 => ?_) (fun _ _ h => h) |> wO.bind
    exact (hs.1 ρ s1 _ _ hp q1).mono (fun xs s2 q2 => q2) (fun _ _ h => h) |> wO.bind
  · unfold aCons at e
    cases ea : A ρ s with
    | no => rw [ea] at e; cases e
    | ex x s1 => rw [ea] at e; cases e
    | ok x s1 =>
      rw [ea] at e
      simp only [Out.bind_ok] at e
      cases es : As ρ s1 with
      | no => rw [es] at e; cases e
      | ex x s1 => rw [es] at e; cases e
      | ok ys s2 =>
        rw [es] at e
        cases e
        simp [hs.2 ρ s1 ys _ es]
theorem ve_tup (hs : VA n a As ws) (hn : n ≤ 1000 := by decide) : VE a (eTup As) (fun s Q E => ws s (fun xs s1 => Q (mkT xs) s1) E) := fun ρ s Q E hp q => by
  have h := hs.1 ρ s _ _ hp q
  unfold eTup
  cases e : As ρ s with
  | no => rw [e] at h; exact h
  | ex x s1 => rw [e] at h; exact h
  | ok xs s1 =>
    rw [e] at h
    have hl := hs.2 ρ s xs s1 e
    simp only [Out.bind_ok]
    rw [if_pos (by rw [sizeLine_eq]; omega)]
    exact h
theorem ve_lst (hs : VA n a As ws) (hn : n ≤ 1000 := by decide) : VE a (eLst As) (fun s Q E => ws s (fun xs s1 => Q (.lst xs) s1) E) := fun ρ s Q E hp q => by
  have h := hs.1 ρ s _ _ hp q
  unfold eLst
  cases e : As ρ s with
  | no => rw [e] at h; exact h
  | ex x s1 => rw [e] at h; exact h
  | ok xs s1 =>
    rw [e] at h
    have hl := hs.2 ρ s xs s1 e
    simp only [Out.bind_ok]
    rw [if_pos (by rw [sizeLine_eq]; omega)]
    exact h
theorem ve_lstC (hs : VA n a As ws) (hn : n ≤ 1000 := by decide) : VE a (eLstC As) (fun s Q E => ws s (fun xs s1 => Q (.loc s1.length) (s1 ++ [.lst xs])) E) := fun ρ s Q E hp q => by
  have h := hs.1 ρ s _ _ hp q
  unfold eLstC
  cases e : As ρ s with
  | no => rw [e] at h; exact h
  | ex x s1 => rw [e] at h; exact h
  | ok xs s1 =>
    rw [e] at h
    have hl := hs.2 ρ s xs s1 e
    simp only [Out.bind_ok]
    rw [if_pos (by rw [sizeLine_eq]; omega)]
    exact h
theorem ve_dnew : VE a eDNew (fun s Q _ => Q (.loc s.length) (s ++ [.dK [] []])) := fun ρ s Q E hp q => q
theorem ve_call {F : List D → S → Out D} (hs : VA n a As ws) : VE a (eF n F As) (fun s Q E => ws s (fun xs s1 => wO (F xs s1) Q E) E) := fun ρ s Q E hp q => by
  have h := hs.1 ρ s _ _ hp q
  unfold eF
  cases e : As ρ s with
  | no => rw [e] at h; exact h
  | ex x s1 => rw [e] at h; exact h
  | ok xs s1 =>
    rw [e] at h
    simp only [Out.bind_ok]
    rw [if_pos (hs.2 ρ s xs s1 e)]
    exact h
theorem ve_callK {F : List D → S → Out D} {pi : List Nat} {m k : Nat} {Bs : Ar} {ws' : Wt (List D)} (hs : VA n a As ws) (hs' : VA m a Bs ws') (hk : k = n + m := by rfl) : VE a (eFK k F pi As Bs) (fun s Q E => ws s (fun xs s1 => ws' s1 (fun ys s2 => wO (F (arr pi (xs ++ ys)) s2) Q E) E) E) := fun ρ s Q E hp q => by
  have h := hs.1 ρ s _ _ hp q
  unfold eFK
  cases e : As ρ s with
  | no => rw [e] at h; exact h
  | ex x s1 => rw [e] at h; exact h
  | ok xs s1 =>
    rw [e] at h
    simp only [Out.bind_ok]
    have h' := hs'.1 ρ s1 _ _ hp h
    cases e' : Bs ρ s1 with
    | no => rw [e'] at h'; exact h'
    | ex x s1 => rw [e'] at h'; exact h'
    | ok ys s2 =>
      rw [e'] at h'
      simp only [Out.bind_ok]
      rw [if_pos (by rw [hs.2 ρ s xs s1 e, hs'.2 ρ s1 ys s2 e', hk])]
      exact h'
theorem ve_ca {f : List D → S → Option (D × S)} (hs : VA n a As ws) : VE a (eCa f As) (fun s Q E => ws s (fun xs s1 => vO (f xs s1) Q) E) := fun ρ s Q E hp q => by
  refine (hs.1 ρ s _ _ hp q).mono (fun xs s1 q1 => ?_) (fun _ _ h => h) |> wO.bind
  cases e : f xs s1 with
  | none => rw [e] at q1; exact q1
  | some r => obtain ⟨d, s3⟩ := r; rw [e] at q1; exact q1
theorem ve_me {ty : S → D → Bool} {f : D → List D → S → Option (D × S)} (ha : VE a A wa) (hs : VA n a As ws) : VE a (eMe ty f A As) (fun s Q E => wa s (fun o s1 => ty s1 o = true ∧ ws s1 (fun xs s2 => vO (f o xs s2) Q) E) E) := fun ρ s Q E hp q => by
  refine (ha ρ s _ _ hp q).mono (fun o s1 q1 => ?_) (fun _ _ h => h) |> wO.bind
  rw [if_pos q1.1]
  refine (hs.1 ρ s1 _ _ hp q1.2).mono (fun xs s2 q2 => ?_) (fun _ _ h => h) |> wO.bind
  cases e : f o xs s2 with
  | none => rw [e] at q2; exact q2
  | some r => obtain ⟨d, s3⟩ := r; rw [e] at q2; exact q2
theorem ve_sub (ha : VE a A wa) (hb : VE a B wb) : VE a (eSub A B) (fun s Q E => wa s (fun x s1 => wb s1 (fun y s2 => vO (dSb x y s2) Q) E) E) := fun ρ s Q E hp q => by
  have h := ha ρ s _ _ hp q
  unfold eSub orE eOp eDGet
  cases e : A ρ s with
  | no => rw [e] at h; exact h.elim
  | ex x s1 => rw [e] at h; exact h
  | ok x s1 =>
    rw [e] at h
    have h' := hb ρ s1 _ _ hp h
    simp only [Out.bind_ok]
    cases e' : B ρ s1 with
    | no => rw [e'] at h'; exact h'.elim
    | ex x s1 => rw [e'] at h'; exact h'
    | ok y s2 =>
      rw [e'] at h'
      simp only [Out.bind_ok]
      replace h' : vO (dSb x y s2) Q := h'
      unfold dSb at h'
      cases ei : dIx x y s2 with
      | some r => obtain ⟨d, s3⟩ := r; rw [ei] at h'; exact h'
      | none =>
        rw [ei] at h'
        simp only [ofO] at h' ⊢
        unfold dGet at h'
        split at h'
        · rename_i ks ds k e1 e2
          try simp only [e1, e2]
          cases e3 : lkD ks ds k with
          | none => rw [e3] at h'; exact h'
          | some d => rw [e3] at h'; exact h'
        · exact h'.elim
theorem ve_in {n : Bool} (ha : VE a A wa) (hb : VE a B wb) : VE a (eIn n A B) (fun s Q E => wa s (fun x s1 => wb s1 (fun y s2 => vO (dInn n x y s2) Q) E) E) := fun ρ s Q E hp q => by
  have h := ha ρ s _ _ hp q
  unfold eIn orE eOp eDIn
  cases e : A ρ s with
  | no => rw [e] at h; exact h.elim
  | ex x s1 => rw [e] at h; exact h
  | ok x s1 =>
    rw [e] at h
    have h' := hb ρ s1 _ _ hp h
    simp only [Out.bind_ok]
    cases e' : B ρ s1 with
    | no => rw [e'] at h'; exact h'.elim
    | ex x s1 => rw [e'] at h'; exact h'
    | ok y s2 =>
      rw [e'] at h'
      simp only [Out.bind_ok]
      replace h' : vO (dInn n x y s2) Q := h'
      unfold dInn at h'
      cases ei : dInA n x y s2 with
      | some r => obtain ⟨d, s3⟩ := r; rw [ei] at h'; exact h'
      | none =>
        rw [ei] at h'
        simp only [ofO] at h' ⊢
        split at h'
        · rename_i ks ds k e1 e2
          try simp only [e1, e2]
          exact h'
        · exact h'.elim
theorem ve_tIn {n : Bool} (ha : VE a A wa) (hb : VE a B wb) : VE a (tIn n A B) (fun s Q E => wa s (fun x s1 => wb s1 (fun y s2 => vO (dInn n x y s2) fun d s3 => vBl d fun b => Q b s3) E) E) := fun ρ s Q E hp q => by
  have h := ha ρ s _ _ hp q
  unfold tIn orT tV eOp eDIn
  cases e : A ρ s with
  | no => rw [e] at h; exact h.elim
  | ex x s1 => rw [e] at h; exact h
  | ok x s1 =>
    rw [e] at h
    have h' := hb ρ s1 _ _ hp h
    simp only [Out.bind_ok]
    cases e' : B ρ s1 with
    | no => rw [e'] at h'; exact h'.elim
    | ex x s1 => rw [e'] at h'; exact h'
    | ok y s2 =>
      rw [e'] at h'
      simp only [Out.bind_ok]
      replace h' : vO (dInn n x y s2) (fun d s3 => vBl d fun b => Q b s3) := h'
      unfold dInn at h'
      cases ei : dInA n x y s2 with
      | some r =>
        obtain ⟨d, s3⟩ := r
        rw [ei] at h'
        simp only [ofO, Out.bind_ok, vO_some] at h' ⊢
        unfold vBl at h'
        split at h'
        · exact h'
        · exact h'.elim
      | none =>
        rw [ei] at h'
        simp only [ofO, Out.bind_no] at h' ⊢
        split at h'
        · rename_i ks ds k e1 e2
          try simp only [e1, e2, Out.bind_ok]
          exact h'
        · exact h'.elim
theorem vp_no : VE a pNo (fun s Q _ => Q none s) := fun ρ s Q E hp q => q
theorem vp_so (ha : VE a A wa) : VE a (pSo A) (fun s Q E => wa s (fun x s1 => vI x fun i => Q (some i) s1) E) := fun ρ s Q E hp q => by
  refine (ha ρ s _ _ hp q).mono (fun x s1 q1 => ?_) (fun _ _ h => h) |> wO.bind
  unfold vI at q1
  split at q1
  · exact q1
  · exact q1.elim
theorem ve_sl {Pl Ph : Pa} {wl wh : Wt (Option Int)} (ha : VE a A wa) (hl : VE a Pl wl) (hh : VE a Ph wh) : VE a (eSl A Pl Ph) (fun s Q E => wa s (fun x s1 => wl s1 (fun lo s2 => wh s2 (fun hi s3 => vO (dSl x lo hi s3) Q) E) E) E) := fun ρ s Q E hp q => by
  refine (ha ρ s _ _ hp q).mono (fun x s1 q1 => ?_) (fun _ _ h => h) |> wO.bind
  refine (hl ρ s1 _ _ hp q1).mono (fun lo s2 q2 => ?_) (fun _ _ h => h) |> wO.bind
  refine (hh ρ s2 _ _ hp q2).mono (fun hi s3 q3 => ?_) (fun _ _ h => h) |> wO.bind
  cases e : dSl x lo hi s3 with
  | none => rw [e] at q3; exact q3
  | some r => obtain ⟨d, s3⟩ := r; rw [e] at q3; exact q3

/-! what is walked -/
def vW (o : Option Wk) (k : Wk → Prop) : Prop := match o with
  | some w => k w
  | none => False
@[simp] theorem vW_some (w : Wk) (k : Wk → Prop) : vW (some w) k = k w := rfl
/-- range(..) -/
def rgOf : List D → Option Wk
  | [.p (.int j)] => if -1000000000000 ≤ j ∧ j ≤ 1000000000000 then some ⟨rgD 0 1 j.toNat, fun _ => true⟩ else none
  | [.p (.int i), .p (.int j)] => if -1000000000000 ≤ i ∧ i ≤ 1000000000000 ∧ -1000000000000 ≤ j ∧ j ≤ 1000000000000 then some ⟨rgD i 1 (j - i).toNat, fun _ => true⟩ else none
  | [.p (.int i), .p (.int j), .p (.int c)] => if c = -1 ∧ -1000000000000 ≤ i ∧ i ≤ 1000000000000 ∧ -1000000000000 ≤ j ∧ j ≤ 1000000000000 then some ⟨rgD i (-1) (i - j).toNat, fun _ => true⟩ else none
  | _ => none
theorem vs_any (ha : VE a A wa) : VE a (sAny A) (fun s Q E => wa s (fun x s1 => vW (wkOf s1 x) fun k => Q k s1) E) := fun ρ s Q E hp q => by
  refine (ha ρ s _ _ hp q).mono (fun x s1 q1 => ?_) (fun _ _ h => h) |> wO.bind
  unfold vW at q1
  split at q1
  · rename_i e; try rw [e]
    exact q1
  · exact q1.elim
theorem vs_rng1 (hs : VA 1 a As ws) : VE a (sRng1 As) (fun s Q E => ws s (fun xs s1 => vW (rgOf xs) fun k => Q k s1) E) := fun ρ s Q E hp q => by
  have q0 := hs.1 ρ s _ _ hp q
  replace q0 : wO (As ρ s) (fun xs s1 => xs.length = 1 ∧ vW (rgOf xs) fun k => Q k s1) E := by
    cases e : As ρ s with
    | no => rw [e] at q0; exact q0
    | ex x s1 => rw [e] at q0; exact q0
    | ok xs s1 => rw [e] at q0; exact ⟨hs.2 ρ s xs s1 e, q0⟩
  refine q0.mono (fun xs s1 q1 => ?_) (fun _ _ h => h) |> wO.bind
  obtain ⟨hl, q1⟩ := q1
  match xs, hl with
  | [x], _ =>
    unfold vW rgOf at q1
    split at q1
    · rename_i e
      split at e
      · rename_i h
        injection h with h1 h2
        subst h1
        split at e
        · cases e
          rename_i j hb
          simp only
          rw [if_pos (by omega)]
          exact q1
        · cases e
      · rename_i h; cases h
      · rename_i h; cases h
      · cases e
    · exact q1.elim
theorem vs_rng2 (hs : VA 2 a As ws) : VE a (sRng2 As) (fun s Q E => ws s (fun xs s1 => vW (rgOf xs) fun k => Q k s1) E) := fun ρ s Q E hp q => by
  have q0 := hs.1 ρ s _ _ hp q
  replace q0 : wO (As ρ s) (fun xs s1 => xs.length = 2 ∧ vW (rgOf xs) fun k => Q k s1) E := by
    cases e : As ρ s with
    | no => rw [e] at q0; exact q0
    | ex x s1 => rw [e] at q0; exact q0
    | ok xs s1 => rw [e] at q0; exact ⟨hs.2 ρ s xs s1 e, q0⟩
  refine q0.mono (fun xs s1 q1 => ?_) (fun _ _ h => h) |> wO.bind
  obtain ⟨hl, q1⟩ := q1
  match xs, hl with
  | [x, y], _ =>
    unfold vW rgOf at q1
    split at q1
    · rename_i e
      split at e
      · rename_i h; cases h
      · rename_i h
        injection h with h1 h2
        injection h2 with h2 h3
        subst h1 h2
        split at e
        · cases e
          rename_i j hb
          simp only
          rw [if_pos (by omega)]
          exact q1
        · cases e
      · rename_i h; cases h
      · cases e
    · exact q1.elim
theorem vs_rng3 (hs : VA 3 a As ws) : VE a (sRng3 As) (fun s Q E => ws s (fun xs s1 => vW (rgOf xs) fun k => Q k s1) E) := fun ρ s Q E hp q => by
  have q0 := hs.1 ρ s _ _ hp q
  replace q0 : wO (As ρ s) (fun xs s1 => xs.length = 3 ∧ vW (rgOf xs) fun k => Q k s1) E := by
    cases e : As ρ s with
    | no => rw [e] at q0; exact q0
    | ex x s1 => rw [e] at q0; exact q0
    | ok xs s1 => rw [e] at q0; exact ⟨hs.2 ρ s xs s1 e, q0⟩
  refine q0.mono (fun xs s1 q1 => ?_) (fun _ _ h => h) |> wO.bind
  obtain ⟨hl, q1⟩ := q1
  match xs, hl with
  | [x, y, z], _ =>
    unfold vW rgOf at q1
    split at q1
    · rename_i e
      split at e
      · rename_i h; cases h
      · rename_i h; cases h
      · rename_i h
        injection h with h1 h2
        injection h2 with h2 h3
        injection h3 with h3 h4
        subst h1 h2 h3
        split at e
        · cases e
          rename_i j hb
          simp only
          rw [if_pos (by omega)]
          exact q1
        · cases e
      · cases e
    · exact q1.elim
theorem vs_enum (hs : VA n a As ws) : VE a (sEnum As) (fun s Q E => ws s (fun xs s1 => vH xs fun x r => vN r fun _ => vW (wkOf s1 x) fun k => Q ⟨enF 0 k.ds, k.ok⟩ s1) E) := fun ρ s Q E hp q => by
  refine (hs.1 ρ s _ _ hp q).mono (fun xs s1 q1 => ?_) (fun _ _ h => h) |> wO.bind
  match xs, q1 with
  | [x], q1 =>
    simp only [vH_cons, vN_nil] at q1
    unfold vW at q1
    split at q1
    · rename_i e; simp only [e]; exact q1
    · exact q1.elim
end
end Mo

set_option Elab.async false
set_option linter.all false
set_option maxRecDepth 100000
set_option maxHeartbeats 1000000
/-! .. of blocks: targets, statements, loops, comprehensions, a def's run -/
namespace Mo
open PySem L2
/-! targets -/
def VG (a : Env) (T : Pt) {X : Type} (w : D → (X → Prop) → Prop) (fo : X → Env) : Prop := ∀ d ρ k, Ap a ρ → w d k → ∃ x ρ', T.run d ρ = some ρ' ∧ Ap (fo x) ρ' ∧ ρ'.length = ρ.length ∧ k x
def VGs (a : Env) (T : Pts) {X : Type} (w : List D → (X → Prop) → Prop) (fo : X → Env) : Prop := ∀ ds ρ k, Ap a ρ → w ds k → ∃ x ρ', T.run ds ρ = some ρ' ∧ Ap (fo x) ρ' ∧ ρ'.length = ρ.length ∧ k x
theorem vg_nm {a : Env} {i : Nat} : VG a (.nm i) (fun d (k : D → Prop) => k d) (fun d => a.set i (some d)) := fun d ρ k hp h => ⟨d, _, rfl, hp.set i (some d), by simp, h⟩
theorem vg_tu {a : Env} {ts : Pts} {X : Type} {w : List D → (X → Prop) → Prop} {fo : X → Env} (h : VGs a ts w fo) : VG a (.tu ts) (fun d k => vT d fun ds => w ds k) fo := fun d ρ k hp q => by
  replace q : vT d fun ds => w ds k := q
  unfold vT at q
  split at q
  · rename_i ds e
    obtain ⟨x, ρ', e1, h1, h2, h3⟩ := h ds ρ k hp q
    exact ⟨x, ρ', by simp only [Pt.run, e]; exact e1, h1, h2, h3⟩
  · exact q.elim
theorem vgs_nil {a : Env} : VGs a .nil (fun ds (k : Unit → Prop) => vN ds k) (fun _ => a) := fun ds ρ k hp q => by
  match ds, q with
  | [], q => exact ⟨(), ρ, rfl, hp, rfl, q⟩
theorem vgs_cons {a : Env} {t : Pt} {ts : Pts} {X Y : Type} {w : D → (X → Prop) → Prop} {fo : X → Env} {w2 : X → List D → (Y → Prop) → Prop} {fo2 : X → Y → Env} (h : VG a t w fo) (h2 : ∀ x, VGs (fo x) ts (w2 x) (fo2 x)) :
    VGs a (.cons t ts) (fun ds (k : X × Y → Prop) => vH ds fun d r => w d fun x => w2 x r fun y => k (x, y)) (fun p => fo2 p.1 p.2) := fun ds ρ k hp q => by
  match ds, q with
  | d :: r, q =>
    simp only [vH_cons] at q
    obtain ⟨x, ρ1, e1, p1, l1, q1⟩ := h d ρ _ hp q
    obtain ⟨y, ρ2, e2, p2, l2, q2⟩ := h2 x r ρ1 _ p1 q1
    exact ⟨(x, y), ρ2, by simp only [Pts.run, e1, Option.bind_some, e2], p2, l2.trans l1, q2⟩

/-! blocks -/
def wF {β γ : Type} (fo : β → Env) (fl : γ → Env) (L : Nat) (o : Fl) (n : β → S → Prop) (r : D → S → Prop) (b c : γ → S → Prop) (e : Xc → S → Prop) : Prop := match o with
  | .nx ρ s => ∃ x, Ap (fo x) ρ ∧ ρ.length = L ∧ n x s
  | .rt d s => r d s
  | .bk ρ s => ∃ x, Ap (fl x) ρ ∧ ρ.length = L ∧ b x s
  | .ct ρ s => ∃ x, Ap (fl x) ρ ∧ ρ.length = L ∧ c x s
  | .ex x ρ s => ρ.length = L ∧ e x s
  | .no => False
abbrev Wb (β γ : Type) := S → (β → S → Prop) → (D → S → Prop) → (γ → S → Prop) → (γ → S → Prop) → (Xc → S → Prop) → Prop
def VB {β γ : Type} (a : Env) (B : Bl) (fo : β → Env) (fl : γ → Env) (w : Wb β γ) : Prop := ∀ ρ s n r b c e, Ap a ρ → w s n r b c e → wF fo fl ρ.length (B ρ s) n r b c e
section
variable {β γ δ : Type} {a : Env} {fo : β → Env} {fl : γ → Env} {A : Ex} {wa : Wt D} {T : Te} {wt : Wt Bool} {R : Bl} {As : Ar} {ws : Wt (List D)} {n : Nat}
theorem wF_fl {α : Type} {ρ : Env} {o : Out α} {f : α → S → Fl} {n : β → S → Prop} {r : D → S → Prop} {b c : γ → S → Prop} {e : Xc → S → Prop} (h : wO o (fun x s1 => wF fo fl ρ.length (f x s1) n r b c e) e) : wF fo fl ρ.length (o.fl ρ f) n r b c e := by
  cases o with
  | ok a s => exact h
  | ex x s => exact ⟨rfl, h⟩
  | no => exact h.elim
/-- one statement, then the rest: how it goes on is told by env and store -/
theorem wF_then {fo' : δ → Env} {L : Nat} {o : Fl} {R : Env → S → Fl} {n : β → S → Prop} {n' : δ → S → Prop} {r : D → S → Prop} {b c : γ → S → Prop} {e : Xc → S → Prop} (h : wF fo' fl L o n' r b c e)
    (h' : ∀ x ρ s, Ap (fo' x) ρ → ρ.length = L → n' x s → wF fo fl L (R ρ s) n r b c e) : wF fo fl L (o.then_ R) n r b c e := by
  cases o with
  | nx ρ s =>
    obtain ⟨x, h1, h2, h3⟩ := h
    exact h' x ρ s h1 h2 h3
  | rt d s => exact h
  | bk ρ s => exact h
  | ct ρ s => exact h
  | ex x ρ s => exact h
  | no => exact h.elim
theorem vb_end {x : β} (h : LeE (fo x) a) : VB a bNil fo fl (fun s n _ _ _ _ => n x s) := fun ρ s n r b c e hp q => ⟨x, h.ap.trans hp, rfl, q⟩
theorem vb_one {w : Wb β γ} (h : VB a (bSeq R bNil) fo fl w) : VB a R fo fl w := fun ρ s n r b c e hp q => by
  have := h ρ s n r b c e hp q
  unfold bSeq at this
  cases e : R ρ s with
  | _ => rw [e] at this; exact this
theorem vb_set {i : Nat} {wr : D → Wb β γ} (ha : VE a A wa) (hr : ∀ d, VB (a.set i (some d)) R fo fl (wr d)) : VB a (bSeq (bSet i A) R) fo fl (fun s n r b c e => wa s (fun d s1 => wr d s1 n r b c e) e) := fun ρ s n r b c e hp q => by
  unfold bSeq bSet
  refine wF_then (fo' := fun d => a.set i (some d)) (n' := fun d s1 => wr d s1 n r b c e) (wF_fl ((ha ρ s _ _ hp q).mono (fun d s1 q1 => ?_) fun _ _ h => h)) fun d ρ1 s1 p1 l1 q1 => l1 ▸ hr d ρ1 s1 n r b c e p1 q1
  exact ⟨d, hp.set i (some d), by simp, q1⟩
theorem vb_ret (ha : VE a A wa) : VB a (bSeq (bRet A) R) fo fl (fun s _ r _ _ e => wa s r e) := fun ρ s n r b c e hp q => by
  unfold bSeq bRet
  refine wF_then (fo' := fo) (n' := fun _ _ => False) (wF_fl ((ha ρ s _ _ hp q).mono (fun d s1 q1 => q1) fun _ _ h => h)) fun d ρ1 s1 p1 l1 q1 => q1.elim
theorem vb_retN : VB a (bSeq bRetN R) fo fl (fun s _ r _ _ _ => r (.p .non) s) := fun ρ s n r b c e hp q => q
theorem vb_brk {x : γ} (h : LeE (fl x) a) : VB a (bSeq bBrk R) fo fl (fun s _ _ b _ _ => b x s) := fun ρ s n r b c e hp q => ⟨x, h.ap.trans hp, rfl, q⟩
theorem vb_cont {x : γ} (h : LeE (fl x) a) : VB a (bSeq bCont R) fo fl (fun s _ _ _ c _ => c x s) := fun ρ s n r b c e hp q => ⟨x, h.ap.trans hp, rfl, q⟩
theorem vb_drop {wr : Wb β γ} (ha : VE a A wa) (hr : VB a R fo fl wr) : VB a (bSeq (bDrop A) R) fo fl (fun s n r b c e => wa s (fun _ s1 => wr s1 n r b c e) e) := fun ρ s n r b c e hp q => by
  unfold bSeq bDrop
  refine wF_then (fo' := fun _ : Unit => a) (n' := fun _ s1 => wr s1 n r b c e) (wF_fl ((ha ρ s _ _ hp q).mono (fun d s1 q1 => ?_) fun _ _ h => h)) fun d ρ1 s1 p1 l1 q1 => l1 ▸ hr ρ1 s1 n r b c e p1 q1
  exact ⟨(), hp, rfl, q1⟩
theorem vb_pass {wr : Wb β γ} (hr : VB a R fo fl wr) : VB a (bSeq bNil R) fo fl wr := fun ρ s n r b c e hp q => hr ρ s n r b c e hp q
theorem vb_asg {T : Pt} {X : Type} {wg : D → (X → Prop) → Prop} {fg : X → Env} {wr : X → Wb β γ} (ha : VE a A wa) (hg : VG a T wg fg) (hr : ∀ x, VB (fg x) R fo fl (wr x)) : VB a (bSeq (bAsgP A T) R) fo fl (fun s n r b c e => wa s (fun d s1 => wg d fun x => wr x s1 n r b c e) e) := fun ρ s n r b c e hp q => by
  unfold bSeq bAsgP
  refine wF_then (fo' := fg) (n' := fun x s1 => wr x s1 n r b c e) (wF_fl ((ha ρ s _ _ hp q).mono (fun d s1 q1 => ?_) fun _ _ h => h)) fun x ρ1 s1 p1 l1 q1 => l1 ▸ hr x ρ1 s1 n r b c e p1 q1
  obtain ⟨x, ρ', e1, p1, l1, k1⟩ := hg d ρ _ hp q1
  rw [e1]
  exact ⟨x, p1, l1, k1⟩
theorem vb_par2 {i j : Nat} {wr : D → D → Wb β γ} (hs : VA 2 a As ws) (hr : ∀ x y, VB ((a.set i (some x)).set j (some y)) R fo fl (wr x y)) : VB a (bSeq (bPar [i, j] As) R) fo fl (fun s n r b c e => ws s (fun xs s1 => vH xs fun x q => vH q fun y q' => vN q' fun _ => wr x y s1 n r b c e) e) := fun ρ s n r b c e hp q => by
  unfold bSeq bPar
  refine wF_then (fo' := fun p : D × D => (a.set i (some p.1)).set j (some p.2)) (n' := fun p s1 => wr p.1 p.2 s1 n r b c e) (wF_fl ((hs.1 ρ s _ _ hp q).mono (fun xs s1 q1 => ?_) fun _ _ h => h)) fun x ρ1 s1 p1 l1 q1 => l1 ▸ hr x.1 x.2 ρ1 s1 n r b c e p1 q1
  match xs, q1 with
  | [x, y], q1 => exact ⟨(x, y), (hp.set i (some x)).set j (some y), by simp, q1⟩
theorem vb_par3 {i j k : Nat} {wr : D → D → D → Wb β γ} (hs : VA 3 a As ws) (hr : ∀ x y z, VB (((a.set i (some x)).set j (some y)).set k (some z)) R fo fl (wr x y z)) : VB a (bSeq (bPar [i, j, k] As) R) fo fl (fun s n r b c e => ws s (fun xs s1 => vH xs fun x q => vH q fun y q' => vH q' fun z q'' => vN q'' fun _ => wr x y z s1 n r b c e) e) := fun ρ s n r b c e hp q => by
  unfold bSeq bPar
  refine wF_then (fo' := fun p : D × D × D => ((a.set i (some p.1)).set j (some p.2.1)).set k (some p.2.2)) (n' := fun p s1 => wr p.1 p.2.1 p.2.2 s1 n r b c e) (wF_fl ((hs.1 ρ s _ _ hp q).mono (fun xs s1 q1 => ?_) fun _ _ h => h)) fun x ρ1 s1 p1 l1 q1 => l1 ▸ hr x.1 x.2.1 x.2.2 ρ1 s1 n r b c e p1 q1
  match xs, q1 with
  | [x, y, z], q1 => exact ⟨(x, y, z), ((hp.set i (some x)).set j (some y)).set k (some z), by simp, q1⟩
/-- both ways meet again: j tells what is wanted then -/
theorem vb_if {fo' : δ → Env} {B1 B2 : Bl} {w1 w2 : Wb δ γ} {wr : δ → Wb β γ} (ht : VE a T wt) (h1 : VB a B1 fo' fl w1) (h2 : VB a B2 fo' fl w2) (hr : ∀ x, VB (fo' x) R fo fl (wr x)) :
    VB a (bSeq (bIf T B1 B2) R) fo fl (fun s n r b c e => wt s (fun t s1 => vC t (fun j => w1 s1 j r b c e) (fun j => w2 s1 j r b c e) (fun x s2 => wr x s2 n r b c e)) e) := fun ρ s n r b c e hp q => by
  unfold bSeq bIf
  refine wF_then (fo' := fo') (n' := fun x s2 => wr x s2 n r b c e) (wF_fl ((ht ρ s _ _ hp q).mono (fun t s1 q1 => ?_) fun _ _ h => h)) fun x ρ1 s1 p1 l1 q1 => l1 ▸ hr x ρ1 s1 n r b c e p1 q1
  cases t with
  | true => exact h1 ρ s1 _ r b c e hp q1
  | false => exact h2 ρ s1 _ r b c e hp q1
/-- one way ends there -/
theorem vb_ifR {B1 : Bl} {w1 : Wb Empty γ} {wr : Wb β γ} {f0 : Empty → Env} (ht : VE a T wt) (h1 : VB a B1 f0 fl w1) (hr : VB a R fo fl wr) :
    VB a (bSeq (bIf T B1 bNil) R) fo fl (fun s n r b c e => wt s (fun t s1 => if t = true then w1 s1 (fun x _ => nomatch x) r b c e else wr s1 n r b c e) e) := fun ρ s n r b c e hp q => by
  unfold bSeq bIf
  refine wF_then (fo' := fun _ : Unit => a) (n' := fun _ s2 => wr s2 n r b c e) (wF_fl ((ht ρ s _ _ hp q).mono (fun t s1 q1 => ?_) fun _ _ h => h)) fun x ρ1 s1 p1 l1 q1 => l1 ▸ hr ρ1 s1 n r b c e p1 q1
  cases t with
  | true =>
    rw [if_pos rfl] at q1 ⊢
    have := h1 ρ s1 _ r b c e hp q1
    cases eo : B1 ρ s1 with
    | nx ρ' s' => rw [eo] at this; obtain ⟨x, _⟩ := this; exact nomatch x
    | _ => rw [eo] at this; exact this
  | false => rw [if_neg Bool.false_ne_true] at q1 ⊢; exact ⟨(), hp, rfl, q1⟩
theorem vb_raise {x : Str} {fs : List Str} (hs : VA n a As ws) (h : n = fs.length ∧ n ≤ 900 ∧ fs.Nodup := by decide +kernel) : VB a (bSeq (bRaise x fs As) R) fo fl (fun s _ _ _ _ e => ws s (fun ds s1 => e ⟨x, fs.zip ds⟩ s1) e) := fun ρ s n' r b c e hp q => by
  unfold bSeq bRaise
  refine wF_then (fo' := fo) (n' := fun _ _ => False) (wF_fl ?_) fun d ρ1 s1 p1 l1 q1 => q1.elim
  have q1 := hs.1 ρ s _ _ hp q
  cases e1 : As ρ s with
  | no => rw [e1] at q1; exact q1
  | ex y s1 => rw [e1] at q1; exact q1
  | ok xs s1 =>
    rw [e1] at q1
    have hl := hs.2 ρ s xs s1 e1
    show wF fo fl ρ.length (if _ then _ else _) _ _ _ _ _
    rw [if_pos ⟨hl.trans h.1, by omega, h.2.2⟩]
    exact ⟨rfl, q1⟩
/-- x[i] = v -/
theorem vb_put {O I : Ex} {wo wi : Wt D} {wr : Wb β γ} (ha : VE a A wa) (ho : VE a O wo) (hi : VE a I wi) (hr : VB a R fo fl wr) :
    VB a (bSeq (orB (bPut putL A O I) (bPut putD A O I)) R) fo fl (fun s n r b c e => wa s (fun d s1 => wo s1 (fun o s2 => wi s2 (fun i s3 => vP (putA o i d s3) fun s4 => wr s4 n r b c e) e) e) e) := fun ρ s n r b c e hp q => by
  unfold bSeq
  refine wF_then (fo' := fun _ : Unit => a) (n' := fun _ s2 => wr s2 n r b c e) ?_ fun x ρ1 s1 p1 l1 q1 => l1 ▸ hr ρ1 s1 n r b c e p1 q1
  unfold orB bPut
  have h1 := ha ρ s _ _ hp q
  cases e1 : A ρ s with
  | no => rw [e1] at h1; exact h1.elim
  | ex x s1 => rw [e1] at h1; exact ⟨rfl, h1⟩
  | ok d s1 =>
    rw [e1] at h1
    simp only [Out.fl_ok]
    have h2 := ho ρ s1 _ _ hp h1
    cases e2 : O ρ s1 with
    | no => rw [e2] at h2; exact h2.elim
    | ex x s1 => rw [e2] at h2; exact ⟨rfl, h2⟩
    | ok o s2 =>
      rw [e2] at h2
      simp only [Out.fl_ok]
      have h3 := hi ρ s2 _ _ hp h2
      cases e3 : I ρ s2 with
      | no => rw [e3] at h3; exact h3.elim
      | ex x s1 => rw [e3] at h3; exact ⟨rfl, h3⟩
      | ok i s3 =>
        rw [e3] at h3
        simp only [Out.fl_ok]
        replace h3 : vP (putA o i d s3) fun s4 => wr s4 n r b c e := h3
        unfold putA at h3
        cases e4 : putL o i d s3 with
        | some s4 => rw [e4] at h3; exact ⟨(), hp, rfl, h3⟩
        | none =>
          rw [e4] at h3
          simp only at h3 ⊢
          cases e5 : putD o i d s3 with
          | some s4 => rw [e5] at h3; exact ⟨(), hp, rfl, h3⟩
          | none => rw [e5] at h3; exact h3.elim
/-- a for: I tells what holds before each turn (of what is left, what is carried, the store) -/
def vFor {γ : Type} (k : Wk) (b0 : γ) (s : S) (body : D → γ → S → (γ → S → Prop) → (γ → S → Prop) → Prop) (post : γ → S → Prop) : Prop :=
  ∃ I : List D → γ → S → Prop, I k.ds b0 s ∧ (∀ l b t, I l b t → k.ok t = true) ∧ (∀ d l b t, I (d :: l) b t → body d b t (I l) post) ∧ ∀ b t, I [] b t → post b t
theorem vb_for {Sg : Sr} {wsg : Wt Wk} {T : Pt} {X : Type} {fl' : δ → Env} {wg : δ → D → (X → Prop) → Prop} {fg : δ → X → Env} {B : Bl} {wb : δ → X → Wb δ δ} {wr : δ → Wb β γ} {b0 : δ} (hs : VE a Sg wsg) (h0 : LeE (fl' b0) a) (hg : ∀ b, VG (fl' b) T (wg b) (fg b)) (hb : ∀ b x, VB (fg b x) B fl' fl' (wb b x)) (hr : ∀ b, VB (fl' b) R fo fl (wr b)) :
    VB a (bSeq (bFor Sg T B) R) fo fl (fun s n r b c e => wsg s (fun k s1 => vFor k b0 s1 (fun d y t nx bk => wg y d fun x => wb y x t nx r bk nx e) (fun y t => wr y t n r b c e)) e) := fun ρ s n r b c e hp q => by
  unfold bSeq bFor
  refine wF_then (fo' := fl') (n' := fun y t => wr y t n r b c e) (wF_fl ((hs ρ s _ _ hp q).mono (fun k s1 q1 => ?_) fun _ _ h => h)) fun x ρ1 s1 p1 l1 q1 => l1 ▸ hr x ρ1 s1 n r b c e p1 q1
  obtain ⟨I, i0, iok, ist, iend⟩ := q1
  have key : ∀ (l : List D) (y : δ) (ρ1 : Env) (t : S), Ap (fl' y) ρ1 → ρ1.length = ρ.length → I l y t → wF fl' fl ρ.length (forL k.ok T B l ρ1 t) (fun y t => wr y t n r b c e) r b c e := by
    intro l
    induction l with
    | nil =>
      intro y ρ1 t p1 l1 hi
      unfold forL
      rw [if_pos (iok _ _ _ hi)]
      exact ⟨y, p1, l1, iend y t hi⟩
    | cons d l ih =>
      intro y ρ1 t p1 l1 hi
      unfold forL
      rw [if_pos (iok _ _ _ hi)]
      obtain ⟨x, ρ2, e2, p2, l2, q2⟩ := hg y d ρ1 _ p1 (ist d l y t hi)
      rw [e2]
      have q3 := hb y x ρ2 t _ _ _ _ _ p2 q2
      simp only
      cases e3 : B ρ2 t with
      | nx ρ3 t3 => rw [e3] at q3; obtain ⟨y', p3, l3, i3⟩ := q3; exact ih y' ρ3 t3 p3 (by rw [l3, l2, l1]) i3
      | ct ρ3 t3 => rw [e3] at q3; obtain ⟨y', p3, l3, i3⟩ := q3; exact ih y' ρ3 t3 p3 (by rw [l3, l2, l1]) i3
      | bk ρ3 t3 => rw [e3] at q3; obtain ⟨y', p3, l3, i3⟩ := q3; exact ⟨y', p3, by rw [l3, l2, l1], i3⟩
      | rt d' t3 => rw [e3] at q3; exact q3
      | ex x' ρ3 t3 => rw [e3] at q3; exact ⟨by rw [q3.1, l2, l1], q3.2⟩
      | no => rw [e3] at q3; exact q3.elim
  have p0 := h0.ap.trans hp
  exact key k.ds b0 ρ s1 p0 rfl i0
/-- a while: I tells what holds before each test, n how many turns at most -/
def vWhile {γ : Type} (m : Nat) (b0 : γ) (s : S) (test : γ → S → (Bool → S → Prop) → Prop) (body : γ → S → (γ → S → Prop) → (γ → S → Prop) → Prop) (post : γ → S → Prop) : Prop :=
  ∃ I : Nat → γ → S → Prop, (∃ n, n < m ∧ I n b0 s) ∧ ∀ n y t, I n y t → test y t fun b t1 => if b = true then 0 < n ∧ body y t1 (I (n - 1)) post else post y t1
theorem vb_while {m : Nat} {fl' : δ → Env} {B : Bl} {T : Te} {wt : δ → Wt Bool} {wb : δ → Wb δ δ} {wr : δ → Wb β γ} {b0 : δ} (h0 : LeE (fl' b0) a) (ht : ∀ b, VE (fl' b) T (wt b)) (hb : ∀ b, VB (fl' b) B fl' fl' (wb b)) (hr : ∀ b, VB (fl' b) R fo fl (wr b)) :
    VB a (bSeq (bWhile (fun _ _ => m) T B) R) fo fl (fun s n r b c e => vWhile m b0 s (fun y t k => wt y t k e) (fun y t nx bk => wb y t nx r bk nx e) (fun y t => wr y t n r b c e)) := fun ρ s n r b c e hp q => by
  unfold bSeq bWhile
  refine wF_then (fo' := fl') (n' := fun y t => wr y t n r b c e) ?_ fun x ρ1 s1 p1 l1 q1 => l1 ▸ hr x ρ1 s1 n r b c e p1 q1
  obtain ⟨I, ⟨k0, hk0, i0⟩, ist⟩ := q
  have key : ∀ (m k : Nat) (y : δ) (ρ1 : Env) (t : S), k < m → Ap (fl' y) ρ1 → ρ1.length = ρ.length → I k y t → wF fl' fl ρ.length (whileL T B m ρ1 t) (fun y t => wr y t n r b c e) r b c e := by
    intro m
    induction m with
    | zero => intro k y ρ1 t hk; omega
    | succ m ih =>
      intro k y ρ1 t hk p1 l1 hi
      unfold whileL
      rw [← l1]
      refine wF_fl ((ht y ρ1 t _ _ p1 (ist k y t hi)).mono (fun v t1 q1 => ?_) fun _ _ h => h)
      rw [l1]
      cases v with
      | false =>
        rw [if_neg Bool.false_ne_true] at q1 ⊢
        exact ⟨y, p1, l1, q1⟩
      | true =>
        rw [if_pos rfl] at q1 ⊢
        have q3 := hb y ρ1 t1 _ _ _ _ _ p1 q1.2
        cases e3 : B ρ1 t1 with
        | nx ρ3 t3 => rw [e3] at q3; obtain ⟨y', p3, l3, i3⟩ := q3; exact ih (k - 1) y' ρ3 t3 (by omega) p3 (by rw [l3, l1]) i3
        | ct ρ3 t3 => rw [e3] at q3; obtain ⟨y', p3, l3, i3⟩ := q3; exact ih (k - 1) y' ρ3 t3 (by omega) p3 (by rw [l3, l1]) i3
        | bk ρ3 t3 => rw [e3] at q3; obtain ⟨y', p3, l3, i3⟩ := q3; exact ⟨y', p3, by rw [l3, l1], i3⟩
        | rt d' t3 => rw [e3] at q3; exact q3
        | ex x' ρ3 t3 => rw [e3] at q3; exact ⟨by rw [q3.1, l1], q3.2⟩
        | no => rw [e3] at q3; exact q3.elim
  exact key m k0 b0 ρ s hk0 (h0.ap.trans hp) rfl i0
/-- try: B except c as x: return t -/
def vX (ex : Str → Option Bool) (c : Str) (t : XV) (r : D → S → Prop) (e : Xc → S → Prop) (x : Xc) (s : S) : Prop := match ex x.cls with
  | some true => x.cls = c ∧ match xvD x t with
    | some d => r d s
    | none => False
  | some false => e x s
  | none => False
theorem vb_tryR {i : Nat} {B : Bl} {ex : Str → Option Bool} {c : Str} {t : XV} {fo' : δ → Env} {w1 : Wb δ γ} {wr : δ → Wb β γ} (hi : i < a.length) (h1 : VB a B fo' fl w1) (hr : ∀ x, VB (fo' x) R fo fl (wr x)) :
    VB a (bSeq (bTryR i B ex c t) R) fo fl (fun s n r b c' e => w1 s (fun x s2 => wr x s2 n r b c' e) r b c' (vX ex c t r e)) := fun ρ s n r b c' e hp q => by
  unfold bSeq
  refine wF_then (fo' := fo') (n' := fun x s2 => wr x s2 n r b c' e) ?_ fun x ρ1 s1 p1 l1 q1 => l1 ▸ hr x ρ1 s1 n r b c' e p1 q1
  have h := h1 ρ s _ r b c' _ hp q
  unfold bTryR
  cases e1 : B ρ s with
  | ex x ρ' s' =>
    rw [e1] at h
    obtain ⟨hl, h⟩ := h
    unfold vX at h
    simp only
    split at h
    · rename_i ee
      try rw [ee]
      try simp only
      rw [if_pos ⟨h.1, by rw [hl, ← hp.1]; exact hi⟩]
      have h2 := h.2
      split at h2
      · rename_i ed
        try rw [ed]
        exact h2
      · exact h2.elim
    · rename_i ee
      try rw [ee]
      exact ⟨hl, h⟩
    · exact h.elim
  | _ => rw [e1] at h; exact h

/-! comprehensions -/
/-- I tells what holds before each turn (of what is left, what is kept so far, the store with the list that grows) -/
def vLcI (k : Wk) (s : S) (bd : D → S → (Option D → S → Prop) → Prop) (I : List D → List D → S → Prop) : Prop :=
  I k.ds [] (s ++ [.lst []]) ∧ (∀ l acc t, I l acc t → k.ok t = true) ∧ ∀ d l acc t, I (d :: l) acc t → bd d t fun o t' => match o with
    | none => I l acc t'
    | some y => t'[s.length]? = some (.lst acc) ∧ acc.length < 1000000 ∧ I l (acc ++ [y]) (t'.set s.length (.lst (acc ++ [y])))
def vLc (k : Wk) (s : S) (bd : D → S → (Option D → S → Prop) → Prop) (Q : D → S → Prop) : Prop :=
  ∃ I : List D → List D → S → Prop, vLcI k s bd I ∧ ∀ acc t, I [] acc t → Q (fin s (.loc s.length) t).1 (fin s (.loc s.length) t).2
def vLcC (k : Wk) (s : S) (bd : D → S → (Option D → S → Prop) → Prop) (Q : D → S → Prop) : Prop :=
  ∃ I : List D → List D → S → Prop, vLcI k s bd I ∧ ∀ acc t, I [] acc t → Q (.loc s.length) t
theorem lc_run {k : Wk} {s : S} {T : Pt} {U : Te} {X : Type} {aw : Env} {wg : D → (X → Prop) → Prop} {fg : X → Env} {wu : X → Wt Bool} {we : X → Wt D} {I : List D → List D → S → Prop} (hg : VG aw T wg fg) (hu : ∀ x, VE (fg x) U (wu x)) (he : ∀ x, VE (fg x) A (we x))
    (h : vLcI k s (fun d t j => wg d fun x => wu x t (fun b t1 => vC b (fun j' => we x t1 j' fun _ _ => False) (fun _ => j none t1) (fun y t2 => j (some y) t2)) fun _ _ => False) I) {ρ : Env} (hp : Ap aw ρ) : ∃ acc t, lcD k.ok T U A s.length k.ds ρ (s ++ [.lst []]) = .ok () t ∧ I [] acc t := by
  obtain ⟨i0, iok, ist⟩ := h
  have key : ∀ (l acc : List D) (t : S), I l acc t → ∃ acc' t', lcD k.ok T U A s.length l ρ t = .ok () t' ∧ I [] acc' t' := by
    intro l
    induction l with
    | nil =>
      intro acc t hi
      refine ⟨acc, t, ?_, hi⟩
      unfold lcD
      rw [if_pos (iok _ _ _ hi)]
    | cons d l ih =>
      intro acc t hi
      obtain ⟨x, ρ1, e1, p1, l1, q1⟩ := hg d ρ _ hp (ist d l acc t hi)
      obtain ⟨b, t1, e2, q2⟩ := (hu x ρ1 t _ _ p1 q1).of
      unfold lcD
      rw [if_pos (iok _ _ _ hi), e1]
      simp only [e2, Out.bindN_ok]
      cases b with
      | false =>
        rw [if_neg Bool.false_ne_true]
        exact ih acc t1 q2
      | true =>
        rw [if_pos rfl]
        obtain ⟨y, t2, e3, q3⟩ := (he x ρ1 t1 _ _ p1 q2).of
        obtain ⟨e4, hz, q4⟩ := q3
        simp only [e3, Out.bindN_ok, e4]
        rw [if_pos (by rw [sizeLine_eq]; omega)]
        exact ih _ _ q4
  exact key k.ds [] _ i0
theorem ve_lc {Sg : Sr} {wsg : Wt Wk} {own : List Nat} {T : Pt} {U : Te} {X : Type} {wg : D → (X → Prop) → Prop} {fg : X → Env} {wu : X → Wt Bool} {we : X → Wt D} (hs : VE a Sg wsg) (hg : VG (wipeE a own) T wg fg) (hu : ∀ x, VE (fg x) U (wu x)) (he : ∀ x, VE (fg x) A (we x)) :
    VE a (eLc Sg own T U A) (fun s Q E => wsg s (fun k s1 => vLc k s1 (fun d t j => wg d fun x => wu x t (fun b t1 => vC b (fun j' => we x t1 j' fun _ _ => False) (fun _ => j none t1) (fun y t2 => j (some y) t2)) fun _ _ => False) Q) E) := fun ρ s Q E hp q => by
  unfold eLc
  refine wO.bind ((hs ρ s _ _ hp q).mono (fun k s1 q1 => ?_) fun _ _ h => h)
  obtain ⟨I, h, hq⟩ := q1
  obtain ⟨acc, t, e, hi⟩ := lc_run hg hu he h (hp.wipe own)
  rw [e]
  exact hq acc t hi
theorem ve_lcC {Sg : Sr} {wsg : Wt Wk} {own : List Nat} {T : Pt} {U : Te} {X : Type} {wg : D → (X → Prop) → Prop} {fg : X → Env} {wu : X → Wt Bool} {we : X → Wt D} (hs : VE a Sg wsg) (hg : VG (wipeE a own) T wg fg) (hu : ∀ x, VE (fg x) U (wu x)) (he : ∀ x, VE (fg x) A (we x)) :
    VE a (eLcC Sg own T U A) (fun s Q E => wsg s (fun k s1 => vLcC k s1 (fun d t j => wg d fun x => wu x t (fun b t1 => vC b (fun j' => we x t1 j' fun _ _ => False) (fun _ => j none t1) (fun y t2 => j (some y) t2)) fun _ _ => False) Q) E) := fun ρ s Q E hp q => by
  unfold eLcC
  refine wO.bind ((hs ρ s _ _ hp q).mono (fun k s1 q1 => ?_) fun _ _ h => h)
  obtain ⟨I, h, hq⟩ := q1
  obtain ⟨acc, t, e, hi⟩ := lc_run hg hu he h (hp.wipe own)
  rw [e]
  exact hq acc t hi
/-- a list of things whose parts leave the store as it is -/
theorem vLc_pure {α : Type} {g : α → D} {u : α → Bool} {y : α → D} {k : Wk} {s : S} {bd : D → S → (Option D → S → Prop) → Prop} {Q : D → S → Prop} {l : List α} (hk : k.ds = l.map g) (hok : ∀ acc, k.ok (s ++ [.lst acc]) = true)
    (h : ∀ x ∈ l, ∀ acc (j : Option D → S → Prop), (j (if u x = true then some (y x) else none) (s ++ [.lst acc])) → bd (g x) (s ++ [.lst acc]) j) (hz : l.length ≤ 1000000) (hc : ∀ x ∈ l, clD s.length (y x) = true) (q : Q (.lst ((l.filter u).map y)) s) : vLc k s bd Q := by
  refine ⟨fun r acc t => ∃ l1 l2, l = l1 ++ l2 ∧ r = l2.map g ∧ acc = (l1.filter u).map y ∧ t = s ++ [.lst acc], ⟨⟨[], l, rfl, hk, rfl, rfl⟩, ?_, ?_⟩, ?_⟩
  · rintro r acc t ⟨l1, l2, _, _, _, rfl⟩
    exact hok acc
  · rintro d r acc t ⟨l1, l2, e1, e2, e3, rfl⟩
    cases l2 with
    | nil => cases e2
    | cons x l2 =>
      injection e2 with e2 e4
      subst e2
      refine h x (by rw [e1]; simp) acc _ ?_
      cases hu : u x with
      | false =>
        simp only [Bool.false_eq_true, if_false]
        exact ⟨l1 ++ [x], l2, by simp [e1], e4, by simp [e3, hu], trivial⟩
      | true =>
        simp only [if_true]
        have hln : acc.length ≤ l1.length := by rw [e3, List.length_map]; exact List.length_filter_le ..
        have hll : l.length = l1.length + (l2.length + 1) := by rw [e1]; simp
        refine ⟨by simp, by omega, l1 ++ [x], l2, by simp [e1], e4, by simp [e3, hu], ?_⟩
        simp
  · rintro acc t ⟨l1, l2, e1, e2, e3, rfl⟩
    have : l2 = [] := by cases l2 with | nil => rfl | cons _ _ => cases e2
    subst this
    rw [List.append_nil] at e1
    subst e1
    rw [fin_new (clDs_all fun d hd => by
      rw [e3] at hd
      obtain ⟨x, hx, rfl⟩ := List.mem_map.mp hd
      exact hc x (List.mem_filter.mp hx).1)]
    rw [e3]
    exact q
/-- .. over a dict's keys, the dict in a slot -/
def vLcK (d : D) (s : S) (bd : D → S → (Option D → S → Prop) → Prop) (Q : D → S → Prop) : Prop := ∃ ks ds, viD s d = some (ks, ds) ∧ isLk s d = true ∧
  ∃ I : List D → List D → S → Prop, vLcI ⟨ks.map kD, fun _ => true⟩ (lockS s d ks ds) bd I ∧ ∀ acc t, I [] acc t → ∃ s3, unlockS (fin (lockS s d ks ds) (.loc s.length) t).2 d ks ds = some s3 ∧ Q (fin (lockS s d ks ds) (.loc s.length) t).1 s3
theorem lockS_len (s : S) (d : D) (ks : List Key) (ds : List D) : (lockS s d ks ds).length = s.length := by
  cases d <;> simp [lockS]
theorem ve_lcK {i : Nat} {d : D} {own : List Nat} {T : Pt} {U : Te} {X : Type} {wg : D → (X → Prop) → Prop} {fg : X → Env} {wu : X → Wt Bool} {we : X → Wt D} (hi : a[i]? = some (some d)) (hg : VG (wipeE a own) T wg fg) (hu : ∀ x, VE (fg x) U (wu x)) (he : ∀ x, VE (fg x) A (we x)) :
    VE a (eLcK i own T U A) (fun s Q _ => vLcK d s (fun d t j => wg d fun x => wu x t (fun b t1 => vC b (fun j' => we x t1 j' fun _ _ => False) (fun _ => j none t1) (fun y t2 => j (some y) t2)) fun _ _ => False) Q) := fun ρ s Q E hp q => by
  obtain ⟨ks, ds, e1, e2, I, h, hq⟩ := q
  have e0 := hp.2 i d hi
  obtain ⟨acc, t, e, hi⟩ := lc_run hg hu he h (hp.wipe own)
  obtain ⟨s3, e3, q3⟩ := hq acc t hi
  unfold eLcK
  rw [lockS_len] at e
  simp only [e0, e1, e2, if_true, e, Out.bindN_ok, e3]
  exact q3

/-! a def's run -/
theorem vf_run {n N : Nat} {B : Bl} {ds : List D} {a : Env} {w : Wb Unit Empty} {f0 : Empty → Env} {s : S} {Q : D → S → Prop} {E : Xc → S → Prop} (hl : ds.length = n) (ha : ds.map some ++ List.replicate (N - n) none = a) (h : VB a B (fun _ => List.replicate a.length none) f0 w)
    (q : w s (fun _ s' => Q (fin s (.p .non) s').1 (fin s (.p .non) s').2) (fun d s' => Q (fin s d s').1 (fin s d s').2) (fun x _ => nomatch x) (fun x _ => nomatch x) E) : wO (runF n N B ds s) Q E := by
  have h := h a s _ _ _ _ _ (Ap.refl a) q
  cases e : B a s with
  | nx ρ s' => rw [e] at h; rw [runF_nx hl ha e]; obtain ⟨x, _, _, h⟩ := h; exact h
  | rt d s' => rw [e] at h; rw [runF_rt hl ha e]; exact h
  | ex x ρ s' => rw [e] at h; rw [runF_ex hl ha e]; exact h.2
  | bk ρ s' => rw [e] at h; obtain ⟨x, _⟩ := h; exact nomatch x
  | ct ρ s' => rw [e] at h; obtain ⟨x, _⟩ := h; exact nomatch x
  | no => rw [e] at h; exact h.elim
theorem LeE.rep : ∀ a : Env, LeE (List.replicate a.length none) a
  | [] => .nil
  | _ :: a => .n (LeE.rep a)
end
end Mo

set_option Elab.async false
set_option linter.all false
set_option maxRecDepth 100000
set_option maxHeartbeats 1000000
/-! for proofs over the conditions -/
namespace Mo
open PySem L2
/-- both ways lead to P, and from P it goes on -/
theorem vC_join {α : Type} {b : Bool} {A B : (α → S → Prop) → Prop} {k : α → S → Prop} (P : α → S → Prop) (hk : ∀ d s, P d s → k d s) (h : ∀ k' : α → S → Prop, (∀ d s, P d s → k' d s) → (b = true → A k') ∧ (b = false → B k')) : vC b A B k := by
  obtain ⟨h1, h2⟩ := h k hk
  cases b with
  | true => exact h1 rfl
  | false => exact h2 rfl
theorem wO_eq {α : Type} {o : Out α} {a : α} {s : S} {Q : α → S → Prop} {E : Xc → S → Prop} (e : o = .ok a s) (h : Q a s) : wO o Q E := by rw [e]; exact h
theorem vP_eq {o : Option S} {s : S} {k : S → Prop} (e : o = some s) (h : k s) : vP o k := by rw [e]; exact h
theorem vW_eq {o : Option Wk} {w : Wk} {k : Wk → Prop} (e : o = some w) (h : k w) : vW o k := by rw [e]; exact h
def gI (k : Nat) : D := .p (.int (k : Nat))
theorem rgOf_nat {n : Nat} (h : n ≤ 1000000) : rgOf [.p (.int (n : Nat))] = some ⟨(List.range n).map gI, fun _ => true⟩ := by
  show (if _ then _ else _) = _
  rw [if_pos ⟨by omega, by omega⟩]
  congr 2
  unfold rgD gI
  rw [Int.toNat_natCast]
  apply List.map_congr_left
  intro i _
  congr 2
  omega
theorem rgOf_int {i : Int} (h0 : 0 ≤ i) (h : i ≤ 1000000) : rgOf [.p (.int i)] = some ⟨(List.range i.toNat).map gI, fun _ => true⟩ := by
  have := rgOf_nat (n := i.toNat) (by omega)
  rwa [Int.toNat_of_nonneg h0] at this
theorem wkOf_lst' (s : S) (ds : List D) : wkOf s (.lst ds) = some ⟨ds, fun _ => true⟩ := rfl
theorem wkOf_tup' (s : S) (ps : List P) : wkOf s (.p (.tup ps)) = some ⟨ps.map D.p, fun _ => true⟩ := rfl
/-- a for over a list of things, each turn keeps the invariant -/
theorem vFor_list {α γ : Type} {g : α → D} {k : Wk} {b0 : γ} {s : S} {body : D → γ → S → (γ → S → Prop) → (γ → S → Prop) → Prop} {post : γ → S → Prop} {l : List α} (hk : k.ds = l.map g) (I : List α → List α → γ → S → Prop) (hok : ∀ t, k.ok t = true)
    (h0 : I [] l b0 s) (hs : ∀ pre x suf b t (nx : γ → S → Prop), l = pre ++ x :: suf → I pre (x :: suf) b t → (∀ b' t', I (pre ++ [x]) suf b' t' → nx b' t') → body (g x) b t nx post) (he : ∀ b t, I l [] b t → post b t) : vFor k b0 s body post := by
  refine ⟨fun r b t => ∃ pre suf, l = pre ++ suf ∧ r = suf.map g ∧ I pre suf b t, ⟨[], l, rfl, hk, h0⟩, fun _ _ t _ => hok t, ?_, ?_⟩
  · rintro d r b t ⟨pre, suf, e1, e2, i⟩
    cases suf with
    | nil => cases e2
    | cons x suf =>
      injection e2 with e2 e3
      subst e2
      exact hs pre x suf b t _ e1 i fun b' t' i' => ⟨pre ++ [x], suf, by simp [e1], e3, i'⟩
  · rintro b t ⟨pre, suf, e1, e2, i⟩
    have : suf = [] := by cases suf with | nil => rfl | cons _ _ => cases e2
    subst this
    rw [List.append_nil] at e1
    subst e1
    exact he b t i
theorem bMin2_i (i j : Int) (s : S) : bMin2 [.p (.int i), .p (.int j)] s = some (.p (.int (if j < i then j else i)), s) := rfl
end Mo

set_option Elab.async false
set_option linter.all false
set_option maxRecDepth 100000
set_option maxHeartbeats 1000000
/-! conditions of texts' methods, zip, dicts' items, default calls, stores into several places -/
namespace Mo
open PySem L2
/-- a new list, a new dict as a cell -/
def vNL (xs : List D) (s : S) (k : D → S → Prop) : Prop := k (.loc s.length) (s ++ [.lst xs])
def vND (s : S) (k : D → S → Prop) : Prop := k (.loc s.length) (s ++ [.dK [] []])
def vS (d : D) (k : Prop) : Prop := match d with
  | .p (.str _) => k
  | _ => False
@[simp] theorem vS_str (x : Str) (k : Prop) : vS (.p (.str x)) k = k := rfl
section
variable {a : Env} {A B O : Ex} {wa wb wo : Wt D} {T U : Te} {wt wu : Wt Bool} {As : Ar} {ws : Wt (List D)} {n : Nat}
theorem ve_m1 {f : D → D → S → Option (D × S)} (ho : VE a O wo) (ha : VE a A wa) : VE a (eM1 f O A) (fun s Q E => wo s (fun o s1 => vS o (wa s1 (fun x s2 => vO (f o x s2) Q) E)) E) := fun ρ s Q E hp q => by
  refine (ho ρ s _ _ hp q).mono (fun o s1 q1 => ?_) (fun _ _ h => h) |> wO.bind
  unfold vS at q1
  split at q1
  · rename_i z
    refine wO.bind ((ha ρ s1 _ _ hp q1).mono (fun x s2 q2 => ?_) fun _ _ h => h)
    cases e : f (.p (.str z)) x s2 with
    | none => rw [e] at q2; exact q2
    | some r => obtain ⟨d, s3⟩ := r; rw [e] at q2; exact q2
  · exact q1.elim
theorem ve_m0 {f : D → S → Option (D × S)} (ho : VE a O wo) : VE a (eM0 f O) (fun s Q E => wo s (fun o s1 => vS o (vO (f o s1) Q)) E) := fun ρ s Q E hp q => by
  refine (ho ρ s _ _ hp q).mono (fun o s1 q1 => ?_) (fun _ _ h => h) |> wO.bind
  unfold vS at q1
  split at q1
  · rename_i z
    show wO (ofO (f (.p (.str z)) s1)) Q E
    cases e : f (.p (.str z)) s1 with
    | none => rw [e] at q1; exact q1
    | some r => obtain ⟨d, s3⟩ := r; rw [e] at q1; exact q1
  · exact q1.elim
theorem ve_un {f : D → S → Option (D × S)} (ha : VE a A wa) : VE a (eUn f A) (fun s Q E => wa s (fun x s1 => vO (f x s1) Q) E) := fun ρ s Q E hp q => by
  refine (ha ρ s _ _ hp q).mono (fun x s1 q1 => ?_) (fun _ _ h => h) |> wO.bind
  cases e : f x s1 with
  | none => rw [e] at q1; exact q1
  | some r => obtain ⟨d, s3⟩ := r; rw [e] at q1; exact q1
/-- zip of two -/
def zipW (s : S) : List D → Option Wk
  | [d, e] => match viT d, viT e with
    | some ds, some es => some ⟨zipF ds es, fun _ => true⟩
    | none, none => match wkOf s d, wkOf s e with
      | some k, some k' => some ⟨zipF k.ds k'.ds, fun s => k.ok s && k'.ok s⟩
      | _, _ => none
    | _, _ => none
  | _ => none
theorem sZip_eq {ρ : Env} {s : S} : sZip As ρ s = (As ρ s).bind fun xs s1 => match zipW s1 xs with
  | some k => .ok k s1
  | none => .no := by
  unfold sZip
  cases As ρ s with
  | no => rfl
  | ex x s1 => rfl
  | ok xs s1 =>
    simp only [Out.bind_ok]
    match xs with
    | [] => rfl
    | [_] => rfl
    | _ :: _ :: _ :: _ => rfl
    | [d, e] =>
      unfold zipW
      cases h1 : viT d <;> cases h2 : viT e <;> simp only [h1, h2]
      cases h3 : wkOf s1 d <;> cases h4 : wkOf s1 e <;> simp only [h3, h4]
theorem vs_zip (hs : VA n a As ws) : VE a (sZip As) (fun s Q E => ws s (fun xs s1 => vW (zipW s1 xs) fun k => Q k s1) E) := fun ρ s Q E hp q => by
  rw [sZip_eq]
  refine (hs.1 ρ s _ _ hp q).mono (fun xs s1 q1 => ?_) (fun _ _ h => h) |> wO.bind
  cases e : zipW s1 xs with
  | none => rw [e] at q1; exact q1.elim
  | some k => rw [e] at q1; exact q1
/-- over a dict, by its keys and values -/
def vLcG (f : List Key → List D → List D) (d : D) (s : S) (bd : D → S → (Option D → S → Prop) → Prop) (Q : D → S → Prop) : Prop := ∃ ks ds, viD s d = some (ks, ds) ∧ isLk s d = true ∧
  ∃ I : List D → List D → S → Prop, vLcI ⟨f ks ds, fun _ => true⟩ (lockS s d ks ds) bd I ∧ ∀ acc t, I [] acc t → ∃ s3, unlockS (fin (lockS s d ks ds) (.loc s.length) t).2 d ks ds = some s3 ∧ Q (fin (lockS s d ks ds) (.loc s.length) t).1 s3
theorem ve_lcG {f : List Key → List D → List D} {i : Nat} {d : D} {own : List Nat} {T : Pt} {U : Te} {X : Type} {wg : D → (X → Prop) → Prop} {fg : X → Env} {wu : X → Wt Bool} {we : X → Wt D} (hi : a[i]? = some (some d)) (hg : VG (wipeE a own) T wg fg) (hu : ∀ x, VE (fg x) U (wu x)) (he : ∀ x, VE (fg x) A (we x)) :
    VE a (eLcG f i own T U A) (fun s Q _ => vLcG f d s (fun d t j => wg d fun x => wu x t (fun b t1 => vC b (fun j' => we x t1 j' fun _ _ => False) (fun _ => j none t1) (fun y t2 => j (some y) t2)) fun _ _ => False) Q) := fun ρ s Q E hp q => by
  obtain ⟨ks, ds, e1, e2, I, h, hq⟩ := q
  have e0 := hp.2 i d hi
  obtain ⟨acc, t, e, hi⟩ := lc_run hg hu he h (hp.wipe own)
  obtain ⟨s3, e3, q3⟩ := hq acc t hi
  unfold eLcG
  rw [lockS_len] at e
  simp only [e0, e1, e2, if_true, e, Out.bindN_ok, e3]
  exact q3
theorem ve_callD {F : List D → S → Out D} {qs : List P} {k : Nat} (hs : VA n a As ws) (hk : n + qs.length = k := by rfl) : VE a (eFD k F qs As) (fun s Q E => ws s (fun xs s1 => wO (F (xs ++ qs.map D.p) s1) Q E) E) := fun ρ s Q E hp q => by
  have h := hs.1 ρ s _ _ hp q
  unfold eFD
  cases e : As ρ s with
  | no => rw [e] at h; exact h
  | ex x s1 => rw [e] at h; exact h
  | ok xs s1 =>
    rw [e] at h
    simp only [Out.bind_ok]
    rw [if_pos (by rw [hs.2 ρ s xs s1 e, hk])]
    exact h
/-! targets that store -/
def VTb (a : Env) (T : Tb) (w : D → S → (S → Prop) → Prop) : Prop := ∀ d ρ s k, Ap a ρ → w d s k → ∃ s', T d ρ s = .nx ρ s' ∧ k s'
def VTs (a : Env) (n : Nat) (T : List D → Bl) (w : List D → S → (S → Prop) → Prop) : Prop := ∀ ds ρ s k, Ap a ρ → w ds s k → ds.length = n ∧ ∃ s', T ds ρ s = .nx ρ s' ∧ k s'
theorem vt_sub {put : D → D → D → S → Option S} {I : Ex} {wi : Wt D} (ho : VE a O wo) (hi : VE a I wi) : VTb a (bSub put O I) (fun d s k => wo s (fun o s2 => wi s2 (fun i s3 => vP (put o i d s3) k) fun _ _ => False) fun _ _ => False) := fun d ρ s k hp q => by
  obtain ⟨o, s2, e1, q1⟩ := (ho ρ s _ _ hp q).of
  obtain ⟨i, s3, e2, q2⟩ := (hi ρ s2 _ _ hp q1).of
  cases e3 : put o i d s3 with
  | none => rw [e3] at q2; exact q2.elim
  | some s4 =>
    rw [e3] at q2
    refine ⟨s4, ?_, q2⟩
    simp only [bSub, e1, e2, Out.fl_ok, e3]
theorem vts_nil : VTs a 0 bNils (fun ds s k => vN ds fun _ => k s) := fun ds ρ s k hp q => by
  match ds, q with
  | [], q => exact ⟨rfl, s, rfl, q⟩
theorem vts_cons {T : Tb} {U : List D → Bl} {w1 : D → S → (S → Prop) → Prop} {w2 : List D → S → (S → Prop) → Prop} (h1 : VTb a T w1) (h2 : VTs a n U w2) : VTs a (n + 1) (bConss T U) (fun ds s k => vH ds fun d r => w1 d s fun s1 => w2 r s1 k) := fun ds ρ s k hp q => by
  match ds, q with
  | d :: r, q =>
    simp only [vH_cons] at q
    obtain ⟨s1, e1, q1⟩ := h1 d ρ s _ hp q
    obtain ⟨hl, s2, e2, q2⟩ := h2 r ρ s1 _ hp q1
    exact ⟨by simp [hl], s2, by simp only [bConss, e1, Fl.then_nx, e2], q2⟩
theorem vt_tus {U : List D → Bl} {w : List D → S → (S → Prop) → Prop} (h : VTs a n U w) : VTb a (bTus n U) (fun d s k => vT d fun ds => w ds s k) := fun d ρ s k hp q => by
  replace q : vT d fun ds => w ds s k := q
  unfold vT at q
  cases e : viT d with
  | none => rw [e] at q; exact q.elim
  | some ds =>
    rw [e] at q
    obtain ⟨hl, s', e1, q1⟩ := h ds ρ s k hp q
    exact ⟨s', by simp only [bTus, e, hl, if_true, e1], q1⟩
theorem vb_asgB {β γ : Type} {fo : β → Env} {fl : γ → Env} {R : Bl} {T : Tb} {w : D → S → (S → Prop) → Prop} {wr : Wb β γ} (ha : VE a A wa) (ht : VTb a T w) (hr : VB a R fo fl wr) : VB a (bSeq (bAsgB A T) R) fo fl (fun s n r b c e => wa s (fun d s1 => w d s1 fun s2 => wr s2 n r b c e) e) := fun ρ s n r b c e hp q => by
  unfold bSeq bAsgB
  refine wF_then (fo' := fun _ : Unit => a) (n' := fun _ s2 => wr s2 n r b c e) (wF_fl ((ha ρ s _ _ hp q).mono (fun d s1 q1 => ?_) fun _ _ h => h)) fun x ρ1 s1 p1 l1 q1 => l1 ▸ hr ρ1 s1 n r b c e p1 q1
  obtain ⟨s2, e2, q2⟩ := ht d ρ s1 _ hp q1
  rw [e2]
  exact ⟨(), hp, rfl, q2⟩
/-- a text's signs -/
def vSg (d : D) (k : Wk → Prop) : Prop := match d with
  | .p (.str x) => k ⟨sgD x, fun _ => true⟩
  | _ => False
@[simp] theorem vSg_str (x : Str) (k : Wk → Prop) : vSg (.p (.str x)) k = k ⟨sgD x, fun _ => true⟩ := rfl
theorem vs_txt (ha : VE a A wa) : VE a (sTxt A) (fun s Q E => wa s (fun x s1 => vSg x fun k => Q k s1) E) := fun ρ s Q E hp q => by
  refine (ha ρ s _ _ hp q).mono (fun x s1 q1 => ?_) (fun _ _ h => h) |> wO.bind
  unfold vSg at q1
  split at q1
  · exact q1
  · exact q1.elim
end
end Mo

set_option Elab.async false
set_option linter.all false
set_option maxRecDepth 100000
set_option maxHeartbeats 1000000
/-! the program's things as Lean data (fairs, sides, offers, deals, markets), dicts of holdings, the laws' knives: plain lemmas -/
namespace Mo
open PySem
abbrev Hd := Str × Int
abbrev Fair := List (Str × Hd)
structure Side where
  good : Str
  least : Int
  most : Option Int
  after : Str
  change : Int
structure Offer where
  name : Str
  one : Side
  other : Option Side
structure Deal where
  name : Str
  one : Str
  other : Str
structure Market where
  goods : P
  starts : P
  offers : List Offer
def optP {α : Type} (g : α → P) : Option α → P
  | none => .non
  | some a => g a
def pHd (h : Hd) : P := .tup [.str h.1, .int h.2]
def pEn (e : Str × Hd) : P := .tup [.str e.1, .str e.2.1, .int e.2.2]
def pFair (f : Fair) : P := .tup (f.map pEn)
def pSide (x : Side) : P := .tup [.str x.good, .int x.least, optP .int x.most, .str x.after, .int x.change]
def pOffer (x : Offer) : P := .tup [.str x.name, pSide x.one, optP pSide x.other]
def pMarket (m : Market) : P := .tup [m.goods, m.starts, .tup (m.offers.map pOffer)]
def pDeal (x : Deal) : P := .tup [.str x.name, .str x.one, .str x.other]
def pRow (r : List Deal) : P := .tup (r.map pDeal)
def found (f : Fair) (t : Str) : Option Hd := match runSt (fun (_ : Unit) (e : Str × Hd) => if e.1 = t then Sum.inr e.2 else Sum.inl ()) () f with
  | .inl _ => none
  | .inr h => some h
def withH (f : Fair) (t : Str) (h : Hd) : Fair := f.map fun e => if e.1 = t then (e.1, h) else e
def offerOf (m : Market) (n : Str) : Option Offer := match runSt (fun (_ : Unit) (e : Offer) => if e.name = n then Sum.inr e else Sum.inl ()) () m.offers with
  | .inl _ => none
  | .inr h => some h
def fits (x : Side) (h : Hd) : Bool := decide (h.1 = x.good) && (decide (x.least ≤ h.2) && (match x.most with
  | none => true
  | some j => decide (h.2 ≤ j)))
def behind (x : Side) (h : Hd) : Hd := (x.after, h.2 + x.change)
theorem sz2 {n : Nat} (h : n ≤ 1000000) : n ≤ sizeLine := by rw [sizeLine_eq]; omega
theorem sz2' {n : Nat} (h : n ≤ 1000000) : n < sizeLine := by rw [sizeLine_eq]; omega
@[simp] theorem mkT_two (a b : P) : mkT [.p a, .p b] = .p (.tup [a, b]) := rfl
@[simp] theorem mkT_three (a b c : P) : mkT [.p a, .p b, .p c] = .p (.tup [a, b, c]) := rfl
@[simp] theorem mkT_one (a : P) : mkT [.p a] = .p (.tup [a]) := rfl
@[simp] theorem szl1 : 1 ≤ sizeLine := by decide
@[simp] theorem szl2 : 2 ≤ sizeLine := by decide
@[simp] theorem szl3 : 3 ≤ sizeLine := by decide
@[simp] theorem szl0 : 0 ≤ sizeLine := by decide
@[simp] theorem ix_offer0 (o : Offer) (s : S) : dIx (.p (pOffer o)) (.p (.int 0)) s = some (.p (.str o.name), s) := by simp [pOffer]
@[simp] theorem ix_offer1 (o : Offer) (s : S) : dIx (.p (pOffer o)) (.p (.int 1)) s = some (.p (pSide o.one), s) := by simp [pOffer]
@[simp] theorem ix_offer2 (o : Offer) (s : S) : dIx (.p (pOffer o)) (.p (.int 2)) s = some (.p (optP pSide o.other), s) := by simp [pOffer]
@[simp] theorem ix_market2 (o : Market) (s : S) : dIx (.p (pMarket o)) (.p (.int 2)) s = some (.p (.tup (o.offers.map pOffer)), s) := by simp [pMarket]
@[simp] theorem ix_side0 (o : Side) (s : S) : dIx (.p (pSide o)) (.p (.int 0)) s = some (.p (.str o.good), s) := by simp [pSide]
@[simp] theorem ix_side1 (o : Side) (s : S) : dIx (.p (pSide o)) (.p (.int 1)) s = some (.p (.int o.least), s) := by simp [pSide]
@[simp] theorem ix_side2 (o : Side) (s : S) : dIx (.p (pSide o)) (.p (.int 2)) s = some (.p (optP .int o.most), s) := by simp [pSide]
@[simp] theorem ix_side3 (o : Side) (s : S) : dIx (.p (pSide o)) (.p (.int 3)) s = some (.p (.str o.after), s) := by simp [pSide]
@[simp] theorem ix_side4 (o : Side) (s : S) : dIx (.p (pSide o)) (.p (.int 4)) s = some (.p (.int o.change), s) := by simp [pSide]
@[simp] theorem ix_hd0 (o : Hd) (s : S) : dIx (.p (pHd o)) (.p (.int 0)) s = some (.p (.str o.1), s) := by simp [pHd]
@[simp] theorem ix_hd1 (o : Hd) (s : S) : dIx (.p (pHd o)) (.p (.int 1)) s = some (.p (.int o.2), s) := by simp [pHd]
@[simp] theorem ix_deal0 (o : Deal) (s : S) : dIx (.p (pDeal o)) (.p (.int 0)) s = some (.p (.str o.name), s) := by simp [pDeal]
@[simp] theorem ix_deal1 (o : Deal) (s : S) : dIx (.p (pDeal o)) (.p (.int 1)) s = some (.p (.str o.one), s) := by simp [pDeal]
@[simp] theorem ix_deal2 (o : Deal) (s : S) : dIx (.p (pDeal o)) (.p (.int 2)) s = some (.p (.str o.other), s) := by simp [pDeal]
@[simp] theorem vi_deal (o : Deal) : viT (.p (pDeal o)) = some [.p (.str o.name), .p (.str o.one), .p (.str o.other)] := by simp [pDeal]
@[simp] theorem vi_offer (o : Offer) : viT (.p (pOffer o)) = some [.p (.str o.name), .p (pSide o.one), .p (optP pSide o.other)] := by simp [pOffer]
@[simp] theorem vi_side (o : Side) : viT (.p (pSide o)) = some [.p (.str o.good), .p (.int o.least), .p (optP .int o.most), .p (.str o.after), .p (.int o.change)] := by simp [pSide]
@[simp] theorem vi_en (e : Str × Hd) : viT (.p (pEn e)) = some [.p (.str e.1), .p (.str e.2.1), .p (.int e.2.2)] := by simp [pEn]
@[simp] theorem vi_fair (f : Fair) : viT (.p (pFair f)) = some (f.map fun e => .p (pEn e)) := by simp [pFair]
@[simp] theorem isN_offer (o : Offer) : isN (.p (pOffer o)) = false := rfl
@[simp] theorem isN_side (o : Side) : isN (.p (pSide o)) = false := rfl
@[simp] theorem isN_hd (o : Hd) : isN (.p (pHd o)) = false := rfl
@[simp] theorem isN_optOffer (o : Option Offer) : isN (.p (optP pOffer o)) = o.isNone := by cases o <;> rfl
@[simp] theorem isN_optSide (o : Option Side) : isN (.p (optP pSide o)) = o.isNone := by cases o <;> rfl
@[simp] theorem isN_optHd (o : Option Hd) : isN (.p (optP pHd o)) = o.isNone := by cases o <;> rfl
@[simp] theorem isN_optInt (o : Option Int) : isN (.p (optP .int o)) = o.isNone := by cases o <;> rfl
@[simp] theorem isN_optStr (o : Option Str) : isN (.p (optP .str o)) = o.isNone := by cases o <;> rfl
theorem mk_hd (a : Str) (b : Int) : mkT [.p (.str a), .p (.int b)] = .p (pHd (a, b)) := rfl
def otherWrong (o : Offer) (f : Fair) (one other : Str) : Bool := match o.other with
  | none => !decide (other = "")
  | some _ => decide (other = "") || (decide (other = one) || (found f other).isNone)
def dealWord (m : Market) (f : Fair) (d : Deal) : Option Str := match offerOf m d.name with
  | none => some "offer"
  | some o => match found f d.one with
    | none => some "one"
    | some h => if otherWrong o f d.one d.other = true then some "other" else if fits o.one h = true then (if d.other = "" then none else match o.other, found f d.other with
      | some x, some k => if fits x k = true then none else some "fit"
      | _, _ => none) else some "fit"
def doneDeal (m : Market) (f : Fair) (d : Deal) : Fair := match offerOf m d.name, found f d.one with
  | some o, some h => if d.other = "" then withH f d.one (behind o.one h) else match o.other, found f d.other with
    | some x, some k => withH (withH f d.one (behind o.one h)) d.other (behind x k)
    | _, _ => f
  | _, _ => f
theorem withH_len (f : Fair) (t : Str) (h : Hd) : (withH f t h).length = f.length := by simp [withH]
theorem doneDeal_len (m : Market) (f : Fair) (d : Deal) : (doneDeal m f d).length = f.length := by
  unfold doneDeal
  split
  · split
    · exact withH_len _ _ _
    · split
      · rw [withH_len, withH_len]
      · rfl
  · rfl
def rowRun (m : Market) : Fair → List Deal → Nat → Sum Fair (Nat × Str)
  | f, [], _ => .inl f
  | f, d :: r, i => match dealWord m f d with
    | some w => .inr (i, w)
    | none => rowRun m (doneDeal m f d) r (i + 1)
theorem rowRun_len {m : Market} : ∀ {r : List Deal} {f f' : Fair} {i : Nat}, rowRun m f r i = .inl f' → f'.length = f.length
  | [], _, _, _, h => by cases h; rfl
  | d :: r, f, f', i, h => by
    unfold rowRun at h
    split at h
    · cases h
    · rw [rowRun_len h, doneDeal_len]
def fD (f : Fair) : D := .p (pFair f)
abbrev bad (i : Nat) (w : Str) : Xc := ⟨"BadRow", [("place", .p (.int (i : Nat))), ("word", .p (.str w))]⟩
theorem at_last {s : S} {c : C} : (s ++ [c])[s.length]? = some c := by simp
theorem set_last {s : S} {c c' : C} : (s ++ [c]).set s.length c' = s ++ [c'] := by simp
theorem dIx_lastL {s : S} {l : List D} {d : D} {n : Nat} (h : s[n]? = some (.lst (l ++ [d]))) : dIx (.loc n) (.p (.int (-1))) s = some (d, s) := by
  have e : L2.atI (l ++ [d]) (-1) = some d := atI_last
  simp [dIx, ixT, ixL, h, e]
theorem mkT_pair (a : Int) (p : P) : mkT [.p (.int a), .p p] = .p (.tup [.int a, p]) := rfl
theorem app_last {s : S} {l : List D} {d : D} (h : l.length < 1000000) : appL (.loc s.length) [d] (s ++ [.lst l]) = some (.p .non, s ++ [.lst (l ++ [d])]) := by
  have : l.length < sizeLine := by rw [sizeLine_eq]; omega
  simp [appL, this]
theorem dIx_lastV {s : S} {l : List D} {d : D} : dIx (.lst (l ++ [d])) (.p (.int (-1))) s = some (d, s) := by
  have e : L2.atI (l ++ [d]) (-1) = some d := atI_last
  simp [dIx, ixT, ixL, e]
theorem chk_pre (k : Nat) {s t : S} (h : s <+: t) : chk k s t = true := by
  obtain ⟨u, rfl⟩ := h
  exact chk_app k s u
theorem take_pre {s t : S} (h : s <+: t) : t.take s.length = s := by
  obtain ⟨u, rfl⟩ := h
  simp
def okH (h : Hd) : Prop := PyData.strOk h.1 = true
def okF (f : Fair) : Prop := ∀ e ∈ f, okH e.2
def okS (x : Side) : Prop := PyData.strOk x.after = true
def okM (m : Market) : Prop := ∀ o ∈ m.offers, okS o.one ∧ ∀ x, o.other = some x → okS x
theorem shp_hd {h : Hd} (o : okH h) : shp (pHd h) = true := by
  have o' : PyData.strOk h.1 = true := o
  simp [shp, pHd, toPD, toPDs, SeqAt.shaped, PyData.canLay0, PyData.canLayAll0, PyData.depth, PyData.depthAll, o']
theorem lay_hds : ∀ {l : List Hd}, (∀ h ∈ l, okH h) → PyData.canLayAll0 (toPDs (l.map pHd)) = true ∧ PyData.depthAll (toPDs (l.map pHd)) ≤ 1
  | [], _ => by simp [toPDs, PyData.canLayAll0, PyData.depthAll]
  | h :: l, o => by
    obtain ⟨h1, h2⟩ := lay_hds (l := l) fun x hx => o x (List.mem_cons_of_mem _ hx)
    have o' : PyData.strOk h.1 = true := o h (List.mem_cons_self ..)
    have e : PyData.depth (toPD (pHd h)) = 1 := by simp [pHd, toPD, toPDs, PyData.depth, PyData.depthAll]
    refine ⟨?_, ?_⟩
    · simp [toPDs, PyData.canLayAll0, h1, pHd, toPD, PyData.canLay0, o']
    · simp only [List.map_cons, toPDs, PyData.depthAll, e]
      omega
theorem shaped_hds {l : List Hd} (o : ∀ h ∈ l, okH h) : SeqAt.shaped (.list (toPDs (l.map pHd))) = true := by
  obtain ⟨h1, h2⟩ := lay_hds o
  have h3 : PyData.depth (.list (toPDs (l.map pHd))) ≤ 64 := by simp only [PyData.depth]; omega
  simp [SeqAt.shaped, PyData.canLay0, h1, h3]
theorem eqP_hd (a b : Hd) : eqP (pHd a) (pHd b) = decide (a = b) := by
  obtain ⟨a1, a2⟩ := a
  obtain ⟨b1, b2⟩ := b
  have : eqP (pHd (a1, a2)) (pHd (b1, b2)) = ((a1 == b1) && ((a2 == b2) && true)) := rfl
  rw [this]
  by_cases h1 : a1 = b1 <;> by_cases h2 : a2 = b2 <;> simp [h1, h2]
theorem inD_hd {l : List Hd} {h : Hd} {s : S} (o : ∀ h ∈ l, okH h) (oh : okH h) : inD false (.p (pHd h)) (.lst ((l.map pHd).map D.p)) s = some (.p (.bl (l.any fun z => decide (z = h))), s) := by
  have e1 : (l.map pHd).any (fun z => eqP z (pHd h)) = l.any fun z => decide (z = h) := by
    rw [List.any_map]
    congr 1
    funext z
    exact eqP_hd z h
  simp only [inD, viL_lst, Option.bind, allP_map, shp_hd oh, shaped_hds o, e1]
  simp
theorem okF_with {f : Fair} {t : Str} {h : Hd} (o : okF f) (oh : okH h) : okF (withH f t h) := fun e he => by
  obtain ⟨x, hx, rfl⟩ := List.mem_map.mp he
  by_cases q : x.1 = t
  · simp only [q, if_true]; exact oh
  · simp only [q, if_false]; exact o x hx
theorem offerOf_mem {m : Market} {n : Str} {o : Offer} (h : offerOf m n = some o) : o ∈ m.offers := by
  unfold offerOf at h
  have key : ∀ {l : List Offer} {b : Unit}, runSt (fun (_ : Unit) (e : Offer) => if e.name = n then Sum.inr e else Sum.inl ()) b l = .inr o → o ∈ l := by
    intro l
    induction l with
    | nil => intro b h; cases h
    | cons x l ih =>
      intro b h
      unfold runSt at h
      by_cases e : x.name = n
      · simp only [e, if_true] at h
        cases h
        exact List.mem_cons_self ..
      · simp only [e, if_false] at h
        exact List.mem_cons_of_mem _ (ih h)
  cases e : runSt (fun (_ : Unit) (e : Offer) => if e.name = n then Sum.inr e else Sum.inl ()) () m.offers with
  | inl _ => rw [e] at h; cases h
  | inr o' =>
    rw [e] at h
    cases h
    exact key e
theorem okF_done {m : Market} {f : Fair} {d : Deal} (om : okM m) (o : okF f) : okF (doneDeal m f d) := by
  unfold doneDeal
  split
  · rename_i o1 h1 ho hf
    obtain ⟨s1, s2⟩ := om o1 (offerOf_mem ho)
    split
    · exact okF_with o s1
    · split
      · rename_i x k hx hk
        exact okF_with (okF_with o s1) (s2 x hx)
      · exact o
  · exact o
theorem okF_run {m : Market} (om : okM m) : ∀ {r : List Deal} {f f' : Fair} {i : Nat}, okF f → rowRun m f r i = .inl f' → okF f'
  | [], _, _, _, o, h => by cases h; exact o
  | d :: r, f, f', i, o, h => by
    unfold rowRun at h
    split at h
    · cases h
    · exact okF_run om (okF_done om o) h
def comesB (f : Fair) (h : Hd) : Bool := f.any fun e => decide (e.2 = h)
abbrev Key := L2.Key
def dk (da : Fair) : List Key := da.map fun e => Sum.inr e.1
def dv (da : Fair) : List D := da.map fun e => .p (pHd e.2)
def isD (s : S) (fr : D) (da : Fair) : Prop := viD s fr = some (dk da, dv da)
theorem isD_app {s t : S} {fr : D} {da : Fair} (h : isD s fr da) : isD (s ++ t) fr da := by
  unfold isD at h ⊢
  cases fr with
  | loc n =>
    simp only [viD_loc] at h ⊢
    cases e : s[n]? with
    | none => rw [e] at h; cases h
    | some c =>
      have hn := (List.getElem?_eq_some_iff.mp e).1
      rw [List.getElem?_append_left hn, e]
      rw [e] at h
      exact h
  | dK ks ds => exact h
  | _ => cases h
theorem found_cons (n : Str) (h : Hd) (f : Fair) (t : Str) : found ((n, h) :: f) t = if n = t then some h else found f t := by
  unfold found
  rw [runSt]
  by_cases e : n = t <;> simp [e]
theorem found_nil (t : Str) : found [] t = none := rfl
theorem lkD_found (t : Str) : ∀ da : Fair, lkD (dk da) (dv da) (Sum.inr t : Key) = (found da t).map fun h => D.p (pHd h)
  | [] => rfl
  | (n, h) :: da => by
    rw [found_cons]
    have ih := lkD_found t da
    unfold dk dv at ih ⊢
    simp only [List.map_cons, lkD]
    by_cases e : n = t
    · simp [e]
    · have : ¬ ((Sum.inr n : Key) = Sum.inr t) := fun z => e (Sum.inr.inj z)
      simp only [if_neg this, if_neg e]
      exact ih
theorem dIx_str (x : D) (t : Str) (s : S) : dIx x (.p (.str t)) s = none := by
  have h1 : ixT x (.p (.str t)) s = none := by unfold ixT; cases viT x <;> rfl
  have h2 : ixL x (.p (.str t)) s = none := by unfold ixL; cases viL s x <;> rfl
  have h3 : ixS x (.p (.str t)) s = none := by
    unfold ixS
    split <;> rename_i h <;> first | rfl | (cases h)
  simp [dIx, h1, h2, h3]
theorem viL_isD {s : S} {fr : D} {da : Fair} (h : isD s fr da) : viL s fr = none := by
  unfold isD at h
  cases fr with
  | loc n =>
    simp only [viD_loc, viL_loc] at h ⊢
    cases e : s[n]? with
    | none => rfl
    | some c => rw [e] at h; cases c <;> first | rfl | cases h
  | dK ks ds => rfl
  | _ => cases h
theorem sub_dict {A B : Ex} {ρ : Mo.Env} {s : S} {fr : D} {da : Fair} {t : Str} {h : Hd} (hA : A ρ s = .ok fr s) (hB : B ρ s = .ok (.p (.str t)) s) (hd : isD s fr da) (hf : found da t = some h) : eSub A B ρ s = .ok (.p (pHd h)) s := by
  have hd' : viD s fr = some (dk da, dv da) := hd
  have hl := lkD_found t da
  rw [hf] at hl
  have hl' : lkD (dk da) (dv da) (Sum.inr t : Key) = some (.p (pHd h)) := hl
  simp only [eSub, orE, eOp, hA, hB, Out.bind_ok, dIx_str, ofO, eDGet, hd', keyD, hl']
theorem fin_newD {s : S} {ks : List Key} {ds : List D} (h : clDs s.length ds = true) : fin s (.loc s.length) (s ++ [.dK ks ds]) = (.dK ks ds, s) := by
  have e : frzD s.length (s ++ [.dK ks ds]) (.loc s.length) = .dK ks ds := by simp [frzD, frz1]
  unfold fin
  rw [e]
  simp [clD, h, chk_app]
theorem clDs_dv (k : Nat) (da : Fair) : clDs k (dv da) = true := clDs_all fun d hd => by
  obtain ⟨x, _, rfl⟩ := List.mem_map.mp hd
  rfl
theorem mem_dk {da : Fair} {t : Str} (h : (found da t).isSome = true) : (Sum.inr t : Key) ∈ dk da := by
  induction da with
  | nil => cases h
  | cons x da ih =>
    obtain ⟨n, k⟩ := x
    rw [found_cons] at h
    by_cases e : n = t
    · subst e; exact List.mem_cons_self ..
    · rw [if_neg e] at h
      exact List.mem_cons_of_mem _ (ih h)
theorem put_dk (da : Fair) (t : Str) (h : Hd) (hs : (found da t).isSome = true) : putKs (dk da) (Sum.inr t : Key) = dk (withH da t h) ∧ putDs (dk da) (dv da) (Sum.inr t : Key) (.p (pHd h)) = dv (withH da t h) := by
  unfold putKs putDs
  rw [if_pos (mem_dk hs), if_pos (mem_dk hs)]
  refine ⟨?_, ?_⟩
  · unfold dk withH
    rw [List.map_map]
    apply List.map_congr_left
    intro x _
    by_cases e : x.1 = t <;> simp [e]
  · clear hs
    unfold dk dv withH
    induction da with
    | nil => rfl
    | cons x da ih =>
      simp only [List.map_cons, List.zipWith_cons_cons, ih]
      by_cases e : x.1 = t
      · simp [e]
      · have : ¬ ((Sum.inr x.1 : Key) = Sum.inr t) := fun z => e (Sum.inr.inj z)
        simp [e]
theorem found_with (f : Fair) (t : Str) (h : Hd) (u : Str) : found (withH f t h) u = if u = t then (found f t).map fun _ => h else found f u := by
  induction f with
  | nil => simp [withH, found_nil]
  | cons x f ih =>
    obtain ⟨n, k⟩ := x
    have e : withH ((n, k) :: f) t h = (if n = t then (n, h) else (n, k)) :: withH f t h := by
      unfold withH
      simp
    rw [e]
    by_cases h1 : n = t
    · subst h1
      simp only [if_true]
      rw [found_cons, found_cons, found_cons, ih]
      by_cases h2 : u = n
      · subst h2; simp
      · simp [h2, Ne.symm h2]
    · rw [if_neg h1, found_cons, found_cons, found_cons, ih]
      by_cases h2 : u = t
      · subst h2; simp [h1]
      · simp [h2]
theorem isN_isD {s : S} {fr : D} {da : Fair} (h : isD s fr da) : isN fr = false := by
  unfold isD at h
  cases fr with
  | loc n => rfl
  | dK ks ds => rfl
  | _ => cases h
theorem fin_isD {s : S} {fr : D} {da : Fair} (h : isD s fr da) : fin s fr s = (fr, s) := by
  have h' := h
  unfold isD at h
  cases fr with
  | loc n =>
    simp only [viD_loc] at h
    have hn : n < s.length := by
      cases e : s[n]? with
      | none => rw [e] at h; cases h
      | some c => exact (List.getElem?_eq_some_iff.mp e).1
    have e : frzD s.length s (.loc n) = .loc n := by simp [frzD, frz1, hn]
    unfold fin
    rw [e]
    simp [clD, hn, chk_refl]
  | dK ks ds =>
    have : ds = dv da := by
      have := Option.some.inj h
      exact (Prod.mk.inj this).2
    have e : frzD s.length s (.dK ks ds) = .dK ks ds := rfl
    unfold fin
    rw [e, this]
    simp [clD, clDs_dv, chk_refl]
  | _ => cases h
theorem dEq_hd {k h : Hd} {s : S} (ok : okH k) (oh : okH h) : dEq (.p (pHd k)) (.p (pHd h)) s = some (.p (.bl (decide (k = h))), s) := by
  have : scP (pHd k) (pHd h) = false := rfl
  simp [dEq, this, shp_hd ok, shp_hd oh, eqP_hd]
theorem okF_found {f : Fair} {t : Str} {h : Hd} (o : okF f) (e : found f t = some h) : okH h := by
  induction f with
  | nil => cases e
  | cons x f ih =>
    obtain ⟨n, k⟩ := x
    rw [found_cons] at e
    by_cases q : n = t
    · rw [if_pos q] at e; cases e; exact o _ (List.mem_cons_self ..)
    · rw [if_neg q] at e; exact ih (fun y hy => o y (List.mem_cons_of_mem _ hy)) e
theorem found_mem {f : Fair} {x : Str × Hd} (hx : x ∈ f) : ∃ k, found f x.1 = some k := by
  induction f with
  | nil => cases hx
  | cons y f ih =>
    obtain ⟨n, k⟩ := y
    rw [found_cons]
    by_cases q : n = x.1
    · exact ⟨k, if_pos q⟩
    · rw [if_neg q]
      rcases List.mem_cons.mp hx with h | h
      · exact absurd (by rw [h]) q
      · exact ih h
theorem lock_len (s : S) (d : D) (ks : List L2.Key) (ds : List D) : (lockS s d ks ds).length = s.length := by
  cases d <;> simp [lockS]
theorem lock_isD {s : S} {fr : D} {da : Fair} (h : isD s fr da) : isD (lockS s fr (dk da) (dv da)) fr da := by
  have h' := h
  unfold isD at h ⊢
  cases fr with
  | loc n =>
    simp only [viD_loc] at h
    have hn : n < s.length := by
      cases e : s[n]? with
      | none => rw [e] at h; cases h
      | some c => exact (List.getElem?_eq_some_iff.mp e).1
    simp [lockS, hn]
  | dK ks ds => exact h
  | _ => cases h
theorem unlock_isD {s : S} {fr : D} {da : Fair} (h : isD s fr da) (hk : isLk s fr = true) : unlockS (lockS s fr (dk da) (dv da)) fr (dk da) (dv da) = some s := by
  unfold isD at h
  cases fr with
  | loc n =>
    simp only [viD_loc] at h
    simp only [isLk] at hk
    cases e : s[n]? with
    | none => rw [e] at h; cases h
    | some c =>
      have hn := (List.getElem?_eq_some_iff.mp e).1
      rw [e] at h hk
      cases c with
      | dK ks ds =>
        have h2 := Option.some.inj h
        obtain ⟨h3, h4⟩ := Prod.mk.inj h2
        subst h3 h4
        have e2 : s.set n (.dK (dk da) (dv da)) = s := by
          rw [← (List.getElem?_eq_some_iff.mp e).2]
          exact List.set_getElem_self _
        simp [lockS, unlockS, hn, e2]
      | _ => cases hk
  | dK ks ds => rfl
  | _ => cases h
def hasE (e : Fair) (h : Hd) : Bool := e.any fun x => decide (found e x.1 = some h)
def Rl (f da : Fair) : Prop := ∀ t, found f t = found da t
def names (f : Fair) : List Str := f.map (·.1)
theorem names_with (f : Fair) (t : Str) (h : Hd) : names (withH f t h) = names f := by
  unfold names withH
  rw [List.map_map]
  apply List.map_congr_left
  intro x _
  by_cases e : x.1 = t <;> simp [e]
theorem names_done (m : Market) (f : Fair) (d : Deal) : names (doneDeal m f d) = names f := by
  unfold doneDeal
  split
  · split
    · exact names_with _ _ _
    · split
      · rw [names_with, names_with]
      · rfl
  · rfl
theorem names_run {m : Market} : ∀ {row : List Deal} {f l : Fair} {i : Nat}, rowRun m f row i = .inl l → names l = names f
  | [], _, _, _, h => by cases h; rfl
  | d :: row, f, l, i, h => by
    unfold rowRun at h
    split at h
    · cases h
    · rw [names_run h, names_done]
theorem found_nodup {f : Fair} (nd : (names f).Nodup) {x : Str × Hd} (hx : x ∈ f) : found f x.1 = some x.2 := by
  induction f with
  | nil => cases hx
  | cons y f ih =>
    obtain ⟨n, k⟩ := y
    have nd' := List.nodup_cons.mp (show (n :: names f).Nodup from nd)
    rw [found_cons]
    rcases List.mem_cons.mp hx with h | h
    · subst h; exact if_pos rfl
    · have : n ≠ x.1 := fun e => nd'.1 (e ▸ List.mem_map_of_mem h)
      rw [if_neg this]
      exact ih nd'.2 h
theorem found_some {f : Fair} {t : Str} {h : Hd} (e : found f t = some h) : (t, h) ∈ f := by
  induction f with
  | nil => cases e
  | cons x f ih =>
    obtain ⟨n, k⟩ := x
    rw [found_cons] at e
    by_cases q : n = t
    · rw [if_pos q] at e; cases e; subst q; exact List.mem_cons_self ..
    · rw [if_neg q] at e; exact List.mem_cons_of_mem _ (ih e)
theorem any_eq {l e : Fair} {h : Hd} (nd : (names l).Nodup) (r : Rl l e) : comesB l h = hasE e h := by
  unfold comesB hasE
  rw [Bool.eq_iff_iff, List.any_eq_true, List.any_eq_true]
  constructor
  · rintro ⟨x, hx, q⟩
    have q := of_decide_eq_true q
    have k := found_nodup nd hx
    rw [q, r] at k
    exact ⟨(x.1, h), found_some k, decide_eq_true k⟩
  · rintro ⟨x, hx, q⟩
    have q := of_decide_eq_true q
    rw [← r] at q
    exact ⟨(x.1, h), found_some q, decide_eq_true rfl⟩
def iD (i : Int) : D := .p (.int i)
def kS (gs cs : List Int) (a b : Int) (r : S) : S := C.lst (gs.map iD) :: C.lst [iD a, iD b, .lst (cs.map iD), .loc 0] :: r
def Kn (s r : S) : Prop := ∃ gs cs a b, cs ≠ [] ∧ s = kS gs cs a b r
theorem clDs_iD (k : Nat) (l : List Int) : clDs k (l.map iD) = true := clDs_all fun d hd => by
  obtain ⟨x, _, rfl⟩ := List.mem_map.mp hd
  rfl
theorem chk_kn {s s' r : S} (h : Kn s r) (h' : Kn s' r) : chk s.length s s' = true ∧ s'.take s.length = s' := by
  obtain ⟨gs, cs, a, b, _, rfl⟩ := h
  obtain ⟨gs', cs', a', b', _, rfl⟩ := h'
  refine ⟨?_, ?_⟩
  · simp [kS, chk, clC, clDs, clD, clDs_iD, iD, chk_refl]
  · simp [kS]
theorem fin_kn {s s' r : S} {p : P} (h : Kn s r) (h' : Kn s' r) : fin s (.p p) s' = (.p p, s') := by
  obtain ⟨h1, h2⟩ := chk_kn h h'
  rw [fin_pk h1, h2]
theorem chk_append {k : Nat} : ∀ {s s' t : S}, chk k s s' = true → chk k s (s' ++ t) = true
  | [], _, _, _ => rfl
  | c :: s, [], _, h => by cases h
  | c :: s, c' :: s', t, h => by
    have h' : ((decide (c' = c) || clC k c') && chk k s s') = true := h
    obtain ⟨h1, h2⟩ := Bool.and_eq_true_iff.mp h'
    show ((decide (c' = c) || clC k c') && chk k s (s' ++ t)) = true
    rw [h1, chk_append h2]
    rfl
theorem fin_kna {s s' r t : S} {p : P} (h : Kn s r) (h' : Kn s' r) : fin s (.p p) (s' ++ t) = (.p p, s') := by
  obtain ⟨h1, h2⟩ := chk_kn h h'
  have hl : s'.length = s.length := by
    obtain ⟨gs, cs, a, b, _, rfl⟩ := h
    obtain ⟨gs', cs', a', b', _, rfl⟩ := h'
    simp [kS]
  rw [fin_pk (chk_append h1), ← hl]
  simp
theorem dIxL {s : S} {n : Nat} {ds : List D} {i : Int} {d : D} (h : s[n]? = some (.lst ds)) (e : L2.atI ds i = some d) : dIx (.loc n) (.p (.int i)) s = some (d, s) := by
  simp [dIx, ixT, ixL, h, e]
theorem dIxV {s : S} {ds : List D} {i : Int} {d : D} (e : L2.atI ds i = some d) : dIx (.lst ds) (.p (.int i)) s = some (d, s) := by
  simp [dIx, ixT, ixL, e]
section
variable (gs cs : List Int) (a b : Int) (r : S)
theorem k0 : dIx (.loc 1) (.p (.int 0)) (kS gs cs a b r) = some (.p (.int a), kS gs cs a b r) := dIxL rfl (atI_nat (n := 0) rfl)
theorem k1 : dIx (.loc 1) (.p (.int 1)) (kS gs cs a b r) = some (.p (.int b), kS gs cs a b r) := dIxL rfl (atI_nat (n := 1) rfl)
theorem k2 : dIx (.loc 1) (.p (.int 2)) (kS gs cs a b r) = some (.lst (cs.map iD), kS gs cs a b r) := dIxL rfl (atI_nat (n := 2) rfl)
theorem k3 : dIx (.loc 1) (.p (.int 3)) (kS gs cs a b r) = some (.loc 0, kS gs cs a b r) := dIxL rfl (atI_nat (n := 3) rfl)
theorem kp0 (x : Int) : putL (.loc 1) (.p (.int 0)) (.p (.int x)) (kS gs cs a b r) = some (kS gs cs x b r) := by simp [putL, kS, L2.ixN, iD]
theorem kp1 (x : Int) : putL (.loc 1) (.p (.int 1)) (.p (.int x)) (kS gs cs a b r) = some (kS gs cs a x r) := by simp [putL, kS, L2.ixN, iD]
theorem kg0 (g : Int) : dIx (.loc 0) (.p (.int 0)) (kS (g :: gs) cs a b r) = some (.p (.int g), kS (g :: gs) cs a b r) := dIxL rfl (atI_nat (n := 0) rfl)
theorem kgp (g x : Int) : putL (.loc 0) (.p (.int 0)) (.p (.int x)) (kS (g :: gs) cs a b r) = some (kS (x :: gs) cs a b r) := by simp [putL, kS, L2.ixN, iD]
theorem kgl : bLen [.loc 0] (kS gs cs a b r) = some (.p (.int gs.length), kS gs cs a b r) := by
  have := bLen_loc (n := 0) (ds := gs.map iD) (s := kS gs cs a b r) rfl
  rw [this]
  simp
theorem kcl (s : S) : bLen [.lst (cs.map iD)] s = some (.p (.int cs.length), s) := by simp
theorem kci (s : S) (i : Int) (h : cs ≠ []) : ∃ x, dIx (.lst (cs.map iD)) (.p (.int (i % (cs.length : Int)))) s = some (.p (.int x), s) := by
  have hl : 0 < (cs.length : Int) := by
    have := List.length_pos_iff.mpr h
    omega
  have h0 : 0 ≤ i % (cs.length : Int) := Int.emod_nonneg _ (by omega)
  have h1 : i % (cs.length : Int) < cs.length := Int.emod_lt_of_pos _ hl
  have h2 : (i % (cs.length : Int)).toNat < cs.length := by omega
  refine ⟨cs[(i % (cs.length : Int)).toNat], dIxV (atI_int h0 ?_)⟩
  rw [List.getElem?_map, List.getElem?_eq_getElem h2]
  rfl
end
theorem Kn.mk {gs cs : List Int} {a b : Int} {r : S} (h : cs ≠ []) : Kn (kS gs cs a b r) r := ⟨gs, cs, a, b, h, rfl⟩
theorem orB_nx {A B : Bl} {ρ ρ' : Mo.Env} {s s' : S} (h : A ρ s = .nx ρ' s') : orB A B ρ s = .nx ρ' s' := by simp only [orB, h]
theorem orE_ok {A B : Ex} {ρ : Mo.Env} {s s' : S} {d : D} (h : A ρ s = .ok d s') : orE A B ρ s = .ok d s' := by simp only [orE, h]
theorem sub_ix {A B : Ex} {ρ : Mo.Env} {s s1 s2 : S} {x y d : D} (hA : A ρ s = .ok x s1) (hB : B ρ s1 = .ok y s2) (h : dIx x y s2 = some (d, s2)) : eSub A B ρ s = .ok d s2 := by simp only [eSub, orE, eOp, hA, hB, Out.bind_ok, h, ofO]
theorem bInt_i (i : Int) (s : S) : bInt [.p (.int i)] s = some (.p (.int i), s) := rfl
theorem ints_at {ps : List P} {n : Nat} (h : ∀ p ∈ ps, ∃ i, p = P.int i) (hn : n < ps.length) : ∃ i, ps[n]? = some (.int i) := by
  obtain ⟨i, e⟩ := h _ (List.getElem_mem hn)
  exact ⟨i, by rw [List.getElem?_eq_getElem hn, e]⟩
theorem strs_at {gl : List Str} {n : Nat} (hn : n < gl.length) : ∃ g, g ∈ gl ∧ (gl.map P.str)[n]? = some (.str g) :=
  ⟨gl[n], List.getElem_mem hn, by rw [List.getElem?_map, List.getElem?_eq_getElem hn]; rfl⟩
theorem forL_rel {α : Type} {g : α → D} {ok : S → Bool} {T : Pt} {B : Bl} {I : List α → Mo.Env → S → Prop} (hok : ∀ l ρ s, I l ρ s → ok s = true)
    (hst : ∀ x l ρ s, I (x :: l) ρ s → ∃ ρ1 ρ2 s2, T.run (g x) ρ = some ρ1 ∧ B ρ1 s = .nx ρ2 s2 ∧ I l ρ2 s2) : ∀ (l : List α) (ρ : Mo.Env) (s : S), I l ρ s → ∃ ρ' s', forL ok T B (l.map g) ρ s = .nx ρ' s' ∧ I [] ρ' s'
  | [], ρ, s, h => ⟨ρ, s, by simp [forL, hok _ _ _ h], h⟩
  | x :: l, ρ, s, h => by
    obtain ⟨ρ1, ρ2, s2, e1, e2, h2⟩ := hst x l ρ s h
    obtain ⟨ρ', s', e3, h3⟩ := forL_rel hok hst l ρ2 s2 h2
    refine ⟨ρ', s', ?_, h3⟩
    simp only [List.map_cons, forL, hok _ _ _ h, e1, e2, if_true, e3]
def txt (k : Nat) : Str := ((toString ((k : Nat) : Int) : String) : Str)
theorem txt_len (k : Nat) (h : k < 20) : (txt k).length ≤ 10 := by
  have : k = 0 ∨ k = 1 ∨ k = 2 ∨ k = 3 ∨ k = 4 ∨ k = 5 ∨ k = 6 ∨ k = 7 ∨ k = 8 ∨ k = 9 ∨ k = 10 ∨ k = 11 ∨ k = 12 ∨ k = 13 ∨ k = 14 ∨ k = 15 ∨ k = 16 ∨ k = 17 ∨ k = 18 ∨ k = 19 := by omega
  rcases this with e | e | e | e | e | e | e | e | e | e | e | e | e | e | e | e | e | e | e | e <;> subst e <;> decide +kernel
theorem bStr_k (k : Nat) (s : S) (h : k < 20) : bStr [.p (.int (k : Nat))] s = some (.p (.str (txt k)), s) := by
  have h2 : ((k : Nat) : Int).natAbs.log2 < 1920 := by
    have : k.log2 ≤ k := Nat.log2_le_self k
    simp
    omega
  show (if ((k : Nat) : Int).natAbs.log2 < 1920 then _ else _) = _
  rw [if_pos h2]
  rfl
theorem kS_app (gs cs : List Int) (a b : Int) (r t : S) : kS gs cs a b r ++ t = kS gs cs a b (r ++ t) := rfl
theorem Kn.app {q r : S} (h : Kn q r) (t : S) : Kn (q ++ t) (r ++ t) := by
  obtain ⟨gs, cs, a, b, hc, rfl⟩ := h
  exact ⟨gs, cs, a, b, hc, rfl⟩
theorem Kn.cut {s r : S} {x : C} (h : Kn s (r ++ [x])) : ∃ q, Kn q r ∧ s = q ++ [x] := by
  obtain ⟨gs, cs, a, b, hc, rfl⟩ := h
  exact ⟨kS gs cs a b r, ⟨gs, cs, a, b, hc, rfl⟩, rfl⟩
theorem Kn.len {s r : S} (h : Kn s r) : s.length = r.length + 2 := by
  obtain ⟨gs, cs, a, b, hc, rfl⟩ := h
  rfl
theorem mkT3 (a b c : P) : mkT [.p a, .p b, .p c] = .p (.tup [a, b, c]) := rfl
def ab (i : Int) : Int := if i < 0 then -i else i
theorem bAbs_i (i : Int) (s : S) : bAbs [.p (.int i)] s = some (.p (.int (ab i)), s) := rfl
mutual
def dpt : P → Nat
  | .tup ps => dpts ps + 1
  | _ => 0
def dpts : List P → Nat
  | [] => 0
  | p :: ps => max (dpt p) (dpts ps)
end
mutual
def szs : P → Bool
  | .tup ps => decide (ps.length ≤ 1000) && szss ps
  | _ => true
def szss : List P → Bool
  | [] => true
  | p :: ps => szs p && szss ps
end
theorem dpts_mem : ∀ {ps : List P} {p : P}, p ∈ ps → dpt p ≤ dpts ps
  | q :: ps, p, h => by
    unfold dpts
    rcases List.mem_cons.mp h with e | e
    · subst e; omega
    · have := dpts_mem e; omega
theorem szss_mem : ∀ {ps : List P} {p : P}, szss ps = true → p ∈ ps → szs p = true
  | q :: ps, p, hs, h => by
    have hs' : (szs q && szss ps) = true := by rw [← szss]; exact hs
    obtain ⟨h1, h2⟩ := Bool.and_eq_true_iff.mp hs'
    rcases List.mem_cons.mp h with e | e
    · subst e; exact h1
    · exact szss_mem h2 e
def isDr (r : S) (fr : D) (da : Fair) : Prop := ∀ s, Kn s r → isD s fr da ∧ isLk s fr = true
theorem isDr_dK (r : S) (da : Fair) : isDr r (.dK (dk da) (dv da)) da := fun _ _ => ⟨rfl, rfl⟩
theorem offerOf_nd {m : Market} {o : Offer} (nd : (m.offers.map (·.name)).Nodup) (h : o ∈ m.offers) : offerOf m o.name = some o := by
  unfold offerOf
  have key : ∀ {l : List Offer}, (l.map (·.name)).Nodup → o ∈ l → runSt (fun (_ : Unit) (e : Offer) => if e.name = o.name then Sum.inr e else Sum.inl ()) () l = .inr o := by
    intro l
    induction l with
    | nil => intro _ h; cases h
    | cons x l ih =>
      intro nd h
      have nd' := List.nodup_cons.mp (show (x.name :: l.map (·.name)).Nodup from nd)
      unfold runSt
      rcases List.mem_cons.mp h with e | e
      · subst e; simp
      · have : ¬ x.name = o.name := fun z => nd'.1 (z ▸ List.mem_map_of_mem e)
        simp only [this, if_false]
        exact ih nd'.2 e
  rw [key nd h]
theorem found_names {f : Fair} {t : Str} (h : t ∈ names f) : ∃ k, found f t = some k := by
  obtain ⟨x, hx, rfl⟩ := List.mem_map.mp h
  exact found_mem hx
theorem strKs_dk : ∀ da : Fair, strKs (dk da) = some (names da)
  | [] => rfl
  | (n, h) :: da => by
    have ih := strKs_dk da
    unfold dk names at ih ⊢
    simp only [List.map_cons, strKs, ih]
    rfl
theorem sortD {s : S} {fr : D} {da : Fair} (h : isD s fr da) (hz : da.length < 64) : bSortD [fr] s = some (.lst ((srtS (names da)).map fun x => .p (.str x)), s) := by
  have h' : viD s fr = some (dk da, dv da) := h
  have hl : (names da).length < 64 := by unfold names; rw [List.length_map]; exact hz
  simp only [bSortD, h', Option.bind, strKs_dk, hl, if_true]
theorem srt_mem {da : Fair} {t : Str} : t ∈ srtS (names da) ↔ t ∈ names da := (srtS_perm (names da)).mem_iff
def tD (t : Str) : D := .p (.str t)
theorem found_notin {da : Fair} {t : Str} (h : t ∉ names da) : found da t = none := by
  cases e : found da t with
  | none => rfl
  | some k => exact absurd (List.mem_map_of_mem (f := (·.1)) (found_some e)) h
theorem putA_new {q : S} {n : Nat} {da : Fair} {t : Str} {h : Hd} (hn : n = q.length) (ht : t ∉ names da) (hz : da.length ≤ 1000) :
    putA (.loc n) (.p (.str t)) (.p (pHd h)) (q ++ [.dK (dk da) (dv da)]) = some (q ++ [.dK (dk (da ++ [(t, h)])) (dv (da ++ [(t, h)]))]) := by
  subst hn
  have hl : (dk da).length < sizeLine := by unfold dk; rw [List.length_map, sizeLine_eq]; omega
  have hni : (Sum.inr t : Key) ∉ dk da := fun z => by
    obtain ⟨x, hx, e⟩ := List.mem_map.mp z
    exact ht (by cases e; exact List.mem_map_of_mem hx)
  have e1 : putKs (dk da) (Sum.inr t : Key) = dk (da ++ [(t, h)]) := by unfold putKs; rw [if_neg hni]; simp [dk]
  have e2 : putDs (dk da) (dv da) (Sum.inr t : Key) (.p (pHd h)) = dv (da ++ [(t, h)]) := by unfold putDs; rw [if_neg hni]; simp [dv]
  simp [putA, putL, putD, keyD, hl, e1, e2]
theorem viT_isD {s : S} {fr : D} {da : Fair} (h : isD s fr da) : viT fr = none := by
  have h' : viD s fr = some (dk da, dv da) := h
  cases fr with
  | p p => cases h'
  | mix ds => cases h'
  | _ => rfl
theorem dInn_dict {s : S} {fr : D} {da : Fair} {t : Str} {n : Bool} (hd : isD s fr da) : dInn n (.p (.str t)) fr s = some (.p (.bl (xor n (found da t).isSome)), s) := by
  have hd' : viD s fr = some (dk da, dv da) := hd
  have hl := lkD_found t da
  have h1 : inD n (.p (.str t)) fr s = none := by simp [inD, viL_isD hd]
  have h2 : inT n (.p (.str t)) fr s = none := by simp [inT, viT_isD hd]
  have h3 : inSt n (.p (.str t)) fr s = none := by
    cases fr with
    | p p => cases hd'
    | _ => rfl
  have h4 : dInA n (.p (.str t)) fr s = none := by simp only [dInA, alt, h1, h2, h3]
  simp only [dInn, h4, hd', keyD, hl]
  cases found da t <;> rfl
/-- a key that is there is put -/
theorem putA_old {q : S} {n : Nat} {da : Fair} {t : Str} {h : Hd} (hn : n = q.length) (hs : (found da t).isSome = true) (hz : da.length ≤ 1000) :
    putA (.loc n) (.p (.str t)) (.p (pHd h)) (q ++ [.dK (dk da) (dv da)]) = some (q ++ [.dK (dk (withH da t h)) (dv (withH da t h))]) := by
  subst hn
  obtain ⟨h1, h2⟩ := put_dk da t h hs
  have hl : (dk da).length < sizeLine := by unfold dk; rw [List.length_map, sizeLine_eq]; omega
  simp [putA, putL, putD, keyD, hl, h1, h2]
theorem dSb_dict {s : S} {fr : D} {da : Fair} {t : Str} {h : Hd} (hd : isD s fr da) (hf : found da t = some h) : dSb fr (.p (.str t)) s = some (.p (pHd h), s) := by
  have hd' : viD s fr = some (dk da, dv da) := hd
  have hl := lkD_found t da
  rw [hf] at hl
  simp only [dSb, dIx_str, dGet, hd', keyD, hl, Option.map]
def toldF (da : Fair) : Fair := (srtS (names da)).map fun t => (t, (found da t).getD ("", 0))
theorem found_map {g : Str → Hd} {t : Str} : ∀ ts : List Str, found (ts.map fun t => (t, g t)) t = if t ∈ ts then some (g t) else none
  | [] => rfl
  | u :: ts => by
    rw [List.map_cons, found_cons, found_map ts]
    by_cases e : u = t
    · subst e; simp
    · rw [if_neg e]
      by_cases h : t ∈ ts <;> simp [h, Ne.symm e]
theorem told_rl (da : Fair) : Rl (toldF da) da := fun t => by
  unfold toldF
  rw [found_map]
  by_cases h : t ∈ srtS (names da)
  · rw [if_pos h]
    obtain ⟨k, e⟩ := found_names (srt_mem.mp h)
    rw [e]; rfl
  · rw [if_neg h, found_notin fun z => h (srt_mem.mpr z)]
theorem told_names (da : Fair) : names (toldF da) = srtS (names da) := by
  unfold toldF names
  rw [List.map_map]
  exact List.map_id _
theorem told_nd {da : Fair} (nd : (names da).Nodup) : (names (toldF da)).Nodup := by
  rw [told_names]
  exact (srtS_perm _).nodup_iff.mpr nd
theorem told_len (da : Fair) : (toldF da).length = da.length := by
  have h1 := congrArg List.length (told_names da)
  have h2 := (srtS_perm (names da)).length_eq
  unfold names at h1 h2
  simp only [List.length_map] at h1 h2
  omega
theorem told_ok {da : Fair} (o : okF da) : okF (toldF da) := fun e he => by
  obtain ⟨t, ht, rfl⟩ := List.mem_map.mp he
  obtain ⟨k, ek⟩ := found_names (srt_mem.mp ht)
  simp only [ek, Option.getD]
  exact okF_found o ek
theorem isLk_app {q : S} {n : Nat} {da : Fair} (hn : n = q.length) : isD (q ++ [.dK (dk da) (dv da)]) (.loc n) da ∧ isLk (q ++ [.dK (dk da) (dv da)]) (.loc n) = true := by
  subst hn
  refine ⟨?_, ?_⟩
  · show viD _ _ = _
    simp [viD]
  · simp [isLk]
theorem isDr_cell {r : S} {n : Nat} {da : Fair} (hn : n = r.length + 2) : isDr (r ++ [.dK (dk da) (dv da)]) (.loc n) da := fun s hk => by
  obtain ⟨q, hq, rfl⟩ := hk.cut
  exact isLk_app (by rw [hn, hq.len])
theorem row_dpt (row : List Deal) : dpt (pRow row) < 6 := by
  have : ∀ row : List Deal, dpts (row.map pDeal) ≤ 1 := by
    intro row
    induction row with
    | nil => decide
    | cons d row ih =>
      have : dpt (pDeal d) = 1 := rfl
      rw [List.map_cons]
      show max _ _ ≤ 1
      omega
  have := this row
  show dpts (row.map pDeal) + 1 < 6
  omega
theorem row_szs {row : List Deal} (h : row.length ≤ 900) : szs (pRow row) = true := by
  have h2 : ∀ row : List Deal, szss (row.map pDeal) = true := by
    intro row
    induction row with
    | nil => rfl
    | cons d row ih =>
      rw [List.map_cons]
      show (szs (pDeal d) && szss _) = true
      rw [ih]
      rfl
  show (decide ((row.map pDeal).length ≤ 1000) && szss (row.map pDeal)) = true
  rw [h2, Bool.and_true, List.length_map]
  exact decide_eq_true (by omega)
end Mo

set_option Elab.async false
set_option linter.all false
set_option maxRecDepth 100000
set_option maxHeartbeats 1000000
/-! texts of lines of words: written, split, read back -/
namespace Mo
open PySem PySem.Spec
def gl (L : List (List Nat)) : List Nat := (L.map fun l => l ++ [10]).flatten
theorem joinL_gl : ∀ L : List (List Nat), TL.joinL [10] (L ++ [[]]) = gl L
  | [] => rfl
  | p :: L => by
    have ih := joinL_gl L
    obtain ⟨q, r, e⟩ : ∃ q r, L ++ [[]] = q :: r := by cases L <;> exact ⟨_, _, rfl⟩
    rw [List.cons_append, e]
    show p ++ ([10] ++ TL.joinL [10] (q :: r)) = _
    rw [← e, ih]
    simp [gl]
theorem gl_snoc (L : List (List Nat)) (l : List Nat) : gl (L ++ [l]) = gl L ++ (l ++ [10]) := by simp [gl]
theorem tl_nl : TL.tl ("\n" : Str) = [10] := by decide +kernel
theorem tl_sp : TL.tl (" " : Str) = [32] := by decide +kernel
theorem tl_em : TL.tl ("" : Str) = [] := by decide +kernel
theorem split_gl {t : Str} {L : List Str} (h : TL.tl t = gl (L.map TL.tl)) (hn : ∀ l ∈ L, 10 ∉ TL.tl l) : Txt.split t "\n" = L ++ [("" : Str)] := by
  have e : t = Txt.join "\n" (L ++ [("" : Str)]) := by
    apply TL.ext_tl
    rw [TL.join_eq, TL.tl_join, h, List.map_append, ← joinL_gl, tl_nl]
    rw [List.map_singleton, tl_em]
  rw [e]
  refine TL.split_join (s := 10) (S := []) tl_nl (by decide +kernel) (by simp) fun p hp => ?_
  rcases List.mem_append.mp hp with h | h
  · exact hn p h
  · rw [List.mem_singleton.mp h, tl_em]; simp
theorem joinL_snoc (S : List Nat) : ∀ ws : List (List Nat), ws ≠ [] → TL.joinL S (ws ++ [[]]) = TL.joinL S ws ++ S
  | [p], _ => by simp [TL.joinL]
  | p :: q :: r, _ => by
    have ih := joinL_snoc S (q :: r) (by simp)
    show p ++ (S ++ TL.joinL S ((q :: r) ++ [[]])) = p ++ (S ++ TL.joinL S (q :: r)) ++ S
    rw [ih]
    simp
theorem mem_joinL {S : List Nat} {x : Nat} : ∀ {ps : List (List Nat)}, x ∈ TL.joinL S ps → x ∈ S ∨ ∃ p ∈ ps, x ∈ p
  | [], h => by cases h
  | [p], h => .inr ⟨p, List.mem_singleton.mpr rfl, h⟩
  | p :: q :: r, h => by
    have h' : x ∈ p ++ (S ++ TL.joinL S (q :: r)) := h
    rcases List.mem_append.mp h' with h1 | h1
    · exact .inr ⟨p, List.mem_cons_self .., h1⟩
    · rcases List.mem_append.mp h1 with h2 | h2
      · exact .inl h2
      · rcases mem_joinL h2 with h3 | ⟨y, hy, h3⟩
        · exact .inl h3
        · exact .inr ⟨y, List.mem_cons_of_mem _ hy, h3⟩
theorem split_parts {l : Str} {parts : List Str} (h : TL.tl l = TL.joinL [32] (parts.map TL.tl)) (hne : parts ≠ []) (hf : ∀ p ∈ parts, 32 ∉ TL.tl p) : Txt.split l " " = parts := by
  have e : l = Txt.join " " parts := by
    apply TL.ext_tl
    rw [TL.join_eq, TL.tl_join, h, tl_sp]
  rw [e]
  exact TL.split_join (s := 32) (S := []) tl_sp (by decide +kernel) hne hf
def noE (w : Str) : Bool := !decide (w = "")
structure Ln (l : Str) (ws : List Str) : Prop where
  nn : 10 ∉ TL.tl l
  len : l.length ≤ 400
  sp : (Txt.split l " ").filter noE = ws
  many : (Txt.split l " ").length ≤ 1000
  small : ∀ w ∈ Txt.split l " ", w.length ≤ 1000
theorem joinL_one {S : List Nat} : ∀ {ps : List (List Nat)} {p : List Nat}, p ∈ ps → p.length ≤ (TL.joinL S ps).length
  | [q], p, h => by rw [List.mem_singleton.mp h]; exact Nat.le_refl _
  | q :: r :: t, p, h => by
    show p.length ≤ (q ++ (S ++ TL.joinL S (r :: t))).length
    rw [List.length_append, List.length_append]
    rcases List.mem_cons.mp h with e | e
    · subst e; omega
    · have := joinL_one (S := S) e
      omega
theorem joinL_many {c : Nat} : ∀ {ps : List (List Nat)}, ps.length ≤ (TL.joinL [c] ps).length + 1
  | [] => by simp
  | [q] => by simp
  | q :: r :: t => by
    have := joinL_many (c := c) (ps := r :: t)
    show _ ≤ (q ++ ([c] ++ TL.joinL [c] (r :: t))).length + 1
    rw [List.length_append, List.length_append, List.length_singleton, List.length_cons]
    omega
theorem ln_parts {l : Str} {parts : List Str} (h : TL.tl l = TL.joinL [32] (parts.map TL.tl)) (hne : parts ≠ []) (hf : ∀ p ∈ parts, 32 ∉ TL.tl p ∧ 10 ∉ TL.tl p) (hl : l.length ≤ 400) : Ln l (parts.filter noE) := by
  have hsp := split_parts h hne fun p hp => (hf p hp).1
  have hle : (TL.joinL [32] (parts.map TL.tl)).length ≤ 400 := by rw [← h, ← TL.len_tl]; exact hl
  refine ⟨fun hm => ?_, hl, by rw [hsp], ?_, ?_⟩
  rotate_left
  · have := joinL_many (c := 32) (ps := parts.map TL.tl)
    rw [hsp]
    rw [List.length_map] at this
    omega
  · intro w hw
    rw [hsp] at hw
    have := joinL_one (S := [32]) (List.mem_map_of_mem (f := TL.tl) hw)
    rw [TL.len_tl]
    omega
  rw [h] at hm
  rcases mem_joinL hm with h1 | ⟨p, hp, h1⟩
  · exact absurd h1 (by decide)
  · obtain ⟨z, hz, rfl⟩ := List.mem_map.mp hp
    exact (hf z hz).2 h1
theorem ln_empty : Ln "" [] := ln_parts (parts := [("" : Str)]) (by rw [List.map_singleton, tl_em]; rfl) (by simp) (fun p hp => by rw [List.mem_singleton.mp hp, tl_em]; simp) (by decide +kernel)
theorem ln_end : Ln "# end" ["#", "end"] := ln_parts (parts := ["#", "end"]) (by decide +kernel) (by simp) (fun p hp => by
  have : p = "#" ∨ p = "end" := by simpa using hp
  rcases this with e | e <;> subst e <;> decide +kernel) (by decide +kernel)
structure okW (ws : List Str) : Prop where
  ne : ws ≠ []
  each : ∀ w ∈ ws, w ≠ "" ∧ 10 ∉ TL.tl w ∧ 32 ∉ TL.tl w
  first : (TL.tl (ws.headD "")).head? ≠ some 35
  len : (TL.joinL [32] (ws.map TL.tl)).length ≤ 300
def keep : List Str → Bool
  | [] => false
  | w :: _ => !decide ((TL.tl w).head? = some 35)
theorem okW.keep {ws : List Str} (h : okW ws) : keep ws = true := by
  cases ws with
  | nil => exact absurd rfl h.ne
  | cons w r =>
    have := h.first
    simp only [List.headD_cons] at this
    simp [Mo.keep, this]
theorem ln_row {ws : List Str} (h : okW ws) {pre post : Str} (hp : pre = "" ∨ pre = " ") (hq : post = "" ∨ post = " ") : Ln (pre ++ Txt.join " " ws ++ post) ws ∧ (pre ++ Txt.join " " ws ++ post).length ≤ 302 := by
  have hj : TL.tl (Txt.join " " ws) = TL.joinL [32] (ws.map TL.tl) := by rw [TL.join_eq, TL.tl_join, tl_sp]
  obtain ⟨pl, epl, ppl⟩ : ∃ pl : List Str, (pl = [] ∨ pl = [("" : Str)]) ∧ TL.tl pre ++ TL.joinL [32] (ws.map TL.tl) = TL.joinL [32] ((pl ++ ws).map TL.tl) := by
    rcases hp with e | e <;> subst e
    · exact ⟨[], .inl rfl, by rw [tl_em]; rfl⟩
    · refine ⟨[("" : Str)], .inr rfl, ?_⟩
      obtain ⟨q, r, e⟩ : ∃ q r, ws = q :: r := by
        cases ws with
        | nil => exact absurd rfl h.ne
        | cons q r => exact ⟨q, r, rfl⟩
      rw [e, tl_sp, List.map_append, List.map_singleton, tl_em]
      rfl
  obtain ⟨ql, eql, pql⟩ : ∃ ql : List Str, (ql = [] ∨ ql = [("" : Str)]) ∧ TL.joinL [32] ((pl ++ ws).map TL.tl) ++ TL.tl post = TL.joinL [32] ((pl ++ ws ++ ql).map TL.tl) := by
    rcases hq with e | e <;> subst e
    · exact ⟨[], .inl rfl, by rw [tl_em, List.append_nil, List.append_nil]⟩
    · refine ⟨[("" : Str)], .inr rfl, ?_⟩
      have hn : (pl ++ ws).map TL.tl ≠ [] := by
        intro e
        have := List.append_eq_nil_iff.mp (List.map_eq_nil_iff.mp e)
        exact h.ne this.2
      rw [List.map_append (l₁ := pl ++ ws), List.map_singleton, tl_em, joinL_snoc _ _ hn, tl_sp]
  have htl : TL.tl (pre ++ Txt.join " " ws ++ post) = TL.joinL [32] ((pl ++ ws ++ ql).map TL.tl) := by
    rw [TL.tl_append, TL.tl_append, hj, ppl, pql]
  have hlen : (pre ++ Txt.join " " ws ++ post).length ≤ 302 := by
    rw [TL.len_tl, TL.tl_append, TL.tl_append, hj, List.length_append, List.length_append]
    have h1 : (TL.tl pre).length ≤ 1 := by rcases hp with e | e <;> subst e <;> simp [tl_em, tl_sp]
    have h2 : (TL.tl post).length ≤ 1 := by rcases hq with e | e <;> subst e <;> simp [tl_em, tl_sp]
    have := h.len
    omega
  refine ⟨?_, hlen⟩
  have k := ln_parts htl (by
    intro e
    exact h.ne (List.append_eq_nil_iff.mp (List.append_eq_nil_iff.mp e).1).2) (fun p hp => by
    have hem : ∀ l : List Str, (l = [] ∨ l = [("" : Str)]) → p ∈ l → p = "" := fun l hl hp => by
      rcases hl with e | e <;> subst e
      · cases hp
      · exact List.mem_singleton.mp hp
    rcases List.mem_append.mp hp with h1 | h1
    · rcases List.mem_append.mp h1 with h2 | h2
      · rw [hem pl epl h2, tl_em]; simp
      · have := h.each p h2
        exact ⟨this.2.2, this.2.1⟩
    · rw [hem ql eql h1, tl_em]; simp) (by omega)
  have hfe : ∀ l : List Str, (l = [] ∨ l = [("" : Str)]) → l.filter noE = [] := fun l hl => by
    rcases hl with e | e <;> subst e <;> rfl
  have hfw : ws.filter noE = ws := List.filter_eq_self.mpr fun w hw => by
    have := (h.each w hw).1
    simp [noE, this]
  rw [List.filter_append, List.filter_append, hfe pl epl, hfe ql eql, hfw, List.nil_append, List.append_nil] at k
  exact k
/-- a text of rows of words -/
structure TxR (W : List (List Str)) (L : List (Str × List Str)) (t : Str) : Prop where
  tx : TL.tl t = gl (L.map fun x => TL.tl x.1)
  ln : ∀ x ∈ L, Ln x.1 x.2
  ws : (L.map (·.2)).filter keep = W
  many : L.length ≤ 2 * W.length
  size : t.length ≤ 1000 * W.length
theorem TxR.nil : TxR [] [] "" := ⟨by rw [tl_em]; rfl, (fun _ h => nomatch h), rfl, by simp, by decide +kernel⟩
theorem TxR.row {W : List (List Str)} {L : List (Str × List Str)} {t : Str} (h : TxR W L t) {ws : List Str} (ok : okW ws) {pre suf : Str} (hp : pre = "" ∨ pre = " ") (hs : suf = "\n" ∨ suf = "\n# end\n" ∨ suf = " \n\n") :
    ∃ L', TxR (W ++ [ws]) L' (t ++ pre ++ Txt.join " " ws ++ suf) := by
  obtain ⟨tx, ln, hw, many, size⟩ := h
  -- the line, what follows
  have key : ∀ (post : Str) (M : List (Str × List Str)), (post = "" ∨ post = " ") → TL.tl suf = TL.tl post ++ [10] ++ gl (M.map fun x => TL.tl x.1) → (∀ x ∈ M, Ln x.1 x.2) → (M.map (·.2)).filter keep = [] → M.length ≤ 1 → (TL.tl suf).length ≤ 20 →
      ∃ L', TxR (W ++ [ws]) L' (t ++ pre ++ Txt.join " " ws ++ suf) := fun post M hpost hsuf hM hk hm hl => by
    obtain ⟨l1, l2⟩ := ln_row ok hp hpost
    refine ⟨L ++ [(pre ++ Txt.join " " ws ++ post, ws)] ++ M, ?_, ?_, ?_, ?_, ?_⟩
    · rw [List.map_append, List.map_append, List.map_singleton]
      have e : gl ((L.map fun x => TL.tl x.1) ++ [TL.tl (pre ++ Txt.join " " ws ++ post)] ++ (M.map fun x => TL.tl x.1)) = gl (L.map fun x => TL.tl x.1) ++ (TL.tl (pre ++ Txt.join " " ws ++ post) ++ [10]) ++ gl (M.map fun x => TL.tl x.1) := by simp [gl]
      rw [e, ← tx, TL.tl_append, TL.tl_append, TL.tl_append, TL.tl_append, TL.tl_append, hsuf]
      simp
    · intro x hx
      rcases List.mem_append.mp hx with h1 | h1
      · rcases List.mem_append.mp h1 with h2 | h2
        · exact ln x h2
        · rw [List.mem_singleton.mp h2]; exact l1
      · exact hM x h1
    · rw [List.map_append, List.map_append, List.filter_append, List.filter_append, hw, hk]
      simp [ok.keep]
    · simp
      omega
    · have e1 : t.length = (TL.tl t).length := TL.len_tl t
      have e2 := TL.len_tl (t ++ pre ++ Txt.join " " ws ++ suf)
      have e3 := TL.len_tl (pre ++ Txt.join " " ws ++ post)
      rw [TL.tl_append, TL.tl_append, TL.tl_append, List.length_append, List.length_append, List.length_append] at e2
      rw [TL.tl_append, TL.tl_append, List.length_append, List.length_append] at e3
      rw [List.length_append, List.length_singleton]
      omega
  rcases hs with e | e | e <;> subst e
  · exact key "" [] (.inl rfl) (by decide +kernel) (fun _ h => nomatch h) rfl (by simp) (by decide +kernel)
  · exact key "" [("# end", ["#", "end"])] (.inl rfl) (by decide +kernel) (fun x hx => by rw [List.mem_singleton.mp hx]; exact ln_end) (by decide +kernel) (by simp) (by decide +kernel)
  · exact key " " [("", [])] (.inr rfl) (by decide +kernel) (fun x hx => by rw [List.mem_singleton.mp hx]; exact ln_empty) rfl (by simp) (by decide +kernel)
theorem TxR.split {W : List (List Str)} {L : List (Str × List Str)} {t : Str} (h : TxR W L t) : Txt.split t "\n" = L.map (·.1) ++ [("" : Str)] :=
  split_gl (by rw [h.tx, List.map_map]; rfl) fun l hl => by
    obtain ⟨x, hx, rfl⟩ := List.mem_map.mp hl
    exact (h.ln x hx).nn
def enL {α : Type} : Nat → List α → List (Nat × α)
  | _, [] => []
  | i, x :: xs => (i, x) :: enL (i + 1) xs
theorem enL_snd {α : Type} : ∀ (l : List α) (i : Nat), (enL i l).map (·.2) = l
  | [], _ => rfl
  | x :: l, i => by rw [enL, List.map_cons, enL_snd l]
theorem enL_lt {α : Type} : ∀ {l : List α} {i : Nat} {x : Nat × α}, x ∈ enL i l → i ≤ x.1 ∧ x.1 < i + l.length
  | y :: l, i, x, h => by
    rw [enL] at h
    rcases List.mem_cons.mp h with e | e
    · subst e; simp
    · have := enL_lt e
      simp only [List.length_cons]
      omega
theorem enL_mem {α : Type} {l : List α} {i : Nat} {x : Nat × α} (h : x ∈ enL i l) : x.2 ∈ l := by
  have := List.mem_map_of_mem (f := fun x : Nat × α => x.2) h
  rwa [enL_snd] at this
theorem enF_map {α : Type} {g : α → P} : ∀ (l : List α) (i : Nat), enF i (l.map fun x => D.p (g x)) = (enL i l).map fun x => D.p (.tup [.int (x.1 : Nat), g x.2])
  | [], _ => rfl
  | x :: l, i => by
    rw [List.map_cons, enF, enF_map l, enL, List.map_cons]
    rfl
/-- the last left out -/
theorem sl_init (l : List D) (x : D) (s : S) : dSl (.lst (l ++ [x])) none (some (-1)) s = some (.lst l, s) := by
  have e : cutD (l ++ [x]) none (some (-1)) = l := by
    unfold cutD
    have h1 : HT.sIx (l ++ [x]).length (l ++ [x]).length (some (-1)) = l.length := by
      show (if (-1 : Int) < 0 then (-1 + (((l ++ [x]).length : Nat) : Int)).toNat else min (-1 : Int).toNat (l ++ [x]).length) = _
      rw [if_pos (by decide)]
      simp
      omega
    rw [h1, HT.sIx_none]
    simp
  simp [dSl, slT, slL, e]
theorem splS_eq {a b : Str} (s : S) (hb : (b.length == 0) = false) (hl : a.length ≤ 900000) : splS (.p (.str a)) (.p (.str b)) s = some (.lst (strsD (Txt.split a b)), s) := by
  have hl2 : a.length + 2 ≤ sizeLine := by rw [sizeLine_eq]; omega
  show (if ((b.length == 0) = false ∧ a.length + 2 ≤ sizeLine) then _ else _) = _
  rw [if_pos ⟨hb, hl2⟩]
theorem fin_lst {s : S} {l : List D} (h : clDs s.length l = true) : fin s (.lst l) s = (.lst l, s) := by
  have e : frzD s.length s (.lst l) = .lst l := rfl
  unfold fin
  rw [e]
  simp [clD, h, chk_refl]
theorem clDs_p {α : Type} (k : Nat) (l : List α) (g : α → P) : clDs k (l.map fun x => D.p (g x)) = true := clDs_all fun d hd => by
  obtain ⟨x, _, rfl⟩ := List.mem_map.mp hd
  rfl
end Mo

set_option Elab.async false
set_option linter.all false
set_option maxRecDepth 100000
namespace K76
open PySem Mo
def K_LINES_MOST : P := (.int 300)
def K_SIGNS_MOST : P := (.int 400)
def bl_found_holding_0 : Bl := (bIf (tV (eOp dEq (eVar 2) (eVar 1))) (bRet (eTup (aCons (eVar 3) (aCons (eVar 4) aNil)))) bNil)
def b_found_holding : Bl := (bSeq (bFor (sAny (eVar 0)) (.tu (.cons (.nm 2) (.cons (.nm 3) (.cons (.nm 4) .nil)))) bl_found_holding_0)
   (bRet (eC .non)))
def F_found_holding : List D → S → Out D := runF 2 5 b_found_holding
def b_holding_of : Bl := (bSeq (bSet 2 (eF 2 F_found_holding (aCons (eVar 0) (aCons (eVar 1) aNil))))
   (bSeq (bIf (tV (eIsN (eVar 2))) (bRaise "NoSuch" ["word", "name"] (aCons (eC (.str "trader")) (aCons (eVar 1) aNil))) bNil)
   (bRet (eVar 2))))
def F_holding_of : List D → S → Out D := runF 2 3 b_holding_of
def ca_total_money_0 : Ex := (eVar 3)
def b_total_money : Bl := (bRet (eCa bSum (aCons (eLc (sAny (eVar 0)) [1, 2, 3] (.tu (.cons (.nm 1) (.cons (.nm 2) (.cons (.nm 3) .nil)))) tTrue ca_total_money_0) aNil)))
def F_total_money : List D → S → Out D := runF 1 4 b_total_money
def ca_with_holding_0 : Ex := (eIf (tV (eOp dEq (eVar 3) (eVar 1))) (eOp dAdd (eTup (aCons (eVar 3) aNil)) (eVar 2)) (eTup (aCons (eVar 3) (aCons (eVar 4) (aCons (eVar 5) aNil)))))
def b_with_holding : Bl := (bRet (eCa bTup (aCons (eLc (sAny (eVar 0)) [3, 4, 5] (.tu (.cons (.nm 3) (.cons (.nm 4) (.cons (.nm 5) .nil)))) tTrue ca_with_holding_0) aNil)))
def F_with_holding : List D → S → Out D := runF 3 6 b_with_holding
def bl_offer_of_0 : Bl := (bIf (tV (eOp dEq (eSub (eVar 2) (eC (.int 0))) (eVar 1))) (bRet (eVar 2)) bNil)
def b_offer_of : Bl := (bSeq (bFor (sAny (eSub (eVar 0) (eC (.int 2)))) (.nm 2) bl_offer_of_0)
   (bRet (eC .non)))
def F_offer_of : List D → S → Out D := runF 2 3 b_offer_of
def b_fits : Bl := (bSeq (bAsgP (eVar 0) (.tu (.cons (.nm 2) (.cons (.nm 3) (.cons (.nm 4) (.cons (.nm 5) (.cons (.nm 6) .nil)))))))
   (bRet (eAnd (eOp dEq (eSub (eVar 1) (eC (.int 0))) (eVar 2)) (eAnd (eOp dLe (eVar 3) (eSub (eVar 1) (eC (.int 1)))) (eOr (eIsN (eVar 4)) (eOp dLe (eSub (eVar 1) (eC (.int 1))) (eVar 4)))))))
def F_fits : List D → S → Out D := runF 2 7 b_fits
def b_behind : Bl := (bRet (eTup (aCons (eSub (eVar 0) (eC (.int 3))) (aCons (eOp dAdd (eSub (eVar 1) (eC (.int 1))) (eSub (eVar 0) (eC (.int 4)))) aNil))))
def F_behind : List D → S → Out D := runF 2 2 b_behind
def b_other_is_wrong : Bl := (bSeq (bIf (tV (eIsN (eSub (eVar 0) (eC (.int 2))))) (bRet (eOp dNe (eVar 3) (eC (.str "")))) bNil)
   (bRet (eOr (eOp dEq (eVar 3) (eC (.str ""))) (eOr (eOp dEq (eVar 3) (eVar 2)) (eIsN (eF 2 F_found_holding (aCons (eVar 1) (aCons (eVar 3) aNil))))))))
def F_other_is_wrong : List D → S → Out D := runF 4 4 b_other_is_wrong
def b_deal_word : Bl := (bSeq (bAsgP (eVar 2) (.tu (.cons (.nm 4) (.cons (.nm 5) (.cons (.nm 6) .nil)))))
   (bSeq (bSet 3 (eF 2 F_offer_of (aCons (eVar 0) (aCons (eVar 4) aNil))))
   (bSeq (bIf (tV (eIsN (eVar 3))) (bRet (eC (.str "offer"))) bNil)
   (bSeq (bIf (tV (eIsN (eF 2 F_found_holding (aCons (eVar 1) (aCons (eVar 5) aNil))))) (bRet (eC (.str "one"))) bNil)
   (bSeq (bIf (tV (eF 4 F_other_is_wrong (aCons (eVar 3) (aCons (eVar 1) (aCons (eVar 5) (aCons (eVar 6) aNil)))))) (bRet (eC (.str "other"))) bNil)
   (bSeq (bIf (tNot_ (tV (eF 2 F_fits (aCons (eSub (eVar 3) (eC (.int 1))) (aCons (eF 2 F_found_holding (aCons (eVar 1) (aCons (eVar 5) aNil))) aNil))))) (bRet (eC (.str "fit"))) bNil)
   (bRet (eIf (tOr_ (tV (eOp dEq (eVar 6) (eC (.str "")))) (tV (eF 2 F_fits (aCons (eSub (eVar 3) (eC (.int 2))) (aCons (eF 2 F_found_holding (aCons (eVar 1) (aCons (eVar 6) aNil))) aNil))))) (eC .non) (eC (.str "fit"))))))))))
def F_deal_word : List D → S → Out D := runF 3 7 b_deal_word
def b_done_deal : Bl := (bSeq (bAsgP (eVar 2) (.tu (.cons (.nm 6) (.cons (.nm 7) (.cons (.nm 8) .nil)))))
   (bSeq (bSet 3 (eF 2 F_offer_of (aCons (eVar 0) (aCons (eVar 6) aNil))))
   (bSeq (bSet 4 (eF 2 F_found_holding (aCons (eVar 1) (aCons (eVar 7) aNil))))
   (bSeq (bSet 5 (eF 3 F_with_holding (aCons (eVar 1) (aCons (eVar 7) (aCons (eF 2 F_behind (aCons (eSub (eVar 3) (eC (.int 1))) (aCons (eVar 4) aNil))) aNil)))))
   (bRet (eIf (tV (eOp dEq (eVar 8) (eC (.str "")))) (eVar 5) (eF 3 F_with_holding (aCons (eVar 5) (aCons (eVar 8) (aCons (eF 2 F_behind (aCons (eSub (eVar 3) (eC (.int 2))) (aCons (eF 2 F_found_holding (aCons (eVar 1) (aCons (eVar 8) aNil))) aNil))) aNil))))))))))
def F_done_deal : List D → S → Out D := runF 3 9 b_done_deal
def bl_row_walk_0 : Bl := (bSeq (bSet 6 (eF 3 F_deal_word (aCons (eVar 0) (aCons (eSub (eVar 3) (eNeg (eC (.int 1)))) (aCons (eVar 5) aNil)))))
   (bSeq (bIf (tV (eNotN (eVar 6))) (bRaise "BadRow" ["place", "word"] (aCons (eVar 4) (aCons (eVar 6) aNil))) bNil)
   (bDrop (eMe isL appL (eVar 3) (aCons (eF 3 F_done_deal (aCons (eVar 0) (aCons (eSub (eVar 3) (eNeg (eC (.int 1)))) (aCons (eVar 5) aNil)))) aNil)))))
def b_row_walk : Bl := (bSeq (bSet 3 (eLstC (aCons (eVar 1) aNil)))
   (bSeq (bFor (sEnum (aCons (eVar 2) aNil)) (.tu (.cons (.nm 4) (.cons (.nm 5) .nil))) bl_row_walk_0)
   (bRet (eVar 3))))
def F_row_walk : List D → S → Out D := runF 3 7 b_row_walk
def b_run_row : Bl := (bRet (eSub (eF 3 F_row_walk (aCons (eVar 0) (aCons (eVar 1) (aCons (eVar 2) aNil)))) (eNeg (eC (.int 1)))))
def F_run_row : List D → S → Out D := runF 3 3 b_run_row
def b_run_trace : Bl := (bRet (eCa bTup (aCons (eF 3 F_row_walk (aCons (eVar 0) (aCons (eVar 1) (aCons (eVar 2) aNil)))) aNil)))
def F_run_trace : List D → S → Out D := runF 3 3 b_run_trace
def ca_history_of_0 : Ex := (eVar 6)
def cu_history_of_1 : Te := (tIn false (eVar 3) (eSl (eVar 7) (pSo (eC (.int 1))) pNo))
def ca_history_of_2 : Ex := (eTup (aCons (eVar 6) (aCons (eF 2 F_holding_of (aCons (eSub (eVar 4) (eOp dAdd (eVar 6) (eC (.int 1)))) (aCons (eVar 3) aNil))) aNil)))
def b_history_of : Bl := (bSeq (bSet 4 (eF 3 F_run_trace (aCons (eVar 0) (aCons (eVar 1) (aCons (eVar 2) aNil)))))
   (bSeq (bSet 5 (eLc (sEnum (aCons (eVar 2) aNil)) [6, 7] (.tu (.cons (.nm 6) (.cons (.nm 7) .nil))) cu_history_of_1 ca_history_of_0))
   (bRet (eCa bTup (aCons (eLc (sAny (eVar 5)) [6] (.nm 6) tTrue ca_history_of_2) aNil)))))
def F_history_of : List D → S → Out D := runF 4 8 b_history_of
def ca_gains_0 : Ex := (eTup (aCons (eSub (eVar 4) (eC (.int 0))) (aCons (eOp dSub (eSub (eVar 5) (eC (.int 2))) (eSub (eVar 4) (eC (.int 2)))) aNil)))
def b_gains : Bl := (bSeq (bSet 3 (eF 3 F_run_row (aCons (eVar 0) (aCons (eVar 1) (aCons (eVar 2) aNil)))))
   (bRet (eCa bTup (aCons (eLc (sZip (aCons (eVar 1) (aCons (eVar 3) aNil))) [4, 5] (.tu (.cons (.nm 4) (.cons (.nm 5) .nil))) tTrue ca_gains_0) aNil))))
def F_gains : List D → S → Out D := runF 3 6 b_gains
def ca_best_trader_0 : Ex := (eVar 6)
def ca_best_trader_1 : Ex := (eVar 5)
def cu_best_trader_2 : Te := (tV (eOp dEq (eVar 6) (eVar 4)))
def b_best_trader : Bl := (bSeq (bSet 3 (eF 3 F_gains (aCons (eVar 0) (aCons (eVar 1) (aCons (eVar 2) aNil)))))
   (bSeq (bIf (tV (eOp dEq (eCa bLen (aCons (eVar 3) aNil)) (eC (.int 0)))) (bRet (eC .non)) bNil)
   (bSeq (bSet 4 (eCa bMaxL (aCons (eLc (sAny (eVar 3)) [5, 6] (.tu (.cons (.nm 5) (.cons (.nm 6) .nil))) tTrue ca_best_trader_0) aNil)))
   (bRet (eSub (eLc (sAny (eVar 3)) [5, 6] (.tu (.cons (.nm 5) (.cons (.nm 6) .nil))) cu_best_trader_2 ca_best_trader_1) (eC (.int 0)))))))
def F_best_trader : List D → S → Out D := runF 3 7 b_best_trader
def b_is_even_offer : Bl := (bRet (eAnd (eNotN (eSub (eVar 0) (eC (.int 2)))) (eOp dEq (eOp dAdd (eSub (eSub (eVar 0) (eC (.int 1))) (eC (.int 4))) (eSub (eSub (eVar 0) (eC (.int 2))) (eC (.int 4)))) (eC (.int 0)))))
def F_is_even_offer : List D → S → Out D := runF 1 1 b_is_even_offer
def ca_is_even_0 : Ex := (eF 1 F_is_even_offer (aCons (eVar 1) aNil))
def b_is_even : Bl := (bRet (eCa bAll (aCons (eLc (sAny (eSub (eVar 0) (eC (.int 2)))) [1] (.nm 1) tTrue ca_is_even_0) aNil)))
def F_is_even : List D → S → Out D := runF 1 2 b_is_even
def b_lines_of : Bl := (bSeq (bSet 1 (eM1 splS (eVar 0) (eC (.str "\n"))))
   (bRet (eIf (tV (eOp dEq (eSub (eVar 1) (eNeg (eC (.int 1)))) (eC (.str "")))) (eSl (eVar 1) pNo (pSo (eNeg (eC (.int 1))))) (eVar 1))))
def F_lines_of : List D → S → Out D := runF 1 2 b_lines_of
def bl_limit_line_0 : Bl := (bIf (tOr_ (tV (eOp dGe (eVar 2) (eVar 1))) (tV (eOp dGt (eCa bLen (aCons (eVar 3) aNil)) (eC K_SIGNS_MOST)))) (bRet (eOp dAdd (eVar 2) (eC (.int 1)))) bNil)
def b_limit_line : Bl := (bSeq (bFor (sEnum (aCons (eF 1 F_lines_of (aCons (eVar 0) aNil)) aNil)) (.tu (.cons (.nm 2) (.cons (.nm 3) .nil))) bl_limit_line_0)
   (bRet (eC .non)))
def F_limit_line : List D → S → Out D := runF 2 4 b_limit_line
def ca_counted_words_0 : Ex := (eVar 5)
def cu_counted_words_1 : Te := (tV (eOp dNe (eVar 5) (eC (.str ""))))
def bl_counted_words_2 : Bl := (bSeq (bSet 4 (eCa bTup (aCons (eLc (sAny (eM1 splS (eVar 3) (eC (.str " ")))) [5] (.nm 5) cu_counted_words_1 ca_counted_words_0) aNil)))
   (bIf (tAnd_ (tV (eOp dGt (eCa bLen (aCons (eVar 4) aNil)) (eC (.int 0)))) (tV (eOp dNe (eSub (eSub (eVar 4) (eC (.int 0))) (eC (.int 0))) (eC (.str "#"))))) (bDrop (eMe isL appL (eVar 1) (aCons (eTup (aCons (eOp dAdd (eVar 2) (eC (.int 1))) (aCons (eVar 4) aNil))) aNil))) bNil))
def b_counted_words : Bl := (bSeq (bSet 1 (eLstC aNil))
   (bSeq (bFor (sEnum (aCons (eF 1 F_lines_of (aCons (eVar 0) aNil)) aNil)) (.tu (.cons (.nm 2) (.cons (.nm 3) .nil))) bl_counted_words_2)
   (bRet (eVar 1))))
def F_counted_words : List D → S → Out D := runF 1 6 b_counted_words
def b_counted_lines : Bl := (bSeq (bSet 2 (eF 2 F_limit_line (aCons (eVar 0) (aCons (eVar 1) aNil))))
   (bSeq (bIf (tV (eNotN (eVar 2))) (bRaise "BadText" ["line", "word"] (aCons (eVar 2) (aCons (eC (.str "limit")) aNil))) bNil)
   (bRet (eF 1 F_counted_words (aCons (eVar 0) aNil)))))
def F_counted_lines : List D → S → Out D := runF 2 3 b_counted_lines
def ca_written_integer_0 : Ex := (eIn false (eVar 2) (eC (.str "0123456789")))
def b_written_integer : Bl := (bSeq (bSet 1 (eIf (tV (eOp dEq (eSl (eVar 0) pNo (pSo (eC (.int 1)))) (eC (.str "-")))) (eSl (eVar 0) (pSo (eC (.int 1))) pNo) (eVar 0)))
   (bSeq (bIf (tOr_ (tV (eOp dEq (eVar 1) (eC (.str "")))) (tOr_ (tV (eOp dGt (eCa bLen (aCons (eVar 1) aNil)) (eC (.int 4000)))) (tNot_ (tV (eCa bAll (aCons (eLc (sTxt (eVar 1)) [2] (.nm 2) tTrue ca_written_integer_0) aNil)))))) (bRet (eC .non)) bNil)
   (bRet (eIf (tV (eOp dEq (eCa bStr2 (aCons (eCa bInt2 (aCons (eVar 0) aNil)) aNil)) (eVar 0))) (eCa bInt2 (aCons (eVar 0) aNil)) (eC .non)))))
def F_written_integer : List D → S → Out D := runF 1 3 b_written_integer
def b_written_number : Bl := (bSeq (bSet 1 (eF 1 F_written_integer (aCons (eVar 0) aNil)))
   (bRet (eIf (tAnd_ (tV (eNotN (eVar 1))) (tV (eOp dGe (eVar 1) (eC (.int 0))))) (eVar 1) (eC .non))))
def F_written_number : List D → S → Out D := runF 1 2 b_written_number
def bl_read_fair_0 : Bl := (bSeq (bSet 4 (eIf (tV (eOp dEq (eCa bLen (aCons (eVar 3) aNil)) (eC (.int 3)))) (eF 1 F_written_number (aCons (eSub (eVar 3) (eC (.int 2))) aNil)) (eC .non)))
   (bSeq (bIf (tV (eIsN (eVar 4))) (bRaise "BadText" ["line", "word"] (aCons (eVar 2) (aCons (eC (.str "words")) aNil))) bNil)
   (bSeq (bIf (tIn false (eSub (eVar 3) (eC (.int 0))) (eVar 1)) (bRaise "BadText" ["line", "word"] (aCons (eVar 2) (aCons (eC (.str "twice")) aNil))) bNil)
   (orB (bPut putL (eTup (aCons (eSub (eVar 3) (eC (.int 1))) (aCons (eVar 4) aNil))) (eVar 1) (eSub (eVar 3) (eC (.int 0)))) (bPut putD (eTup (aCons (eSub (eVar 3) (eC (.int 1))) (aCons (eVar 4) aNil))) (eVar 1) (eSub (eVar 3) (eC (.int 0))))))))
def ca_read_fair_1 : Ex := (eOp dAdd (eTup (aCons (eVar 5) aNil)) (eSub (eVar 1) (eVar 5)))
def b_read_fair : Bl := (bSeq (bSet 1 eDNew)
   (bSeq (bFor (sAny (eFD 2 F_counted_lines [(.int 300)] (aCons (eVar 0) aNil))) (.tu (.cons (.nm 2) (.cons (.nm 3) .nil))) bl_read_fair_0)
   (bRet (eCa bTup (aCons (eLc (sAny (eCa bSortD (aCons (eVar 1) aNil))) [5] (.nm 5) tTrue ca_read_fair_1) aNil)))))
def F_read_fair : List D → S → Out D := runF 1 6 b_read_fair
def bl_read_row_0 : Bl := (bSeq (bIf (tIn true (eCa bLen (aCons (eVar 3) aNil)) (eTup (aCons (eC (.int 2)) (aCons (eC (.int 3)) aNil)))) (bRaise "BadText" ["line", "word"] (aCons (eVar 2) (aCons (eC (.str "words")) aNil))) bNil)
   (bDrop (eMe isL appL (eVar 1) (aCons (eIf (tV (eOp dEq (eCa bLen (aCons (eVar 3) aNil)) (eC (.int 3)))) (eVar 3) (eOp dAdd (eVar 3) (eTup (aCons (eC (.str "")) aNil)))) aNil))))
def b_read_row : Bl := (bSeq (bSet 1 (eLstC aNil))
   (bSeq (bFor (sAny (eFD 2 F_counted_lines [(.int 300)] (aCons (eVar 0) aNil))) (.tu (.cons (.nm 2) (.cons (.nm 3) .nil))) bl_read_row_0)
   (bRet (eCa bTup (aCons (eVar 1) aNil)))))
def F_read_row : List D → S → Out D := runF 1 4 b_read_row
def ca__law_book_0 : Ex := (eOp dMod (eCa bInt2 (aCons (eCa bAbs (aCons (eCa bInt2 (aCons (eVar 3) aNil)) aNil)) aNil)) (eC (.int 952001)))
def ca__law_book_1 : Ex := (eCa bInt2 (aCons (eCa bAbs (aCons (eCa bInt2 (aCons (eVar 3) aNil)) aNil)) aNil))
def cu__law_book_2 : Te := (tV (eOp dGe (eCa bAbs (aCons (eCa bInt2 (aCons (eVar 3) aNil)) aNil)) (eOp dPow (eC (.int 10)) (eC (.int 18)))))
def b__law_book : Bl := (bSeq (bSet 1 (eOp dAdd (eUn revQ (eLc (sAny (eSl (eVar 0) pNo (pSo (eC (.int 63))))) [3] (.nm 3) tTrue ca__law_book_0)) (eLst (aCons (eOp dAdd (eOp dMod (eCa bLen (aCons (eVar 0) aNil)) (eC (.int 45))) (eC (.int 76))) aNil))))
   (bSeq (bSet 2 (eLcC (sAny (eSl (eVar 0) pNo (pSo (eC (.int 63))))) [3] (.nm 3) cu__law_book_2 ca__law_book_1))
   (bRet (eLstC (aCons (eC (.int 2)) (aCons (eC (.int 76019)) (aCons (eVar 1) (aCons (eVar 2) aNil))))))))
def F__law_book : List D → S → Out D := runF 1 4 b__law_book
def b__law_leaf : Bl := (bSeq (orB (bPut putL (eOp dAdd (eSub (eVar 0) (eC (.int 0))) (eC (.int 1))) (eVar 0) (eC (.int 0))) (bPut putD (eOp dAdd (eSub (eVar 0) (eC (.int 0))) (eC (.int 1))) (eVar 0) (eC (.int 0))))
   (bSeq (bIf (tAnd_ (tV (eOp dGt (eCa bLen (aCons (eSub (eVar 0) (eC (.int 3))) aNil)) (eC (.int 0)))) (tV (eOp dGt (eSub (eSub (eVar 0) (eC (.int 3))) (eNeg (eC (.int 1)))) (eC (.int 0))))) (bSeq (bSet 2 (eCa bInt2 (aCons (eSub (eSub (eVar 0) (eC (.int 3))) (eNeg (eC (.int 1)))) aNil)))
   (bSeq (orB (bPut putL (eOp dDiv (eVar 2) (eOp dAdd (eVar 1) (eC (.int 1)))) (eSub (eVar 0) (eC (.int 3))) (eNeg (eC (.int 1)))) (bPut putD (eOp dDiv (eVar 2) (eOp dAdd (eVar 1) (eC (.int 1)))) (eSub (eVar 0) (eC (.int 3))) (eNeg (eC (.int 1)))))
   (bRet (eOp dMod (eCa bInt2 (aCons (eVar 2) aNil)) (eVar 1))))) bNil)
   (bSeq (orB (bPut putL (eOp dMod (eCa bInt2 (aCons (eOp dAdd (eOp dAdd (eOp dMul (eSub (eVar 0) (eC (.int 1))) (eC (.int 293))) (eOp dMul (eSub (eSub (eVar 0) (eC (.int 2))) (eOp dMod (eSub (eVar 0) (eC (.int 0))) (eCa bLen (aCons (eSub (eVar 0) (eC (.int 2))) aNil)))) (eC (.int 109)))) (eOp dMul (eSub (eVar 0) (eC (.int 0))) (eC (.int 5003)))) aNil)) (eC (.int 952001))) (eVar 0) (eC (.int 1))) (bPut putD (eOp dMod (eCa bInt2 (aCons (eOp dAdd (eOp dAdd (eOp dMul (eSub (eVar 0) (eC (.int 1))) (eC (.int 293))) (eOp dMul (eSub (eSub (eVar 0) (eC (.int 2))) (eOp dMod (eSub (eVar 0) (eC (.int 0))) (eCa bLen (aCons (eSub (eVar 0) (eC (.int 2))) aNil)))) (eC (.int 109)))) (eOp dMul (eSub (eVar 0) (eC (.int 0))) (eC (.int 5003)))) aNil)) (eC (.int 952001))) (eVar 0) (eC (.int 1))))
   (bRet (eOp dMod (eCa bInt2 (aCons (eOp dDiv (eSub (eVar 0) (eC (.int 1))) (eC (.int 16))) aNil)) (eVar 1))))))
def F__law_leaf : List D → S → Out D := runF 2 3 b__law_leaf
def b__law_ear : Bl := (bSeq (bSet 3 (eOp dMod (eCa bInt2 (aCons (eOp dAdd (eOp dDiv (eSub (eSub (eVar 0) (eC (.int 2))) (eOp dMod (eOp dAdd (eOp dMul (eVar 1) (eC (.int 6))) (eC (.int 5))) (eCa bLen (aCons (eSub (eVar 0) (eC (.int 2))) aNil)))) (eC (.int 4))) (eVar 1)) aNil)) (eC (.int 8))))
   (bSeq (bIf (tV (eOp dEq (eVar 3) (eC (.int 1)))) (bRet (eOp dSub (eVar 2) (eC (.int 1)))) bNil)
   (bSeq (bIf (tV (eOp dEq (eVar 3) (eC (.int 5)))) (bRet (eC (.int 0))) bNil)
   (bRet (eF 2 F__law_leaf (aCons (eVar 0) (aCons (eVar 2) aNil)))))))
def F__law_ear : List D → S → Out D := runF 3 4 b__law_ear
def bl__law_market_0 : Bl := (bSeq (bSet 8 (eSub (eTup (aCons (eC (.int 0)) (aCons (eC (.int 0)) (aCons (eC (.int 1)) (aCons (eC (.int 3)) aNil))))) (eF 2 F__law_leaf (aCons (eVar 0) (aCons (eC (.int 4)) aNil)))))
   (bSeq (bSet 9 (eSub (eTup (aCons (eC (.int 0)) (aCons (eC (.int 1)) (aCons (eC (.int 3)) (aCons (eC (.int 5)) (aCons (eNeg (eC (.int 1))) (aCons (eNeg (eC (.int 2))) aNil))))))) (eF 2 F__law_leaf (aCons (eVar 0) (aCons (eC (.int 6)) aNil)))))
   (bDrop (eMe isL appL (eVar 5) (aCons (eLstC (aCons (eSub (eVar 1) (eF 2 F__law_leaf (aCons (eVar 0) (aCons (eCa bLen (aCons (eVar 1) aNil)) aNil)))) (aCons (eVar 8) (aCons (eSub (eTup (aCons (eC .non) (aCons (eC .non) (aCons (eOp dAdd (eVar 8) (eC (.int 7))) aNil)))) (eF 2 F__law_leaf (aCons (eVar 0) (aCons (eC (.int 3)) aNil)))) (aCons (eSub (eVar 1) (eF 2 F__law_leaf (aCons (eVar 0) (aCons (eCa bLen (aCons (eVar 1) aNil)) aNil)))) (aCons (eCa bMax2 (aCons (eVar 9) (aCons (eNeg (eVar 8)) aNil))) aNil)))))) aNil)))))
def bl__law_market_1 : Bl := (bSeq (bSet 5 (eLstC aNil))
   (bSeq (bFor (sRng1 (aCons (eC (.int 2)) aNil)) (.nm 6) bl__law_market_0)
   (bSeq (bIf (tV (eVar 3)) (bSeq (bAsgB (eTup (aCons (eC (.int 5)) (aCons (eC .non) aNil))) (bTus 2 (bConss (bSub putL (eSub (eVar 5) (eC (.int 1))) (eC (.int 1))) (bConss (bSub putL (eSub (eVar 5) (eC (.int 1))) (eC (.int 2))) bNils))))
   (orB (bPut putL (eNeg (eSub (eSub (eVar 5) (eC (.int 0))) (eC (.int 4)))) (eSub (eVar 5) (eC (.int 1))) (eC (.int 4))) (bPut putD (eNeg (eSub (eSub (eVar 5) (eC (.int 0))) (eC (.int 4)))) (eSub (eVar 5) (eC (.int 1))) (eC (.int 4))))) bNil)
   (bSeq (bSet 7 (eIf (tAnd_ (tNot_ (tV (eVar 3))) (tV (eOp dEq (eF 2 F__law_leaf (aCons (eVar 0) (aCons (eC (.int 3)) aNil))) (eC (.int 0))))) (eC .non) (eCa bTup (aCons (eSub (eVar 5) (eC (.int 1))) aNil))))
   (bDrop (eMe isL appL (eVar 4) (aCons (eTup (aCons (eOp dAdd (eC (.str "f")) (eCa bStr2 (aCons (eVar 2) aNil))) (aCons (eCa bTup (aCons (eSub (eVar 5) (eC (.int 0))) aNil)) (aCons (eVar 7) aNil)))) aNil)))))))
def b__law_market : Bl := (bSeq (bSet 1 (eSl (eTup (aCons (eC (.str "gem")) (aCons (eC (.str "ink")) (aCons (eC (.str "pot")) aNil)))) pNo (pSo (eOp dAdd (eC (.int 1)) (eF 3 F__law_ear (aCons (eVar 0) (aCons (eC (.int 1)) (aCons (eC (.int 3)) aNil))))))))
   (bSeq (bPar [3, 4] (aCons (eOp dEq (eF 3 F__law_ear (aCons (eVar 0) (aCons (eC (.int 2)) (aCons (eC (.int 3)) aNil)))) (eC (.int 0))) (aCons (eLstC aNil) aNil)))
   (bSeq (bFor (sRng1 (aCons (eOp dAdd (eC (.int 2)) (eF 3 F__law_ear (aCons (eVar 0) (aCons (eC (.int 3)) (aCons (eC (.int 4)) aNil))))) aNil)) (.nm 2) bl__law_market_1)
   (bRet (eTup (aCons (eVar 1) (aCons (eTup (aCons (eTup (aCons (eSub (eVar 1) (eC (.int 0))) (aCons (eC (.int 2)) aNil))) aNil)) (aCons (eCa bTup (aCons (eVar 4) aNil)) aNil))))))))
def F__law_market : List D → S → Out D := runF 1 10 b__law_market
def b__law_able : Bl := (bRet (eAnd (eOp dEq (eSub (eVar 0) (eC (.int 0))) (eSub (eVar 1) (eC (.int 0)))) (eAnd (eOp dLe (eSub (eVar 0) (eC (.int 1))) (eSub (eVar 1) (eC (.int 1)))) (eOr (eIsN (eSub (eVar 0) (eC (.int 2)))) (eOp dLe (eSub (eVar 1) (eC (.int 1))) (eSub (eVar 0) (eC (.int 2))))))))
def F__law_able : List D → S → Out D := runF 2 2 b__law_able
def ca__law_some_deal_0 : Ex := (eVar 9)
def cu__law_some_deal_1 : Te := (tV (eF 2 F__law_able (aCons (eVar 7) (aCons (eSub (eVar 2) (eVar 9)) aNil))))
def ca__law_some_deal_2 : Ex := (eVar 11)
def cu__law_some_deal_3 : Te := (tAnd_ (tV (eOp dNe (eVar 11) (eVar 9))) (tV (eF 2 F__law_able (aCons (eVar 8) (aCons (eSub (eVar 2) (eVar 11)) aNil)))))
def bl__law_some_deal_4 : Bl := (bSeq (bAsgP (eSub (eSub (eVar 1) (eC (.int 2))) (eF 2 F__law_leaf (aCons (eVar 0) (aCons (eCa bLen (aCons (eSub (eVar 1) (eC (.int 2))) aNil)) aNil)))) (.tu (.cons (.nm 6) (.cons (.nm 7) (.cons (.nm 8) .nil)))))
   (bSeq (bSet 5 (eLc (sAny (eVar 3)) [9] (.nm 9) cu__law_some_deal_1 ca__law_some_deal_0))
   (bIf (tV (eOp dGt (eCa bLen (aCons (eVar 5) aNil)) (eC (.int 0)))) (bSeq (bSet 9 (eSub (eVar 5) (eF 2 F__law_leaf (aCons (eVar 0) (aCons (eCa bLen (aCons (eVar 5) aNil)) aNil)))))
   (bSeq (bIf (tV (eIsN (eVar 8))) (bRet (eTup (aCons (eVar 6) (aCons (eVar 9) (aCons (eC (.str "")) aNil))))) bNil)
   (bSeq (bSet 10 (eLc (sAny (eVar 3)) [11] (.nm 11) cu__law_some_deal_3 ca__law_some_deal_2))
   (bIf (tV (eOp dGt (eCa bLen (aCons (eVar 10) aNil)) (eC (.int 0)))) (bRet (eTup (aCons (eVar 6) (aCons (eVar 9) (aCons (eSub (eVar 10) (eF 2 F__law_leaf (aCons (eVar 0) (aCons (eCa bLen (aCons (eVar 10) aNil)) aNil)))) aNil))))) bNil)))) bNil)))
def b__law_some_deal : Bl := (bSeq (bSet 3 (eCa bSortD (aCons (eVar 2) aNil)))
   (bSeq (bFor (sRng1 (aCons (eC (.int 10)) aNil)) (.nm 4) bl__law_some_deal_4)
   (bRet (eC .non))))
def F__law_some_deal : List D → S → Out D := runF 3 12 b__law_some_deal
def bl__law_behind_0 : Bl := (bIf (tV (eOp dEq (eVar 4) (eSub (eVar 2) (eC (.int 0))))) (bSeq (orB (bPut putL (eTup (aCons (eSub (eVar 5) (eC (.int 3))) (aCons (eOp dAdd (eSub (eSub (eVar 1) (eSub (eVar 2) (eC (.int 1)))) (eC (.int 1))) (eSub (eVar 5) (eC (.int 4)))) aNil))) (eVar 3) (eSub (eVar 2) (eC (.int 1)))) (bPut putD (eTup (aCons (eSub (eVar 5) (eC (.int 3))) (aCons (eOp dAdd (eSub (eSub (eVar 1) (eSub (eVar 2) (eC (.int 1)))) (eC (.int 1))) (eSub (eVar 5) (eC (.int 4)))) aNil))) (eVar 3) (eSub (eVar 2) (eC (.int 1)))))
   (bIf (tV (eNotN (eVar 6))) (orB (bPut putL (eTup (aCons (eSub (eVar 6) (eC (.int 3))) (aCons (eOp dAdd (eSub (eSub (eVar 1) (eSub (eVar 2) (eC (.int 2)))) (eC (.int 1))) (eSub (eVar 6) (eC (.int 4)))) aNil))) (eVar 3) (eSub (eVar 2) (eC (.int 2)))) (bPut putD (eTup (aCons (eSub (eVar 6) (eC (.int 3))) (aCons (eOp dAdd (eSub (eSub (eVar 1) (eSub (eVar 2) (eC (.int 2)))) (eC (.int 1))) (eSub (eVar 6) (eC (.int 4)))) aNil))) (eVar 3) (eSub (eVar 2) (eC (.int 2))))) bNil)) bNil)
def b__law_behind : Bl := (bSeq (bSet 3 (eCa bDict (aCons (eVar 1) aNil)))
   (bSeq (bFor (sAny (eSub (eVar 0) (eC (.int 2)))) (.tu (.cons (.nm 4) (.cons (.nm 5) (.cons (.nm 6) .nil)))) bl__law_behind_0)
   (bRet (eVar 3))))
def F__law_behind : List D → S → Out D := runF 3 7 b__law_behind
def bl__law_made_0 : Bl := (orB (bPut putL (eTup (aCons (eSub (eSub (eVar 1) (eC (.int 0))) (eF 2 F__law_leaf (aCons (eVar 0) (aCons (eCa bLen (aCons (eSub (eVar 1) (eC (.int 0))) aNil)) aNil)))) (aCons (eSub (eTup (aCons (eC (.int 0)) (aCons (eC (.int 3)) (aCons (eC (.int 9)) (aCons (eF 2 F__law_leaf (aCons (eVar 0) (aCons (eC (.int 80)) aNil))) aNil))))) (eF 3 F__law_ear (aCons (eVar 0) (aCons (eC (.int 4)) (aCons (eC (.int 4)) aNil))))) aNil))) (eVar 4) (eOp dAdd (eOp dAdd (eC (.str "t")) (eCa bStr2 (aCons (eVar 5) aNil))) (eSub (eTup (aCons (eC (.str "")) (aCons (eC (.str "x")) (aCons (eC (.str "00")) aNil)))) (eF 2 F__law_leaf (aCons (eVar 0) (aCons (eC (.int 3)) aNil)))))) (bPut putD (eTup (aCons (eSub (eSub (eVar 1) (eC (.int 0))) (eF 2 F__law_leaf (aCons (eVar 0) (aCons (eCa bLen (aCons (eSub (eVar 1) (eC (.int 0))) aNil)) aNil)))) (aCons (eSub (eTup (aCons (eC (.int 0)) (aCons (eC (.int 3)) (aCons (eC (.int 9)) (aCons (eF 2 F__law_leaf (aCons (eVar 0) (aCons (eC (.int 80)) aNil))) aNil))))) (eF 3 F__law_ear (aCons (eVar 0) (aCons (eC (.int 4)) (aCons (eC (.int 4)) aNil))))) aNil))) (eVar 4) (eOp dAdd (eOp dAdd (eC (.str "t")) (eCa bStr2 (aCons (eVar 5) aNil))) (eSub (eTup (aCons (eC (.str "")) (aCons (eC (.str "x")) (aCons (eC (.str "00")) aNil)))) (eF 2 F__law_leaf (aCons (eVar 0) (aCons (eC (.int 3)) aNil)))))))
def bl__law_made_1 : Bl := (bSeq (bSet 8 (eIf (tV (eOp dGt (eVar 2) (eC (.int 0)))) (eF 3 F__law_some_deal (aCons (eVar 0) (aCons (eVar 1) (aCons (eSub (eVar 6) (eOp dSub (eCa bLen (aCons (eVar 6) aNil)) (eC (.int 1)))) aNil)))) (eC .non)))
   (bIf (tV (eNotN (eVar 8))) (bSeq (bDrop (eMe isL appL (eVar 7) (aCons (eVar 8) aNil)))
   (bDrop (eMe isL appL (eVar 6) (aCons (eF 3 F__law_behind (aCons (eVar 1) (aCons (eSub (eVar 6) (eOp dSub (eCa bLen (aCons (eVar 6) aNil)) (eC (.int 1)))) (aCons (eVar 8) aNil)))) aNil)))) bNil))
def b__law_made : Bl := (bSeq (bSet 4 eDNew)
   (bSeq (bFor (sRng1 (aCons (eVar 2) aNil)) (.nm 5) bl__law_made_0)
   (bSeq (bPar [6, 7] (aCons (eLstC (aCons (eVar 4) aNil)) (aCons (eLstC aNil) aNil)))
   (bSeq (bFor (sRng1 (aCons (eVar 3) aNil)) (.nm 5) bl__law_made_1)
   (bRet (eTup (aCons (eVar 6) (aCons (eCa bTup (aCons (eVar 7) aNil)) aNil))))))))
def F__law_made : List D → S → Out D := runF 4 9 b__law_made
def ca__law_tuple_0 : Ex := (eOp dAdd (eTup (aCons (eVar 1) aNil)) (eSub (eVar 0) (eVar 1)))
def b__law_tuple : Bl := (bRet (eCa bTup (aCons (eLc (sAny (eCa bSortD (aCons (eVar 0) aNil))) [1] (.nm 1) tTrue ca__law_tuple_0) aNil)))
def F__law_tuple : List D → S → Out D := runF 1 2 b__law_tuple
def ca__law_text_0 : Ex := (eCa bStr2 (aCons (eVar 4) aNil))
def cu__law_text_1 : Te := (tV (eOp dNe (eVar 4) (eC (.str ""))))
def bl__law_text_2 : Bl := (bSet 2 (eOp dAdd (eOp dAdd (eOp dAdd (eVar 2) (eSub (eTup (aCons (eC (.str " ")) (aCons (eC (.str "")) aNil))) (eF 2 F__law_leaf (aCons (eVar 0) (aCons (eC (.int 2)) aNil))))) (eM1 joiS (eC (.str " ")) (eLc (sAny (eVar 3)) [4] (.nm 4) cu__law_text_1 ca__law_text_0))) (eSub (eTup (aCons (eC (.str "\n")) (aCons (eC (.str "\n")) (aCons (eC (.str "\n# end\n")) (aCons (eC (.str " \n\n")) aNil))))) (eF 2 F__law_leaf (aCons (eVar 0) (aCons (eC (.int 4)) aNil))))))
def b__law_text : Bl := (bSeq (bSet 2 (eC (.str "")))
   (bSeq (bFor (sAny (eVar 1)) (.nm 3) bl__law_text_2)
   (bRet (eVar 2))))
def F__law_text : List D → S → Out D := runF 2 5 b__law_text
def ca__law_same_0 (F0 : List D → S → Out D) : Ex := (eF 2 (F0 : List D → S → Out D) (aCons (eSub (eVar 0) (eVar 2)) (aCons (eSub (eVar 1) (eVar 2)) aNil)))
def b__law_same (F0 : List D → S → Out D) : Bl := (bSeq (bIf (tV (eIsI "tuple" (eVar 1))) (bRet (eAnd (eIsI "tuple" (eVar 0)) (eAnd (eOp dEq (eCa bLen (aCons (eVar 0) aNil)) (eCa bLen (aCons (eVar 1) aNil))) (eCa bAll (aCons (eLc (sRng1 (aCons (eCa bLen (aCons (eVar 1) aNil)) aNil)) [2] (.nm 2) tTrue (ca__law_same_0 F0)) aNil))))) bNil)
   (bSeq (bIf (tV (eIsN (eVar 1))) (bRet (eIsN (eVar 0))) bNil)
   (bSeq (bIf (tV (eIsI "bool" (eVar 1))) (bRet (eAnd (eIsI "bool" (eVar 0)) (eOp dEq (eVar 0) (eVar 1)))) bNil)
   (bSeq (bIf (tV (eIsI "str" (eVar 1))) (bRet (eAnd (eIsI "str" (eVar 0)) (eOp dEq (eVar 0) (eVar 1)))) bNil)
   (bRet (eAnd (eIsI "int" (eVar 0)) (eAnd (eNot (eIsI "bool" (eVar 0))) (eOp dEq (eVar 0) (eVar 1)))))))))
def Fr__law_same : Nat → List D → S → Out D
  | 0 => fun _ _ => .no
  | j + 1 => runF 2 3 (b__law_same (Fr__law_same j))
def F__law_same : List D → S → Out D := Fr__law_same 6
def ca__law_asked_0 : Ex := (eTup (aCons (eVar 17) (aCons (eSub (eSub (eVar 9) (eOp dAdd (eVar 17) (eC (.int 1)))) (eVar 4)) aNil)))
def cu__law_asked_1 : Te := (tIn false (eVar 4) (eSl (eSub (eVar 10) (eVar 17)) (pSo (eC (.int 1))) pNo))
def bl__law_asked_2 : Bl := (bSeq (bSet 15 (eCa bTup (aCons (eLc (sRng1 (aCons (eCa bLen (aCons (eVar 10) aNil)) aNil)) [17] (.nm 17) cu__law_asked_1 ca__law_asked_0) aNil)))
   (bSeq (bIf (tNot_ (tV (eF 2 F__law_same (aCons (eF 4 F_history_of (aCons (eVar 1) (aCons (eVar 13) (aCons (eVar 10) (aCons (eVar 4) aNil))))) (aCons (eVar 15) aNil))))) (bRet (eC (.bl false))) bNil)
   (bIf (tNot_ (tV (eF 2 F__law_same (aCons (eF 2 F_holding_of (aCons (eF 1 F__law_tuple (aCons (eVar 12) aNil)) (aCons (eVar 4) aNil))) (aCons (eIf (tV (eOp dGt (eCa bLen (aCons (eVar 15) aNil)) (eC (.int 0)))) (eSub (eSub (eVar 15) (eOp dSub (eCa bLen (aCons (eVar 15) aNil)) (eC (.int 1)))) (eC (.int 1))) (eSub (eVar 11) (eVar 4))) aNil))))) (bRet (eC (.bl false))) bNil)))
def ca__law_asked_3 : Ex := (eOp dSub (eSub (eSub (eVar 12) (eVar 4)) (eC (.int 1))) (eSub (eSub (eVar 11) (eVar 4)) (eC (.int 1))))
def ca__law_asked_4 : Ex := (eTup (aCons (eSub (eVar 14) (eVar 18)) (aCons (eSub (eVar 5) (eVar 18)) aNil)))
def ca__law_asked_5 : Ex := (eC (.int 1))
def cu__law_asked_6 : Te := (tOr_ (tV (eIsN (eVar 21))) (tV (eOp dNe (eOp dAdd (eSub (eVar 20) (eC (.int 4))) (eSub (eVar 21) (eC (.int 4)))) (eC (.int 0)))))
def ca__law_asked_7 : Ex := (eSub (eVar 16) (eC (.int 1)))
def b__law_asked : Bl := (bSeq (bAsgP (eF 4 F__law_made (aCons (eVar 0) (aCons (eVar 1) (aCons (eVar 2) (aCons (eVar 3) aNil))))) (.tu (.cons (.nm 9) (.cons (.nm 10) .nil))))
   (bSeq (bAsgP (eTup (aCons (eSub (eVar 9) (eC (.int 0))) (aCons (eSub (eVar 9) (eOp dSub (eCa bLen (aCons (eVar 9) aNil)) (eC (.int 1)))) aNil))) (.tu (.cons (.nm 11) (.cons (.nm 12) .nil))))
   (bSeq (bAsgP (eTup (aCons (eF 1 F__law_tuple (aCons (eVar 11) aNil)) (aCons (eCa bSortD (aCons (eVar 11) aNil)) aNil))) (.tu (.cons (.nm 13) (.cons (.nm 14) .nil))))
   (bSeq (bIf (tNot_ (tV (eF 2 F__law_same (aCons (eTup (aCons (eF 1 F_read_fair (aCons (eF 2 F__law_text (aCons (eVar 0) (aCons (eUn revQ (eVar 13)) aNil))) aNil)) (aCons (eF 1 F_read_row (aCons (eF 2 F__law_text (aCons (eVar 0) (aCons (eVar 10) aNil))) aNil)) aNil))) (aCons (eTup (aCons (eVar 13) (aCons (eVar 10) aNil))) aNil))))) (bRet (eC (.bl false))) bNil)
   (bSeq (bIf (tNot_ (tV (eF 2 F__law_same (aCons (eF 3 F_run_row (aCons (eVar 1) (aCons (eVar 13) (aCons (eVar 10) aNil)))) (aCons (eF 1 F__law_tuple (aCons (eVar 12) aNil)) aNil))))) (bRet (eC (.bl false))) bNil)
   (bSeq (bFor (sAny (eSl (eVar 14) pNo (pSo (eC (.int 8))))) (.nm 4) bl__law_asked_2)
   (bSeq (bSet 5 (eLc (sAny (eVar 14)) [4] (.nm 4) tTrue ca__law_asked_3))
   (bSeq (bIf (tNot_ (tV (eF 2 F__law_same (aCons (eF 3 F_gains (aCons (eVar 1) (aCons (eVar 13) (aCons (eVar 10) aNil)))) (aCons (eCa bTup (aCons (eLc (sRng1 (aCons (eCa bLen (aCons (eVar 14) aNil)) aNil)) [18] (.nm 18) tTrue ca__law_asked_4) aNil)) aNil))))) (bRet (eC (.bl false))) bNil)
   (bSeq (bSet 6 (eIf (tV (eOp dGt (eCa bLen (aCons (eVar 14) aNil)) (eC (.int 0)))) (eSub (eVar 14) (eMe isL idxL (eVar 5) (aCons (eCa bMaxL (aCons (eVar 5) aNil)) aNil))) (eC .non)))
   (bSeq (bIf (tNot_ (tV (eF 2 F__law_same (aCons (eFK 3 F_best_trader [0, 1, 2] (aCons (eVar 1) aNil) (aCons (eVar 13) (aCons (eVar 10) aNil))) (aCons (eVar 6) aNil))))) (bRet (eC (.bl false))) bNil)
   (bSeq (bSet 7 (eOp dEq (eCa bLen (aCons (eLc (sAny (eSub (eVar 1) (eC (.int 2)))) [19, 20, 21] (.tu (.cons (.nm 19) (.cons (.nm 20) (.cons (.nm 21) .nil)))) cu__law_asked_6 ca__law_asked_5) aNil)) (eC (.int 0))))
   (bSeq (bIf (tAnd_ (tV (eVar 7)) (tV (eOp dNe (eCa bSum (aCons (eVar 5) aNil)) (eC (.int 0))))) (bRet (eC (.bl false))) bNil)
   (bSeq (bSet 8 (eCa bSum (aCons (eLcG dVals 12 [16] (.nm 16) tTrue ca__law_asked_7) aNil)))
   (bRet (eF 2 F__law_same (aCons (eTup (aCons (eF 1 F_is_even (aCons (eVar 1) aNil)) (aCons (eF 1 F_total_money (aCons (eF 1 F__law_tuple (aCons (eVar 12) aNil)) aNil)) aNil))) (aCons (eTup (aCons (eVar 7) (aCons (eVar 8) aNil))) aNil)))))))))))))))))
def F__law_asked : List D → S → Out D := runF 4 22 b__law_asked
def bl_law_0 : Bl := (bIf (tNot_ (tV (eF 4 F__law_asked (aCons (eVar 1) (aCons (eF 1 F__law_market (aCons (eVar 1) aNil)) (aCons (eOp dAdd (eC (.int 1)) (eF 3 F__law_ear (aCons (eVar 1) (aCons (eOp dAdd (eC (.int 6)) (eVar 2)) (aCons (eC (.int 6)) aNil))))) (aCons (eF 3 F__law_ear (aCons (eVar 1) (aCons (eOp dAdd (eC (.int 9)) (eVar 2)) (aCons (eC (.int 9)) aNil)))) aNil))))))) (bRet (eC (.bl false))) bNil)
def b_law : Bl := (bSeq (bSet 1 (eF 1 F__law_book (aCons (eVar 0) aNil)))
   (bSeq (bFor (sRng1 (aCons (eC (.int 3)) aNil)) (.nm 2) bl_law_0)
   (bSeq (bSet 3 (eF 1 F__law_market (aCons (eVar 1) aNil)))
   (bSeq (bIf (tOr_ (tNot_ (tV (eF 4 F__law_asked (aCons (eVar 1) (aCons (eVar 3) (aCons (eC (.int 0)) (aCons (eC (.int 0)) aNil))))))) (tNot_ (tV (eF 4 F__law_asked (aCons (eVar 1) (aCons (eVar 3) (aCons (eC (.int 2)) (aCons (eC (.int 0)) aNil)))))))) (bRet (eC (.bl false))) bNil)
   (bSeq (bSet 4 (eTup (aCons (eTup (aCons (eC (.str "a")) aNil)) (aCons (eTup (aCons (eTup (aCons (eC (.str "a")) (aCons (eC (.int 0)) aNil))) aNil)) (aCons (eTup (aCons (eTup (aCons (eC (.str "lend")) (aCons (eTup (aCons (eC (.str "a")) (aCons (eC (.int 0)) (aCons (eC .non) (aCons (eC (.str "a")) (aCons (eC (.int 2)) aNil)))))) (aCons (eTup (aCons (eC (.str "a")) (aCons (eC (.int 4)) (aCons (eC .non) (aCons (eC (.str "a")) (aCons (eNeg (eC (.int 2))) aNil)))))) aNil)))) (aCons (eTup (aCons (eC (.str "win")) (aCons (eTup (aCons (eC (.str "a")) (aCons (eC (.int 0)) (aCons (eC .non) (aCons (eC (.str "a")) (aCons (eC (.int 1)) aNil)))))) (aCons (eTup (aCons (eC (.str "a")) (aCons (eC (.int 0)) (aCons (eC .non) (aCons (eC (.str "a")) (aCons (eC (.int 1)) aNil)))))) aNil)))) aNil))) aNil)))))
   (bSeq (bSet 5 (eTup (aCons (eTup (aCons (eC (.str "ann")) (aCons (eC (.str "a")) (aCons (eC (.int 0)) aNil)))) (aCons (eTup (aCons (eC (.str "bob")) (aCons (eC (.str "a")) (aCons (eC (.int 9)) aNil)))) (aCons (eTup (aCons (eC (.str "cy")) (aCons (eC (.str "a")) (aCons (eC (.int 7)) aNil)))) aNil)))))
   (bSeq (bSet 6 (eTup (aCons (eTup (aCons (eC (.str "lend")) (aCons (eC (.str "ann")) (aCons (eC (.str "bob")) aNil)))) (aCons (eTup (aCons (eC (.str "win")) (aCons (eC (.str "bob")) (aCons (eC (.str "cy")) aNil)))) (aCons (eTup (aCons (eC (.str "win")) (aCons (eC (.str "cy")) (aCons (eC (.str "bob")) aNil)))) aNil)))))
   (bSeq (bSet 7 (eTup (aCons (eF 4 F_history_of (aCons (eVar 4) (aCons (eVar 5) (aCons (eVar 6) (aCons (eC (.str "bob")) aNil))))) (aCons (eF 3 F_gains (aCons (eVar 4) (aCons (eVar 5) (aCons (eVar 6) aNil)))) (aCons (eF 3 F_best_trader (aCons (eVar 4) (aCons (eVar 5) (aCons (eVar 6) aNil)))) aNil)))))
   (bSeq (bIf (tNot_ (tV (eF 2 F__law_same (aCons (eVar 7) (aCons (eTup (aCons (eTup (aCons (eTup (aCons (eC (.int 0)) (aCons (eTup (aCons (eC (.str "a")) (aCons (eC (.int 7)) aNil))) aNil))) (aCons (eTup (aCons (eC (.int 1)) (aCons (eTup (aCons (eC (.str "a")) (aCons (eC (.int 8)) aNil))) aNil))) (aCons (eTup (aCons (eC (.int 2)) (aCons (eTup (aCons (eC (.str "a")) (aCons (eC (.int 9)) aNil))) aNil))) aNil)))) (aCons (eTup (aCons (eTup (aCons (eC (.str "ann")) (aCons (eC (.int 2)) aNil))) (aCons (eTup (aCons (eC (.str "bob")) (aCons (eC (.int 0)) aNil))) (aCons (eTup (aCons (eC (.str "cy")) (aCons (eC (.int 2)) aNil))) aNil)))) (aCons (eC (.str "ann")) aNil)))) aNil))))) (bRet (eC (.bl false))) bNil)
   (bRet (eOr (eOp dGt (eF 2 F__law_leaf (aCons (eVar 1) (aCons (eC (.int 13)) aNil))) (eC (.int 0))) (eF 4 F__law_asked (aCons (eVar 1) (aCons (eVar 3) (aCons (eC (.int 30)) (aCons (eC (.int 60)) aNil))))))))))))))))
def F_law : List D → S → Out D := runF 1 8 b_law
end K76

set_option Elab.async false
set_option linter.all false
set_option maxRecDepth 100000
set_option maxHeartbeats 1000000
/-! what the program's defs about fairs, deals, rows come to -/
namespace K76
open PySem Mo
theorem F_found (f : Fair) (t : Str) (s : S) : F_found_holding [.p (pFair f), .p (.str t)] s = .ok (.p (optP pHd (found f t))) s := by
  have key := forL_run (g := fun e => D.p (pEn e)) (ok := fun _ => true) (T := (.tu (.cons (.nm 2) (.cons (.nm 3) (.cons (.nm 4) .nil))))) (B := bl_found_holding_0) (l := f)
    (stp := fun (_ : Unit) (e : Str × Hd) => if e.1 = t then Sum.inr e.2 else Sum.inl ()) (I := fun _ ρ s' => ∃ a b c, ρ = [some (.p (pFair f)), some (.p (.str t)), a, b, c] ∧ s' = s) (R := fun h o => o = .rt (.p (pHd h)) s) (fun _ _ _ _ => rfl)
    (fun _ e ρ s' _ h => by
      obtain ⟨a, b, c, rfl, rfl⟩ := h
      refine ⟨[some (.p (pFair f)), some (.p (.str t)), some (.p (.str e.1)), some (.p (.str e.2.1)), some (.p (.int e.2.2))], rfl, ?_⟩
      by_cases he : e.1 = t
      · simp [bl_found_holding_0, he, bIf, pHd, Fl.ends]
      · simp [bl_found_holding_0, he, bIf])
    (b := ()) (ρ := [some (.p (pFair f)), some (.p (.str t)), none, none, none]) (s := s) ⟨_, _, _, rfl, rfl⟩
  unfold found
  have e : (List.map (fun e => D.p (pEn e)) f) = List.map D.p (f.map pEn) := by simp
  rw [e] at key
  cases er : runSt (fun (_ : Unit) (e : Str × Hd) => if e.1 = t then Sum.inr e.2 else Sum.inl ()) () f with
  | inl b =>
    rw [er] at key
    obtain ⟨ρ', s', h1, a, b, c, rfl, rfl⟩ := key
    simp [F_found_holding, runF, b_found_holding, pFair] at h1 ⊢
    simp [h1, optP]
  | inr h =>
    rw [er] at key
    simp [F_found_holding, runF, b_found_holding, pFair] at key ⊢
    simp [key, optP]
theorem F_with (f : Fair) (t : Str) (h : Hd) (s : S) (hz : f.length ≤ 1000) : F_with_holding [.p (pFair f), .p (.str t), .p (pHd h)] s = .ok (.p (pFair (withH f t h))) s := by
  have key := eLc_pure (g := fun e => D.p (pEn e)) (u := fun _ => true) (y := fun e : Str × Hd => D.p (pEn (if e.1 = t then (e.1, h) else e))) (Sg := sAny (eVar 0)) (own := [3, 4, 5]) (T := (.tu (.cons (.nm 3) (.cons (.nm 4) (.cons (.nm 5) .nil))))) (U := tTrue) (A := ca_with_holding_0)
    (ρ := [some (.p (pFair f)), some (.p (.str t)), some (.p (pHd h)), none, none, none]) (s := s) (ok := fun _ => true) (l := f) (by simp) (fun _ => rfl)
    (fun e _ => ⟨[some (.p (pFair f)), some (.p (.str t)), some (.p (pHd h)), some (.p (.str e.1)), some (.p (.str e.2.1)), some (.p (.int e.2.2))], rfl, fun _ => rfl, fun _ acc => by
      by_cases he : e.1 = t
      · simp [ca_with_holding_0, he, pEn, pHd, dAdd_tup]
      · simp [ca_with_holding_0, he, pEn]⟩) (by omega) (fun _ _ => rfl)
  have e : (List.map (fun e : Str × Hd => D.p (pEn (if e.1 = t then (e.1, h) else e))) (List.filter (fun _ => true) f)) = ((withH f t h).map pEn).map D.p := by
    rw [List.filter_eq_self.mpr (fun _ _ => rfl)]
    simp [withH]
  rw [e] at key
  simp only [F_with_holding, runF, b_with_holding, bRet, eCa, aCons, aNil, List.length_cons, List.length_nil, List.map_cons, List.map_nil, List.replicate, List.cons_append, List.nil_append, if_true, Nat.reduceAdd, Nat.reduceSub, key, Out.bind, bTup_lst, mkT_map, ofO, Out.fl, fin_p]
  rfl
theorem F_offer (m : Market) (n : Str) (s : S) : F_offer_of [.p (pMarket m), .p (.str n)] s = .ok (.p (optP pOffer (offerOf m n))) s := by
  have key := forL_run (g := fun e => D.p (pOffer e)) (ok := fun _ => true) (T := (.nm 2)) (B := bl_offer_of_0) (l := m.offers)
    (stp := fun (_ : Unit) (e : Offer) => if e.name = n then Sum.inr e else Sum.inl ()) (I := fun _ ρ s' => ∃ a, ρ = [some (.p (pMarket m)), some (.p (.str n)), a] ∧ s' = s) (R := fun h o => o = .rt (.p (pOffer h)) s) (fun _ _ _ _ => rfl)
    (fun _ e ρ s' _ h => by
      obtain ⟨a, rfl, rfl⟩ := h
      refine ⟨[some (.p (pMarket m)), some (.p (.str n)), some (.p (pOffer e))], rfl, ?_⟩
      by_cases he : e.name = n
      · simp [bl_offer_of_0, he, pOffer, Fl.ends]
      · simp [bl_offer_of_0, he, pOffer])
    (b := ()) (ρ := [some (.p (pMarket m)), some (.p (.str n)), none]) (s := s) ⟨_, rfl, rfl⟩
  unfold offerOf
  have e : (List.map (fun e => D.p (pOffer e)) m.offers) = List.map D.p (m.offers.map pOffer) := by simp
  rw [e] at key
  cases er : runSt (fun (_ : Unit) (e : Offer) => if e.name = n then Sum.inr e else Sum.inl ()) () m.offers with
  | inl b =>
    rw [er] at key
    obtain ⟨ρ', s', h1, a, rfl, rfl⟩ := key
    simp [F_offer_of, runF, b_offer_of, pMarket] at h1 ⊢
    simp [h1, optP]
  | inr h =>
    rw [er] at key
    simp [F_offer_of, runF, b_offer_of, pMarket] at key ⊢
    simp [key, optP]
theorem F_fit (x : Side) (h : Hd) (s : S) : F_fits [.p (pSide x), .p (pHd h)] s = .ok (.p (.bl (fits x h))) s := by
  obtain ⟨g, l, m, a, c⟩ := x
  cases m with
  | none =>
    by_cases h1 : h.1 = g <;> by_cases h2 : l ≤ h.2 <;> simp [F_fits, runF, b_fits, pSide, pHd, fits, optP, Pt.run, Pts.run, h1, h2]
  | some j =>
    by_cases h1 : h.1 = g <;> by_cases h2 : l ≤ h.2 <;> simp [F_fits, runF, b_fits, pSide, pHd, fits, optP, Pt.run, Pts.run, h1, h2]
theorem F_behind_ (x : Side) (h : Hd) (s : S) : F_behind [.p (pSide x), .p (pHd h)] s = .ok (.p (pHd (behind x h))) s := by
  simp [F_behind, runF, b_behind, pSide, pHd, behind]
theorem F_otherw (o : Offer) (f : Fair) (one other : Str) (s : S) : F_other_is_wrong [.p (pOffer o), .p (pFair f), .p (.str one), .p (.str other)] s = .ok (.p (.bl (otherWrong o f one other))) s := by
  unfold otherWrong
  cases hb : o.other with
  | none =>
    simp [F_other_is_wrong, runF, b_other_is_wrong, hb]
  | some b =>
    by_cases h1 : other = "" <;> by_cases h2 : other = one <;> simp [F_other_is_wrong, runF, b_other_is_wrong, hb, h1, h2, F_found]
theorem F_dword (m : Market) (f : Fair) (d : Deal) (s : S) : F_deal_word [.p (pMarket m), .p (pFair f), .p (pDeal d)] s = .ok (.p (optP .str (dealWord m f d))) s := by
  unfold dealWord
  cases ho : offerOf m d.name with
  | none => simp [F_deal_word, runF, b_deal_word, Pt.run, Pts.run, F_offer, ho, optP]
  | some o =>
    cases hf : found f d.one with
    | none => simp [F_deal_word, runF, b_deal_word, Pt.run, Pts.run, F_offer, ho, optP, F_found, hf]
    | some h =>
      have e1 : optP pOffer (some o) = pOffer o := rfl
      have e2 : optP pHd (some h) = pHd h := rfl
      cases hw : otherWrong o f d.one d.other with
      | true => simp [F_deal_word, runF, b_deal_word, Pt.run, Pts.run, F_offer, ho, e1, e2, F_found, hf, F_otherw, hw]; rfl
      | false =>
        cases hfi : fits o.one h with
        | false => simp [F_deal_word, runF, b_deal_word, Pt.run, Pts.run, F_offer, ho, e1, e2, F_found, hf, F_otherw, hw, F_fit, hfi]; rfl
        | true =>
          by_cases h1 : d.other = ""
          · rw [h1] at hw
            simp [F_deal_word, runF, b_deal_word, Pt.run, Pts.run, F_offer, ho, e1, e2, F_found, hf, F_otherw, hw, F_fit, hfi, h1]; rfl
          · unfold otherWrong at hw
            cases hoo : o.other with
            | none => simp [hoo, h1] at hw
            | some x =>
              cases hk : found f d.other with
              | none => simp [hoo, hk, h1] at hw
              | some k =>
                have e3 : optP pSide (some x) = pSide x := rfl
                have e4 : optP pHd (some k) = pHd k := rfl
                have hw' : otherWrong o f d.one d.other = false := by simp [otherWrong, hoo, hk]; simpa [hoo, hk] using hw
                cases hfx : fits x k <;> simp [F_deal_word, runF, b_deal_word, Pt.run, Pts.run, F_offer, ho, e1, e2, e3, e4, F_found, hf, F_otherw, hw', F_fit, hfi, h1, hoo, hk, hfx] <;> rfl
theorem F_done (m : Market) (f : Fair) (d : Deal) (s : S) (hz : f.length ≤ 1000) (hw : dealWord m f d = none) : F_done_deal [.p (pMarket m), .p (pFair f), .p (pDeal d)] s = .ok (.p (pFair (doneDeal m f d))) s := by
  unfold dealWord at hw
  unfold doneDeal
  cases ho : offerOf m d.name with
  | none => simp [ho] at hw
  | some o =>
    cases hf : found f d.one with
    | none => simp [ho, hf] at hw
    | some h =>
      have e1 : optP pOffer (some o) = pOffer o := rfl
      have e2 : optP pHd (some h) = pHd h := rfl
      simp only [ho, hf] at hw
      by_cases h1 : d.other = ""
      · simp [F_done_deal, runF, b_done_deal, Pt.run, Pts.run, F_offer, ho, e1, e2, F_found, hf, F_behind_, F_with, hz, h1]
      · by_cases hw1 : otherWrong o f d.one d.other = true
        · simp [hw1] at hw
        · rw [if_neg hw1] at hw
          unfold otherWrong at hw1
          cases hoo : o.other with
          | none => simp [hoo, h1] at hw1
          | some x =>
            cases hk : found f d.other with
            | none => simp [hoo, hk, h1] at hw1
            | some k =>
              have e3 : optP pSide (some x) = pSide x := rfl
              have e4 : optP pHd (some k) = pHd k := rfl
              have hz2 : (withH f d.one (behind o.one h)).length ≤ 1000 := by rw [withH_len]; exact hz
              simp [F_done_deal, runF, b_done_deal, Pt.run, Pts.run, F_offer, ho, e1, e2, e3, e4, F_found, hf, F_behind_, F_with, hz, hz2, h1, hoo, hk]
theorem walk_loop (m : Market) (M F R : Option D) (hM : M = some (.p (pMarket m))) (s : S) : ∀ (row : List Deal) (i : Nat) (acc : List P) (cur : Fair) (x y z : Option D), acc.length + row.length ≤ 1000 → cur.length ≤ 1000 →
    match rowRun m cur row i with
    | .inl l => ∃ (x' y' z' : Option D) (acc' : List P), forL (fun _ => true) (.tu (.cons (.nm 4) (.cons (.nm 5) .nil))) bl_row_walk_0 (enF i (row.map fun d => D.p (pDeal d))) [M, F, R, some (.loc s.length), x, y, z] (s ++ [.lst (acc.map D.p ++ [.p (pFair cur)])]) = .nx [M, F, R, some (.loc s.length), x', y', z'] (s ++ [.lst (acc'.map D.p ++ [.p (pFair l)])])
    | .inr (j, w) => ∃ ρ' c, forL (fun _ => true) (.tu (.cons (.nm 4) (.cons (.nm 5) .nil))) bl_row_walk_0 (enF i (row.map fun d => D.p (pDeal d))) [M, F, R, some (.loc s.length), x, y, z] (s ++ [.lst (acc.map D.p ++ [.p (pFair cur)])]) = .ex (bad j w) ρ' (s ++ [c])
  | [], i, acc, cur, x, y, z, _, _ => ⟨x, y, z, acc, by simp [forL, enF]⟩
  | d :: row, i, acc, cur, x, y, z, h1, h2 => by
    subst hM
    have hd := dIx_lastL (s := s ++ [.lst (acc.map D.p ++ [.p (pFair cur)])]) (l := acc.map D.p) (d := .p (pFair cur)) (n := s.length) at_last
    have hw := F_dword m cur d (s ++ [.lst (acc.map D.p ++ [.p (pFair cur)])])
    unfold rowRun
    cases e : dealWord m cur d with
    | some w =>
      refine ⟨[some (.p (pMarket m)), F, R, some (.loc s.length), some (.p (.int (i : Nat))), some (.p (pDeal d)), some (.p (.str w))], .lst (acc.map D.p ++ [.p (pFair cur)]), ?_⟩
      rw [e] at hw
      have e3 : optP P.str (some w) = .str w := rfl
      rw [e3] at hw
      simp only [List.map_cons, enF, mkT_pair, forL, if_true]
      simp [Pt.run, Pts.run, bl_row_walk_0, hd, hw, bad, (by decide : ¬ (("place" : Str) = "word"))]
    | none =>
      have hdn := F_done m cur d (s ++ [.lst (acc.map D.p ++ [.p (pFair cur)])]) h2 e
      rw [e] at hw
      have e3 : optP P.str none = .non := rfl
      rw [e3] at hw
      have ha := app_last (s := s) (l := acc.map D.p ++ [.p (pFair cur)]) (d := .p (pFair (doneDeal m cur d))) (by simp at h1 ⊢; omega)
      have ih := walk_loop m (some (.p (pMarket m))) F R rfl s row (i + 1) (acc ++ [pFair cur]) (doneDeal m cur d) (some (.p (.int (i : Nat)))) (some (.p (pDeal d))) (some (.p .non)) (by simp at h1 ⊢; omega) (by rw [doneDeal_len]; exact h2)
      have e1 : forL (fun _ => true) (.tu (.cons (.nm 4) (.cons (.nm 5) .nil))) bl_row_walk_0 (enF i ((d :: row).map fun d => D.p (pDeal d))) [some (.p (pMarket m)), F, R, some (.loc s.length), x, y, z] (s ++ [.lst (acc.map D.p ++ [.p (pFair cur)])]) =
          forL (fun _ => true) (.tu (.cons (.nm 4) (.cons (.nm 5) .nil))) bl_row_walk_0 (enF (i + 1) (row.map fun d => D.p (pDeal d))) [some (.p (pMarket m)), F, R, some (.loc s.length), some (.p (.int (i : Nat))), some (.p (pDeal d)), some (.p .non)] (s ++ [.lst (acc.map D.p ++ [.p (pFair cur)] ++ [.p (pFair (doneDeal m cur d))])]) := by
        simp only [List.map_cons, enF, mkT_pair, forL, if_true]
        have h4 : isL (s ++ [.lst (acc.map D.p ++ [.p (pFair cur)])]) (.loc s.length) = true := by simp
        simp only [Pt.run, Pts.run, viT_tup, List.map_cons, List.map_nil, Option.bind, bl_row_walk_0]
        simp [hd, hw, hdn, ha]
      rw [e1]
      rw [List.map_append] at ih
      exact ih
theorem F_walk (m : Market) (f : Fair) (row : List Deal) (s : S) (h1 : row.length ≤ 900) (h2 : f.length ≤ 1000) : match rowRun m f row 0 with
    | .inl l => ∃ acc : List P, F_row_walk [.p (pMarket m), .p (pFair f), .p (pRow row)] s = .ok (.lst (acc.map D.p ++ [.p (pFair l)])) s
    | .inr (j, w) => ∃ s', F_row_walk [.p (pMarket m), .p (pFair f), .p (pRow row)] s = .ex (bad j w) s' ∧ s <+: s' := by
  have key := walk_loop m (some (.p (pMarket m))) (some (.p (pFair f))) (some (.p (pRow row))) rfl s row 0 [] f none none none (by simp; omega) h2
  have hv : viT (.p (pRow row)) = some (row.map fun d => .p (pDeal d)) := by simp [pRow]
  cases e : rowRun m f row 0 with
  | inr q =>
    obtain ⟨j, w⟩ := q
    rw [e] at key
    obtain ⟨ρ', c, key⟩ := key
    refine ⟨s ++ [c], ?_, List.prefix_append _ _⟩
    simp only [List.map_nil, List.nil_append] at key
    simp [F_row_walk, runF, b_row_walk, hv, key]
  | inl l =>
    rw [e] at key
    obtain ⟨x', y', z', acc', key⟩ := key
    refine ⟨acc', ?_⟩
    simp only [List.map_nil, List.nil_append] at key
    have hf := fin_new (s := s) (ds := acc'.map D.p ++ [.p (pFair l)]) (clDs_all fun d hd => by
      rcases List.mem_append.mp hd with h | h
      · obtain ⟨p, _, rfl⟩ := List.mem_map.mp h
        rfl
      · rw [List.mem_singleton.mp h]; rfl)
    simp [F_row_walk, runF, b_row_walk, hv, key, hf]
theorem F_run (m : Market) (f : Fair) (row : List Deal) (s : S) (h1 : row.length ≤ 900) (h2 : f.length ≤ 1000) : match rowRun m f row 0 with
    | .inl l => F_run_row [.p (pMarket m), .p (pFair f), .p (pRow row)] s = .ok (.p (pFair l)) s
    | .inr (j, w) => ∃ s', F_run_row [.p (pMarket m), .p (pFair f), .p (pRow row)] s = .ex (bad j w) s' ∧ s <+: s' := by
  have key := F_walk m f row s h1 h2
  cases e : rowRun m f row 0 with
  | inr q =>
    obtain ⟨j, w⟩ := q
    rw [e] at key
    obtain ⟨s', key, hp⟩ := key
    refine ⟨s', ?_, hp⟩
    simp [F_run_row, runF, b_run_row, key]
  | inl l =>
    rw [e] at key
    obtain ⟨acc, key⟩ := key
    simp [F_run_row, runF, b_run_row, key, dIx_lastV]
end K76

set_option Elab.async false
set_option linter.all false
set_option maxRecDepth 100000
set_option maxHeartbeats 0
namespace K76
open PySem Mo
def W_found_holding (x_fair x_trader : D) (s : S) (R : D → S → Prop) (E : Xc → S → Prop) : Prop :=
  vW (wkOf s x_fair) fun k1 => vFor k1 () s (fun d2 (y3 : Unit) t4 nx5 bk6 => vT d2 fun l7 => vH l7 fun x_name l8 => vH l8 fun x_good l9 => vH l9 fun x_money l10 => vN l10 fun _ => vO (dEq x_name x_trader t4) (fun d11 s12 => vBl d11 fun b13 => if b13 = true then (R (mkT [x_good, x_money]) s12) else (nx5 () s12))) (fun y14 s15 => R (.p .non) s15)
theorem w_found_holding {x_fair x_trader : D} {s : S} {Q : D → S → Prop} {E : Xc → S → Prop} (h : W_found_holding x_fair x_trader s (fun d t => Q (fin s d t).1 (fin s d t).2) E) : wO (F_found_holding [x_fair, x_trader] s) Q E := by
  have der : VB (γ := Empty) [some x_fair, some x_trader, none, none, none] b_found_holding (fun _ : Unit => List.replicate ([some x_fair, some x_trader, none, none, none] : Mo.Env).length none) (fun x => nomatch x) _ := (vb_for (fl' := fun y16 : Unit => [some x_fair, some x_trader, none, none, none]) (b0 := ()) (vs_any (ve_var rfl)) (.s (.s (.n (.n (.n .nil))))) (fun _ => (vg_tu (vgs_cons vg_nm fun _ => (vgs_cons vg_nm fun _ => (vgs_cons vg_nm fun _ => vgs_nil))))) (fun y16 z17 => (vb_one (vb_ifR (f0 := fun x => nomatch x) (ve_tV (ve_op (ve_var rfl) (ve_var rfl))) (vb_one (vb_ret (ve_tup (va_cons (ve_var rfl) (va_cons (ve_var rfl) va_nil))))) (vb_end (x := ()) (.s (.s (.n (.n (.n .nil))))))))) fun y16 => (vb_one (vb_ret ve_c)))
  exact vf_run (n := 2) (N := 5) rfl rfl der h
def W_holding_of (x_fair x_trader : D) (s : S) (R : D → S → Prop) (E : Xc → S → Prop) : Prop :=
  wO (F_found_holding [x_fair, x_trader] s) (fun d2 s3 => vBl (.p (.bl (isN d2))) fun b4 => if b4 = true then (E ⟨"NoSuch", (["word", "name"] : List Str).zip [(.p (.str "trader")), x_trader]⟩ s3) else (R d2 s3)) E
theorem w_holding_of {x_fair x_trader : D} {s : S} {Q : D → S → Prop} {E : Xc → S → Prop} (h : W_holding_of x_fair x_trader s (fun d t => Q (fin s d t).1 (fin s d t).2) E) : wO (F_holding_of [x_fair, x_trader] s) Q E := by
  have der : VB (γ := Empty) [some x_fair, some x_trader, none] b_holding_of (fun _ : Unit => List.replicate ([some x_fair, some x_trader, none] : Mo.Env).length none) (fun x => nomatch x) _ := (vb_set (ve_call (va_cons (ve_var rfl) (va_cons (ve_var rfl) va_nil))) fun q1 => (vb_ifR (f0 := fun x => nomatch x) (ve_tV (ve_isN (ve_var rfl))) (vb_one (vb_raise (va_cons ve_c (va_cons (ve_var rfl) va_nil)))) (vb_one (vb_ret (ve_var rfl)))))
  exact vf_run (n := 2) (N := 3) rfl rfl der h
def W_total_money (x_fair : D) (s : S) (R : D → S → Prop) (E : Xc → S → Prop) : Prop :=
  vW (wkOf s x_fair) fun k11 => vLc k11 s (fun d1 t2 j3 => vT d1 fun l4 => vH l4 fun x_name l5 => vH l5 fun x_good l6 => vH l6 fun x_money l7 => vN l7 fun _ => vC true (fun j8 => j8 x_money t2) (fun _ => j3 none t2) (fun d9 t10 => j3 (some d9) t10)) (fun d12 s13 => vO (bSum [d12] s13) (fun d14 s15 => R d14 s15))
theorem w_total_money {x_fair : D} {s : S} {Q : D → S → Prop} {E : Xc → S → Prop} (h : W_total_money x_fair s (fun d t => Q (fin s d t).1 (fin s d t).2) E) : wO (F_total_money [x_fair] s) Q E := by
  have der : VB (γ := Empty) [some x_fair, none, none, none] b_total_money (fun _ : Unit => List.replicate ([some x_fair, none, none, none] : Mo.Env).length none) (fun x => nomatch x) _ := (vb_one (vb_ret (ve_ca (va_cons (ve_lc (vs_any (ve_var rfl)) (vg_tu (vgs_cons vg_nm fun _ => (vgs_cons vg_nm fun _ => (vgs_cons vg_nm fun _ => vgs_nil)))) (fun _ => ve_tTrue) (fun _ => (ve_var rfl))) va_nil))))
  exact vf_run (n := 1) (N := 4) rfl rfl der h
def W_with_holding (x_fair x_trader x_holding : D) (s : S) (R : D → S → Prop) (E : Xc → S → Prop) : Prop :=
  vW (wkOf s x_fair) fun k19 => vLc k19 s (fun d1 t2 j3 => vT d1 fun l4 => vH l4 fun x_name l5 => vH l5 fun x_good l6 => vH l6 fun x_money l7 => vN l7 fun _ => vC true (fun j8 => vO (dEq x_name x_trader t2) (fun d11 s12 => vBl d11 fun b13 => vC b13 (fun j14 => vO (dAdd (mkT [x_name]) x_holding s12) (fun d15 s16 => j14 d15 s16)) (fun j14 => j14 (mkT [x_name, x_good, x_money]) s12) (fun d17 s18 => j8 d17 s18))) (fun _ => j3 none t2) (fun d9 t10 => j3 (some d9) t10)) (fun d20 s21 => vO (bTup [d20] s21) (fun d22 s23 => R d22 s23))
theorem w_with_holding {x_fair x_trader x_holding : D} {s : S} {Q : D → S → Prop} {E : Xc → S → Prop} (h : W_with_holding x_fair x_trader x_holding s (fun d t => Q (fin s d t).1 (fin s d t).2) E) : wO (F_with_holding [x_fair, x_trader, x_holding] s) Q E := by
  have der : VB (γ := Empty) [some x_fair, some x_trader, some x_holding, none, none, none] b_with_holding (fun _ : Unit => List.replicate ([some x_fair, some x_trader, some x_holding, none, none, none] : Mo.Env).length none) (fun x => nomatch x) _ := (vb_one (vb_ret (ve_ca (va_cons (ve_lc (vs_any (ve_var rfl)) (vg_tu (vgs_cons vg_nm fun _ => (vgs_cons vg_nm fun _ => (vgs_cons vg_nm fun _ => vgs_nil)))) (fun _ => ve_tTrue) (fun _ => (ve_if (ve_tV (ve_op (ve_var rfl) (ve_var rfl))) (ve_op (ve_tup (va_cons (ve_var rfl) va_nil)) (ve_var rfl)) (ve_tup (va_cons (ve_var rfl) (va_cons (ve_var rfl) (va_cons (ve_var rfl) va_nil))))))) va_nil))))
  exact vf_run (n := 3) (N := 6) rfl rfl der h
def W_offer_of (x_market x_name : D) (s : S) (R : D → S → Prop) (E : Xc → S → Prop) : Prop :=
  vO (dSb x_market (.p (.int 2)) s) (fun d1 s2 => vW (wkOf s2 d1) fun k3 => vFor k3 () s2 (fun d4 (y5 : Unit) t6 nx7 bk8 => vO (dSb d4 (.p (.int 0)) t6) (fun d9 s10 => vO (dEq d9 x_name s10) (fun d11 s12 => vBl d11 fun b13 => if b13 = true then (R d4 s12) else (nx7 () s12)))) (fun y14 s15 => R (.p .non) s15))
theorem w_offer_of {x_market x_name : D} {s : S} {Q : D → S → Prop} {E : Xc → S → Prop} (h : W_offer_of x_market x_name s (fun d t => Q (fin s d t).1 (fin s d t).2) E) : wO (F_offer_of [x_market, x_name] s) Q E := by
  have der : VB (γ := Empty) [some x_market, some x_name, none] b_offer_of (fun _ : Unit => List.replicate ([some x_market, some x_name, none] : Mo.Env).length none) (fun x => nomatch x) _ := (vb_for (fl' := fun y16 : Unit => [some x_market, some x_name, none]) (b0 := ()) (vs_any (ve_sub (ve_var rfl) ve_c)) (.s (.s (.n .nil))) (fun _ => vg_nm) (fun y16 z17 => (vb_one (vb_ifR (f0 := fun x => nomatch x) (ve_tV (ve_op (ve_sub (ve_var rfl) ve_c) (ve_var rfl))) (vb_one (vb_ret (ve_var rfl))) (vb_end (x := ()) (.s (.s (.n .nil))))))) fun y16 => (vb_one (vb_ret ve_c)))
  exact vf_run (n := 2) (N := 3) rfl rfl der h
def W_fits (x_side x_holding : D) (s : S) (R : D → S → Prop) (E : Xc → S → Prop) : Prop :=
  vT x_side fun l2 => vH l2 fun x_good l3 => vH l3 fun x_least l4 => vH l4 fun x_most l5 => vH l5 fun x_after l6 => vH l6 fun x_change l7 => vN l7 fun _ => vO (dSb x_holding (.p (.int 0)) s) (fun d8 s9 => vO (dEq d8 x_good s9) (fun d10 s11 => vBl d10 fun b12 => vC b12 (fun j13 => vO (dSb x_holding (.p (.int 1)) s11) (fun d14 s15 => vO (dLe x_least d14 s15) (fun d16 s17 => vBl d16 fun b18 => vC b18 (fun j19 => vBl (.p (.bl (isN x_most))) fun b20 => vC b20 (fun j21 => j21 (.p (.bl true)) s17) (fun j21 => vO (dSb x_holding (.p (.int 1)) s17) (fun d22 s23 => vO (dLe d22 x_most s23) (fun d24 s25 => j21 d24 s25))) (fun d26 s27 => j19 d26 s27)) (fun j19 => j19 (.p (.bl false)) s17) (fun d28 s29 => j13 d28 s29)))) (fun j13 => j13 (.p (.bl false)) s11) (fun d30 s31 => R d30 s31)))
theorem w_fits {x_side x_holding : D} {s : S} {Q : D → S → Prop} {E : Xc → S → Prop} (h : W_fits x_side x_holding s (fun d t => Q (fin s d t).1 (fin s d t).2) E) : wO (F_fits [x_side, x_holding] s) Q E := by
  have der : VB (γ := Empty) [some x_side, some x_holding, none, none, none, none, none] b_fits (fun _ : Unit => List.replicate ([some x_side, some x_holding, none, none, none, none, none] : Mo.Env).length none) (fun x => nomatch x) _ := (vb_asg (ve_var rfl) (vg_tu (vgs_cons vg_nm fun _ => (vgs_cons vg_nm fun _ => (vgs_cons vg_nm fun _ => (vgs_cons vg_nm fun _ => (vgs_cons vg_nm fun _ => vgs_nil)))))) fun q1 => (vb_one (vb_ret (ve_and (ve_op (ve_sub (ve_var rfl) ve_c) (ve_var rfl)) (ve_and (ve_op (ve_var rfl) (ve_sub (ve_var rfl) ve_c)) (ve_or (ve_isN (ve_var rfl)) (ve_op (ve_sub (ve_var rfl) ve_c) (ve_var rfl))))))))
  exact vf_run (n := 2) (N := 7) rfl rfl der h
def W_behind (x_side x_holding : D) (s : S) (R : D → S → Prop) (E : Xc → S → Prop) : Prop :=
  vO (dSb x_side (.p (.int 3)) s) (fun d1 s2 => vO (dSb x_holding (.p (.int 1)) s2) (fun d3 s4 => vO (dSb x_side (.p (.int 4)) s4) (fun d5 s6 => vO (dAdd d3 d5 s6) (fun d7 s8 => R (mkT [d1, d7]) s8))))
theorem w_behind {x_side x_holding : D} {s : S} {Q : D → S → Prop} {E : Xc → S → Prop} (h : W_behind x_side x_holding s (fun d t => Q (fin s d t).1 (fin s d t).2) E) : wO (F_behind [x_side, x_holding] s) Q E := by
  have der : VB (γ := Empty) [some x_side, some x_holding] b_behind (fun _ : Unit => List.replicate ([some x_side, some x_holding] : Mo.Env).length none) (fun x => nomatch x) _ := (vb_one (vb_ret (ve_tup (va_cons (ve_sub (ve_var rfl) ve_c) (va_cons (ve_op (ve_sub (ve_var rfl) ve_c) (ve_sub (ve_var rfl) ve_c)) va_nil)))))
  exact vf_run (n := 2) (N := 2) rfl rfl der h
def W_other_is_wrong (x_offer x_fair x_one x_other : D) (s : S) (R : D → S → Prop) (E : Xc → S → Prop) : Prop :=
  vO (dSb x_offer (.p (.int 2)) s) (fun d1 s2 => vBl (.p (.bl (isN d1))) fun b3 => if b3 = true then (vO (dNe x_other (.p (.str "")) s2) (fun d4 s5 => R d4 s5)) else (vO (dEq x_other (.p (.str "")) s2) (fun d6 s7 => vBl d6 fun b8 => vC b8 (fun j9 => j9 (.p (.bl true)) s7) (fun j9 => vO (dEq x_other x_one s7) (fun d10 s11 => vBl d10 fun b12 => vC b12 (fun j13 => j13 (.p (.bl true)) s11) (fun j13 => wO (F_found_holding [x_fair, x_other] s11) (fun d14 s15 => j13 (.p (.bl (isN d14))) s15) E) (fun d16 s17 => j9 d16 s17))) (fun d18 s19 => R d18 s19))))
theorem w_other_is_wrong {x_offer x_fair x_one x_other : D} {s : S} {Q : D → S → Prop} {E : Xc → S → Prop} (h : W_other_is_wrong x_offer x_fair x_one x_other s (fun d t => Q (fin s d t).1 (fin s d t).2) E) : wO (F_other_is_wrong [x_offer, x_fair, x_one, x_other] s) Q E := by
  have der : VB (γ := Empty) [some x_offer, some x_fair, some x_one, some x_other] b_other_is_wrong (fun _ : Unit => List.replicate ([some x_offer, some x_fair, some x_one, some x_other] : Mo.Env).length none) (fun x => nomatch x) _ := (vb_ifR (f0 := fun x => nomatch x) (ve_tV (ve_isN (ve_sub (ve_var rfl) ve_c))) (vb_one (vb_ret (ve_op (ve_var rfl) ve_c))) (vb_one (vb_ret (ve_or (ve_op (ve_var rfl) ve_c) (ve_or (ve_op (ve_var rfl) (ve_var rfl)) (ve_isN (ve_call (va_cons (ve_var rfl) (va_cons (ve_var rfl) va_nil)))))))))
  exact vf_run (n := 4) (N := 4) rfl rfl der h
def W_deal_word (x_market x_fair x_deal : D) (s : S) (R : D → S → Prop) (E : Xc → S → Prop) : Prop :=
  vT x_deal fun l2 => vH l2 fun x_name l3 => vH l3 fun x_one l4 => vH l4 fun x_other l5 => vN l5 fun _ => wO (F_offer_of [x_market, x_name] s) (fun d7 s8 => vBl (.p (.bl (isN d7))) fun b9 => if b9 = true then (R (.p (.str "offer")) s8) else (wO (F_found_holding [x_fair, x_one] s8) (fun d10 s11 => vBl (.p (.bl (isN d10))) fun b12 => if b12 = true then (R (.p (.str "one")) s11) else (wO (F_other_is_wrong [d7, x_fair, x_one, x_other] s11) (fun d13 s14 => vBl d13 fun b15 => if b15 = true then (R (.p (.str "other")) s14) else (vO (dSb d7 (.p (.int 1)) s14) (fun d16 s17 => wO (F_found_holding [x_fair, x_one] s17) (fun d18 s19 => wO (F_fits [d16, d18] s19) (fun d20 s21 => vBl d20 fun b22 => if (!b22) = true then (R (.p (.str "fit")) s21) else (vO (dEq x_other (.p (.str "")) s21) (fun d23 s24 => vBl d23 fun b25 => vC b25 (fun j26 => j26 true s24) (fun j26 => vO (dSb d7 (.p (.int 2)) s24) (fun d27 s28 => wO (F_found_holding [x_fair, x_other] s28) (fun d29 s30 => wO (F_fits [d27, d29] s30) (fun d31 s32 => vBl d31 fun b33 => j26 b33 s32) E) E)) (fun b34 s35 => vC b34 (fun j36 => j36 (.p .non) s35) (fun j36 => j36 (.p (.str "fit")) s35) (fun d37 s38 => R d37 s38))))) E) E))) E)) E)) E
theorem w_deal_word {x_market x_fair x_deal : D} {s : S} {Q : D → S → Prop} {E : Xc → S → Prop} (h : W_deal_word x_market x_fair x_deal s (fun d t => Q (fin s d t).1 (fin s d t).2) E) : wO (F_deal_word [x_market, x_fair, x_deal] s) Q E := by
  have der : VB (γ := Empty) [some x_market, some x_fair, some x_deal, none, none, none, none] b_deal_word (fun _ : Unit => List.replicate ([some x_market, some x_fair, some x_deal, none, none, none, none] : Mo.Env).length none) (fun x => nomatch x) _ := (vb_asg (ve_var rfl) (vg_tu (vgs_cons vg_nm fun _ => (vgs_cons vg_nm fun _ => (vgs_cons vg_nm fun _ => vgs_nil)))) fun q1 => (vb_set (ve_call (va_cons (ve_var rfl) (va_cons (ve_var rfl) va_nil))) fun q6 => (vb_ifR (f0 := fun x => nomatch x) (ve_tV (ve_isN (ve_var rfl))) (vb_one (vb_ret ve_c)) (vb_ifR (f0 := fun x => nomatch x) (ve_tV (ve_isN (ve_call (va_cons (ve_var rfl) (va_cons (ve_var rfl) va_nil))))) (vb_one (vb_ret ve_c)) (vb_ifR (f0 := fun x => nomatch x) (ve_tV (ve_call (va_cons (ve_var rfl) (va_cons (ve_var rfl) (va_cons (ve_var rfl) (va_cons (ve_var rfl) va_nil)))))) (vb_one (vb_ret ve_c)) (vb_ifR (f0 := fun x => nomatch x) (ve_tNot (ve_tV (ve_call (va_cons (ve_sub (ve_var rfl) ve_c) (va_cons (ve_call (va_cons (ve_var rfl) (va_cons (ve_var rfl) va_nil))) va_nil))))) (vb_one (vb_ret ve_c)) (vb_one (vb_ret (ve_if (ve_tOr (ve_tV (ve_op (ve_var rfl) ve_c)) (ve_tV (ve_call (va_cons (ve_sub (ve_var rfl) ve_c) (va_cons (ve_call (va_cons (ve_var rfl) (va_cons (ve_var rfl) va_nil))) va_nil))))) ve_c ve_c)))))))))
  exact vf_run (n := 3) (N := 7) rfl rfl der h
def W_done_deal (x_market x_fair x_deal : D) (s : S) (R : D → S → Prop) (E : Xc → S → Prop) : Prop :=
  vT x_deal fun l2 => vH l2 fun x_name l3 => vH l3 fun x_one l4 => vH l4 fun x_other l5 => vN l5 fun _ => wO (F_offer_of [x_market, x_name] s) (fun d7 s8 => wO (F_found_holding [x_fair, x_one] s8) (fun d10 s11 => vO (dSb d7 (.p (.int 1)) s11) (fun d13 s14 => wO (F_behind [d13, d10] s14) (fun d15 s16 => wO (F_with_holding [x_fair, x_one, d15] s16) (fun d17 s18 => vO (dEq x_other (.p (.str "")) s18) (fun d19 s20 => vBl d19 fun b21 => vC b21 (fun j22 => j22 d17 s20) (fun j22 => vO (dSb d7 (.p (.int 2)) s20) (fun d23 s24 => wO (F_found_holding [x_fair, x_other] s24) (fun d25 s26 => wO (F_behind [d23, d25] s26) (fun d27 s28 => wO (F_with_holding [d17, x_other, d27] s28) (fun d29 s30 => j22 d29 s30) E) E) E)) (fun d31 s32 => R d31 s32))) E) E)) E) E
theorem w_done_deal {x_market x_fair x_deal : D} {s : S} {Q : D → S → Prop} {E : Xc → S → Prop} (h : W_done_deal x_market x_fair x_deal s (fun d t => Q (fin s d t).1 (fin s d t).2) E) : wO (F_done_deal [x_market, x_fair, x_deal] s) Q E := by
  have der : VB (γ := Empty) [some x_market, some x_fair, some x_deal, none, none, none, none, none, none] b_done_deal (fun _ : Unit => List.replicate ([some x_market, some x_fair, some x_deal, none, none, none, none, none, none] : Mo.Env).length none) (fun x => nomatch x) _ := (vb_asg (ve_var rfl) (vg_tu (vgs_cons vg_nm fun _ => (vgs_cons vg_nm fun _ => (vgs_cons vg_nm fun _ => vgs_nil)))) fun q1 => (vb_set (ve_call (va_cons (ve_var rfl) (va_cons (ve_var rfl) va_nil))) fun q6 => (vb_set (ve_call (va_cons (ve_var rfl) (va_cons (ve_var rfl) va_nil))) fun q9 => (vb_set (ve_call (va_cons (ve_var rfl) (va_cons (ve_var rfl) (va_cons (ve_call (va_cons (ve_sub (ve_var rfl) ve_c) (va_cons (ve_var rfl) va_nil))) va_nil)))) fun q12 => (vb_one (vb_ret (ve_if (ve_tV (ve_op (ve_var rfl) ve_c)) (ve_var rfl) (ve_call (va_cons (ve_var rfl) (va_cons (ve_var rfl) (va_cons (ve_call (va_cons (ve_sub (ve_var rfl) ve_c) (va_cons (ve_call (va_cons (ve_var rfl) (va_cons (ve_var rfl) va_nil))) va_nil))) va_nil)))))))))))
  exact vf_run (n := 3) (N := 9) rfl rfl der h
def W_row_walk (x_market x_fair x_row : D) (s : S) (R : D → S → Prop) (E : Xc → S → Prop) : Prop :=
  vNL [x_fair] s (fun d2 s3 => vH [x_row] fun d0 r0 => vN r0 fun _ => vW (wkOf s3 d0) fun k4 => vFor ⟨enF 0 k4.ds, k4.ok⟩ () s3 (fun d5 (y6 : Unit) t7 nx8 bk9 => vT d5 fun l10 => vH l10 fun x_place l11 => vH l11 fun x_deal l12 => vN l12 fun _ => vI (.p (.int 1)) fun i14 => vO (dSb d2 (.p (.int (-i14))) t7) (fun d15 s16 => wO (F_deal_word [x_market, d15, x_deal] s16) (fun d17 s18 => vBl (.p (.bl (!isN d17))) fun b19 => if b19 = true then (E ⟨"BadRow", (["place", "word"] : List Str).zip [x_place, d17]⟩ s18) else (isL s18 d2 = true ∧ vI (.p (.int 1)) fun i20 => vO (dSb d2 (.p (.int (-i20))) s18) (fun d21 s22 => wO (F_done_deal [x_market, d21, x_deal] s22) (fun d23 s24 => vO (appL d2 [d23] s24) (fun d25 s26 => nx8 () s26)) E))) E)) (fun y27 s28 => R d2 s28))
theorem w_row_walk {x_market x_fair x_row : D} {s : S} {Q : D → S → Prop} {E : Xc → S → Prop} (h : W_row_walk x_market x_fair x_row s (fun d t => Q (fin s d t).1 (fin s d t).2) E) : wO (F_row_walk [x_market, x_fair, x_row] s) Q E := by
  have der : VB (γ := Empty) [some x_market, some x_fair, some x_row, none, none, none, none] b_row_walk (fun _ : Unit => List.replicate ([some x_market, some x_fair, some x_row, none, none, none, none] : Mo.Env).length none) (fun x => nomatch x) _ := (vb_set (ve_lstC (va_cons (ve_var rfl) va_nil)) fun q1 => (vb_for (fl' := fun y29 : Unit => [some x_market, some x_fair, some x_row, some q1, none, none, none]) (b0 := ()) (vs_enum (va_cons (ve_var rfl) va_nil)) (.s (.s (.s (.s (.n (.n (.n .nil))))))) (fun _ => (vg_tu (vgs_cons vg_nm fun _ => (vgs_cons vg_nm fun _ => vgs_nil)))) (fun y29 z30 => (vb_set (ve_call (va_cons (ve_var rfl) (va_cons (ve_sub (ve_var rfl) (ve_neg ve_c)) (va_cons (ve_var rfl) va_nil)))) fun q13 => (vb_ifR (f0 := fun x => nomatch x) (ve_tV (ve_notN (ve_var rfl))) (vb_one (vb_raise (va_cons (ve_var rfl) (va_cons (ve_var rfl) va_nil)))) (vb_one (vb_drop (ve_me (ve_var rfl) (va_cons (ve_call (va_cons (ve_var rfl) (va_cons (ve_sub (ve_var rfl) (ve_neg ve_c)) (va_cons (ve_var rfl) va_nil)))) va_nil)) (vb_end (x := ()) (.s (.s (.s (.s (.n (.n (.n .nil))))))))))))) fun y29 => (vb_one (vb_ret (ve_var rfl)))))
  exact vf_run (n := 3) (N := 7) rfl rfl der h
def W_run_row (x_market x_fair x_row : D) (s : S) (R : D → S → Prop) (E : Xc → S → Prop) : Prop :=
  wO (F_row_walk [x_market, x_fair, x_row] s) (fun d1 s2 => vI (.p (.int 1)) fun i3 => vO (dSb d1 (.p (.int (-i3))) s2) (fun d4 s5 => R d4 s5)) E
theorem w_run_row {x_market x_fair x_row : D} {s : S} {Q : D → S → Prop} {E : Xc → S → Prop} (h : W_run_row x_market x_fair x_row s (fun d t => Q (fin s d t).1 (fin s d t).2) E) : wO (F_run_row [x_market, x_fair, x_row] s) Q E := by
  have der : VB (γ := Empty) [some x_market, some x_fair, some x_row] b_run_row (fun _ : Unit => List.replicate ([some x_market, some x_fair, some x_row] : Mo.Env).length none) (fun x => nomatch x) _ := (vb_one (vb_ret (ve_sub (ve_call (va_cons (ve_var rfl) (va_cons (ve_var rfl) (va_cons (ve_var rfl) va_nil)))) (ve_neg ve_c))))
  exact vf_run (n := 3) (N := 3) rfl rfl der h
def W_run_trace (x_market x_fair x_row : D) (s : S) (R : D → S → Prop) (E : Xc → S → Prop) : Prop :=
  wO (F_row_walk [x_market, x_fair, x_row] s) (fun d1 s2 => vO (bTup [d1] s2) (fun d3 s4 => R d3 s4)) E
theorem w_run_trace {x_market x_fair x_row : D} {s : S} {Q : D → S → Prop} {E : Xc → S → Prop} (h : W_run_trace x_market x_fair x_row s (fun d t => Q (fin s d t).1 (fin s d t).2) E) : wO (F_run_trace [x_market, x_fair, x_row] s) Q E := by
  have der : VB (γ := Empty) [some x_market, some x_fair, some x_row] b_run_trace (fun _ : Unit => List.replicate ([some x_market, some x_fair, some x_row] : Mo.Env).length none) (fun x => nomatch x) _ := (vb_one (vb_ret (ve_ca (va_cons (ve_call (va_cons (ve_var rfl) (va_cons (ve_var rfl) (va_cons (ve_var rfl) va_nil)))) va_nil))))
  exact vf_run (n := 3) (N := 3) rfl rfl der h
def W_history_of (x_market x_fair x_row x_trader : D) (s : S) (R : D → S → Prop) (E : Xc → S → Prop) : Prop :=
  wO (F_run_trace [x_market, x_fair, x_row] s) (fun d2 s3 => vH [x_row] fun d0 r0 => vN r0 fun _ => vW (wkOf s3 d0) fun k20 => vLc ⟨enF 0 k20.ds, k20.ok⟩ s3 (fun d5 t6 j7 => vT d5 fun l8 => vH l8 fun x_place l9 => vH l9 fun x_deal l10 => vN l10 fun _ => vI (.p (.int 1)) fun i11 => vO (dSl x_deal (some i11) none t6) (fun d12 s13 => vO (dInn false x_trader d12 s13) (fun d14 s15 => vBl d14 fun b16 => vC b16 (fun j17 => j17 x_place s15) (fun _ => j7 none s15) (fun d18 t19 => j7 (some d18) t19)))) (fun d21 s22 => vW (wkOf s22 d21) fun k35 => vLc k35 s22 (fun d23 t24 j25 => vC true (fun j26 => vO (dAdd d23 (.p (.int 1)) t24) (fun d29 s30 => vO (dSb d2 d29 s30) (fun d31 s32 => wO (F_holding_of [d31, x_trader] s32) (fun d33 s34 => j26 (mkT [d23, d33]) s34) (fun _ _ => False)))) (fun _ => j25 none t24) (fun d27 t28 => j25 (some d27) t28)) (fun d36 s37 => vO (bTup [d36] s37) (fun d38 s39 => R d38 s39)))) E
theorem w_history_of {x_market x_fair x_row x_trader : D} {s : S} {Q : D → S → Prop} {E : Xc → S → Prop} (h : W_history_of x_market x_fair x_row x_trader s (fun d t => Q (fin s d t).1 (fin s d t).2) E) : wO (F_history_of [x_market, x_fair, x_row, x_trader] s) Q E := by
  have der : VB (γ := Empty) [some x_market, some x_fair, some x_row, some x_trader, none, none, none, none] b_history_of (fun _ : Unit => List.replicate ([some x_market, some x_fair, some x_row, some x_trader, none, none, none, none] : Mo.Env).length none) (fun x => nomatch x) _ := (vb_set (ve_call (va_cons (ve_var rfl) (va_cons (ve_var rfl) (va_cons (ve_var rfl) va_nil)))) fun q1 => (vb_set (ve_lc (vs_enum (va_cons (ve_var rfl) va_nil)) (vg_tu (vgs_cons vg_nm fun _ => (vgs_cons vg_nm fun _ => vgs_nil))) (fun _ => (ve_tIn (ve_var rfl) (ve_sl (ve_var rfl) (vp_so ve_c) vp_no))) (fun _ => (ve_var rfl))) fun q4 => (vb_one (vb_ret (ve_ca (va_cons (ve_lc (vs_any (ve_var rfl)) vg_nm (fun _ => ve_tTrue) (fun _ => (ve_tup (va_cons (ve_var rfl) (va_cons (ve_call (va_cons (ve_sub (ve_var rfl) (ve_op (ve_var rfl) ve_c)) (va_cons (ve_var rfl) va_nil))) va_nil))))) va_nil))))))
  exact vf_run (n := 4) (N := 8) rfl rfl der h
def W_gains (x_market x_fair x_row : D) (s : S) (R : D → S → Prop) (E : Xc → S → Prop) : Prop :=
  wO (F_run_row [x_market, x_fair, x_row] s) (fun d2 s3 => vW (zipW s3 [x_fair, d2]) fun k21 => vLc k21 s3 (fun d4 t5 j6 => vT d4 fun l7 => vH l7 fun x_one l8 => vH l8 fun x_other l9 => vN l9 fun _ => vC true (fun j10 => vO (dSb x_one (.p (.int 0)) t5) (fun d13 s14 => vO (dSb x_other (.p (.int 2)) s14) (fun d15 s16 => vO (dSb x_one (.p (.int 2)) s16) (fun d17 s18 => vO (dSub d15 d17 s18) (fun d19 s20 => j10 (mkT [d13, d19]) s20))))) (fun _ => j6 none t5) (fun d11 t12 => j6 (some d11) t12)) (fun d22 s23 => vO (bTup [d22] s23) (fun d24 s25 => R d24 s25))) E
theorem w_gains {x_market x_fair x_row : D} {s : S} {Q : D → S → Prop} {E : Xc → S → Prop} (h : W_gains x_market x_fair x_row s (fun d t => Q (fin s d t).1 (fin s d t).2) E) : wO (F_gains [x_market, x_fair, x_row] s) Q E := by
  have der : VB (γ := Empty) [some x_market, some x_fair, some x_row, none, none, none] b_gains (fun _ : Unit => List.replicate ([some x_market, some x_fair, some x_row, none, none, none] : Mo.Env).length none) (fun x => nomatch x) _ := (vb_set (ve_call (va_cons (ve_var rfl) (va_cons (ve_var rfl) (va_cons (ve_var rfl) va_nil)))) fun q1 => (vb_one (vb_ret (ve_ca (va_cons (ve_lc (vs_zip (va_cons (ve_var rfl) (va_cons (ve_var rfl) va_nil))) (vg_tu (vgs_cons vg_nm fun _ => (vgs_cons vg_nm fun _ => vgs_nil))) (fun _ => ve_tTrue) (fun _ => (ve_tup (va_cons (ve_sub (ve_var rfl) ve_c) (va_cons (ve_op (ve_sub (ve_var rfl) ve_c) (ve_sub (ve_var rfl) ve_c)) va_nil))))) va_nil)))))
  exact vf_run (n := 3) (N := 6) rfl rfl der h
def W_best_trader (x_market x_fair x_row : D) (s : S) (R : D → S → Prop) (E : Xc → S → Prop) : Prop :=
  wO (F_gains [x_market, x_fair, x_row] s) (fun d2 s3 => vO (bLen [d2] s3) (fun d4 s5 => vO (dEq d4 (.p (.int 0)) s5) (fun d6 s7 => vBl d6 fun b8 => if b8 = true then (R (.p .non) s7) else (vW (wkOf s7 d2) fun k19 => vLc k19 s7 (fun d10 t11 j12 => vT d10 fun l13 => vH l13 fun x_name l14 => vH l14 fun x_gain l15 => vN l15 fun _ => vC true (fun j16 => j16 x_gain t11) (fun _ => j12 none t11) (fun d17 t18 => j12 (some d17) t18)) (fun d20 s21 => vO (bMaxL [d20] s21) (fun d22 s23 => vW (wkOf s23 d2) fun k36 => vLc k36 s23 (fun d24 t25 j26 => vT d24 fun l27 => vH l27 fun x_name l28 => vH l28 fun x_gain l29 => vN l29 fun _ => vO (dEq x_gain d22 t25) (fun d30 s31 => vBl d30 fun b32 => vC b32 (fun j33 => j33 x_name s31) (fun _ => j26 none s31) (fun d34 t35 => j26 (some d34) t35))) (fun d37 s38 => vO (dSb d37 (.p (.int 0)) s38) (fun d39 s40 => R d39 s40)))))))) E
theorem w_best_trader {x_market x_fair x_row : D} {s : S} {Q : D → S → Prop} {E : Xc → S → Prop} (h : W_best_trader x_market x_fair x_row s (fun d t => Q (fin s d t).1 (fin s d t).2) E) : wO (F_best_trader [x_market, x_fair, x_row] s) Q E := by
  have der : VB (γ := Empty) [some x_market, some x_fair, some x_row, none, none, none, none] b_best_trader (fun _ : Unit => List.replicate ([some x_market, some x_fair, some x_row, none, none, none, none] : Mo.Env).length none) (fun x => nomatch x) _ := (vb_set (ve_call (va_cons (ve_var rfl) (va_cons (ve_var rfl) (va_cons (ve_var rfl) va_nil)))) fun q1 => (vb_ifR (f0 := fun x => nomatch x) (ve_tV (ve_op (ve_ca (va_cons (ve_var rfl) va_nil)) ve_c)) (vb_one (vb_ret ve_c)) (vb_set (ve_ca (va_cons (ve_lc (vs_any (ve_var rfl)) (vg_tu (vgs_cons vg_nm fun _ => (vgs_cons vg_nm fun _ => vgs_nil))) (fun _ => ve_tTrue) (fun _ => (ve_var rfl))) va_nil)) fun q9 => (vb_one (vb_ret (ve_sub (ve_lc (vs_any (ve_var rfl)) (vg_tu (vgs_cons vg_nm fun _ => (vgs_cons vg_nm fun _ => vgs_nil))) (fun _ => (ve_tV (ve_op (ve_var rfl) (ve_var rfl)))) (fun _ => (ve_var rfl))) ve_c))))))
  exact vf_run (n := 3) (N := 7) rfl rfl der h
def W_is_even_offer (x_offer : D) (s : S) (R : D → S → Prop) (E : Xc → S → Prop) : Prop :=
  vO (dSb x_offer (.p (.int 2)) s) (fun d1 s2 => vBl (.p (.bl (!isN d1))) fun b3 => vC b3 (fun j4 => vO (dSb x_offer (.p (.int 1)) s2) (fun d5 s6 => vO (dSb d5 (.p (.int 4)) s6) (fun d7 s8 => vO (dSb x_offer (.p (.int 2)) s8) (fun d9 s10 => vO (dSb d9 (.p (.int 4)) s10) (fun d11 s12 => vO (dAdd d7 d11 s12) (fun d13 s14 => vO (dEq d13 (.p (.int 0)) s14) (fun d15 s16 => j4 d15 s16))))))) (fun j4 => j4 (.p (.bl false)) s2) (fun d17 s18 => R d17 s18))
theorem w_is_even_offer {x_offer : D} {s : S} {Q : D → S → Prop} {E : Xc → S → Prop} (h : W_is_even_offer x_offer s (fun d t => Q (fin s d t).1 (fin s d t).2) E) : wO (F_is_even_offer [x_offer] s) Q E := by
  have der : VB (γ := Empty) [some x_offer] b_is_even_offer (fun _ : Unit => List.replicate ([some x_offer] : Mo.Env).length none) (fun x => nomatch x) _ := (vb_one (vb_ret (ve_and (ve_notN (ve_sub (ve_var rfl) ve_c)) (ve_op (ve_op (ve_sub (ve_sub (ve_var rfl) ve_c) ve_c) (ve_sub (ve_sub (ve_var rfl) ve_c) ve_c)) ve_c))))
  exact vf_run (n := 1) (N := 1) rfl rfl der h
def W_is_even (x_market : D) (s : S) (R : D → S → Prop) (E : Xc → S → Prop) : Prop :=
  vO (dSb x_market (.p (.int 2)) s) (fun d9 s10 => vW (wkOf s10 d9) fun k11 => vLc k11 s10 (fun d1 t2 j3 => vC true (fun j4 => wO (F_is_even_offer [d1] t2) (fun d7 s8 => j4 d7 s8) (fun _ _ => False)) (fun _ => j3 none t2) (fun d5 t6 => j3 (some d5) t6)) (fun d12 s13 => vO (bAll [d12] s13) (fun d14 s15 => R d14 s15)))
theorem w_is_even {x_market : D} {s : S} {Q : D → S → Prop} {E : Xc → S → Prop} (h : W_is_even x_market s (fun d t => Q (fin s d t).1 (fin s d t).2) E) : wO (F_is_even [x_market] s) Q E := by
  have der : VB (γ := Empty) [some x_market, none] b_is_even (fun _ : Unit => List.replicate ([some x_market, none] : Mo.Env).length none) (fun x => nomatch x) _ := (vb_one (vb_ret (ve_ca (va_cons (ve_lc (vs_any (ve_sub (ve_var rfl) ve_c)) vg_nm (fun _ => ve_tTrue) (fun _ => (ve_call (va_cons (ve_var rfl) va_nil)))) va_nil))))
  exact vf_run (n := 1) (N := 2) rfl rfl der h
def W_lines_of (x_text : D) (s : S) (R : D → S → Prop) (E : Xc → S → Prop) : Prop :=
  vS x_text (vO (splS x_text (.p (.str "\n")) s) (fun d2 s3 => vI (.p (.int 1)) fun i4 => vO (dSb d2 (.p (.int (-i4))) s3) (fun d5 s6 => vO (dEq d5 (.p (.str "")) s6) (fun d7 s8 => vBl d7 fun b9 => vC b9 (fun j10 => vI (.p (.int 1)) fun i11 => vI (.p (.int (-i11))) fun i12 => vO (dSl d2 none (some i12) s8) (fun d13 s14 => j10 d13 s14)) (fun j10 => j10 d2 s8) (fun d15 s16 => R d15 s16)))))
theorem w_lines_of {x_text : D} {s : S} {Q : D → S → Prop} {E : Xc → S → Prop} (h : W_lines_of x_text s (fun d t => Q (fin s d t).1 (fin s d t).2) E) : wO (F_lines_of [x_text] s) Q E := by
  have der : VB (γ := Empty) [some x_text, none] b_lines_of (fun _ : Unit => List.replicate ([some x_text, none] : Mo.Env).length none) (fun x => nomatch x) _ := (vb_set (ve_m1 (ve_var rfl) ve_c) fun q1 => (vb_one (vb_ret (ve_if (ve_tV (ve_op (ve_sub (ve_var rfl) (ve_neg ve_c)) ve_c)) (ve_sl (ve_var rfl) vp_no (vp_so (ve_neg ve_c))) (ve_var rfl)))))
  exact vf_run (n := 1) (N := 2) rfl rfl der h
def W_limit_line (x_text x_most : D) (s : S) (R : D → S → Prop) (E : Xc → S → Prop) : Prop :=
  wO (F_lines_of [x_text] s) (fun d1 s2 => vH [d1] fun d0 r0 => vN r0 fun _ => vW (wkOf s2 d0) fun k3 => vFor ⟨enF 0 k3.ds, k3.ok⟩ () s2 (fun d4 (y5 : Unit) t6 nx7 bk8 => vT d4 fun l9 => vH l9 fun x_number l10 => vH l10 fun x_line l11 => vN l11 fun _ => vO (dGe x_number x_most t6) (fun d12 s13 => vBl d12 fun b14 => vC b14 (fun j15 => j15 true s13) (fun j15 => vO (bLen [x_line] s13) (fun d16 s17 => vO (dGt d16 (.p K_SIGNS_MOST) s17) (fun d18 s19 => vBl d18 fun b20 => j15 b20 s19))) (fun b21 s22 => if b21 = true then (vO (dAdd x_number (.p (.int 1)) s22) (fun d23 s24 => R d23 s24)) else (nx7 () s22)))) (fun y25 s26 => R (.p .non) s26)) E
theorem w_limit_line {x_text x_most : D} {s : S} {Q : D → S → Prop} {E : Xc → S → Prop} (h : W_limit_line x_text x_most s (fun d t => Q (fin s d t).1 (fin s d t).2) E) : wO (F_limit_line [x_text, x_most] s) Q E := by
  have der : VB (γ := Empty) [some x_text, some x_most, none, none] b_limit_line (fun _ : Unit => List.replicate ([some x_text, some x_most, none, none] : Mo.Env).length none) (fun x => nomatch x) _ := (vb_for (fl' := fun y27 : Unit => [some x_text, some x_most, none, none]) (b0 := ()) (vs_enum (va_cons (ve_call (va_cons (ve_var rfl) va_nil)) va_nil)) (.s (.s (.n (.n .nil)))) (fun _ => (vg_tu (vgs_cons vg_nm fun _ => (vgs_cons vg_nm fun _ => vgs_nil)))) (fun y27 z28 => (vb_one (vb_ifR (f0 := fun x => nomatch x) (ve_tOr (ve_tV (ve_op (ve_var rfl) (ve_var rfl))) (ve_tV (ve_op (ve_ca (va_cons (ve_var rfl) va_nil)) ve_c))) (vb_one (vb_ret (ve_op (ve_var rfl) ve_c))) (vb_end (x := ()) (.s (.s (.n (.n .nil)))))))) fun y27 => (vb_one (vb_ret ve_c)))
  exact vf_run (n := 2) (N := 4) rfl rfl der h
def W_counted_words (x_text : D) (s : S) (R : D → S → Prop) (E : Xc → S → Prop) : Prop :=
  vNL [] s (fun d2 s3 => wO (F_lines_of [x_text] s3) (fun d4 s5 => vH [d4] fun d0 r0 => vN r0 fun _ => vW (wkOf s5 d0) fun k6 => vFor ⟨enF 0 k6.ds, k6.ok⟩ () s5 (fun d7 (y8 : Unit) t9 nx10 bk11 => vT d7 fun l12 => vH l12 fun x_number l13 => vH l13 fun x_line l14 => vN l14 fun _ => vS x_line (vO (splS x_line (.p (.str " ")) t9) (fun d25 s26 => vW (wkOf s26 d25) fun k27 => vLc k27 s26 (fun d16 t17 j18 => vO (dNe d16 (.p (.str "")) t17) (fun d19 s20 => vBl d19 fun b21 => vC b21 (fun j22 => j22 d16 s20) (fun _ => j18 none s20) (fun d23 t24 => j18 (some d23) t24))) (fun d28 s29 => vO (bTup [d28] s29) (fun d30 s31 => vO (bLen [d30] s31) (fun d32 s33 => vO (dGt d32 (.p (.int 0)) s33) (fun d34 s35 => vBl d34 fun b36 => vC b36 (fun j37 => vO (dSb d30 (.p (.int 0)) s35) (fun d38 s39 => vO (dSb d38 (.p (.int 0)) s39) (fun d40 s41 => vO (dNe d40 (.p (.str "#")) s41) (fun d42 s43 => vBl d42 fun b44 => j37 b44 s43)))) (fun j37 => j37 false s35) (fun b45 s46 => vC b45 (fun j47 => isL s46 d2 = true ∧ vO (dAdd x_number (.p (.int 1)) s46) (fun d48 s49 => vO (appL d2 [(mkT [d48, d30])] s49) (fun d50 s51 => j47 () s51))) (fun j47 => j47 () s46) (fun (y52 : Unit) s53 => nx10 () s53))))))))) (fun y55 s56 => R d2 s56)) E)
theorem w_counted_words {x_text : D} {s : S} {Q : D → S → Prop} {E : Xc → S → Prop} (h : W_counted_words x_text s (fun d t => Q (fin s d t).1 (fin s d t).2) E) : wO (F_counted_words [x_text] s) Q E := by
  have der : VB (γ := Empty) [some x_text, none, none, none, none, none] b_counted_words (fun _ : Unit => List.replicate ([some x_text, none, none, none, none, none] : Mo.Env).length none) (fun x => nomatch x) _ := (vb_set (ve_lstC va_nil) fun q1 => (vb_for (fl' := fun y57 : Unit => [some x_text, some q1, none, none, none, none]) (b0 := ()) (vs_enum (va_cons (ve_call (va_cons (ve_var rfl) va_nil)) va_nil)) (.s (.s (.n (.n (.n (.n .nil)))))) (fun _ => (vg_tu (vgs_cons vg_nm fun _ => (vgs_cons vg_nm fun _ => vgs_nil)))) (fun y57 z58 => (vb_set (ve_ca (va_cons (ve_lc (vs_any (ve_m1 (ve_var rfl) ve_c)) vg_nm (fun _ => (ve_tV (ve_op (ve_var rfl) ve_c))) (fun _ => (ve_var rfl))) va_nil)) fun q15 => (vb_one (vb_if (fo' := fun y54 : Unit => [some x_text, some q1, some z58.1, some z58.2.1, some q15, none]) (ve_tAnd (ve_tV (ve_op (ve_ca (va_cons (ve_var rfl) va_nil)) ve_c)) (ve_tV (ve_op (ve_sub (ve_sub (ve_var rfl) ve_c) ve_c) ve_c))) (vb_one (vb_drop (ve_me (ve_var rfl) (va_cons (ve_tup (va_cons (ve_op (ve_var rfl) ve_c) (va_cons (ve_var rfl) va_nil))) va_nil)) (vb_end (x := ()) (.s (.s (.s (.s (.s (.n .nil))))))))) (vb_end (x := ()) (.s (.s (.s (.s (.s (.n .nil))))))) fun y54 => (vb_end (x := ()) (.s (.s (.n (.n (.n (.n .nil))))))))))) fun y57 => (vb_one (vb_ret (ve_var rfl)))))
  exact vf_run (n := 1) (N := 6) rfl rfl der h
def W_counted_lines (x_text x_most : D) (s : S) (R : D → S → Prop) (E : Xc → S → Prop) : Prop :=
  wO (F_limit_line [x_text, x_most] s) (fun d2 s3 => vBl (.p (.bl (!isN d2))) fun b4 => if b4 = true then (E ⟨"BadText", (["line", "word"] : List Str).zip [d2, (.p (.str "limit"))]⟩ s3) else (wO (F_counted_words [x_text] s3) (fun d5 s6 => R d5 s6) E)) E
theorem w_counted_lines {x_text x_most : D} {s : S} {Q : D → S → Prop} {E : Xc → S → Prop} (h : W_counted_lines x_text x_most s (fun d t => Q (fin s d t).1 (fin s d t).2) E) : wO (F_counted_lines [x_text, x_most] s) Q E := by
  have der : VB (γ := Empty) [some x_text, some x_most, none] b_counted_lines (fun _ : Unit => List.replicate ([some x_text, some x_most, none] : Mo.Env).length none) (fun x => nomatch x) _ := (vb_set (ve_call (va_cons (ve_var rfl) (va_cons (ve_var rfl) va_nil))) fun q1 => (vb_ifR (f0 := fun x => nomatch x) (ve_tV (ve_notN (ve_var rfl))) (vb_one (vb_raise (va_cons (ve_var rfl) (va_cons ve_c va_nil)))) (vb_one (vb_ret (ve_call (va_cons (ve_var rfl) va_nil))))))
  exact vf_run (n := 2) (N := 3) rfl rfl der h
def W_written_integer (x_word : D) (s : S) (R : D → S → Prop) (E : Xc → S → Prop) : Prop :=
  vI (.p (.int 1)) fun i2 => vO (dSl x_word none (some i2) s) (fun d3 s4 => vO (dEq d3 (.p (.str "-")) s4) (fun d5 s6 => vBl d5 fun b7 => vC b7 (fun j8 => vI (.p (.int 1)) fun i9 => vO (dSl x_word (some i9) none s6) (fun d10 s11 => j8 d10 s11)) (fun j8 => j8 x_word s6) (fun d12 s13 => vO (dEq d12 (.p (.str "")) s13) (fun d14 s15 => vBl d14 fun b16 => vC b16 (fun j17 => j17 true s15) (fun j17 => vO (bLen [d12] s15) (fun d18 s19 => vO (dGt d18 (.p (.int 4000)) s19) (fun d20 s21 => vBl d20 fun b22 => vC b22 (fun j23 => j23 true s21) (fun j23 => vSg d12 fun k32 => vLc k32 s21 (fun d24 t25 j26 => vC true (fun j27 => vO (dInn false d24 (.p (.str "0123456789")) t25) (fun d30 s31 => j27 d30 s31)) (fun _ => j26 none t25) (fun d28 t29 => j26 (some d28) t29)) (fun d33 s34 => vO (bAll [d33] s34) (fun d35 s36 => vBl d35 fun b37 => j23 (!b37) s36))) (fun b38 s39 => j17 b38 s39)))) (fun b40 s41 => if b40 = true then (R (.p .non) s41) else (vO (bInt2 [x_word] s41) (fun d42 s43 => vO (bStr2 [d42] s43) (fun d44 s45 => vO (dEq d44 x_word s45) (fun d46 s47 => vBl d46 fun b48 => vC b48 (fun j49 => vO (bInt2 [x_word] s47) (fun d50 s51 => j49 d50 s51)) (fun j49 => j49 (.p .non) s47) (fun d52 s53 => R d52 s53))))))))))
theorem w_written_integer {x_word : D} {s : S} {Q : D → S → Prop} {E : Xc → S → Prop} (h : W_written_integer x_word s (fun d t => Q (fin s d t).1 (fin s d t).2) E) : wO (F_written_integer [x_word] s) Q E := by
  have der : VB (γ := Empty) [some x_word, none, none] b_written_integer (fun _ : Unit => List.replicate ([some x_word, none, none] : Mo.Env).length none) (fun x => nomatch x) _ := (vb_set (ve_if (ve_tV (ve_op (ve_sl (ve_var rfl) vp_no (vp_so ve_c)) ve_c)) (ve_sl (ve_var rfl) (vp_so ve_c) vp_no) (ve_var rfl)) fun q1 => (vb_ifR (f0 := fun x => nomatch x) (ve_tOr (ve_tV (ve_op (ve_var rfl) ve_c)) (ve_tOr (ve_tV (ve_op (ve_ca (va_cons (ve_var rfl) va_nil)) ve_c)) (ve_tNot (ve_tV (ve_ca (va_cons (ve_lc (vs_txt (ve_var rfl)) vg_nm (fun _ => ve_tTrue) (fun _ => (ve_in (ve_var rfl) ve_c))) va_nil)))))) (vb_one (vb_ret ve_c)) (vb_one (vb_ret (ve_if (ve_tV (ve_op (ve_ca (va_cons (ve_ca (va_cons (ve_var rfl) va_nil)) va_nil)) (ve_var rfl))) (ve_ca (va_cons (ve_var rfl) va_nil)) ve_c)))))
  exact vf_run (n := 1) (N := 3) rfl rfl der h
def W_written_number (x_word : D) (s : S) (R : D → S → Prop) (E : Xc → S → Prop) : Prop :=
  wO (F_written_integer [x_word] s) (fun d2 s3 => vBl (.p (.bl (!isN d2))) fun b4 => vC b4 (fun j5 => vO (dGe d2 (.p (.int 0)) s3) (fun d6 s7 => vBl d6 fun b8 => j5 b8 s7)) (fun j5 => j5 false s3) (fun b9 s10 => vC b9 (fun j11 => j11 d2 s10) (fun j11 => j11 (.p .non) s10) (fun d12 s13 => R d12 s13))) E
theorem w_written_number {x_word : D} {s : S} {Q : D → S → Prop} {E : Xc → S → Prop} (h : W_written_number x_word s (fun d t => Q (fin s d t).1 (fin s d t).2) E) : wO (F_written_number [x_word] s) Q E := by
  have der : VB (γ := Empty) [some x_word, none] b_written_number (fun _ : Unit => List.replicate ([some x_word, none] : Mo.Env).length none) (fun x => nomatch x) _ := (vb_set (ve_call (va_cons (ve_var rfl) va_nil)) fun q1 => (vb_one (vb_ret (ve_if (ve_tAnd (ve_tV (ve_notN (ve_var rfl))) (ve_tV (ve_op (ve_var rfl) ve_c))) (ve_var rfl) ve_c))))
  exact vf_run (n := 1) (N := 2) rfl rfl der h
def W_read_fair (x_text : D) (s : S) (R : D → S → Prop) (E : Xc → S → Prop) : Prop :=
  vND s (fun d2 s3 => wO (F_counted_lines [x_text, (.p (.int 300))] s3) (fun d4 s5 => vW (wkOf s5 d4) fun k6 => vFor k6 () s5 (fun d7 (y8 : Unit) t9 nx10 bk11 => vT d7 fun l12 => vH l12 fun x_number l13 => vH l13 fun x_words l14 => vN l14 fun _ => vO (bLen [x_words] t9) (fun d16 s17 => vO (dEq d16 (.p (.int 3)) s17) (fun d18 s19 => vBl d18 fun b20 => vC b20 (fun j21 => vO (dSb x_words (.p (.int 2)) s19) (fun d22 s23 => wO (F_written_number [d22] s23) (fun d24 s25 => j21 d24 s25) E)) (fun j21 => j21 (.p .non) s19) (fun d26 s27 => vBl (.p (.bl (isN d26))) fun b28 => if b28 = true then (E ⟨"BadText", (["line", "word"] : List Str).zip [x_number, (.p (.str "words"))]⟩ s27) else (vO (dSb x_words (.p (.int 0)) s27) (fun d29 s30 => vO (dInn false d29 d2 s30) (fun d31 s32 => vBl d31 fun b33 => if b33 = true then (E ⟨"BadText", (["line", "word"] : List Str).zip [x_number, (.p (.str "twice"))]⟩ s32) else (vO (dSb x_words (.p (.int 1)) s32) (fun d34 s35 => vO (dSb x_words (.p (.int 0)) s35) (fun d36 s37 => vP (putA d2 d36 (mkT [d34, d26]) s37) fun s38 => nx10 () s38)))))))))) (fun y39 s40 => vO (bSortD [d2] s40) (fun d51 s52 => vW (wkOf s52 d51) fun k53 => vLc k53 s52 (fun d41 t42 j43 => vC true (fun j44 => vO (dSb d2 d41 t42) (fun d47 s48 => vO (dAdd (mkT [d41]) d47 s48) (fun d49 s50 => j44 d49 s50))) (fun _ => j43 none t42) (fun d45 t46 => j43 (some d45) t46)) (fun d54 s55 => vO (bTup [d54] s55) (fun d56 s57 => R d56 s57))))) E)
theorem w_read_fair {x_text : D} {s : S} {Q : D → S → Prop} {E : Xc → S → Prop} (h : W_read_fair x_text s (fun d t => Q (fin s d t).1 (fin s d t).2) E) : wO (F_read_fair [x_text] s) Q E := by
  have der : VB (γ := Empty) [some x_text, none, none, none, none, none] b_read_fair (fun _ : Unit => List.replicate ([some x_text, none, none, none, none, none] : Mo.Env).length none) (fun x => nomatch x) _ := (vb_set ve_dnew fun q1 => (vb_for (fl' := fun y58 : Unit => [some x_text, some q1, none, none, none, none]) (b0 := ()) (vs_any (ve_callD (va_cons (ve_var rfl) va_nil))) (.s (.s (.n (.n (.n (.n .nil)))))) (fun _ => (vg_tu (vgs_cons vg_nm fun _ => (vgs_cons vg_nm fun _ => vgs_nil)))) (fun y58 z59 => (vb_set (ve_if (ve_tV (ve_op (ve_ca (va_cons (ve_var rfl) va_nil)) ve_c)) (ve_call (va_cons (ve_sub (ve_var rfl) ve_c) va_nil)) ve_c) fun q15 => (vb_ifR (f0 := fun x => nomatch x) (ve_tV (ve_isN (ve_var rfl))) (vb_one (vb_raise (va_cons (ve_var rfl) (va_cons ve_c va_nil)))) (vb_ifR (f0 := fun x => nomatch x) (ve_tIn (ve_sub (ve_var rfl) ve_c) (ve_var rfl)) (vb_one (vb_raise (va_cons (ve_var rfl) (va_cons ve_c va_nil)))) (vb_one (vb_put (ve_tup (va_cons (ve_sub (ve_var rfl) ve_c) (va_cons (ve_var rfl) va_nil))) (ve_var rfl) (ve_sub (ve_var rfl) ve_c) (vb_end (x := ()) (.s (.s (.n (.n (.n (.n .nil))))))))))))) fun y58 => (vb_one (vb_ret (ve_ca (va_cons (ve_lc (vs_any (ve_ca (va_cons (ve_var rfl) va_nil))) vg_nm (fun _ => ve_tTrue) (fun _ => (ve_op (ve_tup (va_cons (ve_var rfl) va_nil)) (ve_sub (ve_var rfl) (ve_var rfl))))) va_nil))))))
  exact vf_run (n := 1) (N := 6) rfl rfl der h
def W_read_row (x_text : D) (s : S) (R : D → S → Prop) (E : Xc → S → Prop) : Prop :=
  vNL [] s (fun d2 s3 => wO (F_counted_lines [x_text, (.p (.int 300))] s3) (fun d4 s5 => vW (wkOf s5 d4) fun k6 => vFor k6 () s5 (fun d7 (y8 : Unit) t9 nx10 bk11 => vT d7 fun l12 => vH l12 fun x_number l13 => vH l13 fun x_words l14 => vN l14 fun _ => vO (bLen [x_words] t9) (fun d15 s16 => vO (dInn true d15 (mkT [(.p (.int 2)), (.p (.int 3))]) s16) (fun d17 s18 => vBl d17 fun b19 => if b19 = true then (E ⟨"BadText", (["line", "word"] : List Str).zip [x_number, (.p (.str "words"))]⟩ s18) else (isL s18 d2 = true ∧ vO (bLen [x_words] s18) (fun d20 s21 => vO (dEq d20 (.p (.int 3)) s21) (fun d22 s23 => vBl d22 fun b24 => vC b24 (fun j25 => j25 x_words s23) (fun j25 => vO (dAdd x_words (mkT [(.p (.str ""))]) s23) (fun d26 s27 => j25 d26 s27)) (fun d28 s29 => vO (appL d2 [d28] s29) (fun d30 s31 => nx10 () s31)))))))) (fun y32 s33 => vO (bTup [d2] s33) (fun d34 s35 => R d34 s35))) E)
theorem w_read_row {x_text : D} {s : S} {Q : D → S → Prop} {E : Xc → S → Prop} (h : W_read_row x_text s (fun d t => Q (fin s d t).1 (fin s d t).2) E) : wO (F_read_row [x_text] s) Q E := by
  have der : VB (γ := Empty) [some x_text, none, none, none] b_read_row (fun _ : Unit => List.replicate ([some x_text, none, none, none] : Mo.Env).length none) (fun x => nomatch x) _ := (vb_set (ve_lstC va_nil) fun q1 => (vb_for (fl' := fun y36 : Unit => [some x_text, some q1, none, none]) (b0 := ()) (vs_any (ve_callD (va_cons (ve_var rfl) va_nil))) (.s (.s (.n (.n .nil)))) (fun _ => (vg_tu (vgs_cons vg_nm fun _ => (vgs_cons vg_nm fun _ => vgs_nil)))) (fun y36 z37 => (vb_ifR (f0 := fun x => nomatch x) (ve_tIn (ve_ca (va_cons (ve_var rfl) va_nil)) (ve_tup (va_cons ve_c (va_cons ve_c va_nil)))) (vb_one (vb_raise (va_cons (ve_var rfl) (va_cons ve_c va_nil)))) (vb_one (vb_drop (ve_me (ve_var rfl) (va_cons (ve_if (ve_tV (ve_op (ve_ca (va_cons (ve_var rfl) va_nil)) ve_c)) (ve_var rfl) (ve_op (ve_var rfl) (ve_tup (va_cons ve_c va_nil)))) va_nil)) (vb_end (x := ()) (.s (.s (.n (.n .nil))))))))) fun y36 => (vb_one (vb_ret (ve_ca (va_cons (ve_var rfl) va_nil))))))
  exact vf_run (n := 1) (N := 4) rfl rfl der h
def W__law_book (x_script : D) (s : S) (R : D → S → Prop) (E : Xc → S → Prop) : Prop :=
  vI (.p (.int 63)) fun i16 => vO (dSl x_script none (some i16) s) (fun d17 s18 => vW (wkOf s18 d17) fun k19 => vLc k19 s18 (fun d2 t3 j4 => vC true (fun j5 => vO (bInt2 [d2] t3) (fun d8 s9 => vO (bAbs [d8] s9) (fun d10 s11 => vO (bInt2 [d10] s11) (fun d12 s13 => vO (dMod d12 (.p (.int 952001)) s13) (fun d14 s15 => j5 d14 s15))))) (fun _ => j4 none t3) (fun d6 t7 => j4 (some d6) t7)) (fun d20 s21 => vO (revQ d20 s21) (fun d22 s23 => vO (bLen [x_script] s23) (fun d24 s25 => vO (dMod d24 (.p (.int 45)) s25) (fun d26 s27 => vO (dAdd d26 (.p (.int 76)) s27) (fun d28 s29 => vO (dAdd d22 (.lst [d28]) s29) (fun d30 s31 => vI (.p (.int 63)) fun i54 => vO (dSl x_script none (some i54) s31) (fun d55 s56 => vW (wkOf s56 d55) fun k57 => vLcC k57 s56 (fun d33 t34 j35 => vO (bInt2 [d33] t34) (fun d36 s37 => vO (bAbs [d36] s37) (fun d38 s39 => vO (dPow (.p (.int 10)) (.p (.int 18)) s39) (fun d40 s41 => vO (dGe d38 d40 s41) (fun d42 s43 => vBl d42 fun b44 => vC b44 (fun j45 => vO (bInt2 [d33] s43) (fun d48 s49 => vO (bAbs [d48] s49) (fun d50 s51 => vO (bInt2 [d50] s51) (fun d52 s53 => j45 d52 s53)))) (fun _ => j35 none s43) (fun d46 t47 => j35 (some d46) t47)))))) (fun d58 s59 => vNL [(.p (.int 2)), (.p (.int 76019)), d30, d58] s59 (fun d60 s61 => R d60 s61))))))))))
theorem w__law_book {x_script : D} {s : S} {Q : D → S → Prop} {E : Xc → S → Prop} (h : W__law_book x_script s (fun d t => Q (fin s d t).1 (fin s d t).2) E) : wO (F__law_book [x_script] s) Q E := by
  have der : VB (γ := Empty) [some x_script, none, none, none] b__law_book (fun _ : Unit => List.replicate ([some x_script, none, none, none] : Mo.Env).length none) (fun x => nomatch x) _ := (vb_set (ve_op (ve_un (ve_lc (vs_any (ve_sl (ve_var rfl) vp_no (vp_so ve_c))) vg_nm (fun _ => ve_tTrue) (fun _ => (ve_op (ve_ca (va_cons (ve_ca (va_cons (ve_ca (va_cons (ve_var rfl) va_nil)) va_nil)) va_nil)) ve_c)))) (ve_lst (va_cons (ve_op (ve_op (ve_ca (va_cons (ve_var rfl) va_nil)) ve_c) ve_c) va_nil))) fun q1 => (vb_set (ve_lcC (vs_any (ve_sl (ve_var rfl) vp_no (vp_so ve_c))) vg_nm (fun _ => (ve_tV (ve_op (ve_ca (va_cons (ve_ca (va_cons (ve_var rfl) va_nil)) va_nil)) (ve_op ve_c ve_c)))) (fun _ => (ve_ca (va_cons (ve_ca (va_cons (ve_ca (va_cons (ve_var rfl) va_nil)) va_nil)) va_nil)))) fun q32 => (vb_one (vb_ret (ve_lstC (va_cons ve_c (va_cons ve_c (va_cons (ve_var rfl) (va_cons (ve_var rfl) va_nil)))))))))
  exact vf_run (n := 1) (N := 4) rfl rfl der h
def W__law_leaf (x_book x_many : D) (s : S) (R : D → S → Prop) (E : Xc → S → Prop) : Prop :=
  vO (dSb x_book (.p (.int 0)) s) (fun d1 s2 => vO (dAdd d1 (.p (.int 1)) s2) (fun d3 s4 => vP (putA x_book (.p (.int 0)) d3 s4) fun s5 => vO (dSb x_book (.p (.int 3)) s5) (fun d6 s7 => vO (bLen [d6] s7) (fun d8 s9 => vO (dGt d8 (.p (.int 0)) s9) (fun d10 s11 => vBl d10 fun b12 => vC b12 (fun j13 => vO (dSb x_book (.p (.int 3)) s11) (fun d14 s15 => vI (.p (.int 1)) fun i16 => vO (dSb d14 (.p (.int (-i16))) s15) (fun d17 s18 => vO (dGt d17 (.p (.int 0)) s18) (fun d19 s20 => vBl d19 fun b21 => j13 b21 s20)))) (fun j13 => j13 false s11) (fun b22 s23 => if b22 = true then (vO (dSb x_book (.p (.int 3)) s23) (fun d25 s26 => vI (.p (.int 1)) fun i27 => vO (dSb d25 (.p (.int (-i27))) s26) (fun d28 s29 => vO (bInt2 [d28] s29) (fun d30 s31 => vO (dAdd x_many (.p (.int 1)) s31) (fun d32 s33 => vO (dDiv d30 d32 s33) (fun d34 s35 => vO (dSb x_book (.p (.int 3)) s35) (fun d36 s37 => vI (.p (.int 1)) fun i38 => vP (putA d36 (.p (.int (-i38))) d34 s37) fun s39 => vO (bInt2 [d30] s39) (fun d40 s41 => vO (dMod d40 x_many s41) (fun d42 s43 => R d42 s43))))))))) else (vO (dSb x_book (.p (.int 1)) s23) (fun d44 s45 => vO (dMul d44 (.p (.int 293)) s45) (fun d46 s47 => vO (dSb x_book (.p (.int 2)) s47) (fun d48 s49 => vO (dSb x_book (.p (.int 0)) s49) (fun d50 s51 => vO (dSb x_book (.p (.int 2)) s51) (fun d52 s53 => vO (bLen [d52] s53) (fun d54 s55 => vO (dMod d50 d54 s55) (fun d56 s57 => vO (dSb d48 d56 s57) (fun d58 s59 => vO (dMul d58 (.p (.int 109)) s59) (fun d60 s61 => vO (dAdd d46 d60 s61) (fun d62 s63 => vO (dSb x_book (.p (.int 0)) s63) (fun d64 s65 => vO (dMul d64 (.p (.int 5003)) s65) (fun d66 s67 => vO (dAdd d62 d66 s67) (fun d68 s69 => vO (bInt2 [d68] s69) (fun d70 s71 => vO (dMod d70 (.p (.int 952001)) s71) (fun d72 s73 => vP (putA x_book (.p (.int 1)) d72 s73) fun s74 => vO (dSb x_book (.p (.int 1)) s74) (fun d75 s76 => vO (dDiv d75 (.p (.int 16)) s76) (fun d77 s78 => vO (bInt2 [d77] s78) (fun d79 s80 => vO (dMod d79 x_many s80) (fun d81 s82 => R d81 s82))))))))))))))))))))))))))
theorem w__law_leaf {x_book x_many : D} {s : S} {Q : D → S → Prop} {E : Xc → S → Prop} (h : W__law_leaf x_book x_many s (fun d t => Q (fin s d t).1 (fin s d t).2) E) : wO (F__law_leaf [x_book, x_many] s) Q E := by
  have der : VB (γ := Empty) [some x_book, some x_many, none] b__law_leaf (fun _ : Unit => List.replicate ([some x_book, some x_many, none] : Mo.Env).length none) (fun x => nomatch x) _ := (vb_put (ve_op (ve_sub (ve_var rfl) ve_c) ve_c) (ve_var rfl) ve_c (vb_ifR (f0 := fun x => nomatch x) (ve_tAnd (ve_tV (ve_op (ve_ca (va_cons (ve_sub (ve_var rfl) ve_c) va_nil)) ve_c)) (ve_tV (ve_op (ve_sub (ve_sub (ve_var rfl) ve_c) (ve_neg ve_c)) ve_c))) (vb_set (ve_ca (va_cons (ve_sub (ve_sub (ve_var rfl) ve_c) (ve_neg ve_c)) va_nil)) fun q24 => (vb_put (ve_op (ve_var rfl) (ve_op (ve_var rfl) ve_c)) (ve_sub (ve_var rfl) ve_c) (ve_neg ve_c) (vb_one (vb_ret (ve_op (ve_ca (va_cons (ve_var rfl) va_nil)) (ve_var rfl)))))) (vb_put (ve_op (ve_ca (va_cons (ve_op (ve_op (ve_op (ve_sub (ve_var rfl) ve_c) ve_c) (ve_op (ve_sub (ve_sub (ve_var rfl) ve_c) (ve_op (ve_sub (ve_var rfl) ve_c) (ve_ca (va_cons (ve_sub (ve_var rfl) ve_c) va_nil)))) ve_c)) (ve_op (ve_sub (ve_var rfl) ve_c) ve_c)) va_nil)) ve_c) (ve_var rfl) ve_c (vb_one (vb_ret (ve_op (ve_ca (va_cons (ve_op (ve_sub (ve_var rfl) ve_c) ve_c) va_nil)) (ve_var rfl)))))))
  exact vf_run (n := 2) (N := 3) rfl rfl der h
def W__law_ear (x_book x_place x_many : D) (s : S) (R : D → S → Prop) (E : Xc → S → Prop) : Prop :=
  vO (dSb x_book (.p (.int 2)) s) (fun d2 s3 => vO (dMul x_place (.p (.int 6)) s3) (fun d4 s5 => vO (dAdd d4 (.p (.int 5)) s5) (fun d6 s7 => vO (dSb x_book (.p (.int 2)) s7) (fun d8 s9 => vO (bLen [d8] s9) (fun d10 s11 => vO (dMod d6 d10 s11) (fun d12 s13 => vO (dSb d2 d12 s13) (fun d14 s15 => vO (dDiv d14 (.p (.int 4)) s15) (fun d16 s17 => vO (dAdd d16 x_place s17) (fun d18 s19 => vO (bInt2 [d18] s19) (fun d20 s21 => vO (dMod d20 (.p (.int 8)) s21) (fun d22 s23 => vO (dEq d22 (.p (.int 1)) s23) (fun d24 s25 => vBl d24 fun b26 => if b26 = true then (vO (dSub x_many (.p (.int 1)) s25) (fun d27 s28 => R d27 s28)) else (vO (dEq d22 (.p (.int 5)) s25) (fun d29 s30 => vBl d29 fun b31 => if b31 = true then (R (.p (.int 0)) s30) else (wO (F__law_leaf [x_book, x_many] s30) (fun d32 s33 => R d32 s33) E)))))))))))))))
theorem w__law_ear {x_book x_place x_many : D} {s : S} {Q : D → S → Prop} {E : Xc → S → Prop} (h : W__law_ear x_book x_place x_many s (fun d t => Q (fin s d t).1 (fin s d t).2) E) : wO (F__law_ear [x_book, x_place, x_many] s) Q E := by
  have der : VB (γ := Empty) [some x_book, some x_place, some x_many, none] b__law_ear (fun _ : Unit => List.replicate ([some x_book, some x_place, some x_many, none] : Mo.Env).length none) (fun x => nomatch x) _ := (vb_set (ve_op (ve_ca (va_cons (ve_op (ve_op (ve_sub (ve_sub (ve_var rfl) ve_c) (ve_op (ve_op (ve_op (ve_var rfl) ve_c) ve_c) (ve_ca (va_cons (ve_sub (ve_var rfl) ve_c) va_nil)))) ve_c) (ve_var rfl)) va_nil)) ve_c) fun q1 => (vb_ifR (f0 := fun x => nomatch x) (ve_tV (ve_op (ve_var rfl) ve_c)) (vb_one (vb_ret (ve_op (ve_var rfl) ve_c))) (vb_ifR (f0 := fun x => nomatch x) (ve_tV (ve_op (ve_var rfl) ve_c)) (vb_one (vb_ret ve_c)) (vb_one (vb_ret (ve_call (va_cons (ve_var rfl) (va_cons (ve_var rfl) va_nil))))))))
  exact vf_run (n := 3) (N := 4) rfl rfl der h
def W__law_market (x_book : D) (s : S) (R : D → S → Prop) (E : Xc → S → Prop) : Prop :=
  wO (F__law_ear [x_book, (.p (.int 1)), (.p (.int 3))] s) (fun d2 s3 => vO (dAdd (.p (.int 1)) d2 s3) (fun d4 s5 => vI d4 fun i6 => vO (dSl (mkT [(.p (.str "gem")), (.p (.str "ink")), (.p (.str "pot"))]) none (some i6) s5) (fun d7 s8 => wO (F__law_ear [x_book, (.p (.int 2)), (.p (.int 3))] s8) (fun d11 s12 => vO (dEq d11 (.p (.int 0)) s12) (fun d13 s14 => vNL [] s14 (fun d15 s16 => vH [d13, d15] fun x_even_18 l17 => vH l17 fun x_offers_20 l19 => vN l19 fun _ => wO (F__law_ear [x_book, (.p (.int 3)), (.p (.int 4))] s16) (fun d21 s22 => vO (dAdd (.p (.int 2)) d21 s22) (fun d23 s24 => vW (rgOf [d23]) fun k25 => vFor k25 () s24 (fun d26 (y27 : Unit) t28 nx29 bk30 => vNL [] t28 (fun d32 s33 => vW (rgOf [(.p (.int 2))]) fun k34 => vFor k34 () s33 (fun d35 (y36 : Unit) t37 nx38 bk39 => wO (F__law_leaf [x_book, (.p (.int 4))] t37) (fun d41 s42 => vO (dSb (mkT [(.p (.int 0)), (.p (.int 0)), (.p (.int 1)), (.p (.int 3))]) d41 s42) (fun d43 s44 => vI (.p (.int 1)) fun i46 => vI (.p (.int 2)) fun i47 => wO (F__law_leaf [x_book, (.p (.int 6))] s44) (fun d48 s49 => vO (dSb (mkT [(.p (.int 0)), (.p (.int 1)), (.p (.int 3)), (.p (.int 5)), (.p (.int (-i46))), (.p (.int (-i47)))]) d48 s49) (fun d50 s51 => isL s51 d32 = true ∧ vO (bLen [d7] s51) (fun d52 s53 => wO (F__law_leaf [x_book, d52] s53) (fun d54 s55 => vO (dSb d7 d54 s55) (fun d56 s57 => vO (dAdd d43 (.p (.int 7)) s57) (fun d58 s59 => wO (F__law_leaf [x_book, (.p (.int 3))] s59) (fun d60 s61 => vO (dSb (mkT [(.p .non), (.p .non), d58]) d60 s61) (fun d62 s63 => vO (bLen [d7] s63) (fun d64 s65 => wO (F__law_leaf [x_book, d64] s65) (fun d66 s67 => vO (dSb d7 d66 s67) (fun d68 s69 => vI d43 fun i70 => vO (bMax2 [d50, (.p (.int (-i70)))] s69) (fun d71 s72 => vNL [d56, d43, d62, d68, d71] s72 (fun d73 s74 => vO (appL d32 [d73] s74) (fun d75 s76 => nx38 () s76))))) E))) E))) E))) E)) E) (fun y77 s78 => vBl x_even_18 fun b79 => vC b79 (fun j80 => vT (mkT [(.p (.int 5)), (.p .non)]) fun l81 => vH l81 fun d82 l83 => vO (dSb d32 (.p (.int 1)) s78) (fun d84 s85 => vP (putL d84 (.p (.int 1)) d82 s85) fun s86 => vH l83 fun d87 l88 => vO (dSb d32 (.p (.int 1)) s86) (fun d89 s90 => vP (putL d89 (.p (.int 2)) d87 s90) fun s91 => vN l88 fun _ => vO (dSb d32 (.p (.int 0)) s91) (fun d92 s93 => vO (dSb d92 (.p (.int 4)) s93) (fun d94 s95 => vI d94 fun i96 => vO (dSb d32 (.p (.int 1)) s95) (fun d97 s98 => vP (putA d97 (.p (.int 4)) (.p (.int (-i96))) s98) fun s99 => j80 () s99)))))) (fun j80 => j80 () s78) (fun (y100 : Unit) s101 => vBl x_even_18 fun b103 => vC (!b103) (fun j104 => wO (F__law_leaf [x_book, (.p (.int 3))] s101) (fun d105 s106 => vO (dEq d105 (.p (.int 0)) s106) (fun d107 s108 => vBl d107 fun b109 => j104 b109 s108)) E) (fun j104 => j104 false s101) (fun b110 s111 => vC b110 (fun j112 => j112 (.p .non) s111) (fun j112 => vO (dSb d32 (.p (.int 1)) s111) (fun d113 s114 => vO (bTup [d113] s114) (fun d115 s116 => j112 d115 s116))) (fun d117 s118 => isL s118 x_offers_20 = true ∧ vO (bStr2 [d26] s118) (fun d119 s120 => vO (dAdd (.p (.str "f")) d119 s120) (fun d121 s122 => vO (dSb d32 (.p (.int 0)) s122) (fun d123 s124 => vO (bTup [d123] s124) (fun d125 s126 => vO (appL x_offers_20 [(mkT [d121, d125, d117])] s126) (fun d127 s128 => nx29 () s128))))))))))) (fun y132 s133 => vO (dSb d7 (.p (.int 0)) s133) (fun d134 s135 => vO (bTup [x_offers_20] s135) (fun d136 s137 => R (mkT [d7, (mkT [(mkT [d134, (.p (.int 2))])]), d136]) s137))))) E))) E))) E
theorem w__law_market {x_book : D} {s : S} {Q : D → S → Prop} {E : Xc → S → Prop} (h : W__law_market x_book s (fun d t => Q (fin s d t).1 (fin s d t).2) E) : wO (F__law_market [x_book] s) Q E := by
  have der : VB (γ := Empty) [some x_book, none, none, none, none, none, none, none, none, none] b__law_market (fun _ : Unit => List.replicate ([some x_book, none, none, none, none, none, none, none, none, none] : Mo.Env).length none) (fun x => nomatch x) _ := (vb_set (ve_sl (ve_tup (va_cons ve_c (va_cons ve_c (va_cons ve_c va_nil)))) vp_no (vp_so (ve_op ve_c (ve_call (va_cons (ve_var rfl) (va_cons ve_c (va_cons ve_c va_nil))))))) fun q1 => (vb_par2 (va_cons (ve_op (ve_call (va_cons (ve_var rfl) (va_cons ve_c (va_cons ve_c va_nil)))) ve_c) (va_cons (ve_lstC va_nil) va_nil)) fun q9 q10 => (vb_for (fl' := fun y138 : Unit => [some x_book, some q1, none, some q9, some q10, none, none, none, none, none]) (b0 := ()) (vs_rng1 (va_cons (ve_op ve_c (ve_call (va_cons (ve_var rfl) (va_cons ve_c (va_cons ve_c va_nil))))) va_nil)) (.s (.s (.n (.s (.s (.n (.n (.n (.n (.n .nil)))))))))) (fun _ => vg_nm) (fun y138 z139 => (vb_set (ve_lstC va_nil) fun q31 => (vb_for (fl' := fun y130 : Unit => [some x_book, some q1, some z139, some q9, some q10, some q31, none, none, none, none]) (b0 := ()) (vs_rng1 (va_cons ve_c va_nil)) (.s (.s (.s (.s (.s (.s (.n (.n (.n (.n .nil)))))))))) (fun _ => vg_nm) (fun y130 z131 => (vb_set (ve_sub (ve_tup (va_cons ve_c (va_cons ve_c (va_cons ve_c (va_cons ve_c va_nil))))) (ve_call (va_cons (ve_var rfl) (va_cons ve_c va_nil)))) fun q40 => (vb_set (ve_sub (ve_tup (va_cons ve_c (va_cons ve_c (va_cons ve_c (va_cons ve_c (va_cons (ve_neg ve_c) (va_cons (ve_neg ve_c) va_nil))))))) (ve_call (va_cons (ve_var rfl) (va_cons ve_c va_nil)))) fun q45 => (vb_one (vb_drop (ve_me (ve_var rfl) (va_cons (ve_lstC (va_cons (ve_sub (ve_var rfl) (ve_call (va_cons (ve_var rfl) (va_cons (ve_ca (va_cons (ve_var rfl) va_nil)) va_nil)))) (va_cons (ve_var rfl) (va_cons (ve_sub (ve_tup (va_cons ve_c (va_cons ve_c (va_cons (ve_op (ve_var rfl) ve_c) va_nil)))) (ve_call (va_cons (ve_var rfl) (va_cons ve_c va_nil)))) (va_cons (ve_sub (ve_var rfl) (ve_call (va_cons (ve_var rfl) (va_cons (ve_ca (va_cons (ve_var rfl) va_nil)) va_nil)))) (va_cons (ve_ca (va_cons (ve_var rfl) (va_cons (ve_neg (ve_var rfl)) va_nil))) va_nil)))))) va_nil)) (vb_end (x := ()) (.s (.s (.s (.s (.s (.s (.n (.n (.n (.n .nil)))))))))))))))) fun y130 => (vb_if (fo' := fun y129 : Unit => [some x_book, some q1, some z139, some q9, some q10, some q31, none, none, none, none]) (ve_tV (ve_var rfl)) (vb_asgB (ve_tup (va_cons ve_c (va_cons ve_c va_nil))) (vt_tus (vts_cons (vt_sub (ve_sub (ve_var rfl) ve_c) ve_c) (vts_cons (vt_sub (ve_sub (ve_var rfl) ve_c) ve_c) vts_nil))) (vb_one (vb_put (ve_neg (ve_sub (ve_sub (ve_var rfl) ve_c) ve_c)) (ve_sub (ve_var rfl) ve_c) ve_c (vb_end (x := ()) (.s (.s (.s (.s (.s (.s (.n (.n (.n (.n .nil)))))))))))))) (vb_end (x := ()) (.s (.s (.s (.s (.s (.s (.n (.n (.n (.n .nil))))))))))) fun y129 => (vb_set (ve_if (ve_tAnd (ve_tNot (ve_tV (ve_var rfl))) (ve_tV (ve_op (ve_call (va_cons (ve_var rfl) (va_cons ve_c va_nil))) ve_c))) ve_c (ve_ca (va_cons (ve_sub (ve_var rfl) ve_c) va_nil))) fun q102 => (vb_one (vb_drop (ve_me (ve_var rfl) (va_cons (ve_tup (va_cons (ve_op ve_c (ve_ca (va_cons (ve_var rfl) va_nil))) (va_cons (ve_ca (va_cons (ve_sub (ve_var rfl) ve_c) va_nil)) (va_cons (ve_var rfl) va_nil)))) va_nil)) (vb_end (x := ()) (.s (.s (.n (.s (.s (.n (.n (.n (.n (.n .nil)))))))))))))))))) fun y138 => (vb_one (vb_ret (ve_tup (va_cons (ve_var rfl) (va_cons (ve_tup (va_cons (ve_tup (va_cons (ve_sub (ve_var rfl) ve_c) (va_cons ve_c va_nil))) va_nil)) (va_cons (ve_ca (va_cons (ve_var rfl) va_nil)) va_nil)))))))))
  exact vf_run (n := 1) (N := 10) rfl rfl der h
def W__law_able (x_side x_holding : D) (s : S) (R : D → S → Prop) (E : Xc → S → Prop) : Prop :=
  vO (dSb x_side (.p (.int 0)) s) (fun d1 s2 => vO (dSb x_holding (.p (.int 0)) s2) (fun d3 s4 => vO (dEq d1 d3 s4) (fun d5 s6 => vBl d5 fun b7 => vC b7 (fun j8 => vO (dSb x_side (.p (.int 1)) s6) (fun d9 s10 => vO (dSb x_holding (.p (.int 1)) s10) (fun d11 s12 => vO (dLe d9 d11 s12) (fun d13 s14 => vBl d13 fun b15 => vC b15 (fun j16 => vO (dSb x_side (.p (.int 2)) s14) (fun d17 s18 => vBl (.p (.bl (isN d17))) fun b19 => vC b19 (fun j20 => j20 (.p (.bl true)) s18) (fun j20 => vO (dSb x_holding (.p (.int 1)) s18) (fun d21 s22 => vO (dSb x_side (.p (.int 2)) s22) (fun d23 s24 => vO (dLe d21 d23 s24) (fun d25 s26 => j20 d25 s26)))) (fun d27 s28 => j16 d27 s28))) (fun j16 => j16 (.p (.bl false)) s14) (fun d29 s30 => j8 d29 s30))))) (fun j8 => j8 (.p (.bl false)) s6) (fun d31 s32 => R d31 s32))))
theorem w__law_able {x_side x_holding : D} {s : S} {Q : D → S → Prop} {E : Xc → S → Prop} (h : W__law_able x_side x_holding s (fun d t => Q (fin s d t).1 (fin s d t).2) E) : wO (F__law_able [x_side, x_holding] s) Q E := by
  have der : VB (γ := Empty) [some x_side, some x_holding] b__law_able (fun _ : Unit => List.replicate ([some x_side, some x_holding] : Mo.Env).length none) (fun x => nomatch x) _ := (vb_one (vb_ret (ve_and (ve_op (ve_sub (ve_var rfl) ve_c) (ve_sub (ve_var rfl) ve_c)) (ve_and (ve_op (ve_sub (ve_var rfl) ve_c) (ve_sub (ve_var rfl) ve_c)) (ve_or (ve_isN (ve_sub (ve_var rfl) ve_c)) (ve_op (ve_sub (ve_var rfl) ve_c) (ve_sub (ve_var rfl) ve_c)))))))
  exact vf_run (n := 2) (N := 2) rfl rfl der h
def W__law_some_deal (x_book x_market x_fair : D) (s : S) (R : D → S → Prop) (E : Xc → S → Prop) : Prop :=
  vO (bSortD [x_fair] s) (fun d2 s3 => vW (rgOf [(.p (.int 10))]) fun k4 => vFor k4 () s3 (fun d5 (y6 : Unit) t7 nx8 bk9 => vO (dSb x_market (.p (.int 2)) t7) (fun d11 s12 => vO (dSb x_market (.p (.int 2)) s12) (fun d13 s14 => vO (bLen [d13] s14) (fun d15 s16 => wO (F__law_leaf [x_book, d15] s16) (fun d17 s18 => vO (dSb d11 d17 s18) (fun d19 s20 => vT d19 fun l21 => vH l21 fun x_name l22 => vH l22 fun x_one l23 => vH l23 fun x_other l24 => vN l24 fun _ => vW (wkOf s20 d2) fun k37 => vLc k37 s20 (fun d26 t27 j28 => vO (dSb x_fair d26 t27) (fun d29 s30 => wO (F__law_able [x_one, d29] s30) (fun d31 s32 => vBl d31 fun b33 => vC b33 (fun j34 => j34 d26 s32) (fun _ => j28 none s32) (fun d35 t36 => j28 (some d35) t36)) (fun _ _ => False))) (fun d38 s39 => vO (bLen [d38] s39) (fun d40 s41 => vO (dGt d40 (.p (.int 0)) s41) (fun d42 s43 => vBl d42 fun b44 => vC b44 (fun j45 => vO (bLen [d38] s43) (fun d47 s48 => wO (F__law_leaf [x_book, d47] s48) (fun d49 s50 => vO (dSb d38 d49 s50) (fun d51 s52 => vBl (.p (.bl (isN x_other))) fun b53 => if b53 = true then (R (mkT [x_name, d51, (.p (.str ""))]) s52) else (vW (wkOf s52 d2) fun k72 => vLc k72 s52 (fun d55 t56 j57 => vO (dNe d55 d51 t56) (fun d58 s59 => vBl d58 fun b60 => vC b60 (fun j61 => vO (dSb x_fair d55 s59) (fun d62 s63 => wO (F__law_able [x_other, d62] s63) (fun d64 s65 => vBl d64 fun b66 => j61 b66 s65) (fun _ _ => False))) (fun j61 => j61 false s59) (fun b67 s68 => vC b67 (fun j69 => j69 d55 s68) (fun _ => j57 none s68) (fun d70 t71 => j57 (some d70) t71)))) (fun d73 s74 => vO (bLen [d73] s74) (fun d75 s76 => vO (dGt d75 (.p (.int 0)) s76) (fun d77 s78 => vBl d77 fun b79 => if b79 = true then (vO (bLen [d73] s78) (fun d80 s81 => wO (F__law_leaf [x_book, d80] s81) (fun d82 s83 => vO (dSb d73 d82 s83) (fun d84 s85 => R (mkT [x_name, d51, d84]) s85)) E)) else (j45 () s78))))))) E)) (fun j45 => j45 () s43) (fun (y86 : Unit) s87 => nx8 () s87)))))) E)))) (fun y89 s90 => R (.p .non) s90))
theorem w__law_some_deal {x_book x_market x_fair : D} {s : S} {Q : D → S → Prop} {E : Xc → S → Prop} (h : W__law_some_deal x_book x_market x_fair s (fun d t => Q (fin s d t).1 (fin s d t).2) E) : wO (F__law_some_deal [x_book, x_market, x_fair] s) Q E := by
  have der : VB (γ := Empty) [some x_book, some x_market, some x_fair, none, none, none, none, none, none, none, none, none] b__law_some_deal (fun _ : Unit => List.replicate ([some x_book, some x_market, some x_fair, none, none, none, none, none, none, none, none, none] : Mo.Env).length none) (fun x => nomatch x) _ := (vb_set (ve_ca (va_cons (ve_var rfl) va_nil)) fun q1 => (vb_for (fl' := fun y91 : Unit => [some x_book, some x_market, some x_fair, some q1, none, none, none, none, none, none, none, none]) (b0 := ()) (vs_rng1 (va_cons ve_c va_nil)) (.s (.s (.s (.s (.n (.n (.n (.n (.n (.n (.n (.n .nil)))))))))))) (fun _ => vg_nm) (fun y91 z92 => (vb_asg (ve_sub (ve_sub (ve_var rfl) ve_c) (ve_call (va_cons (ve_var rfl) (va_cons (ve_ca (va_cons (ve_sub (ve_var rfl) ve_c) va_nil)) va_nil)))) (vg_tu (vgs_cons vg_nm fun _ => (vgs_cons vg_nm fun _ => (vgs_cons vg_nm fun _ => vgs_nil)))) fun q10 => (vb_set (ve_lc (vs_any (ve_var rfl)) vg_nm (fun _ => (ve_tV (ve_call (va_cons (ve_var rfl) (va_cons (ve_sub (ve_var rfl) (ve_var rfl)) va_nil))))) (fun _ => (ve_var rfl))) fun q25 => (vb_one (vb_if (fo' := fun y88 : Unit => [some x_book, some x_market, some x_fair, some q1, some z92, some q25, some q10.1, some q10.2.1, some q10.2.2.1, none, none, none]) (ve_tV (ve_op (ve_ca (va_cons (ve_var rfl) va_nil)) ve_c)) (vb_set (ve_sub (ve_var rfl) (ve_call (va_cons (ve_var rfl) (va_cons (ve_ca (va_cons (ve_var rfl) va_nil)) va_nil)))) fun q46 => (vb_ifR (f0 := fun x => nomatch x) (ve_tV (ve_isN (ve_var rfl))) (vb_one (vb_ret (ve_tup (va_cons (ve_var rfl) (va_cons (ve_var rfl) (va_cons ve_c va_nil)))))) (vb_set (ve_lc (vs_any (ve_var rfl)) vg_nm (fun _ => (ve_tAnd (ve_tV (ve_op (ve_var rfl) (ve_var rfl))) (ve_tV (ve_call (va_cons (ve_var rfl) (va_cons (ve_sub (ve_var rfl) (ve_var rfl)) va_nil)))))) (fun _ => (ve_var rfl))) fun q54 => (vb_one (vb_ifR (f0 := fun x => nomatch x) (ve_tV (ve_op (ve_ca (va_cons (ve_var rfl) va_nil)) ve_c)) (vb_one (vb_ret (ve_tup (va_cons (ve_var rfl) (va_cons (ve_var rfl) (va_cons (ve_sub (ve_var rfl) (ve_call (va_cons (ve_var rfl) (va_cons (ve_ca (va_cons (ve_var rfl) va_nil)) va_nil)))) va_nil)))))) (vb_end (x := ()) (.s (.s (.s (.s (.s (.s (.s (.s (.s (.n (.n (.n .nil)))))))))))))))))) (vb_end (x := ()) (.s (.s (.s (.s (.s (.s (.s (.s (.s (.n (.n (.n .nil))))))))))))) fun y88 => (vb_end (x := ()) (.s (.s (.s (.s (.n (.n (.n (.n (.n (.n (.n (.n .nil)))))))))))))))))) fun y91 => (vb_one (vb_ret ve_c))))
  exact vf_run (n := 3) (N := 12) rfl rfl der h
def W__law_behind (x_market x_fair x_deal : D) (s : S) (R : D → S → Prop) (E : Xc → S → Prop) : Prop :=
  vO (bDict [x_fair] s) (fun d2 s3 => vO (dSb x_market (.p (.int 2)) s3) (fun d4 s5 => vW (wkOf s5 d4) fun k6 => vFor k6 () s5 (fun d7 (y8 : Unit) t9 nx10 bk11 => vT d7 fun l12 => vH l12 fun x_name l13 => vH l13 fun x_one l14 => vH l14 fun x_other l15 => vN l15 fun _ => vO (dSb x_deal (.p (.int 0)) t9) (fun d16 s17 => vO (dEq x_name d16 s17) (fun d18 s19 => vBl d18 fun b20 => vC b20 (fun j21 => vO (dSb x_one (.p (.int 3)) s19) (fun d22 s23 => vO (dSb x_deal (.p (.int 1)) s23) (fun d24 s25 => vO (dSb x_fair d24 s25) (fun d26 s27 => vO (dSb d26 (.p (.int 1)) s27) (fun d28 s29 => vO (dSb x_one (.p (.int 4)) s29) (fun d30 s31 => vO (dAdd d28 d30 s31) (fun d32 s33 => vO (dSb x_deal (.p (.int 1)) s33) (fun d34 s35 => vP (putA d2 d34 (mkT [d22, d32]) s35) fun s36 => vBl (.p (.bl (!isN x_other))) fun b37 => vC b37 (fun j38 => vO (dSb x_other (.p (.int 3)) s36) (fun d39 s40 => vO (dSb x_deal (.p (.int 2)) s40) (fun d41 s42 => vO (dSb x_fair d41 s42) (fun d43 s44 => vO (dSb d43 (.p (.int 1)) s44) (fun d45 s46 => vO (dSb x_other (.p (.int 4)) s46) (fun d47 s48 => vO (dAdd d45 d47 s48) (fun d49 s50 => vO (dSb x_deal (.p (.int 2)) s50) (fun d51 s52 => vP (putA d2 d51 (mkT [d39, d49]) s52) fun s53 => j38 () s53)))))))) (fun j38 => j38 () s36) (fun (y54 : Unit) s55 => j21 () s55))))))))) (fun j21 => j21 () s19) (fun (y57 : Unit) s58 => nx10 () s58)))) (fun y60 s61 => R d2 s61)))
theorem w__law_behind {x_market x_fair x_deal : D} {s : S} {Q : D → S → Prop} {E : Xc → S → Prop} (h : W__law_behind x_market x_fair x_deal s (fun d t => Q (fin s d t).1 (fin s d t).2) E) : wO (F__law_behind [x_market, x_fair, x_deal] s) Q E := by
  have der : VB (γ := Empty) [some x_market, some x_fair, some x_deal, none, none, none, none] b__law_behind (fun _ : Unit => List.replicate ([some x_market, some x_fair, some x_deal, none, none, none, none] : Mo.Env).length none) (fun x => nomatch x) _ := (vb_set (ve_ca (va_cons (ve_var rfl) va_nil)) fun q1 => (vb_for (fl' := fun y62 : Unit => [some x_market, some x_fair, some x_deal, some q1, none, none, none]) (b0 := ()) (vs_any (ve_sub (ve_var rfl) ve_c)) (.s (.s (.s (.s (.n (.n (.n .nil))))))) (fun _ => (vg_tu (vgs_cons vg_nm fun _ => (vgs_cons vg_nm fun _ => (vgs_cons vg_nm fun _ => vgs_nil))))) (fun y62 z63 => (vb_one (vb_if (fo' := fun y59 : Unit => [some x_market, some x_fair, some x_deal, some q1, some z63.1, some z63.2.1, some z63.2.2.1]) (ve_tV (ve_op (ve_var rfl) (ve_sub (ve_var rfl) ve_c))) (vb_put (ve_tup (va_cons (ve_sub (ve_var rfl) ve_c) (va_cons (ve_op (ve_sub (ve_sub (ve_var rfl) (ve_sub (ve_var rfl) ve_c)) ve_c) (ve_sub (ve_var rfl) ve_c)) va_nil))) (ve_var rfl) (ve_sub (ve_var rfl) ve_c) (vb_one (vb_if (fo' := fun y56 : Unit => [some x_market, some x_fair, some x_deal, some q1, some z63.1, some z63.2.1, some z63.2.2.1]) (ve_tV (ve_notN (ve_var rfl))) (vb_one (vb_put (ve_tup (va_cons (ve_sub (ve_var rfl) ve_c) (va_cons (ve_op (ve_sub (ve_sub (ve_var rfl) (ve_sub (ve_var rfl) ve_c)) ve_c) (ve_sub (ve_var rfl) ve_c)) va_nil))) (ve_var rfl) (ve_sub (ve_var rfl) ve_c) (vb_end (x := ()) (.s (.s (.s (.s (.s (.s (.s .nil)))))))))) (vb_end (x := ()) (.s (.s (.s (.s (.s (.s (.s .nil)))))))) fun y56 => (vb_end (x := ()) (.s (.s (.s (.s (.s (.s (.s .nil))))))))))) (vb_end (x := ()) (.s (.s (.s (.s (.s (.s (.s .nil)))))))) fun y59 => (vb_end (x := ()) (.s (.s (.s (.s (.n (.n (.n .nil))))))))))) fun y62 => (vb_one (vb_ret (ve_var rfl)))))
  exact vf_run (n := 3) (N := 7) rfl rfl der h
def W__law_made (x_book x_market x_many x_laps : D) (s : S) (R : D → S → Prop) (E : Xc → S → Prop) : Prop :=
  vND s (fun d2 s3 => vW (rgOf [x_many]) fun k4 => vFor k4 () s3 (fun d5 (y6 : Unit) t7 nx8 bk9 => vO (dSb x_market (.p (.int 0)) t7) (fun d10 s11 => vO (dSb x_market (.p (.int 0)) s11) (fun d12 s13 => vO (bLen [d12] s13) (fun d14 s15 => wO (F__law_leaf [x_book, d14] s15) (fun d16 s17 => vO (dSb d10 d16 s17) (fun d18 s19 => wO (F__law_leaf [x_book, (.p (.int 80))] s19) (fun d20 s21 => wO (F__law_ear [x_book, (.p (.int 4)), (.p (.int 4))] s21) (fun d22 s23 => vO (dSb (mkT [(.p (.int 0)), (.p (.int 3)), (.p (.int 9)), d20]) d22 s23) (fun d24 s25 => vO (bStr2 [d5] s25) (fun d26 s27 => vO (dAdd (.p (.str "t")) d26 s27) (fun d28 s29 => wO (F__law_leaf [x_book, (.p (.int 3))] s29) (fun d30 s31 => vO (dSb (mkT [(.p (.str "")), (.p (.str "x")), (.p (.str "00"))]) d30 s31) (fun d32 s33 => vO (dAdd d28 d32 s33) (fun d34 s35 => vP (putA d2 d34 (mkT [d18, d24]) s35) fun s36 => nx8 () s36))) E)))) E) E)) E)))) (fun y37 s38 => vNL [d2] s38 (fun d41 s42 => vNL [] s42 (fun d43 s44 => vH [d41, d43] fun x_trace_46 l45 => vH l45 fun x_row_48 l47 => vN l47 fun _ => vW (rgOf [x_laps]) fun k49 => vFor k49 () s44 (fun d50 (y51 : Unit) t52 nx53 bk54 => vO (dGt x_many (.p (.int 0)) t52) (fun d56 s57 => vBl d56 fun b58 => vC b58 (fun j59 => vO (bLen [x_trace_46] s57) (fun d60 s61 => vO (dSub d60 (.p (.int 1)) s61) (fun d62 s63 => vO (dSb x_trace_46 d62 s63) (fun d64 s65 => wO (F__law_some_deal [x_book, x_market, d64] s65) (fun d66 s67 => j59 d66 s67) E)))) (fun j59 => j59 (.p .non) s57) (fun d68 s69 => vBl (.p (.bl (!isN d68))) fun b70 => vC b70 (fun j71 => isL s69 x_row_48 = true ∧ vO (appL x_row_48 [d68] s69) (fun d72 s73 => isL s73 x_trace_46 = true ∧ vO (bLen [x_trace_46] s73) (fun d74 s75 => vO (dSub d74 (.p (.int 1)) s75) (fun d76 s77 => vO (dSb x_trace_46 d76 s77) (fun d78 s79 => wO (F__law_behind [x_market, d78, d68] s79) (fun d80 s81 => vO (appL x_trace_46 [d80] s81) (fun d82 s83 => j71 () s83)) E))))) (fun j71 => j71 () s69) (fun (y84 : Unit) s85 => nx53 () s85)))) (fun y87 s88 => vO (bTup [x_row_48] s88) (fun d89 s90 => R (mkT [x_trace_46, d89]) s90))))))
theorem w__law_made {x_book x_market x_many x_laps : D} {s : S} {Q : D → S → Prop} {E : Xc → S → Prop} (h : W__law_made x_book x_market x_many x_laps s (fun d t => Q (fin s d t).1 (fin s d t).2) E) : wO (F__law_made [x_book, x_market, x_many, x_laps] s) Q E := by
  have der : VB (γ := Empty) [some x_book, some x_market, some x_many, some x_laps, none, none, none, none, none] b__law_made (fun _ : Unit => List.replicate ([some x_book, some x_market, some x_many, some x_laps, none, none, none, none, none] : Mo.Env).length none) (fun x => nomatch x) _ := (vb_set ve_dnew fun q1 => (vb_for (fl' := fun y93 : Unit => [some x_book, some x_market, some x_many, some x_laps, some q1, none, none, none, none]) (b0 := ()) (vs_rng1 (va_cons (ve_var rfl) va_nil)) (.s (.s (.s (.s (.s (.n (.n (.n (.n .nil))))))))) (fun _ => vg_nm) (fun y93 z94 => (vb_one (vb_put (ve_tup (va_cons (ve_sub (ve_sub (ve_var rfl) ve_c) (ve_call (va_cons (ve_var rfl) (va_cons (ve_ca (va_cons (ve_sub (ve_var rfl) ve_c) va_nil)) va_nil)))) (va_cons (ve_sub (ve_tup (va_cons ve_c (va_cons ve_c (va_cons ve_c (va_cons (ve_call (va_cons (ve_var rfl) (va_cons ve_c va_nil))) va_nil))))) (ve_call (va_cons (ve_var rfl) (va_cons ve_c (va_cons ve_c va_nil))))) va_nil))) (ve_var rfl) (ve_op (ve_op ve_c (ve_ca (va_cons (ve_var rfl) va_nil))) (ve_sub (ve_tup (va_cons ve_c (va_cons ve_c (va_cons ve_c va_nil)))) (ve_call (va_cons (ve_var rfl) (va_cons ve_c va_nil))))) (vb_end (x := ()) (.s (.s (.s (.s (.s (.n (.n (.n (.n .nil))))))))))))) fun y93 => (vb_par2 (va_cons (ve_lstC (va_cons (ve_var rfl) va_nil)) (va_cons (ve_lstC va_nil) va_nil)) fun q39 q40 => (vb_for (fl' := fun y91 : Unit => [some x_book, some x_market, some x_many, some x_laps, some q1, none, some q39, some q40, none]) (b0 := ()) (vs_rng1 (va_cons (ve_var rfl) va_nil)) (.s (.s (.s (.s (.s (.n (.s (.s (.n .nil))))))))) (fun _ => vg_nm) (fun y91 z92 => (vb_set (ve_if (ve_tV (ve_op (ve_var rfl) ve_c)) (ve_call (va_cons (ve_var rfl) (va_cons (ve_var rfl) (va_cons (ve_sub (ve_var rfl) (ve_op (ve_ca (va_cons (ve_var rfl) va_nil)) ve_c)) va_nil)))) ve_c) fun q55 => (vb_one (vb_if (fo' := fun y86 : Unit => [some x_book, some x_market, some x_many, some x_laps, some q1, some z92, some q39, some q40, some q55]) (ve_tV (ve_notN (ve_var rfl))) (vb_drop (ve_me (ve_var rfl) (va_cons (ve_var rfl) va_nil)) (vb_one (vb_drop (ve_me (ve_var rfl) (va_cons (ve_call (va_cons (ve_var rfl) (va_cons (ve_sub (ve_var rfl) (ve_op (ve_ca (va_cons (ve_var rfl) va_nil)) ve_c)) (va_cons (ve_var rfl) va_nil)))) va_nil)) (vb_end (x := ()) (.s (.s (.s (.s (.s (.s (.s (.s (.s .nil))))))))))))) (vb_end (x := ()) (.s (.s (.s (.s (.s (.s (.s (.s (.s .nil)))))))))) fun y86 => (vb_end (x := ()) (.s (.s (.s (.s (.s (.n (.s (.s (.n .nil)))))))))))))) fun y91 => (vb_one (vb_ret (ve_tup (va_cons (ve_var rfl) (va_cons (ve_ca (va_cons (ve_var rfl) va_nil)) va_nil)))))))))
  exact vf_run (n := 4) (N := 9) rfl rfl der h
def W__law_tuple (x_fair : D) (s : S) (R : D → S → Prop) (E : Xc → S → Prop) : Prop :=
  vO (bSortD [x_fair] s) (fun d11 s12 => vW (wkOf s12 d11) fun k13 => vLc k13 s12 (fun d1 t2 j3 => vC true (fun j4 => vO (dSb x_fair d1 t2) (fun d7 s8 => vO (dAdd (mkT [d1]) d7 s8) (fun d9 s10 => j4 d9 s10))) (fun _ => j3 none t2) (fun d5 t6 => j3 (some d5) t6)) (fun d14 s15 => vO (bTup [d14] s15) (fun d16 s17 => R d16 s17)))
theorem w__law_tuple {x_fair : D} {s : S} {Q : D → S → Prop} {E : Xc → S → Prop} (h : W__law_tuple x_fair s (fun d t => Q (fin s d t).1 (fin s d t).2) E) : wO (F__law_tuple [x_fair] s) Q E := by
  have der : VB (γ := Empty) [some x_fair, none] b__law_tuple (fun _ : Unit => List.replicate ([some x_fair, none] : Mo.Env).length none) (fun x => nomatch x) _ := (vb_one (vb_ret (ve_ca (va_cons (ve_lc (vs_any (ve_ca (va_cons (ve_var rfl) va_nil))) vg_nm (fun _ => ve_tTrue) (fun _ => (ve_op (ve_tup (va_cons (ve_var rfl) va_nil)) (ve_sub (ve_var rfl) (ve_var rfl))))) va_nil))))
  exact vf_run (n := 1) (N := 2) rfl rfl der h
def W__law_text (x_book x_rows : D) (s : S) (R : D → S → Prop) (E : Xc → S → Prop) : Prop :=
  vW (wkOf s x_rows) fun k2 => vFor k2 (.p (.str "")) s (fun d3 (y4 : D) t5 nx6 bk7 => wO (F__law_leaf [x_book, (.p (.int 2))] t5) (fun d9 s10 => vO (dSb (mkT [(.p (.str " ")), (.p (.str ""))]) d9 s10) (fun d11 s12 => vO (dAdd y4 d11 s12) (fun d13 s14 => vS (.p (.str " ")) (vW (wkOf s14 d3) fun k26 => vLc k26 s14 (fun d15 t16 j17 => vO (dNe d15 (.p (.str "")) t16) (fun d18 s19 => vBl d18 fun b20 => vC b20 (fun j21 => vO (bStr2 [d15] s19) (fun d24 s25 => j21 d24 s25)) (fun _ => j17 none s19) (fun d22 t23 => j17 (some d22) t23))) (fun d27 s28 => vO (joiS (.p (.str " ")) d27 s28) (fun d29 s30 => vO (dAdd d13 d29 s30) (fun d31 s32 => wO (F__law_leaf [x_book, (.p (.int 4))] s32) (fun d33 s34 => vO (dSb (mkT [(.p (.str "\n")), (.p (.str "\n")), (.p (.str "\n# end\n")), (.p (.str " \n\n"))]) d33 s34) (fun d35 s36 => vO (dAdd d31 d35 s36) (fun d37 s38 => nx6 d37 s38))) E))))))) E) (fun y39 s40 => R y39 s40)
theorem w__law_text {x_book x_rows : D} {s : S} {Q : D → S → Prop} {E : Xc → S → Prop} (h : W__law_text x_book x_rows s (fun d t => Q (fin s d t).1 (fin s d t).2) E) : wO (F__law_text [x_book, x_rows] s) Q E := by
  have der : VB (γ := Empty) [some x_book, some x_rows, none, none, none] b__law_text (fun _ : Unit => List.replicate ([some x_book, some x_rows, none, none, none] : Mo.Env).length none) (fun x => nomatch x) _ := (vb_set ve_c fun q1 => (vb_for (fl' := fun y41 : D => [some x_book, some x_rows, some y41, none, none]) (b0 := q1) (vs_any (ve_var rfl)) (.s (.s (.s (.n (.n .nil))))) (fun _ => vg_nm) (fun y41 z42 => (vb_one (vb_set (ve_op (ve_op (ve_op (ve_var rfl) (ve_sub (ve_tup (va_cons ve_c (va_cons ve_c va_nil))) (ve_call (va_cons (ve_var rfl) (va_cons ve_c va_nil))))) (ve_m1 ve_c (ve_lc (vs_any (ve_var rfl)) vg_nm (fun _ => (ve_tV (ve_op (ve_var rfl) ve_c))) (fun _ => (ve_ca (va_cons (ve_var rfl) va_nil)))))) (ve_sub (ve_tup (va_cons ve_c (va_cons ve_c (va_cons ve_c (va_cons ve_c va_nil))))) (ve_call (va_cons (ve_var rfl) (va_cons ve_c va_nil))))) fun q8 => (vb_end (x := q8) (.s (.s (.s (.n (.n .nil))))))))) fun y41 => (vb_one (vb_ret (ve_var rfl)))))
  exact vf_run (n := 2) (N := 5) rfl rfl der h
def W__law_same (F0 : List D → S → Out D) (x_told x_due : D) (s : S) (R : D → S → Prop) (E : Xc → S → Prop) : Prop :=
  vTy s x_due fun t1 => vBl (.p (.bl (isB t1 "tuple"))) fun b2 => if b2 = true then (vTy s x_told fun t3 => vBl (.p (.bl (isB t3 "tuple"))) fun b4 => vC b4 (fun j5 => vO (bLen [x_told] s) (fun d6 s7 => vO (bLen [x_due] s7) (fun d8 s9 => vO (dEq d6 d8 s9) (fun d10 s11 => vBl d10 fun b12 => vC b12 (fun j13 => vO (bLen [x_due] s11) (fun d26 s27 => vW (rgOf [d26]) fun k28 => vLc k28 s27 (fun d14 t15 j16 => vC true (fun j17 => vO (dSb x_told d14 t15) (fun d20 s21 => vO (dSb x_due d14 s21) (fun d22 s23 => wO (F0 [d20, d22] s23) (fun d24 s25 => j17 d24 s25) (fun _ _ => False)))) (fun _ => j16 none t15) (fun d18 t19 => j16 (some d18) t19)) (fun d29 s30 => vO (bAll [d29] s30) (fun d31 s32 => j13 d31 s32)))) (fun j13 => j13 (.p (.bl false)) s11) (fun d33 s34 => j5 d33 s34))))) (fun j5 => j5 (.p (.bl false)) s) (fun d35 s36 => R d35 s36)) else (vBl (.p (.bl (isN x_due))) fun b37 => if b37 = true then (R (.p (.bl (isN x_told))) s) else (vTy s x_due fun t38 => vBl (.p (.bl (isB t38 "bool"))) fun b39 => if b39 = true then (vTy s x_told fun t40 => vBl (.p (.bl (isB t40 "bool"))) fun b41 => vC b41 (fun j42 => vO (dEq x_told x_due s) (fun d43 s44 => j42 d43 s44)) (fun j42 => j42 (.p (.bl false)) s) (fun d45 s46 => R d45 s46)) else (vTy s x_due fun t47 => vBl (.p (.bl (isB t47 "str"))) fun b48 => if b48 = true then (vTy s x_told fun t49 => vBl (.p (.bl (isB t49 "str"))) fun b50 => vC b50 (fun j51 => vO (dEq x_told x_due s) (fun d52 s53 => j51 d52 s53)) (fun j51 => j51 (.p (.bl false)) s) (fun d54 s55 => R d54 s55)) else (vTy s x_told fun t56 => vBl (.p (.bl (isB t56 "int"))) fun b57 => vC b57 (fun j58 => vTy s x_told fun t59 => vBl (.p (.bl (isB t59 "bool"))) fun b60 => vBl (.p (.bl (!b60))) fun b61 => vC b61 (fun j62 => vO (dEq x_told x_due s) (fun d63 s64 => j62 d63 s64)) (fun j62 => j62 (.p (.bl false)) s) (fun d65 s66 => j58 d65 s66)) (fun j58 => j58 (.p (.bl false)) s) (fun d67 s68 => R d67 s68)))))
theorem w__law_same (j : Nat) {x_told x_due : D} {s : S} {Q : D → S → Prop} {E : Xc → S → Prop} (h : W__law_same (Fr__law_same j) x_told x_due s (fun d t => Q (fin s d t).1 (fin s d t).2) E) : wO (Fr__law_same (j + 1) [x_told, x_due] s) Q E := by
  have der : VB (γ := Empty) [some x_told, some x_due, none] (b__law_same (Fr__law_same j)) (fun _ : Unit => List.replicate ([some x_told, some x_due, none] : Mo.Env).length none) (fun x => nomatch x) _ := (vb_ifR (f0 := fun x => nomatch x) (ve_tV (ve_isI (ve_var rfl))) (vb_one (vb_ret (ve_and (ve_isI (ve_var rfl)) (ve_and (ve_op (ve_ca (va_cons (ve_var rfl) va_nil)) (ve_ca (va_cons (ve_var rfl) va_nil))) (ve_ca (va_cons (ve_lc (vs_rng1 (va_cons (ve_ca (va_cons (ve_var rfl) va_nil)) va_nil)) vg_nm (fun _ => ve_tTrue) (fun _ => (ve_call (va_cons (ve_sub (ve_var rfl) (ve_var rfl)) (va_cons (ve_sub (ve_var rfl) (ve_var rfl)) va_nil))))) va_nil)))))) (vb_ifR (f0 := fun x => nomatch x) (ve_tV (ve_isN (ve_var rfl))) (vb_one (vb_ret (ve_isN (ve_var rfl)))) (vb_ifR (f0 := fun x => nomatch x) (ve_tV (ve_isI (ve_var rfl))) (vb_one (vb_ret (ve_and (ve_isI (ve_var rfl)) (ve_op (ve_var rfl) (ve_var rfl))))) (vb_ifR (f0 := fun x => nomatch x) (ve_tV (ve_isI (ve_var rfl))) (vb_one (vb_ret (ve_and (ve_isI (ve_var rfl)) (ve_op (ve_var rfl) (ve_var rfl))))) (vb_one (vb_ret (ve_and (ve_isI (ve_var rfl)) (ve_and (ve_not (ve_isI (ve_var rfl))) (ve_op (ve_var rfl) (ve_var rfl))))))))))
  exact vf_run (n := 2) (N := 3) rfl rfl der h
def W__law_asked (x_book x_market x_many x_laps : D) (s : S) (R : D → S → Prop) (E : Xc → S → Prop) : Prop :=
  wO (F__law_made [x_book, x_market, x_many, x_laps] s) (fun d2 s3 => vT d2 fun l4 => vH l4 fun x_trace l5 => vH l5 fun x_row l6 => vN l6 fun _ => vO (dSb x_trace (.p (.int 0)) s3) (fun d8 s9 => vO (bLen [x_trace] s9) (fun d10 s11 => vO (dSub d10 (.p (.int 1)) s11) (fun d12 s13 => vO (dSb x_trace d12 s13) (fun d14 s15 => vT (mkT [d8, d14]) fun l16 => vH l16 fun x_first l17 => vH l17 fun x_last l18 => vN l18 fun _ => wO (F__law_tuple [x_first] s15) (fun d20 s21 => vO (bSortD [x_first] s21) (fun d22 s23 => vT (mkT [d20, d22]) fun l24 => vH l24 fun x_fair l25 => vH l25 fun x_names l26 => vN l26 fun _ => vO (revQ x_fair s23) (fun d27 s28 => wO (F__law_text [x_book, d27] s28) (fun d29 s30 => wO (F_read_fair [d29] s30) (fun d31 s32 => wO (F__law_text [x_book, x_row] s32) (fun d33 s34 => wO (F_read_row [d33] s34) (fun d35 s36 => wO (F__law_same [(mkT [d31, d35]), (mkT [x_fair, x_row])] s36) (fun d37 s38 => vBl d37 fun b39 => if (!b39) = true then (R (.p (.bl false)) s38) else (wO (F_run_row [x_market, x_fair, x_row] s38) (fun d40 s41 => wO (F__law_tuple [x_last] s41) (fun d42 s43 => wO (F__law_same [d40, d42] s43) (fun d44 s45 => vBl d44 fun b46 => if (!b46) = true then (R (.p (.bl false)) s45) else (vI (.p (.int 8)) fun i47 => vO (dSl x_names none (some i47) s45) (fun d48 s49 => vW (wkOf s49 d48) fun k50 => vFor k50 () s49 (fun d51 (y52 : Unit) t53 nx54 bk55 => vO (bLen [x_row] t53) (fun d77 s78 => vW (rgOf [d77]) fun k79 => vLc k79 s78 (fun d57 t58 j59 => vO (dSb x_row d57 t58) (fun d60 s61 => vI (.p (.int 1)) fun i62 => vO (dSl d60 (some i62) none s61) (fun d63 s64 => vO (dInn false d51 d63 s64) (fun d65 s66 => vBl d65 fun b67 => vC b67 (fun j68 => vO (dAdd d57 (.p (.int 1)) s66) (fun d71 s72 => vO (dSb x_trace d71 s72) (fun d73 s74 => vO (dSb d73 d51 s74) (fun d75 s76 => j68 (mkT [d57, d75]) s76)))) (fun _ => j59 none s66) (fun d69 t70 => j59 (some d69) t70))))) (fun d80 s81 => vO (bTup [d80] s81) (fun d82 s83 => wO (F_history_of [x_market, x_fair, x_row, d51] s83) (fun d84 s85 => wO (F__law_same [d84, d82] s85) (fun d86 s87 => vBl d86 fun b88 => if (!b88) = true then (R (.p (.bl false)) s87) else (wO (F__law_tuple [x_last] s87) (fun d89 s90 => wO (F_holding_of [d89, d51] s90) (fun d91 s92 => vO (bLen [d82] s92) (fun d93 s94 => vO (dGt d93 (.p (.int 0)) s94) (fun d95 s96 => vBl d95 fun b97 => vC b97 (fun j98 => vO (bLen [d82] s96) (fun d99 s100 => vO (dSub d99 (.p (.int 1)) s100) (fun d101 s102 => vO (dSb d82 d101 s102) (fun d103 s104 => vO (dSb d103 (.p (.int 1)) s104) (fun d105 s106 => j98 d105 s106))))) (fun j98 => vO (dSb x_first d51 s96) (fun d107 s108 => j98 d107 s108)) (fun d109 s110 => wO (F__law_same [d91, d109] s110) (fun d111 s112 => vBl d111 fun b113 => if (!b113) = true then (R (.p (.bl false)) s112) else (nx54 () s112)) E)))) E) E)) E) E)))) (fun y114 s115 => vW (wkOf s115 x_names) fun k133 => vLc k133 s115 (fun d117 t118 j119 => vC true (fun j120 => vO (dSb x_last d117 t118) (fun d123 s124 => vO (dSb d123 (.p (.int 1)) s124) (fun d125 s126 => vO (dSb x_first d117 s126) (fun d127 s128 => vO (dSb d127 (.p (.int 1)) s128) (fun d129 s130 => vO (dSub d125 d129 s130) (fun d131 s132 => j120 d131 s132)))))) (fun _ => j119 none t118) (fun d121 t122 => j119 (some d121) t122)) (fun d134 s135 => wO (F_gains [x_market, x_fair, x_row] s135) (fun d136 s137 => vO (bLen [x_names] s137) (fun d148 s149 => vW (rgOf [d148]) fun k150 => vLc k150 s149 (fun d138 t139 j140 => vC true (fun j141 => vO (dSb x_names d138 t139) (fun d144 s145 => vO (dSb d134 d138 s145) (fun d146 s147 => j141 (mkT [d144, d146]) s147))) (fun _ => j140 none t139) (fun d142 t143 => j140 (some d142) t143)) (fun d151 s152 => vO (bTup [d151] s152) (fun d153 s154 => wO (F__law_same [d136, d153] s154) (fun d155 s156 => vBl d155 fun b157 => if (!b157) = true then (R (.p (.bl false)) s156) else (vO (bLen [x_names] s156) (fun d159 s160 => vO (dGt d159 (.p (.int 0)) s160) (fun d161 s162 => vBl d161 fun b163 => vC b163 (fun j164 => isL s162 d134 = true ∧ vO (bMaxL [d134] s162) (fun d165 s166 => vO (idxL d134 [d165] s166) (fun d167 s168 => vO (dSb x_names d167 s168) (fun d169 s170 => j164 d169 s170)))) (fun j164 => j164 (.p .non) s162) (fun d171 s172 => wO (F_best_trader [x_market, x_fair, x_row] s172) (fun d173 s174 => wO (F__law_same [d173, d171] s174) (fun d175 s176 => vBl d175 fun b177 => if (!b177) = true then (R (.p (.bl false)) s176) else (vO (dSb x_market (.p (.int 2)) s176) (fun d202 s203 => vW (wkOf s203 d202) fun k204 => vLc k204 s203 (fun d179 t180 j181 => vT d179 fun l182 => vH l182 fun x_name l183 => vH l183 fun x_one l184 => vH l184 fun x_other l185 => vN l185 fun _ => vBl (.p (.bl (isN x_other))) fun b186 => vC b186 (fun j187 => j187 true t180) (fun j187 => vO (dSb x_one (.p (.int 4)) t180) (fun d188 s189 => vO (dSb x_other (.p (.int 4)) s189) (fun d190 s191 => vO (dAdd d188 d190 s191) (fun d192 s193 => vO (dNe d192 (.p (.int 0)) s193) (fun d194 s195 => vBl d194 fun b196 => j187 b196 s195))))) (fun b197 s198 => vC b197 (fun j199 => j199 (.p (.int 1)) s198) (fun _ => j181 none s198) (fun d200 t201 => j181 (some d200) t201))) (fun d205 s206 => vO (bLen [d205] s206) (fun d207 s208 => vO (dEq d207 (.p (.int 0)) s208) (fun d209 s210 => vBl d209 fun b211 => vC b211 (fun j212 => vO (bSum [d134] s210) (fun d213 s214 => vO (dNe d213 (.p (.int 0)) s214) (fun d215 s216 => vBl d215 fun b217 => j212 b217 s216))) (fun j212 => j212 false s210) (fun b218 s219 => if b218 = true then (R (.p (.bl false)) s219) else (vLcG dVals x_last s219 (fun d221 t222 j223 => vC true (fun j224 => vO (dSb d221 (.p (.int 1)) t222) (fun d227 s228 => j224 d227 s228)) (fun _ => j223 none t222) (fun d225 t226 => j223 (some d225) t226)) (fun d229 s230 => vO (bSum [d229] s230) (fun d231 s232 => wO (F_is_even [x_market] s232) (fun d233 s234 => wO (F__law_tuple [x_last] s234) (fun d235 s236 => wO (F_total_money [d235] s236) (fun d237 s238 => wO (F__law_same [(mkT [d233, d237]), (mkT [d209, d231])] s238) (fun d239 s240 => R d239 s240) E) E) E) E)))))))))) E) E))))) E)))) E))))) E) E) E)) E) E) E) E) E))) E))))) E
theorem w__law_asked {x_book x_market x_many x_laps : D} {s : S} {Q : D → S → Prop} {E : Xc → S → Prop} (h : W__law_asked x_book x_market x_many x_laps s (fun d t => Q (fin s d t).1 (fin s d t).2) E) : wO (F__law_asked [x_book, x_market, x_many, x_laps] s) Q E := by
  have der : VB (γ := Empty) [some x_book, some x_market, some x_many, some x_laps, none, none, none, none, none, none, none, none, none, none, none, none, none, none, none, none, none, none] b__law_asked (fun _ : Unit => List.replicate ([some x_book, some x_market, some x_many, some x_laps, none, none, none, none, none, none, none, none, none, none, none, none, none, none, none, none, none, none] : Mo.Env).length none) (fun x => nomatch x) _ := (vb_asg (ve_call (va_cons (ve_var rfl) (va_cons (ve_var rfl) (va_cons (ve_var rfl) (va_cons (ve_var rfl) va_nil))))) (vg_tu (vgs_cons vg_nm fun _ => (vgs_cons vg_nm fun _ => vgs_nil))) fun q1 => (vb_asg (ve_tup (va_cons (ve_sub (ve_var rfl) ve_c) (va_cons (ve_sub (ve_var rfl) (ve_op (ve_ca (va_cons (ve_var rfl) va_nil)) ve_c)) va_nil))) (vg_tu (vgs_cons vg_nm fun _ => (vgs_cons vg_nm fun _ => vgs_nil))) fun q7 => (vb_asg (ve_tup (va_cons (ve_call (va_cons (ve_var rfl) va_nil)) (va_cons (ve_ca (va_cons (ve_var rfl) va_nil)) va_nil))) (vg_tu (vgs_cons vg_nm fun _ => (vgs_cons vg_nm fun _ => vgs_nil))) fun q19 => (vb_ifR (f0 := fun x => nomatch x) (ve_tNot (ve_tV (ve_call (va_cons (ve_tup (va_cons (ve_call (va_cons (ve_call (va_cons (ve_var rfl) (va_cons (ve_un (ve_var rfl)) va_nil))) va_nil)) (va_cons (ve_call (va_cons (ve_call (va_cons (ve_var rfl) (va_cons (ve_var rfl) va_nil))) va_nil)) va_nil))) (va_cons (ve_tup (va_cons (ve_var rfl) (va_cons (ve_var rfl) va_nil))) va_nil))))) (vb_one (vb_ret ve_c)) (vb_ifR (f0 := fun x => nomatch x) (ve_tNot (ve_tV (ve_call (va_cons (ve_call (va_cons (ve_var rfl) (va_cons (ve_var rfl) (va_cons (ve_var rfl) va_nil)))) (va_cons (ve_call (va_cons (ve_var rfl) va_nil)) va_nil))))) (vb_one (vb_ret ve_c)) (vb_for (fl' := fun y241 : Unit => [some x_book, some x_market, some x_many, some x_laps, none, none, none, none, none, some q1.1, some q1.2.1, some q7.1, some q7.2.1, some q19.1, some q19.2.1, none, none, none, none, none, none, none]) (b0 := ()) (vs_any (ve_sl (ve_var rfl) vp_no (vp_so ve_c))) (.s (.s (.s (.s (.n (.n (.n (.n (.n (.s (.s (.s (.s (.s (.s (.n (.n (.n (.n (.n (.n (.n .nil)))))))))))))))))))))) (fun _ => vg_nm) (fun y241 z242 => (vb_set (ve_ca (va_cons (ve_lc (vs_rng1 (va_cons (ve_ca (va_cons (ve_var rfl) va_nil)) va_nil)) vg_nm (fun _ => (ve_tIn (ve_var rfl) (ve_sl (ve_sub (ve_var rfl) (ve_var rfl)) (vp_so ve_c) vp_no))) (fun _ => (ve_tup (va_cons (ve_var rfl) (va_cons (ve_sub (ve_sub (ve_var rfl) (ve_op (ve_var rfl) ve_c)) (ve_var rfl)) va_nil))))) va_nil)) fun q56 => (vb_ifR (f0 := fun x => nomatch x) (ve_tNot (ve_tV (ve_call (va_cons (ve_call (va_cons (ve_var rfl) (va_cons (ve_var rfl) (va_cons (ve_var rfl) (va_cons (ve_var rfl) va_nil))))) (va_cons (ve_var rfl) va_nil))))) (vb_one (vb_ret ve_c)) (vb_one (vb_ifR (f0 := fun x => nomatch x) (ve_tNot (ve_tV (ve_call (va_cons (ve_call (va_cons (ve_call (va_cons (ve_var rfl) va_nil)) (va_cons (ve_var rfl) va_nil))) (va_cons (ve_if (ve_tV (ve_op (ve_ca (va_cons (ve_var rfl) va_nil)) ve_c)) (ve_sub (ve_sub (ve_var rfl) (ve_op (ve_ca (va_cons (ve_var rfl) va_nil)) ve_c)) ve_c) (ve_sub (ve_var rfl) (ve_var rfl))) va_nil))))) (vb_one (vb_ret ve_c)) (vb_end (x := ()) (.s (.s (.s (.s (.n (.n (.n (.n (.n (.s (.s (.s (.s (.s (.s (.n (.n (.n (.n (.n (.n (.n .nil)))))))))))))))))))))))))))) fun y241 => (vb_set (ve_lc (vs_any (ve_var rfl)) vg_nm (fun _ => ve_tTrue) (fun _ => (ve_op (ve_sub (ve_sub (ve_var rfl) (ve_var rfl)) ve_c) (ve_sub (ve_sub (ve_var rfl) (ve_var rfl)) ve_c)))) fun q116 => (vb_ifR (f0 := fun x => nomatch x) (ve_tNot (ve_tV (ve_call (va_cons (ve_call (va_cons (ve_var rfl) (va_cons (ve_var rfl) (va_cons (ve_var rfl) va_nil)))) (va_cons (ve_ca (va_cons (ve_lc (vs_rng1 (va_cons (ve_ca (va_cons (ve_var rfl) va_nil)) va_nil)) vg_nm (fun _ => ve_tTrue) (fun _ => (ve_tup (va_cons (ve_sub (ve_var rfl) (ve_var rfl)) (va_cons (ve_sub (ve_var rfl) (ve_var rfl)) va_nil))))) va_nil)) va_nil))))) (vb_one (vb_ret ve_c)) (vb_set (ve_if (ve_tV (ve_op (ve_ca (va_cons (ve_var rfl) va_nil)) ve_c)) (ve_sub (ve_var rfl) (ve_me (ve_var rfl) (va_cons (ve_ca (va_cons (ve_var rfl) va_nil)) va_nil))) ve_c) fun q158 => (vb_ifR (f0 := fun x => nomatch x) (ve_tNot (ve_tV (ve_call (va_cons (ve_callK (va_cons (ve_var rfl) va_nil) (va_cons (ve_var rfl) (va_cons (ve_var rfl) va_nil))) (va_cons (ve_var rfl) va_nil))))) (vb_one (vb_ret ve_c)) (vb_set (ve_op (ve_ca (va_cons (ve_lc (vs_any (ve_sub (ve_var rfl) ve_c)) (vg_tu (vgs_cons vg_nm fun _ => (vgs_cons vg_nm fun _ => (vgs_cons vg_nm fun _ => vgs_nil)))) (fun _ => (ve_tOr (ve_tV (ve_isN (ve_var rfl))) (ve_tV (ve_op (ve_op (ve_sub (ve_var rfl) ve_c) (ve_sub (ve_var rfl) ve_c)) ve_c)))) (fun _ => ve_c)) va_nil)) ve_c) fun q178 => (vb_ifR (f0 := fun x => nomatch x) (ve_tAnd (ve_tV (ve_var rfl)) (ve_tV (ve_op (ve_ca (va_cons (ve_var rfl) va_nil)) ve_c))) (vb_one (vb_ret ve_c)) (vb_set (ve_ca (va_cons (ve_lcG rfl vg_nm (fun _ => ve_tTrue) (fun _ => (ve_sub (ve_var rfl) ve_c))) va_nil)) fun q220 => (vb_one (vb_ret (ve_call (va_cons (ve_tup (va_cons (ve_call (va_cons (ve_var rfl) va_nil)) (va_cons (ve_call (va_cons (ve_call (va_cons (ve_var rfl) va_nil)) va_nil)) va_nil))) (va_cons (ve_tup (va_cons (ve_var rfl) (va_cons (ve_var rfl) va_nil))) va_nil))))))))))))))))))
  exact vf_run (n := 4) (N := 22) rfl rfl der h
def W_law (x_script : D) (s : S) (R : D → S → Prop) (E : Xc → S → Prop) : Prop :=
  wO (F__law_book [x_script] s) (fun d2 s3 => vW (rgOf [(.p (.int 3))]) fun k4 => vFor k4 () s3 (fun d5 (y6 : Unit) t7 nx8 bk9 => wO (F__law_market [d2] t7) (fun d10 s11 => vO (dAdd (.p (.int 6)) d5 s11) (fun d12 s13 => wO (F__law_ear [d2, d12, (.p (.int 6))] s13) (fun d14 s15 => vO (dAdd (.p (.int 1)) d14 s15) (fun d16 s17 => vO (dAdd (.p (.int 9)) d5 s17) (fun d18 s19 => wO (F__law_ear [d2, d18, (.p (.int 9))] s19) (fun d20 s21 => wO (F__law_asked [d2, d10, d16, d20] s21) (fun d22 s23 => vBl d22 fun b24 => if (!b24) = true then (R (.p (.bl false)) s23) else (nx8 () s23)) E) E))) E)) E) (fun y25 s26 => wO (F__law_market [d2] s26) (fun d28 s29 => wO (F__law_asked [d2, d28, (.p (.int 0)), (.p (.int 0))] s29) (fun d30 s31 => vBl d30 fun b32 => vC (!b32) (fun j33 => j33 true s31) (fun j33 => wO (F__law_asked [d2, d28, (.p (.int 2)), (.p (.int 0))] s31) (fun d34 s35 => vBl d34 fun b36 => j33 (!b36) s35) E) (fun b37 s38 => if b37 = true then (R (.p (.bl false)) s38) else (vI (.p (.int 2)) fun i40 => wO (F_history_of [(mkT [(mkT [(.p (.str "a"))]), (mkT [(mkT [(.p (.str "a")), (.p (.int 0))])]), (mkT [(mkT [(.p (.str "lend")), (mkT [(.p (.str "a")), (.p (.int 0)), (.p .non), (.p (.str "a")), (.p (.int 2))]), (mkT [(.p (.str "a")), (.p (.int 4)), (.p .non), (.p (.str "a")), (.p (.int (-i40)))])]), (mkT [(.p (.str "win")), (mkT [(.p (.str "a")), (.p (.int 0)), (.p .non), (.p (.str "a")), (.p (.int 1))]), (mkT [(.p (.str "a")), (.p (.int 0)), (.p .non), (.p (.str "a")), (.p (.int 1))])])])]), (mkT [(mkT [(.p (.str "ann")), (.p (.str "a")), (.p (.int 0))]), (mkT [(.p (.str "bob")), (.p (.str "a")), (.p (.int 9))]), (mkT [(.p (.str "cy")), (.p (.str "a")), (.p (.int 7))])]), (mkT [(mkT [(.p (.str "lend")), (.p (.str "ann")), (.p (.str "bob"))]), (mkT [(.p (.str "win")), (.p (.str "bob")), (.p (.str "cy"))]), (mkT [(.p (.str "win")), (.p (.str "cy")), (.p (.str "bob"))])]), (.p (.str "bob"))] s38) (fun d44 s45 => wO (F_gains [(mkT [(mkT [(.p (.str "a"))]), (mkT [(mkT [(.p (.str "a")), (.p (.int 0))])]), (mkT [(mkT [(.p (.str "lend")), (mkT [(.p (.str "a")), (.p (.int 0)), (.p .non), (.p (.str "a")), (.p (.int 2))]), (mkT [(.p (.str "a")), (.p (.int 4)), (.p .non), (.p (.str "a")), (.p (.int (-i40)))])]), (mkT [(.p (.str "win")), (mkT [(.p (.str "a")), (.p (.int 0)), (.p .non), (.p (.str "a")), (.p (.int 1))]), (mkT [(.p (.str "a")), (.p (.int 0)), (.p .non), (.p (.str "a")), (.p (.int 1))])])])]), (mkT [(mkT [(.p (.str "ann")), (.p (.str "a")), (.p (.int 0))]), (mkT [(.p (.str "bob")), (.p (.str "a")), (.p (.int 9))]), (mkT [(.p (.str "cy")), (.p (.str "a")), (.p (.int 7))])]), (mkT [(mkT [(.p (.str "lend")), (.p (.str "ann")), (.p (.str "bob"))]), (mkT [(.p (.str "win")), (.p (.str "bob")), (.p (.str "cy"))]), (mkT [(.p (.str "win")), (.p (.str "cy")), (.p (.str "bob"))])])] s45) (fun d46 s47 => wO (F_best_trader [(mkT [(mkT [(.p (.str "a"))]), (mkT [(mkT [(.p (.str "a")), (.p (.int 0))])]), (mkT [(mkT [(.p (.str "lend")), (mkT [(.p (.str "a")), (.p (.int 0)), (.p .non), (.p (.str "a")), (.p (.int 2))]), (mkT [(.p (.str "a")), (.p (.int 4)), (.p .non), (.p (.str "a")), (.p (.int (-i40)))])]), (mkT [(.p (.str "win")), (mkT [(.p (.str "a")), (.p (.int 0)), (.p .non), (.p (.str "a")), (.p (.int 1))]), (mkT [(.p (.str "a")), (.p (.int 0)), (.p .non), (.p (.str "a")), (.p (.int 1))])])])]), (mkT [(mkT [(.p (.str "ann")), (.p (.str "a")), (.p (.int 0))]), (mkT [(.p (.str "bob")), (.p (.str "a")), (.p (.int 9))]), (mkT [(.p (.str "cy")), (.p (.str "a")), (.p (.int 7))])]), (mkT [(mkT [(.p (.str "lend")), (.p (.str "ann")), (.p (.str "bob"))]), (mkT [(.p (.str "win")), (.p (.str "bob")), (.p (.str "cy"))]), (mkT [(.p (.str "win")), (.p (.str "cy")), (.p (.str "bob"))])])] s47) (fun d48 s49 => wO (F__law_same [(mkT [d44, d46, d48]), (mkT [(mkT [(mkT [(.p (.int 0)), (mkT [(.p (.str "a")), (.p (.int 7))])]), (mkT [(.p (.int 1)), (mkT [(.p (.str "a")), (.p (.int 8))])]), (mkT [(.p (.int 2)), (mkT [(.p (.str "a")), (.p (.int 9))])])]), (mkT [(mkT [(.p (.str "ann")), (.p (.int 2))]), (mkT [(.p (.str "bob")), (.p (.int 0))]), (mkT [(.p (.str "cy")), (.p (.int 2))])]), (.p (.str "ann"))])] s49) (fun d50 s51 => vBl d50 fun b52 => if (!b52) = true then (R (.p (.bl false)) s51) else (wO (F__law_leaf [d2, (.p (.int 13))] s51) (fun d53 s54 => vO (dGt d53 (.p (.int 0)) s54) (fun d55 s56 => vBl d55 fun b57 => vC b57 (fun j58 => j58 (.p (.bl true)) s56) (fun j58 => wO (F__law_asked [d2, d28, (.p (.int 30)), (.p (.int 60))] s56) (fun d59 s60 => j58 d59 s60) E) (fun d61 s62 => R d61 s62))) E)) E) E) E) E))) E) E)) E
theorem w_law {x_script : D} {s : S} {Q : D → S → Prop} {E : Xc → S → Prop} (h : W_law x_script s (fun d t => Q (fin s d t).1 (fin s d t).2) E) : wO (F_law [x_script] s) Q E := by
  have der : VB (γ := Empty) [some x_script, none, none, none, none, none, none, none] b_law (fun _ : Unit => List.replicate ([some x_script, none, none, none, none, none, none, none] : Mo.Env).length none) (fun x => nomatch x) _ := (vb_set (ve_call (va_cons (ve_var rfl) va_nil)) fun q1 => (vb_for (fl' := fun y63 : Unit => [some x_script, some q1, none, none, none, none, none, none]) (b0 := ()) (vs_rng1 (va_cons ve_c va_nil)) (.s (.s (.n (.n (.n (.n (.n (.n .nil)))))))) (fun _ => vg_nm) (fun y63 z64 => (vb_one (vb_ifR (f0 := fun x => nomatch x) (ve_tNot (ve_tV (ve_call (va_cons (ve_var rfl) (va_cons (ve_call (va_cons (ve_var rfl) va_nil)) (va_cons (ve_op ve_c (ve_call (va_cons (ve_var rfl) (va_cons (ve_op ve_c (ve_var rfl)) (va_cons ve_c va_nil))))) (va_cons (ve_call (va_cons (ve_var rfl) (va_cons (ve_op ve_c (ve_var rfl)) (va_cons ve_c va_nil)))) va_nil))))))) (vb_one (vb_ret ve_c)) (vb_end (x := ()) (.s (.s (.n (.n (.n (.n (.n (.n .nil)))))))))))) fun y63 => (vb_set (ve_call (va_cons (ve_var rfl) va_nil)) fun q27 => (vb_ifR (f0 := fun x => nomatch x) (ve_tOr (ve_tNot (ve_tV (ve_call (va_cons (ve_var rfl) (va_cons (ve_var rfl) (va_cons ve_c (va_cons ve_c va_nil))))))) (ve_tNot (ve_tV (ve_call (va_cons (ve_var rfl) (va_cons (ve_var rfl) (va_cons ve_c (va_cons ve_c va_nil)))))))) (vb_one (vb_ret ve_c)) (vb_set (ve_tup (va_cons (ve_tup (va_cons ve_c va_nil)) (va_cons (ve_tup (va_cons (ve_tup (va_cons ve_c (va_cons ve_c va_nil))) va_nil)) (va_cons (ve_tup (va_cons (ve_tup (va_cons ve_c (va_cons (ve_tup (va_cons ve_c (va_cons ve_c (va_cons ve_c (va_cons ve_c (va_cons ve_c va_nil)))))) (va_cons (ve_tup (va_cons ve_c (va_cons ve_c (va_cons ve_c (va_cons ve_c (va_cons (ve_neg ve_c) va_nil)))))) va_nil)))) (va_cons (ve_tup (va_cons ve_c (va_cons (ve_tup (va_cons ve_c (va_cons ve_c (va_cons ve_c (va_cons ve_c (va_cons ve_c va_nil)))))) (va_cons (ve_tup (va_cons ve_c (va_cons ve_c (va_cons ve_c (va_cons ve_c (va_cons ve_c va_nil)))))) va_nil)))) va_nil))) va_nil)))) fun q39 => (vb_set (ve_tup (va_cons (ve_tup (va_cons ve_c (va_cons ve_c (va_cons ve_c va_nil)))) (va_cons (ve_tup (va_cons ve_c (va_cons ve_c (va_cons ve_c va_nil)))) (va_cons (ve_tup (va_cons ve_c (va_cons ve_c (va_cons ve_c va_nil)))) va_nil)))) fun q41 => (vb_set (ve_tup (va_cons (ve_tup (va_cons ve_c (va_cons ve_c (va_cons ve_c va_nil)))) (va_cons (ve_tup (va_cons ve_c (va_cons ve_c (va_cons ve_c va_nil)))) (va_cons (ve_tup (va_cons ve_c (va_cons ve_c (va_cons ve_c va_nil)))) va_nil)))) fun q42 => (vb_set (ve_tup (va_cons (ve_call (va_cons (ve_var rfl) (va_cons (ve_var rfl) (va_cons (ve_var rfl) (va_cons ve_c va_nil))))) (va_cons (ve_call (va_cons (ve_var rfl) (va_cons (ve_var rfl) (va_cons (ve_var rfl) va_nil)))) (va_cons (ve_call (va_cons (ve_var rfl) (va_cons (ve_var rfl) (va_cons (ve_var rfl) va_nil)))) va_nil)))) fun q43 => (vb_ifR (f0 := fun x => nomatch x) (ve_tNot (ve_tV (ve_call (va_cons (ve_var rfl) (va_cons (ve_tup (va_cons (ve_tup (va_cons (ve_tup (va_cons ve_c (va_cons (ve_tup (va_cons ve_c (va_cons ve_c va_nil))) va_nil))) (va_cons (ve_tup (va_cons ve_c (va_cons (ve_tup (va_cons ve_c (va_cons ve_c va_nil))) va_nil))) (va_cons (ve_tup (va_cons ve_c (va_cons (ve_tup (va_cons ve_c (va_cons ve_c va_nil))) va_nil))) va_nil)))) (va_cons (ve_tup (va_cons (ve_tup (va_cons ve_c (va_cons ve_c va_nil))) (va_cons (ve_tup (va_cons ve_c (va_cons ve_c va_nil))) (va_cons (ve_tup (va_cons ve_c (va_cons ve_c va_nil))) va_nil)))) (va_cons ve_c va_nil)))) va_nil))))) (vb_one (vb_ret ve_c)) (vb_one (vb_ret (ve_or (ve_op (ve_call (va_cons (ve_var rfl) (va_cons ve_c va_nil))) ve_c) (ve_call (va_cons (ve_var rfl) (va_cons (ve_var rfl) (va_cons ve_c (va_cons ve_c va_nil)))))))))))))))))
  exact vf_run (n := 1) (N := 8) rfl rfl der h
end K76

set_option Elab.async false
set_option linter.all false
set_option maxRecDepth 100000
set_option maxHeartbeats 2000000
namespace K76
open PySem Mo
theorem vLcC_pure {α : Type} {g : α → D} {u : α → Bool} {y : α → D} {k : Wk} {s : S} {bd : D → S → (Option D → S → Prop) → Prop} {Q : D → S → Prop} {l : List α} (hk : k.ds = l.map g) (hok : ∀ acc, k.ok (s ++ [.lst acc]) = true)
    (h : ∀ x ∈ l, ∀ acc (j : Option D → S → Prop), (j (if u x = true then some (y x) else none) (s ++ [.lst acc])) → bd (g x) (s ++ [.lst acc]) j) (hz : l.length ≤ 1000000 - 1) (q : Q (.loc s.length) (s ++ [.lst ((l.filter u).map y)])) : vLcC k s bd Q := by
  refine ⟨fun r acc t => ∃ l1 l2, l = l1 ++ l2 ∧ r = l2.map g ∧ acc = (l1.filter u).map y ∧ t = s ++ [.lst acc], ⟨⟨[], l, rfl, hk, rfl, rfl⟩, ?_, ?_⟩, ?_⟩
  · rintro r acc t ⟨l1, l2, _, _, _, rfl⟩
    exact hok acc
  · rintro d r acc t ⟨l1, l2, e1, e2, e3, rfl⟩
    cases l2 with
    | nil => cases e2
    | cons x l2 =>
      injection e2 with e2 e4
      subst e2
      refine h x (by rw [e1]; simp) acc _ ?_
      have hl : acc.length ≤ l1.length := by rw [e3, List.length_map]; exact List.length_filter_le ..
      cases hu : u x with
      | false => exact ⟨l1 ++ [x], l2, by simp [e1], e4, by simp [e3, hu], rfl⟩
      | true =>
        have := congrArg List.length e1
        simp at this
        exact ⟨by simp, by omega, l1 ++ [x], l2, by simp [e1], e4, by simp [e3, hu], by simp⟩
  · rintro acc t ⟨l1, l2, e1, e2, e3, rfl⟩
    have : l2 = [] := by cases l2 with | nil => rfl | cons _ _ => cases e2
    subst this
    rw [List.append_nil] at e1
    subst e1
    rw [e3]
    exact q
theorem kgm (gi cs : List Int) (a b : Int) (r : S) (g : Int) : dIx (.loc 0) (.p (.int (-1))) (kS (gi ++ [g]) cs a b r) = some (.p (.int g), kS (gi ++ [g]) cs a b r) := by
  have h : (kS (gi ++ [g]) cs a b r)[0]? = some (.lst (gi.map iD ++ [iD g])) := by simp [kS]
  exact dIx_lastL h
theorem kgmp (gi cs : List Int) (a b : Int) (r : S) (g x : Int) : putA (.loc 0) (.p (.int (-1))) (.p (.int x)) (kS (gi ++ [g]) cs a b r) = some (kS (gi ++ [x]) cs a b r) := by
  have h1 : (1 : Int) ≤ (gi.length : Int) + 1 := by omega
  have h2 : (-1 + ((gi.length : Int) + 1)).toNat = gi.length := by omega
  have h3 : ((gi.map iD ++ [iD g]) : List D).set gi.length (iD x) = gi.map iD ++ [iD x] := by
    have := List.set_append_right (s := gi.map iD) (t := [iD g]) gi.length (iD x) (by simp)
    rw [this]; simp
  unfold iD at h3
  simp [putA, putL, kS, L2.ixN, iD, h1, h2, h3]
theorem kpA0 (gs cs : List Int) (a b : Int) (r : S) (x : Int) : putA (.loc 1) (.p (.int 0)) (.p (.int x)) (kS gs cs a b r) = some (kS gs cs x b r) := by unfold putA; rw [kp0]
theorem kpA1 (gs cs : List Int) (a b : Int) (r : S) (x : Int) : putA (.loc 1) (.p (.int 1)) (.p (.int x)) (kS gs cs a b r) = some (kS gs cs a x r) := by unfold putA; rw [kp1]
theorem leaf_w {s r : S} {many : Int} {Q : D → S → Prop} {E : Xc → S → Prop} (hk : Kn s r) (hm : 1 ≤ many) (hm2 : many < 100000000) (h : ∀ v s', Kn s' r → 0 ≤ v → v < many → Q (.p (.int v)) s') : wO (F__law_leaf [.loc 1, .p (.int many)] s) Q E := by
  have hk0 := hk
  obtain ⟨gs, cs, a, b, hc, rfl⟩ := hk
  have hcl : 0 < (cs.length : Int) := by
    have := List.length_pos_iff.mpr hc
    omega
  refine w__law_leaf ?_
  have fz : ∀ v t, Kn t r → 0 ≤ v → v < many → Q (fin (kS gs cs a b r) (.p (.int v)) t).1 (fin (kS gs cs a b r) (.p (.int v)) t).2 := fun v t ht h0 h1 => by
    rw [fin_kn hk0 ht]; exact h v t ht h0 h1
  unfold W__law_leaf
  refine vO_eq (dSb_ix (k0 ..)) ?_
  rw [dAdd_int, vO_some]
  refine vP_eq (kpA0 ..) ?_
  refine vO_eq (dSb_ix (k3 ..)) ?_
  refine vO_eq (kgl ..) ?_
  rw [dGt_int, vO_some, vBl_bl]
  refine vC_join (fun bb t => t = kS gs cs (a + 1) b r ∧ (bb = true → ∃ gi g, gs = gi ++ [g] ∧ 0 < g)) ?_ ?_
  · rintro bb t ⟨rfl, hb⟩
    cases bb with
    | true =>
      obtain ⟨gi, g, rfl, hg⟩ := hb rfl
      rw [if_pos rfl]
      refine vO_eq (dSb_ix (k3 ..)) ?_
      rw [vI_int]
      refine vO_eq (dSb_ix (kgm ..)) ?_
      refine vO_eq (show bInt2 [.p (.int g)] _ = some (.p (.int g), _) from rfl) ?_
      rw [dAdd_int, vO_some]
      refine vO_eq (dDiv_int _ (many + 1) _ (by omega) (by omega)) ?_
      refine vO_eq (dSb_ix (k3 ..)) ?_
      rw [vI_int]
      refine vP_eq (kgmp ..) ?_
      refine vO_eq (show bInt2 [.p (.int g)] _ = some (.p (.int g), _) from rfl) ?_
      refine vO_eq (dMod_int _ many _ (by omega)) ?_
      exact fz _ _ (Kn.mk hc) (Int.emod_nonneg _ (by omega)) (Int.emod_lt_of_pos _ (by omega))
    | false =>
      rw [if_neg (by decide)]
      refine vO_eq (dSb_ix (k1 ..)) ?_
      refine vO_eq (dMul_int _ 293 _ (by decide) (by decide)) ?_
      refine vO_eq (dSb_ix (k2 ..)) ?_
      refine vO_eq (dSb_ix (k0 ..)) ?_
      refine vO_eq (dSb_ix (k2 ..)) ?_
      refine vO_eq (kcl ..) ?_
      refine vO_eq (dMod_int _ _ _ hcl) ?_
      obtain ⟨x, hx⟩ := kci cs (kS gs cs (a + 1) b r) (a + 1) hc
      refine vO_eq (dSb_ix hx) ?_
      refine vO_eq (dMul_int _ 109 _ (by decide) (by decide)) ?_
      rw [dAdd_int, vO_some]
      refine vO_eq (dSb_ix (k0 ..)) ?_
      refine vO_eq (dMul_int _ 5003 _ (by decide) (by decide)) ?_
      rw [dAdd_int, vO_some]
      refine vO_eq (show bInt2 [.p (.int _)] _ = some (.p (.int _), _) from rfl) ?_
      refine vO_eq (dMod_int _ 952001 _ (by decide)) ?_
      refine vP_eq (kpA1 ..) ?_
      refine vO_eq (dSb_ix (k1 ..)) ?_
      refine vO_eq (dDiv_int _ 16 _ (by decide) (by decide)) ?_
      refine vO_eq (show bInt2 [.p (.int _)] _ = some (.p (.int _), _) from rfl) ?_
      refine vO_eq (dMod_int _ many _ (by omega)) ?_
      exact fz _ _ (Kn.mk hc) (Int.emod_nonneg _ (by omega)) (Int.emod_lt_of_pos _ (by omega))
  · intro k' hk'
    refine ⟨fun hb => ?_, fun _ => hk' _ _ ⟨rfl, fun h => absurd h (by decide)⟩⟩
    have hgl : gs ≠ [] := fun e => by subst e; simp at hb
    obtain ⟨gi, g, rfl⟩ : ∃ gi g, gs = gi ++ [g] := ⟨gs.dropLast, gs.getLast hgl, (List.dropLast_concat_getLast hgl).symm⟩
    refine vO_eq (dSb_ix (k3 ..)) ?_
    rw [vI_int]
    refine vO_eq (dSb_ix (kgm ..)) ?_
    rw [dGt_int, vO_some, vBl_bl]
    exact hk' _ _ ⟨rfl, fun h => ⟨gi, g, rfl, of_decide_eq_true h⟩⟩
theorem ear_w {s r : S} {place many : Int} {Q : D → S → Prop} {E : Xc → S → Prop} (hk : Kn s r) (hm : 1 ≤ many) (hm2 : many < 100000000) (h : ∀ v s', Kn s' r → 0 ≤ v → v < many → Q (.p (.int v)) s') : wO (F__law_ear [.loc 1, .p (.int place), .p (.int many)] s) Q E := by
  have hk0 := hk
  obtain ⟨gs, cs, a, b, hc, rfl⟩ := hk
  have hcl : 0 < (cs.length : Int) := by
    have := List.length_pos_iff.mpr hc
    omega
  refine w__law_ear ?_
  have fz : ∀ v t, Kn t r → 0 ≤ v → v < many → Q (fin (kS gs cs a b r) (.p (.int v)) t).1 (fin (kS gs cs a b r) (.p (.int v)) t).2 := fun v t ht h0 h1 => by
    rw [fin_kn hk0 ht]; exact h v t ht h0 h1
  unfold W__law_ear
  refine vO_eq (dSb_ix (k2 ..)) ?_
  refine vO_eq (dMul_int _ 6 _ (by decide) (by decide)) ?_
  rw [dAdd_int, vO_some]
  refine vO_eq (dSb_ix (k2 ..)) ?_
  refine vO_eq (kcl ..) ?_
  refine vO_eq (dMod_int _ _ _ hcl) ?_
  obtain ⟨x, hx⟩ := kci cs (kS gs cs a b r) (place * 6 + 5) hc
  refine vO_eq (dSb_ix hx) ?_
  refine vO_eq (dDiv_int _ 4 _ (by decide) (by decide)) ?_
  rw [dAdd_int, vO_some]
  refine vO_eq (show bInt2 [.p (.int _)] _ = some (.p (.int _), _) from rfl) ?_
  refine vO_eq (dMod_int _ 8 _ (by decide)) ?_
  rw [dEq_int, vO_some, vBl_bl]
  split
  · rw [dSub_int, vO_some]
    exact fz _ _ hk0 (by omega) (by omega)
  · rw [dEq_int, vO_some, vBl_bl]
    split
    · exact fz _ _ hk0 (by omega) (by omega)
    · exact leaf_w hk0 hm hm2 fz
theorem book_w (ns : List Int) (hz : ns.length ≤ 63) {Q : D → S → Prop} {E : Xc → S → Prop} (h : ∀ s', Kn s' [] → Q (.loc 1) s') : wO (F__law_book [.ro (ns.map iD)] []) Q E := by
  refine w__law_book ?_
  unfold W__law_book
  have hsl : ∀ s, dSl (.ro (ns.map iD)) none (some 63) s = some (.lst ((ns.take 63).map iD), s) := fun s => by
    have e := cut_to (ds := ns.map iD) (i := 63) (by decide)
    have e2 : (63 : Int).toNat = 63 := rfl
    rw [e2, ← List.map_take] at e
    simp [dSl, slT, slL, e]
  have hlen : (ns.take 63).length ≤ 63 := List.length_take_le ..
  rw [vI_int]
  refine vO_eq (hsl _) ?_
  refine vW_eq rfl ?_
  refine vLc_pure (g := iD) (u := fun _ => true) (y := fun i => iD (ab i % 952001)) (l := ns.take 63) rfl (fun _ => rfl) (fun i hi acc j hj => ?_) (by omega) (fun _ _ => rfl) ?_
  · rw [vC_true]
    refine vO_eq (show bInt2 [iD i] _ = some (.p (.int i), _) from rfl) ?_
    refine vO_eq (bAbs_i i _) ?_
    refine vO_eq (show bInt2 [.p (.int _)] _ = some (.p (.int _), _) from rfl) ?_
    exact vO_eq (dMod_int _ 952001 _ (by decide)) hj
  · rw [List.filter_eq_self.mpr (fun _ _ => rfl)]
    have hr : ∀ s, revQ (.lst ((ns.take 63).map fun i => iD (ab i % 952001))) s = some (.lst (((ns.take 63).map fun i => ab i % 952001).reverse.map iD), s) := fun s => by
      simp [revQ, Function.comp_def]
    refine vO_eq (hr _) ?_
    generalize hcs : ((ns.take 63).map fun i => ab i % 952001).reverse = cs
    have hcl : cs.length ≤ 63 := by rw [← hcs, List.length_reverse, List.length_map]; exact hlen
    refine vO_eq (show bLen [.ro (ns.map iD)] [] = some (.p (.int ns.length), []) by simp [bLen, altC, lenQ]) ?_
    refine vO_eq (dMod_int _ 45 _ (by decide)) ?_
    rw [dAdd_int, vO_some]
    generalize ((ns.length : Nat) : Int) % 45 + 76 = w
    have hadd : dAdd (.lst (cs.map iD)) (.lst [.p (.int w)]) [] = some (.lst ((cs ++ [w]).map iD), []) := by
      have : cs.length + 1 ≤ sizeLine := by rw [sizeLine_eq]; omega
      simp [dAdd, addI, addS, addT, addL, this, iD]
    refine vO_eq hadd ?_
    rw [vI_int]
    refine vO_eq (hsl _) ?_
    refine vW_eq rfl ?_
    refine vLcC_pure (g := iD) (u := fun i => decide (10 ^ 18 ≤ ab i)) (y := fun i => iD (ab i)) (l := ns.take 63) rfl (fun _ => rfl) (fun i hi acc j hj => ?_) (by omega) ?_
    · refine vO_eq (show bInt2 [iD i] _ = some (.p (.int i), _) from rfl) ?_
      refine vO_eq (bAbs_i i _) ?_
      have hp : ∀ s, dPow (.p (.int 10)) (.p (.int 18)) s = some (.p (.int (10 ^ 18)), s) := fun s => by simp [dPow]
      refine vO_eq (hp _) ?_
      rw [dGe_int, vO_some, vBl_bl]
      by_cases hb : 10 ^ 18 ≤ ab i
      · rw [decide_eq_true hb] at hj ⊢
        rw [vC_true]
        refine vO_eq (show bInt2 [iD i] _ = some (.p (.int i), _) from rfl) ?_
        refine vO_eq (bAbs_i i _) ?_
        exact vO_eq (show bInt2 [.p (.int _)] _ = some (.p (.int _), _) from rfl) hj
      · rw [decide_eq_false hb] at hj ⊢
        exact hj
    · have hS : ∀ G : List Int, fin [] (.loc 1) [.lst (G.map iD), .lst [D.p (.int 2), D.p (.int 76019), .lst ((cs ++ [w]).map iD), .loc 0]] = (.loc 1, kS G (cs ++ [w]) 2 76019 []) := fun G => by
        simp [fin, frzD, frz1, clD, clDs, kS, iD]
      have e : ((ns.take 63).filter fun i => decide (10 ^ 18 ≤ ab i)).map (fun i => iD (ab i)) = (((ns.take 63).filter fun i => decide (10 ^ 18 ≤ ab i)).map ab).map iD := by simp [Function.comp_def]
      rw [e]
      show Q (fin [] (.loc 1) _).1 (fin [] (.loc 1) _).2
      have := hS (((ns.take 63).filter fun i => decide (10 ^ 18 ≤ ab i)).map ab)
      rw [show ([] ++ [C.lst ((((ns.take 63).filter fun i => decide (10 ^ 18 ≤ ab i)).map ab).map iD)] ++ [C.lst [D.p (.int 2), D.p (.int 76019), .lst ((cs ++ [w]).map iD), .loc (([] : S).length)]] : S) = [.lst ((((ns.take 63).filter fun i => decide (10 ^ 18 ≤ ab i)).map ab).map iD), .lst [D.p (.int 2), D.p (.int 76019), .lst ((cs ++ [w]).map iD), .loc 0]] from rfl, this]
      exact h _ (Kn.mk (by simp))
end K76

set_option Elab.async false
set_option linter.all false
set_option maxRecDepth 100000
set_option maxHeartbeats 2000000
namespace K76
open PySem Mo
def lnP (x : Str × List Str) : P := .str x.1
theorem F_lines {W : List (List Str)} {L : List (Str × List Str)} {t : Str} (h : TxR W L t) (hw : W.length ≤ 100) (s : S) : F_lines_of [.p (.str t)] s = .ok (.lst (L.map fun x => D.p (lnP x))) s := by
  have key : wO (F_lines_of [.p (.str t)] s) (fun d s' => d = .lst (L.map fun x => D.p (lnP x)) ∧ s' = s) (fun _ _ => False) := by
    refine w_lines_of ?_
    unfold W_lines_of
    rw [vS_str]
    have hs : splS (.p (.str t)) (.p (.str "\n")) s = some (.lst (strsD (L.map (·.1)) ++ [.p (.str "")]), s) := by
      rw [splS_eq s (by decide +kernel) (by have := h.size; omega), h.split]
      simp [strsD]
    refine vO_eq hs ?_
    rw [vI_int]
    refine vO_eq (dSb_ix dIx_lastV) ?_
    rw [dEq_str, vO_some, vBl_bl]
    have e : decide (("" : Str) = "") = true := by decide
    rw [e, vC_true, vI_int, vI_int]
    refine vO_eq (sl_init _ _ _) ?_
    have e2 : strsD (L.map (·.1)) = L.map fun x => D.p (lnP x) := by simp [strsD, lnP]
    rw [e2]
    have hf := fin_lst (s := s) (clDs_p s.length L lnP)
    show (fin s _ s).1 = _ ∧ (fin s _ s).2 = _
    rw [hf]
    exact ⟨rfl, rfl⟩
  obtain ⟨d, s', e, rfl, rfl⟩ := key.of
  exact e
theorem F_limit {W : List (List Str)} {L : List (Str × List Str)} {t : Str} (h : TxR W L t) (hw : W.length ≤ 100) (s : S) : F_limit_line [.p (.str t), .p (.int 300)] s = .ok (.p .non) s := by
  have key : wO (F_limit_line [.p (.str t), .p (.int 300)] s) (fun d s' => d = .p .non ∧ s' = s) (fun _ _ => False) := by
    refine w_limit_line ?_
    unfold W_limit_line
    refine wO_eq (F_lines h hw s) ?_
    rw [vH_cons, vN_nil]
    refine vW_eq rfl ?_
    refine vFor_list (g := fun x : Nat × (Str × List Str) => D.p (.tup [.int (x.1 : Nat), lnP x.2])) (l := enL 0 L) (by show enF 0 _ = _; exact enF_map L 0) (fun _ _ _ t => s = t) (fun _ => rfl) rfl ?_ ?_
    · rintro pre x suf _ t nx el rfl hnx
      have hm : x ∈ enL 0 L := by rw [el]; simp
      have h1 := enL_lt hm
      have h2 := (h.ln x.2 (enL_mem hm)).len
      have h3 := h.many
      rw [vT_tup, List.map_cons, vH_cons, List.map_cons, vH_cons, List.map_nil, vN_nil]
      rw [dGe_int, vO_some, vBl_bl]
      have e1 : decide ((300 : Int) ≤ (x.1 : Nat)) = false := decide_eq_false (by omega)
      rw [e1, vC_false]
      have e2 : bLen [.p (lnP x.2)] s = some (.p (.int (x.2.1.length : Nat)), s) := by
        have : x.2.1.length ≤ sizeLine := by rw [sizeLine_eq]; omega
        simp [bLen, altC, lenQ, lenS, lnP, this]
      refine vO_eq e2 ?_
      show vO (dGt (.p (.int (x.2.1.length : Nat))) (.p (.int 400)) s) _
      rw [dGt_int, vO_some, vBl_bl]
      have e3 : decide ((400 : Int) < (x.2.1.length : Nat)) = false := decide_eq_false (by omega)
      rw [e3]
      exact hnx () s rfl
    · rintro _ t rfl
      rw [fin_p]
      exact ⟨rfl, rfl⟩
  obtain ⟨d, s', e, rfl, rfl⟩ := key.of
  exact e
def cwP (x : Nat × List Str) : P := .tup [.int (x.1 : Nat), .tup (x.2.map P.str)]
theorem ixS0 {w : Str} {c : Nat} {r : List Nat} (h : TL.tl w = c :: r) (hz : w.length ≤ 1000000) (s : S) : dSb (.p (.str w)) (.p (.int 0)) s = some (.p (.str ⟨#[c]⟩), s) := by
  refine dSb_ix ?_
  have hz' : w.length ≤ sizeLine := by rw [sizeLine_eq]; omega
  have e : L2.atI w.cps.toList 0 = some c := by
    show L2.atI (TL.tl w) ((0 : Nat) : Int) = _
    rw [h]
    exact atI_nat rfl
  simp [dIx, ixT, ixL, ixS, hz', e]
theorem F_words {W : List (List Str)} {L : List (Str × List Str)} {t : Str} (h : TxR W L t) (hw : W.length ≤ 100) (s : S) : ∃ items : List (Nat × List Str), F_counted_words [.p (.str t)] s = .ok (.lst (items.map fun x => D.p (cwP x))) s ∧ items.map (·.2) = W := by
  have key : wO (F_counted_words [.p (.str t)] s) (fun d s' => ∃ items : List (Nat × List Str), d = .lst (items.map fun x => D.p (cwP x)) ∧ s' = s ∧ items.map (·.2) = W) (fun _ _ => False) := by
    refine w_counted_words ?_
    unfold W_counted_words
    show wO (F_lines_of [.p (.str t)] (s ++ [.lst []])) _ _
    refine wO_eq (F_lines h hw _) ?_
    rw [vH_cons, vN_nil]
    refine vW_eq rfl ?_
    refine vFor_list (g := fun x : Nat × (Str × List Str) => D.p (.tup [.int (x.1 : Nat), lnP x.2])) (l := enL 0 L) (by show enF 0 _ = _; exact enF_map L 0)
      (fun pre _ _ t => ∃ items : List (Nat × List Str), t = s ++ [.lst (items.map fun x => D.p (cwP x))] ∧ items.map (·.2) = (pre.map (·.2.2)).filter keep ∧ items.length ≤ pre.length) (fun _ => rfl) ⟨[], rfl, rfl, by simp⟩ ?_ ?_
    · rintro pre x suf _ t nx el ⟨items, rfl, hi, hil⟩ hnx
      have hm : x ∈ enL 0 L := by rw [el]; simp
      have hln := h.ln x.2 (enL_mem hm)
      have h3 := h.many
      have hpl : pre.length ≤ 200 := by
        have e1 := congrArg List.length el
        have e2 := congrArg List.length (enL_snd L 0)
        rw [List.length_map] at e2
        rw [List.length_append] at e1
        omega
      rw [vT_tup, List.map_cons, vH_cons, List.map_cons, vH_cons, List.map_nil, vN_nil]
      show vS (.p (.str x.2.1)) _
      rw [vS_str]
      refine vO_eq (splS_eq _ (by decide +kernel) (by have := hln.len; omega)) ?_
      refine vW_eq rfl ?_
      have hspl : (Txt.split x.2.1 " ").length ≤ 1000000 := by
        have := hln.many
        omega
      refine vLc_pure (g := tD) (u := noE) (y := tD) (l := Txt.split x.2.1 " ") rfl (fun _ => rfl) (fun w hw acc j hj => ?_) hspl (fun _ _ => rfl) ?_
      · show vO (dNe (.p (.str w)) (.p (.str "")) _) _
        rw [dNe_str, vO_some, vBl_bl]
        unfold noE at hj
        cases hb : decide (w = "") with
        | true => rw [hb] at hj; exact hj
        | false => rw [hb] at hj; exact hj
      · rw [hln.sp]
        have hmk : mkT (x.2.2.map tD) = .p (.tup (x.2.2.map P.str)) := by
          rw [show x.2.2.map tD = (x.2.2.map P.str).map D.p by simp [tD]]
          exact mkT_map _
        refine vO_eq (by rw [bTup_lst, hmk]) ?_
        refine vO_eq (bLen_tup _ _) ?_
        rw [dGt_int, vO_some, vBl_bl]
        refine vC_join (fun b t => b = keep x.2.2 ∧ t = s ++ [C.lst (items.map fun x => D.p (cwP x))]) ?_ ?_
        · rintro b t ⟨rfl, rfl⟩
          cases hk : keep x.2.2 with
          | false =>
            rw [vC_false]
            exact hnx () _ ⟨items, rfl, by rw [List.map_append, List.filter_append, hi]; simp [hk], by simp; omega⟩
          | true =>
            rw [vC_true]
            refine ⟨by simp, ?_⟩
            rw [dAdd_int, vO_some]
            refine vO_eq (app_last (by rw [List.length_map]; omega)) ?_
            refine hnx () _ ⟨items ++ [(x.1 + 1, x.2.2)], ?_, by rw [List.map_append, List.map_append, List.filter_append, hi]; simp [hk], by simp; omega⟩
            rw [List.map_append]
            rfl
        · intro k' hk'
          cases hx : x.2.2 with
          | nil => exact ⟨fun h => by simp at h, fun _ => hk' _ _ ⟨by rw [hx]; rfl, rfl⟩⟩
          | cons w r =>
            refine ⟨fun _ => ?_, fun h => by have h' := of_decide_eq_false h; simp at h'⟩
            have hw0 : w ∈ (Txt.split x.2.1 " ").filter noE := by rw [hln.sp, hx]; exact List.mem_cons_self ..
            have hwe : w ≠ "" := by
              have := (List.mem_filter.mp hw0).2
              simpa [noE] using this
            obtain ⟨c, cr, hc⟩ : ∃ c cr, TL.tl w = c :: cr := by
              cases e : TL.tl w with
              | nil => exact absurd (TL.ext_tl (by rw [e, tl_em])) hwe
              | cons c cr => exact ⟨c, cr, rfl⟩
            have hwl : w.length ≤ 1000000 := by have := hln.small w (List.mem_filter.mp hw0).1; omega
            refine vO_eq (dSb_0 _ _ _) ?_
            refine vO_eq (ixS0 hc hwl _) ?_
            rw [dNe_str, vO_some, vBl_bl]
            refine hk' _ _ ⟨?_, rfl⟩
            have hd : ((⟨#[c]⟩ : Str) = "#") ↔ c = 35 := by
              constructor
              · intro e
                have := congrArg TL.tl e
                rw [show TL.tl ("#" : Str) = [35] by decide +kernel] at this
                injection this
              · intro e; subst e; decide +kernel
            rw [hx]
            show (!decide ((⟨#[c]⟩ : Str) = "#")) = !decide ((TL.tl w).head? = some 35)
            rw [hc]
            simp [hd]
    · rintro _ t ⟨items, rfl, hi, _⟩
      have hf := fin_new (s := s) (clDs_p s.length items cwP)
      show ∃ items, (fin s (.loc s.length) _).1 = _ ∧ (fin s (.loc s.length) _).2 = _ ∧ _
      rw [hf]
      refine ⟨items, rfl, rfl, ?_⟩
      rw [hi, show ((enL 0 L).map fun x : Nat × (Str × List Str) => x.2.2) = ((enL 0 L).map (·.2)).map (·.2) by simp, enL_snd, h.ws]
  obtain ⟨d, s', e, items, rfl, rfl, hi⟩ := key.of
  exact ⟨items, e, hi⟩
theorem F_counted {W : List (List Str)} {L : List (Str × List Str)} {t : Str} (h : TxR W L t) (hw : W.length ≤ 100) (s : S) : ∃ items : List (Nat × List Str), F_counted_lines [.p (.str t), .p (.int 300)] s = .ok (.lst (items.map fun x => D.p (cwP x))) s ∧ items.map (·.2) = W := by
  obtain ⟨items, e, hi⟩ := F_words h hw s
  refine ⟨items, ?_, hi⟩
  have key : wO (F_counted_lines [.p (.str t), .p (.int 300)] s) (fun d s' => d = .lst (items.map fun x => D.p (cwP x)) ∧ s' = s) (fun _ _ => False) := by
    refine w_counted_lines ?_
    unfold W_counted_lines
    refine wO_eq (F_limit h hw s) ?_
    rw [vBl_bl]
    show wO _ _ _
    refine wO_eq e ?_
    show (fin s _ s).1 = _ ∧ (fin s _ s).2 = _
    rw [fin_lst (clDs_p s.length items cwP)]
    exact ⟨rfl, rfl⟩
  obtain ⟨d, s', e, rfl, rfl⟩ := key.of
  exact e
def num (n : Nat) : Str := ((toString ((n : Nat) : Int) : String) : Str)
theorem tl_num (n : Nat) : TL.tl (num n) = TL.numL n := TL.tl_num n
theorem bAll_map {α : Type} (l : List α) (b : α → Bool) (s : S) : bAll [.lst (l.map fun x => .p (.bl (b x)))] s = some (.p (.bl (l.all b)), s) := by
  have e : (l.map fun x => D.p (.bl (b x))) = (l.map b).map fun b => D.p (.bl b) := by simp
  rw [e]
  simp only [bAll, viL_lst, Option.bind, allB_map, Option.map_some, List.all_map]
  rfl
theorem dInn_txt (a b : Str) (s : S) : dInn false (.p (.str a)) (.p (.str b)) s = some (.p (.bl (occ a b)), s) := by
  simp [dInn, dInA, alt, inD, inT, inSt, fS]
theorem bInt_num {n : Nat} (h : n < 1000000000) (s : S) : bInt2 [.p (.str (num n))] s = some (.p (.int (n : Nat)), s) := by
  have hl := TL.numL_len (n := n) (k := 9) (by decide) h
  have hz : (num n).length ≤ 640 := by rw [TL.len_tl, tl_num]; omega
  have e := TL.int_num (n := n) (by omega)
  have e' : PySem.intText? (num n) = some (n : Int) := e
  simp [bInt2, altC, bInt, bIntS, hz, e']
theorem bStr_num {n : Nat} (h : n < 1000000000) (s : S) : bStr2 [.p (.int (n : Nat))] s = some (.p (.str (num n)), s) := by
  have h2 : ((n : Nat) : Int).natAbs.log2 < 1920 := by
    have : n.log2 < 30 := by
      by_cases h0 : n = 0
      · subst h0; decide
      · exact (Nat.log2_lt h0).mpr (by omega)
    simp
    omega
  have e : bStr [.p (.int (n : Nat))] s = some (.p (.str (num n)), s) := by
    show (if ((n : Nat) : Int).natAbs.log2 < 1920 then _ else _) = _
    rw [if_pos h2]
    rfl
  simp [bStr2, altC, e]
theorem F_wint {n : Nat} (h : n < 1000000000) (s : S) : F_written_integer [.p (.str (num n))] s = .ok (.p (.int (n : Nat))) s := by
  have key : wO (F_written_integer [.p (.str (num n))] s) (fun d s' => d = .p (.int (n : Nat)) ∧ s' = s) (fun _ _ => False) := by
    refine w_written_integer ?_
    unfold W_written_integer
    have hl := TL.numL_len (n := n) (k := 9) (by decide) h
    have hz : (num n).length ≤ 9 := by rw [TL.len_tl, tl_num]; exact hl
    have hz' : (num n).length ≤ sizeLine := by rw [sizeLine_eq]; omega
    obtain ⟨c, r, hc⟩ : ∃ c r, TL.numL n = c :: r := by
      cases e : TL.numL n with
      | nil => exact absurd e (TL.numL_ne n)
      | cons c r => exact ⟨c, r, rfl⟩
    have hd : ∀ c ∈ TL.numL n, 48 ≤ c ∧ c ≤ 57 := fun c hc => TL.numL_digits n c hc
    rw [vI_int]
    refine vO_eq (show dSl (.p (.str (num n))) none (some 1) s = some (.p (.str (L2.cutS (num n) none (some 1))), s) by simp [dSl, slT, slL, slS, hz']) ?_
    rw [dEq_str, vO_some, vBl_bl]
    have e1 : decide (L2.cutS (num n) none (some 1) = "-") = false := decide_eq_false fun e => by
      have e2 := congrArg TL.tl e
      rw [show TL.tl ("-" : Str) = [45] by decide +kernel] at e2
      have e3 : TL.tl (L2.cutS (num n) none (some 1)) = ((TL.tl (num n)).drop 0).take (min 1 (num n).length - 0) := by
        show (_ : List Nat) = _
        unfold L2.cutS
        rw [TL.tl_mk]
        rfl
      rw [e3, tl_num, TL.len_tl, tl_num, hc] at e2
      simp at e2
      have := hd c (by rw [hc]; simp)
      omega
    rw [e1, vC_false]
    dsimp only
    rw [dEq_str, vO_some, vBl_bl]
    have e2 : decide (num n = "") = false := decide_eq_false fun e => by
      have e2 := congrArg TL.tl e
      rw [tl_num, hc, tl_em] at e2
      cases e2
    rw [e2, vC_false]
    refine vO_eq (show bLen [.p (.str (num n))] s = some (.p (.int ((num n).length : Nat)), s) by simp [bLen, altC, lenQ, lenS, hz']) ?_
    rw [dGt_int, vO_some, vBl_bl]
    have e3 : decide ((4000 : Int) < ((num n).length : Nat)) = false := decide_eq_false (by omega)
    rw [e3, vC_false, vSg_str]
    refine vLc_pure (g := fun c : Nat => D.p (.str ⟨#[c]⟩)) (u := fun _ => true) (y := fun _ => D.p (.bl true)) (l := TL.tl (num n)) rfl (fun _ => rfl) (fun c hc acc j hj => ?_) (by rw [← TL.len_tl]; omega) (fun _ _ => rfl) ?_
    · rw [vC_true]
      refine vO_eq (dInn_txt _ _ _) ?_
      have ho : occ (⟨#[c]⟩ : Str) "0123456789" = true := by
        rw [tl_num] at hc
        have := hd c hc
        have : c = 48 ∨ c = 49 ∨ c = 50 ∨ c = 51 ∨ c = 52 ∨ c = 53 ∨ c = 54 ∨ c = 55 ∨ c = 56 ∨ c = 57 := by omega
        rcases this with e | e | e | e | e | e | e | e | e | e <;> subst e <;> decide +kernel
      rw [ho]
      exact hj
    · rw [List.filter_eq_self.mpr fun _ _ => rfl]
      refine vO_eq (bAll_map _ _ _) ?_
      have e4 : ((TL.tl (num n)).all fun _ => true) = true := List.all_eq_true.mpr fun _ _ => rfl
      rw [e4, vBl_bl]
      show vO (bInt2 _ _) _
      refine vO_eq (bInt_num h _) ?_
      refine vO_eq (bStr_num h _) ?_
      rw [dEq_str, vO_some, vBl_bl]
      rw [decide_eq_true rfl, vC_true]
      refine vO_eq (bInt_num h _) ?_
      show (fin s _ s).1 = _ ∧ (fin s _ s).2 = _
      rw [fin_p]
      exact ⟨rfl, rfl⟩
  obtain ⟨d, s', e, rfl, rfl⟩ := key.of
  exact e
theorem F_wnum {n : Nat} (h : n < 1000000000) (s : S) : F_written_number [.p (.str (num n))] s = .ok (.p (.int (n : Nat))) s := by
  have key : wO (F_written_number [.p (.str (num n))] s) (fun d s' => d = .p (.int (n : Nat)) ∧ s' = s) (fun _ _ => False) := by
    refine w_written_number ?_
    unfold W_written_number
    refine wO_eq (F_wint h s) ?_
    rw [vBl_bl]
    have e1 : (!isN (.p (.int (n : Nat)))) = true := rfl
    rw [e1, vC_true, dGe_int, vO_some, vBl_bl]
    have e2 : decide ((0 : Int) ≤ (n : Nat)) = true := decide_eq_true (by omega)
    rw [e2]
    show (fin s _ s).1 = _ ∧ (fin s _ s).2 = _
    rw [fin_p]
    exact ⟨rfl, rfl⟩
  obtain ⟨d, s', e, rfl, rfl⟩ := key.of
  exact e
end K76

set_option Elab.async false
set_option linter.all false
set_option maxRecDepth 100000
set_option maxHeartbeats 400000
namespace K76
open PySem Mo
/-! what is written of a row -/
def atom : P → Prop
  | .str _ => True
  | .int i => 0 ≤ i ∧ i < 1000000000
  | _ => False
def ats : P → Str
  | .str x => x
  | .int i => num i.toNat
  | _ => ""
def noEP : P → Bool
  | .str x => !decide (x = "")
  | _ => true
def wd (ps : List P) : List Str := (ps.filter noEP).map ats
theorem joinL_sum {S : List Nat} : ∀ {ps : List (List Nat)}, (ps.map List.length).sum ≤ (TL.joinL S ps).length
  | [] => by simp
  | [q] => by simp [TL.joinL]
  | q :: r :: t => by
    have := joinL_sum (S := S) (ps := r :: t)
    show _ ≤ (q ++ (S ++ TL.joinL S (r :: t))).length
    rw [List.length_append, List.length_append, List.map_cons, List.sum_cons]
    omega
theorem joi_ok {ws : List Str} (h : okW ws) (s : S) : joiS (.p (.str " ")) (.lst (ws.map tD)) s = some (.p (.str (Txt.join " " ws)), s) := by
  have h1 := joinL_sum (S := [32]) (ps := ws.map TL.tl)
  have h2 := joinL_many (c := 32) (ps := ws.map TL.tl)
  have h3 := h.len
  have e1 : (ws.map (·.length)).sum = ((ws.map TL.tl).map List.length).sum := by
    rw [List.map_map]
    exact congrArg List.sum (List.map_congr_left fun w _ => TL.len_tl w)
  have e2 : ((" " : Str)).length = 1 := by decide +kernel
  rw [List.length_map] at h2
  have hb : (ws.map (·.length)).sum + ws.length * ((" " : Str)).length ≤ 16777216 := by rw [e2]; omega
  have hv : (viQ s (.lst (ws.map tD))).bind allS = some ws := allS_strs ws
  unfold joiS
  simp only [hv, hb, if_true]
theorem dNe_at {p : P} (h : atom p) (s : S) : dNe (.p p) (.p (.str "")) s = some (.p (.bl (noEP p)), s) := by
  cases p with
  | str x => exact dNe_str x "" s
  | int i => rfl
  | _ => exact h.elim
theorem bStr_at {p : P} (h : atom p) (s : S) : bStr2 [.p p] s = some (.p (.str (ats p)), s) := by
  cases p with
  | str x => rfl
  | int i =>
    obtain ⟨n, rfl⟩ := Int.eq_ofNat_of_zero_le h.1
    exact bStr_num (by have := h.2; omega) s
  | _ => exact h.elim
theorem text_w {rows : List (List P)} {s r : S} {Q : D → S → Prop} {E : Xc → S → Prop} (hk : Kn s r) (ha : ∀ row ∈ rows, ∀ p ∈ row, atom p) (ok : ∀ row ∈ rows, okW (wd row)) (hl : rows.length ≤ 100) (hrl : ∀ row ∈ rows, row.length ≤ 10)
    (h : ∀ T L s', Kn s' r → TxR (rows.map wd) L T → Q (.p (.str T)) s') : wO (F__law_text [.loc 1, .p (.tup (rows.map P.tup))] s) Q E := by
  refine w__law_text ?_
  unfold W__law_text
  refine vW_eq rfl ?_
  refine vFor_list (g := fun row : List P => D.p (.tup row)) (l := rows) (by simp) (fun pre suf b t => ∃ T L, b = .p (.str T) ∧ Kn t r ∧ TxR (pre.map wd) L T) (fun _ => rfl) ⟨"", [], rfl, hk, TxR.nil⟩ ?_ ?_
  · rintro pre row suf b t nx el ⟨T, L, rfl, kt, tx⟩ hnx
    have hm : row ∈ rows := by rw [el]; simp
    have hpl : pre.length ≤ 100 := by have := congrArg List.length el; simp at this; omega
    have hT : T.length ≤ 100000 := by have := tx.size; rw [List.length_map] at this; omega
    refine leaf_w kt (by decide) (by decide) fun v t1 k1 l1 u1 => ?_
    obtain ⟨pre', hp', hix⟩ : ∃ pre' : Str, (pre' = "" ∨ pre' = " ") ∧ ([.str " ", .str ""] : List P)[v.toNat]? = some (.str pre') := by
      have : v.toNat = 0 ∨ v.toNat = 1 := by omega
      rcases this with e | e <;> rw [e]
      · exact ⟨" ", .inr rfl, rfl⟩
      · exact ⟨"", .inl rfl, rfl⟩
    have hpl' : pre'.length ≤ 1 := by rcases hp' with e | e <;> subst e <;> decide +kernel
    refine vO_eq (dSb_ix (dIx_n t1 l1 hix)) ?_
    refine vO_eq (dAdd_str _ _ _ (by omega)) ?_
    rw [vS_str]
    refine vW_eq rfl ?_
    refine vLc_pure (g := D.p) (u := noEP) (y := fun p => tD (ats p)) (l := row) rfl (fun _ => rfl) (fun p hp acc j hj => ?_) (by have := hrl row hm; omega) (fun _ _ => rfl) ?_
    · refine vO_eq (dNe_at (ha row hm p hp) _) ?_
      rw [vBl_bl]
      cases e : noEP p with
      | false => rw [e] at hj; exact hj
      | true => rw [e] at hj; exact vO_eq (bStr_at (ha row hm p hp) _) hj
    · have e : ((row.filter noEP).map fun p => tD (ats p)) = (wd row).map tD := by simp [wd]
      rw [e]
      have okr := ok row hm
      refine vO_eq (joi_ok okr t1) ?_
      have hj := (ln_row okr (pre := "") (post := "") (.inl rfl) (.inl rfl)).2
      have hj' : (Txt.join " " (wd row)).length ≤ 302 := by
        rw [TL.len_tl] at hj ⊢
        rw [TL.tl_append, TL.tl_append, tl_em] at hj
        simpa using hj
      have hl1 : (T ++ pre').length ≤ 100001 := by
        rw [TL.len_tl, TL.tl_append, List.length_append, ← TL.len_tl, ← TL.len_tl]; omega
      refine vO_eq (dAdd_str _ _ _ (by omega)) ?_
      refine leaf_w k1 (by decide) (by decide) fun v2 t2 k2 l2 u2 => ?_
      obtain ⟨suf', hs', hix2⟩ : ∃ suf' : Str, (suf' = "\n" ∨ suf' = "\n# end\n" ∨ suf' = " \n\n") ∧ ([.str "\n", .str "\n", .str "\n# end\n", .str " \n\n"] : List P)[v2.toNat]? = some (.str suf') := by
        have : v2.toNat = 0 ∨ v2.toNat = 1 ∨ v2.toNat = 2 ∨ v2.toNat = 3 := by omega
        rcases this with e | e | e | e <;> rw [e]
        · exact ⟨"\n", .inl rfl, rfl⟩
        · exact ⟨"\n", .inl rfl, rfl⟩
        · exact ⟨"\n# end\n", .inr (.inl rfl), rfl⟩
        · exact ⟨" \n\n", .inr (.inr rfl), rfl⟩
      have hsl : suf'.length ≤ 10 := by rcases hs' with e | e | e <;> subst e <;> decide +kernel
      refine vO_eq (dSb_ix (dIx_n t2 l2 hix2)) ?_
      have hl2 : (T ++ pre' ++ Txt.join " " (wd row)).length ≤ 101000 := by
        rw [TL.len_tl, TL.tl_append, List.length_append, ← TL.len_tl, ← TL.len_tl]; omega
      refine vO_eq (dAdd_str _ _ _ (by omega)) ?_
      obtain ⟨L', tx'⟩ := tx.row okr hp' hs'
      exact hnx _ _ ⟨_, L', rfl, k2, by rw [List.map_append]; exact tx'⟩
  · rintro b t ⟨T, L, rfl, kt, tx⟩
    rw [fin_kn hk kt]
    exact h T L t kt tx
theorem vND_i {s : S} {k : D → S → Prop} (h : k (.loc s.length) (s ++ [.dK [] []])) : vND s k := h
theorem vNL_i {xs : List D} {s : S} {k : D → S → Prop} (h : k (.loc s.length) (s ++ [.lst xs])) : vNL xs s k := h
/-! a dict told in order -/
theorem toldW {fr : D} {s : S} {da : Fair} (hd : isD s fr da) (hz : da.length < 64) {K : D → S → Prop} (h : K (.p (pFair (toldF da))) s) :
    vO (bSortD [fr] s) (fun d51 s52 => vW (wkOf s52 d51) fun k53 => vLc k53 s52 (fun d41 t42 j43 => vC true (fun j44 => vO (dSb fr d41 t42) (fun d47 s48 => vO (dAdd (mkT [d41]) d47 s48) (fun d49 s50 => j44 d49 s50))) (fun _ => j43 none t42) (fun d45 t46 => j43 (some d45) t46)) (fun d54 s55 => vO (bTup [d54] s55) K)) := by
  refine vO_eq (sortD hd hz) ?_
  refine vW_eq rfl ?_
  refine vLc_pure (g := tD) (u := fun _ => true) (y := fun t => .p (pEn (t, (found da t).getD ("", 0)))) (l := srtS (names da)) rfl (fun _ => rfl) (fun x hx acc j hj => ?_) (by
    have := (srtS_perm (names da)).length_eq
    unfold names at this ⊢
    rw [List.length_map] at this
    omega) (fun _ _ => rfl) ?_
  · obtain ⟨k, hf⟩ := found_names (srt_mem.mp hx)
    rw [hf] at hj
    rw [vC_true]
    refine vO_eq (dSb_dict (isD_app hd) hf) ?_
    refine vO_eq (dAdd_tup [.str x] [.str k.1, .int k.2] _ (by simp)) ?_
    exact hj
  · have eF : (List.map (fun t => D.p (pEn (t, (found da t).getD ("", 0)))) (List.filter (fun _ => true) (srtS (names da)))) = ((toldF da).map pEn).map D.p := by
      rw [List.filter_eq_self.mpr fun _ _ => rfl]
      simp [toldF]
    refine vO_eq (by rw [bTup_lst, eF, mkT_map]) ?_
    exact h
theorem F_tuple {fr : D} {s : S} {da : Fair} (hd : isD s fr da) (hz : da.length < 64) : F__law_tuple [fr] s = .ok (.p (pFair (toldF da))) s := by
  have key : wO (F__law_tuple [fr] s) (fun d s' => d = .p (pFair (toldF da)) ∧ s' = s) (fun _ _ => False) := by
    refine w__law_tuple ?_
    unfold W__law_tuple
    refine toldW hd hz ?_
    show (fin s _ s).1 = _ ∧ (fin s _ s).2 = _
    rw [fin_p]
    exact ⟨rfl, rfl⟩
  obtain ⟨d, s', e, rfl, rfl⟩ := key.of
  exact e
theorem its_of {α : Type} {g : α → List Str} : ∀ {items : List (Nat × List Str)} {es : List α}, items.map (·.2) = es.map g → ∃ its : List (Nat × α), items = its.map (fun x => (x.1, g x.2)) ∧ its.map (·.2) = es
  | [], [], _ => ⟨[], rfl, rfl⟩
  | [], e :: es, h => by cases h
  | x :: items, [], h => by cases h
  | x :: items, e :: es, h => by
    rw [List.map_cons, List.map_cons] at h
    injection h with h1 h2
    obtain ⟨its, e1, e2⟩ := its_of h2
    exact ⟨(x.1, e) :: its, by rw [List.map_cons, ← e1, ← h1], by rw [List.map_cons, e2]⟩
def went (e : Str × Hd) : List Str := [e.1, e.2.1, num e.2.2.toNat]
theorem F_readfair {es : Fair} {L : List (Str × List Str)} {t : Str} (h : TxR (es.map went) L t) (hz : es.length < 64) (nd : (names es).Nodup) (hm : ∀ e ∈ es, 0 ≤ e.2.2 ∧ e.2.2 < 1000000000) (s : S) : F_read_fair [.p (.str t)] s = .ok (.p (pFair (toldF es))) s := by
  have key : wO (F_read_fair [.p (.str t)] s) (fun d s' => d = .p (pFair (toldF es)) ∧ s' = s) (fun _ _ => False) := by
    refine w_read_fair ?_
    unfold W_read_fair
    refine vND_i ?_
    obtain ⟨items, e, hi⟩ := F_counted h (by rw [List.length_map]; omega) (s ++ [.dK [] []])
    refine wO_eq e ?_
    obtain ⟨its, rfl, hes⟩ := its_of hi
    refine vW_eq rfl ?_
    refine vFor_list (g := fun x : Nat × (Str × Hd) => D.p (cwP (x.1, went x.2))) (l := its) (by simp) (fun pre suf _ t => t = s ++ [.dK (dk (pre.map (·.2))) (dv (pre.map (·.2)))]) (fun _ => rfl) rfl ?_ ?_
    · rintro pre x suf _ t nx el rfl hnx
      have hesl : es = pre.map (·.2) ++ x.2 :: suf.map (·.2) := by rw [← hes, el]; simp
      obtain ⟨m0, m1⟩ := hm x.2 (by rw [hesl]; simp)
      have hpl : (pre.map (·.2)).length ≤ 100 := by have := congrArg List.length hesl; simp at this ⊢; omega
      have hnew : x.2.1 ∉ names (pre.map (·.2)) := fun z => by
        rw [hesl] at nd
        unfold names at nd z
        rw [List.map_append, List.map_cons] at nd
        exact (List.nodup_append.mp nd).2.2 _ z _ (List.mem_cons_self ..) rfl
      have e0 : (pre ++ [x]).map (·.2) = pre.map (·.2) ++ [x.2] := by simp
      have hnx' := hnx () (s ++ [.dK (dk (pre.map (·.2) ++ [x.2])) (dv (pre.map (·.2) ++ [x.2]))]) (by rw [e0])
      clear hnx
      generalize (pre.map (·.2)) = da at hpl hnew hnx'
      obtain ⟨i, n, g, m⟩ := x
      obtain ⟨m, rfl⟩ := Int.eq_ofNat_of_zero_le m0
      have m2 : m < 1000000000 := by have m1' : ((m : Nat) : Int) < 1000000000 := m1; omega
      show vT (.p (.tup [.int (i : Nat), .tup [.str n, .str g, .str (num m)]])) _
      refine vT_eq (ds := [.p (.int (i : Nat)), .p (.tup [.str n, .str g, .str (num m)])]) rfl ?_
      rw [vH_cons, vH_cons, vN_nil]
      refine vO_eq (bLen_tup _ _) ?_
      refine vO_eq (dEq_int _ _ _) ?_
      rw [vBl_bl]
      have e3 : decide (((([.str n, .str g, .str (num m)] : List P).length : Nat) : Int) = 3) = true := rfl
      rw [e3, vC_true]
      refine vO_eq (dSb_2 _ _ _ _ _) ?_
      refine wO_eq (F_wnum m2 _) ?_
      dsimp only
      rw [vBl_bl]
      have e4 : isN (.p (.int (m : Nat))) = false := rfl
      rw [e4, if_neg (by decide)]
      refine vO_eq (dSb_0 _ _ _) ?_
      obtain ⟨d1, d2⟩ := isLk_app (q := s) (n := s.length) (da := da) rfl
      refine vO_eq (dInn_dict d1) ?_
      rw [found_notin hnew, vBl_bl]
      have e5 : (xor false (none : Option Hd).isSome) = false := rfl
      rw [e5, if_neg (by decide)]
      refine vO_eq (dSb_1 _ _ _ _) ?_
      refine vO_eq (dSb_0 _ _ _) ?_
      rw [mk_hd]
      exact vP_eq (putA_new rfl hnew (by omega)) hnx'
    · rintro _ t rfl
      rw [hes]
      obtain ⟨d1, d2⟩ := isLk_app (q := s) (n := s.length) (da := es) rfl
      refine toldW d1 hz ?_
      show (fin s _ _).1 = _ ∧ (fin s _ _).2 = _
      rw [fin_pa]
      exact ⟨rfl, rfl⟩
  obtain ⟨d, s', e, rfl, rfl⟩ := key.of
  exact e
def wdD (d : Deal) : List Str := wd [.str d.name, .str d.one, .str d.other]
theorem dInn_23 (k : Int) (h : k = 2 ∨ k = 3) (s : S) : dInn true (.p (.int k)) (mkT [.p (.int 2), .p (.int 3)]) s = some (.p (.bl false), s) := by
  rcases h with e | e <;> subst e <;> rfl
theorem wdD_eq {d : Deal} (h1 : d.name ≠ "") (h2 : d.one ≠ "") : wdD d = if d.other = "" then [d.name, d.one] else [d.name, d.one, d.other] := by
  unfold wdD wd
  have e1 : decide (d.name = "") = false := decide_eq_false h1
  have e2 : decide (d.one = "") = false := decide_eq_false h2
  by_cases h : d.other = ""
  · have e3 : decide (d.other = "") = true := decide_eq_true h
    simp only [List.filter, noEP, e1, e2, e3, Bool.not_false, Bool.not_true, List.map, ats, if_pos h]
  · have e3 : decide (d.other = "") = false := decide_eq_false h
    simp only [List.filter, noEP, e1, e2, e3, Bool.not_false, Bool.not_true, List.map, ats, if_neg h]
theorem F_readrow {row : List Deal} {L : List (Str × List Str)} {t : Str} (h : TxR (row.map wdD) L t) (hz : row.length ≤ 100) (hn : ∀ d ∈ row, d.name ≠ "" ∧ d.one ≠ "") (s : S) : F_read_row [.p (.str t)] s = .ok (.p (pRow row)) s := by
  have key : wO (F_read_row [.p (.str t)] s) (fun d s' => d = .p (pRow row) ∧ s' = s) (fun _ _ => False) := by
    refine w_read_row ?_
    unfold W_read_row
    refine vNL_i ?_
    obtain ⟨items, e, hi⟩ := F_counted h (by rw [List.length_map]; omega) (s ++ [.lst []])
    refine wO_eq e ?_
    obtain ⟨its, rfl, hes⟩ := its_of hi
    refine vW_eq rfl ?_
    refine vFor_list (g := fun x : Nat × Deal => D.p (cwP (x.1, wdD x.2))) (l := its) (by simp) (fun pre suf _ t => t = s ++ [.lst ((pre.map (·.2)).map fun d => D.p (pDeal d))]) (fun _ => rfl) rfl ?_ ?_
    · rintro pre x suf _ t nx el rfl hnx
      have hesl : row = pre.map (·.2) ++ x.2 :: suf.map (·.2) := by rw [← hes, el]; simp
      obtain ⟨n1, n2⟩ := hn x.2 (by rw [hesl]; simp)
      have hpl : (pre.map (·.2)).length ≤ 100 := by have := congrArg List.length hesl; simp at this ⊢; omega
      have e0 : (pre ++ [x]).map (·.2) = pre.map (·.2) ++ [x.2] := by simp
      have hnx' := hnx () (s ++ [.lst ((pre.map (·.2) ++ [x.2]).map fun d => D.p (pDeal d))]) (by rw [e0])
      clear hnx
      generalize (pre.map (·.2)) = da at hpl hnx'
      obtain ⟨i, d⟩ := x
      obtain ⟨nm, one, oth⟩ := d
      have hw := wdD_eq (d := ⟨nm, one, oth⟩) n1 n2
      have fini : vO (appL (.loc s.length) [.p (pDeal ⟨nm, one, oth⟩)] (s ++ [.lst (da.map fun d => D.p (pDeal d))])) (fun _ t => nx () t) := by
        refine vO_eq (app_last (by rw [List.length_map]; omega)) ?_
        rw [List.map_append] at hnx'
        exact hnx'
      by_cases ho : oth = ""
      · subst ho
        rw [if_pos rfl] at hw
        rw [show (D.p (cwP (i, wdD ⟨nm, one, ""⟩))) = .p (.tup [.int (i : Nat), .tup [.str nm, .str one]]) by rw [hw]; rfl]
        refine vT_eq (ds := [.p (.int (i : Nat)), .p (.tup [.str nm, .str one])]) rfl ?_
        rw [vH_cons, vH_cons, vN_nil]
        refine vO_eq (bLen_tup _ _) ?_
        refine vO_eq (dInn_23 _ (.inl rfl) _) ?_
        rw [vBl_bl, if_neg (by decide)]
        refine ⟨by simp, ?_⟩
        refine vO_eq (bLen_tup _ _) ?_
        refine vO_eq (dEq_int _ _ _) ?_
        rw [vBl_bl]
        have e3 : decide (((([.str nm, .str one] : List P).length : Nat) : Int) = 3) = false := rfl
        rw [e3, vC_false]
        refine vO_eq (dAdd_tup [.str nm, .str one] [.str ""] _ (by simp)) ?_
        exact fini
      · rw [if_neg ho] at hw
        rw [show (D.p (cwP (i, wdD ⟨nm, one, oth⟩))) = .p (.tup [.int (i : Nat), .tup [.str nm, .str one, .str oth]]) by rw [hw]; rfl]
        refine vT_eq (ds := [.p (.int (i : Nat)), .p (.tup [.str nm, .str one, .str oth])]) rfl ?_
        rw [vH_cons, vH_cons, vN_nil]
        refine vO_eq (bLen_tup _ _) ?_
        refine vO_eq (dInn_23 _ (.inr rfl) _) ?_
        rw [vBl_bl, if_neg (by decide)]
        refine ⟨by simp, ?_⟩
        refine vO_eq (bLen_tup _ _) ?_
        refine vO_eq (dEq_int _ _ _) ?_
        rw [vBl_bl]
        have e3 : decide (((([.str nm, .str one, .str oth] : List P).length : Nat) : Int) = 3) = true := rfl
        rw [e3, vC_true]
        exact fini
    · rintro _ t rfl
      rw [hes]
      refine vO_eq (bTup_loc at_last) ?_
      have e2 : (row.map fun d => D.p (pDeal d)) = (row.map pDeal).map D.p := by simp
      rw [e2, mkT_map]
      show (fin s _ _).1 = _ ∧ (fin s _ _).2 = _
      rw [fin_pa]
      exact ⟨rfl, rfl⟩
  obtain ⟨d, s', e, rfl, rfl⟩ := key.of
  exact e
end K76

set_option Elab.async false
set_option linter.all false
set_option maxRecDepth 100000
set_option maxHeartbeats 400000
namespace K76
open PySem Mo
theorem F_holding {f : Fair} {t : Str} {h : Hd} (e : found f t = some h) (s : S) : F_holding_of [.p (pFair f), .p (.str t)] s = .ok (.p (pHd h)) s := by
  have key : wO (F_holding_of [.p (pFair f), .p (.str t)] s) (fun d s' => d = .p (pHd h) ∧ s' = s) (fun _ _ => False) := by
    refine w_holding_of ?_
    unfold W_holding_of
    refine wO_eq (F_found f t s) ?_
    rw [e, vBl_bl]
    show (fin s _ _).1 = _ ∧ (fin s _ _).2 = _
    rw [fin_p]
    exact ⟨rfl, rfl⟩
  obtain ⟨d, s', e, rfl, rfl⟩ := key.of
  exact e
theorem bSum_map (l : List Int) (s : S) : bSum [.lst (l.map fun x => .p (.int x))] s = some (.p (.int l.sum), s) := by
  have : allI (l.map fun x => D.p (.int x)) = some l := allI_ints l
  simp [bSum, this]
theorem F_total (f : Fair) (hz : f.length ≤ 1000) (s : S) : F_total_money [.p (pFair f)] s = .ok (.p (.int ((f.map fun e => e.2.2).sum))) s := by
  have key : wO (F_total_money [.p (pFair f)] s) (fun d s' => d = .p (.int ((f.map fun e => e.2.2).sum)) ∧ s' = s) (fun _ _ => False) := by
    refine w_total_money ?_
    unfold W_total_money
    refine vW_eq rfl ?_
    refine vLc_pure (g := fun e => D.p (pEn e)) (u := fun _ => true) (y := fun e => D.p (.int e.2.2)) (l := f) (by simp) (fun _ => rfl) (fun e he acc j hj => ?_) (by omega) (fun _ _ => rfl) ?_
    · refine vT_eq (vi_en e) ?_
      rw [vH_cons, vH_cons, vH_cons, vN_nil, vC_true]
      exact hj
    · rw [List.filter_eq_self.mpr fun _ _ => rfl]
      have e2 : (f.map fun e => D.p (.int e.2.2)) = (f.map fun e => e.2.2).map fun x => D.p (.int x) := by simp
      rw [e2]
      refine vO_eq (bSum_map _ _) ?_
      show (fin s _ _).1 = _ ∧ (fin s _ _).2 = _
      rw [fin_p]
      exact ⟨rfl, rfl⟩
  obtain ⟨d, s', e, rfl, rfl⟩ := key.of
  exact e
/-! rows that are let -/
def Legal (m : Market) : Fair → List Deal → Prop
  | _, [] => True
  | f, d :: r => dealWord m f d = none ∧ Legal m (doneDeal m f d) r
def endF (m : Market) (f : Fair) (row : List Deal) : Fair := row.foldl (doneDeal m) f
def states (m : Market) : Fair → List Deal → List Fair
  | f, [] => [f]
  | f, d :: r => f :: states m (doneDeal m f d) r
theorem states_snoc (m : Market) : ∀ (f : Fair) (row : List Deal) (d : Deal), states m f (row ++ [d]) = states m f row ++ [doneDeal m (endF m f row) d]
  | f, [], d => rfl
  | f, e :: row, d => by
    rw [List.cons_append, states, states_snoc m _ row d, states, List.cons_append]
    rfl
theorem states_last (m : Market) : ∀ (f : Fair) (row : List Deal), ∃ l, states m f row = l ++ [endF m f row]
  | f, [] => ⟨[], rfl⟩
  | f, e :: row => by
    obtain ⟨l, e'⟩ := states_last m (doneDeal m f e) row
    exact ⟨f :: l, by rw [states, e']; rfl⟩
theorem states_len (m : Market) : ∀ (f : Fair) (row : List Deal), (states m f row).length = row.length + 1
  | f, [] => rfl
  | f, e :: row => by rw [states, List.length_cons, states_len m _ row]; rfl
theorem states_get (m : Market) : ∀ (f : Fair) (row : List Deal) (i : Nat), i ≤ row.length → (states m f row)[i]? = some (endF m f (row.take i))
  | f, [], i, h => by
    have : i = 0 := by simpa using h
    subst this; rfl
  | f, d :: row, 0, _ => rfl
  | f, d :: row, i + 1, h => by
    rw [states, List.getElem?_cons_succ, states_get m _ row i (by simpa using h)]
    rfl
theorem endF_len (m : Market) : ∀ (row : List Deal) (f : Fair), (endF m f row).length = f.length
  | [], f => rfl
  | d :: row, f => by
    show (endF m (doneDeal m f d) row).length = _
    rw [endF_len m row, doneDeal_len]
theorem legal_snoc {m : Market} : ∀ {row : List Deal} {f : Fair} {d : Deal}, Legal m f row → dealWord m (endF m f row) d = none → Legal m f (row ++ [d])
  | [], f, d, _, h => ⟨h, trivial⟩
  | e :: row, f, d, h, h2 => ⟨h.1, legal_snoc h.2 h2⟩
theorem legal_run {m : Market} : ∀ {row : List Deal} {f : Fair} {i : Nat}, Legal m f row → rowRun m f row i = .inl (endF m f row)
  | [], f, i, _ => rfl
  | d :: row, f, i, h => by
    unfold rowRun
    rw [h.1]
    exact legal_run h.2
theorem F_walkL {m : Market} {f : Fair} {row : List Deal} (h : Legal m f row) (h1 : row.length ≤ 900) (h2 : f.length ≤ 1000) (s : S) : F_row_walk [.p (pMarket m), .p (pFair f), .p (pRow row)] s = .ok (.lst ((states m f row).map fun f => D.p (pFair f))) s := by
  have key : wO (F_row_walk [.p (pMarket m), .p (pFair f), .p (pRow row)] s) (fun d s' => d = .lst ((states m f row).map fun f => D.p (pFair f)) ∧ s' = s) (fun _ _ => False) := by
    refine w_row_walk ?_
    unfold W_row_walk
    refine vNL_i ?_
    rw [vH_cons, vN_nil]
    refine vW_eq rfl ?_
    refine vFor_list (g := fun x : Nat × Deal => D.p (.tup [.int (x.1 : Nat), pDeal x.2])) (l := enL 0 row) (by show enF 0 ((row.map pDeal).map D.p) = _; rw [← enF_map, List.map_map]; rfl) (fun pre suf _ t => t = s ++ [.lst ((states m f (pre.map (·.2))).map fun f => D.p (pFair f))] ∧ Legal m (endF m f (pre.map (·.2))) (suf.map (·.2))) (fun _ => rfl) ⟨rfl, by rw [enL_snd]; exact h⟩ ?_ ?_
    · rintro pre x suf _ t nx el ⟨rfl, hl⟩ hnx
      have hl2 : Legal m (endF m f (pre.map (·.2))) (x.2 :: suf.map (·.2)) := hl
      have e0 : (pre ++ [x]).map (·.2) = pre.map (·.2) ++ [x.2] := by simp
      have hpl : (pre.map (·.2)).length ≤ 900 := by
        have e1 := congrArg List.length el
        have e2 := congrArg List.length (enL_snd row 0)
        rw [List.length_map] at e2 ⊢
        rw [List.length_append] at e1
        omega
      have hnx' := hnx () (s ++ [.lst ((states m f (pre.map (·.2) ++ [x.2])).map fun f => D.p (pFair f))]) ⟨by rw [e0], by
        rw [e0]
        have : endF m f (pre.map (·.2) ++ [x.2]) = doneDeal m (endF m f (pre.map (·.2))) x.2 := by simp [endF]
        rw [this]; exact hl2.2⟩
      clear hnx
      generalize pre.map (·.2) = rp at hl2 hpl hnx'
      obtain ⟨l, el2⟩ := states_last m f rp
      have hsl := states_len m f rp
      have el3 : (states m f rp).map (fun f => D.p (pFair f)) = (l.map fun f => D.p (pFair f)) ++ [.p (pFair (endF m f rp))] := by rw [el2]; simp
      rw [el3]
      have hla : (s ++ [C.lst ((l.map fun f => D.p (pFair f)) ++ [.p (pFair (endF m f rp))])])[s.length]? = some (.lst ((l.map fun f => D.p (pFair f)) ++ [.p (pFair (endF m f rp))])) := at_last
      rw [vT_tup, List.map_cons, vH_cons, List.map_cons, vH_cons, List.map_nil, vN_nil, vI_int]
      refine vO_eq (dSb_ix (dIx_lastL hla)) ?_
      refine wO_eq (F_dword m _ x.2 _) ?_
      rw [hl2.1, vBl_bl]
      show isL _ _ = true ∧ _
      refine ⟨by simp, ?_⟩
      rw [vI_int]
      refine vO_eq (dSb_ix (dIx_lastL hla)) ?_
      refine wO_eq (F_done m _ x.2 _ (by rw [endF_len]; exact h2) hl2.1) ?_
      have hll : ((l.map fun f => D.p (pFair f)) ++ [D.p (pFair (endF m f rp))]).length < 1000000 := by rw [← el3, List.length_map, hsl]; omega
      refine vO_eq (app_last hll) ?_
      rw [← el3]
      rw [states_snoc, List.map_append] at hnx'
      exact hnx'
    · rintro _ t ⟨rfl, _⟩
      rw [enL_snd]
      show (fin s _ _).1 = _ ∧ (fin s _ _).2 = _
      rw [fin_new (clDs_p s.length (states m f row) pFair)]
      exact ⟨rfl, rfl⟩
  obtain ⟨d, s', e, rfl, rfl⟩ := key.of
  exact e
theorem F_runL {m : Market} {f : Fair} {row : List Deal} (h : Legal m f row) (h1 : row.length ≤ 900) (h2 : f.length ≤ 1000) (s : S) : F_run_row [.p (pMarket m), .p (pFair f), .p (pRow row)] s = .ok (.p (pFair (endF m f row))) s := by
  have k := F_run m f row s h1 h2
  rw [legal_run h] at k
  exact k
theorem F_trace {m : Market} {f : Fair} {row : List Deal} (h : Legal m f row) (h1 : row.length ≤ 900) (h2 : f.length ≤ 1000) (s : S) : F_run_trace [.p (pMarket m), .p (pFair f), .p (pRow row)] s = .ok (.p (.tup ((states m f row).map pFair))) s := by
  have key : wO (F_run_trace [.p (pMarket m), .p (pFair f), .p (pRow row)] s) (fun d s' => d = .p (.tup ((states m f row).map pFair)) ∧ s' = s) (fun _ _ => False) := by
    refine w_run_trace ?_
    unfold W_run_trace
    refine wO_eq (F_walkL h h1 h2 s) ?_
    have e : ((states m f row).map fun f => D.p (pFair f)) = ((states m f row).map pFair).map D.p := by simp
    refine vO_eq (by rw [bTup_lst, e, mkT_map]) ?_
    show (fin s _ _).1 = _ ∧ (fin s _ _).2 = _
    rw [fin_p]
    exact ⟨rfl, rfl⟩
  obtain ⟨d, s', e, rfl, rfl⟩ := key.of
  exact e
end K76

set_option Elab.async false
set_option linter.all false
set_option maxRecDepth 100000
set_option maxHeartbeats 400000
namespace K76
open PySem Mo
def inv (t : Str) (d : Deal) : Bool := decide (d.one = t) || decide (d.other = t)
theorem enL_fst {α : Type} : ∀ (l : List α) (k : Nat), (enL k l).map (·.1) = List.range' k l.length
  | [], _ => rfl
  | x :: l, k => by rw [enL, List.map_cons, enL_fst l]; rfl
theorem enL_get {α : Type} : ∀ {l : List α} {k : Nat} {x : Nat × α}, x ∈ enL k l → l[x.1 - k]? = some x.2
  | y :: l, k, x, h => by
    rw [enL] at h
    rcases List.mem_cons.mp h with e | e
    · subst e; simp
    · have h1 := enL_lt e
      have h2 := enL_get e
      have : x.1 - k = (x.1 - (k + 1)) + 1 := by omega
      rw [this, List.getElem?_cons_succ]
      exact h2
def invAt (row : List Deal) (t : Str) (i : Nat) : Bool := match row[i]? with
  | some d => inv t d
  | none => false
def places (row : List Deal) (t : Str) : List Nat := (List.range row.length).filter (invAt row t)
theorem places_en (row : List Deal) (t : Str) : ((enL 0 row).filter fun x => inv t x.2).map (·.1) = places row t := by
  unfold places
  rw [List.range_eq_range', ← enL_fst row 0, List.filter_map]
  congr 1
  refine List.filter_congr fun x hx => ?_
  have := enL_get hx
  simp only [Nat.sub_zero] at this
  simp [invAt, this]
theorem places_lt {row : List Deal} {t : Str} {i : Nat} (h : i ∈ places row t) : i < row.length := List.mem_range.mp (List.mem_filter.mp h).1
/-- what the trader has once the first n deals are done -/
def hdAt (m : Market) (f : Fair) (row : List Deal) (t : Str) (n : Nat) : Hd := (found (endF m f (row.take n)) t).getD ("", 0)
def histP (m : Market) (f : Fair) (row : List Deal) (t : Str) : P := .tup ((places row t).map fun i => .tup [.int (i : Nat), pHd (hdAt m f row t (i + 1))])
theorem found_end {m : Market} {f : Fair} {row : List Deal} {t : Str} (h : t ∈ names f) : found (endF m f row) t = some ((found (endF m f row) t).getD ("", 0)) := by
  have hn : names (endF m f row) = names f := by
    induction row generalizing f with
    | nil => rfl
    | cons d row ih => exact (ih (f := doneDeal m f d) (by rw [names_done]; exact h)).trans (names_done m f d)
  obtain ⟨k, e⟩ := found_names (hn ▸ h)
  rw [e]; rfl
theorem dInn_two (t a b : Str) (o1 : PyData.strOk t = true) (oa : PyData.strOk a = true) (ob : PyData.strOk b = true) (s : S) : dInn false (.p (.str t)) (.p (.tup [.str a, .str b])) s = some (.p (.bl (decide (a = t) || decide (b = t))), s) := by
  have h1 : (shp (.str t) && SeqAt.shaped (.tuple (toPDs [.str a, .str b]))) = true := by
    simp [shp, toPD, toPDs, SeqAt.shaped, PyData.canLay0, PyData.canLayAll0, PyData.depth, PyData.depthAll, o1, oa, ob]
  have h2 : ([.str a, .str b] : List P).any (fun z => eqP z (.str t)) = (decide (a = t) || decide (b = t)) := by
    have e : ∀ x y : Str, eqP (.str x) (.str y) = decide (x = y) := fun x y => by
      show (x == y) = _
      by_cases h : x = y <;> simp [h]
    simp [e]
  simp [dInn, dInA, alt, inD, inT, h1, h2]
def okD (d : Deal) : Prop := PyData.strOk d.one = true ∧ PyData.strOk d.other = true
theorem in_deal {t : Str} (o : PyData.strOk t = true) {d : Deal} (h : okD d) {s : S} {K : D → S → Prop} (q : K (.p (.bl (inv t d))) s) : vO (dSl (.p (pDeal d)) (some 1) none s) fun d12 s13 => vO (dInn false (.p (.str t)) d12 s13) K := by
  refine vO_eq (sl_from [.str d.name, .str d.one, .str d.other] s (by decide)) ?_
  exact vO_eq (dInn_two t d.one d.other o h.1 h.2 s) q
theorem F_history {m : Market} {f : Fair} {row : List Deal} {t : Str} (h : Legal m f row) (h1 : row.length ≤ 900) (h2 : f.length ≤ 1000) (ot : PyData.strOk t = true) (od : ∀ d ∈ row, okD d) (ht : t ∈ names f) (s : S) :
    F_history_of [.p (pMarket m), .p (pFair f), .p (pRow row), .p (.str t)] s = .ok (.p (histP m f row t)) s := by
  have key : wO (F_history_of [.p (pMarket m), .p (pFair f), .p (pRow row), .p (.str t)] s) (fun d s' => d = .p (histP m f row t) ∧ s' = s) (fun _ _ => False) := by
    refine w_history_of ?_
    unfold W_history_of
    refine wO_eq (F_trace h h1 h2 s) ?_
    rw [vH_cons, vN_nil]
    refine vW_eq rfl ?_
    refine vLc_pure (g := fun x : Nat × Deal => D.p (.tup [.int (x.1 : Nat), pDeal x.2])) (u := fun x => inv t x.2) (y := fun x => D.p (.int (x.1 : Nat))) (l := enL 0 row) (by show enF 0 ((row.map pDeal).map D.p) = _; rw [← enF_map, List.map_map]; rfl) (fun _ => rfl) (fun x hx acc j hj => ?_) (by
      have e2 := congrArg List.length (enL_snd row 0)
      rw [List.length_map] at e2
      omega) (fun _ _ => rfl) ?_
    · rw [vT_tup, List.map_cons, vH_cons, List.map_cons, vH_cons, List.map_nil, vN_nil, vI_int]
      refine in_deal ot (od x.2 (enL_mem hx)) ?_
      rw [vBl_bl]
      cases hb : inv t x.2 with
      | false => rw [hb] at hj; exact hj
      | true => rw [hb] at hj; exact hj
    · have e : ((enL 0 row).filter fun x => inv t x.2).map (fun x => D.p (.int (x.1 : Nat))) = (places row t).map gI := by
        rw [← places_en, List.map_map]; rfl
      rw [e]
      refine vW_eq rfl ?_
      refine vLc_pure (g := gI) (u := fun _ => true) (y := fun i => D.p (.tup [.int (i : Nat), pHd (hdAt m f row t (i + 1))])) (l := places row t) rfl (fun _ => rfl) (fun i hi acc j hj => ?_) (by
        have : (places row t).length ≤ (List.range row.length).length := List.length_filter_le ..
        rw [List.length_range] at this
        omega) (fun _ _ => rfl) ?_
      · rw [vC_true]
        have hil := places_lt hi
        refine vO_eq (dAdd_int _ _ _) ?_
        have hg : ((states m f row).map pFair)[((i : Int) + 1).toNat]? = some (pFair (endF m f (row.take (i + 1)))) := by
          rw [show ((i : Int) + 1).toNat = i + 1 by omega, List.getElem?_map, states_get m f row (i + 1) (by omega)]
          rfl
        refine vO_eq (dSb_ix (dIx_n _ (by omega) hg)) ?_
        refine wO_eq (F_holding (h := hdAt m f row t (i + 1)) (found_end ht) _) ?_
        exact hj
      · rw [List.filter_eq_self.mpr fun _ _ => rfl]
        have e : ((places row t).map fun i => D.p (.tup [.int (i : Nat), pHd (hdAt m f row t (i + 1))])) = ((places row t).map fun i => P.tup [.int (i : Nat), pHd (hdAt m f row t (i + 1))]).map D.p := by simp
        refine vO_eq (by rw [bTup_lst, e, mkT_map]) ?_
        show (fin s _ _).1 = _ ∧ (fin s _ _).2 = _
        rw [fin_p]
        exact ⟨rfl, rfl⟩
  obtain ⟨d, s', e, rfl, rfl⟩ := key.of
  exact e
/-! gains, the best -/
def gainL (f l : Fair) : List (Str × Int) := List.zipWith (fun a b => (a.1, b.2.2 - a.2.2)) f l
def gP (x : Str × Int) : P := .tup [.str x.1, .int x.2]
theorem F_gain {m : Market} {f : Fair} {row : List Deal} (h : Legal m f row) (h1 : row.length ≤ 900) (h2 : f.length ≤ 1000) (s : S) : F_gains [.p (pMarket m), .p (pFair f), .p (pRow row)] s = .ok (.p (.tup ((gainL f (endF m f row)).map gP))) s := by
  have key : wO (F_gains [.p (pMarket m), .p (pFair f), .p (pRow row)] s) (fun d s' => d = .p (.tup ((gainL f (endF m f row)).map gP)) ∧ s' = s) (fun _ _ => False) := by
    refine w_gains ?_
    unfold W_gains
    refine wO_eq (F_runL h h1 h2 s) ?_
    generalize endF m f row = l
    have hz : zipW s [.p (pFair f), .p (pFair l)] = some ⟨zipF (f.map fun e => .p (pEn e)) (l.map fun e => .p (pEn e)), fun _ => true⟩ := by
      simp only [zipW, vi_fair]
    refine vW_eq hz ?_
    have hzl : zipF (f.map fun e => D.p (pEn e)) (l.map fun e => .p (pEn e)) = (List.zip f l).map fun x => D.p (.tup [pEn x.1, pEn x.2]) := by
      unfold zipF
      rw [List.zipWith_map, ← List.map_uncurry_zip_eq_zipWith]
      rfl
    refine vLc_pure (g := fun x : (Str × Hd) × (Str × Hd) => D.p (.tup [pEn x.1, pEn x.2])) (u := fun _ => true) (y := fun x => D.p (gP (x.1.1, x.2.2.2 - x.1.2.2))) (l := List.zip f l) hzl (fun _ => rfl) (fun x hx acc j hj => ?_) (by rw [List.length_zip]; omega) (fun _ _ => rfl) ?_
    · rw [vT_tup, List.map_cons, vH_cons, List.map_cons, vH_cons, List.map_nil, vN_nil, vC_true]
      refine vO_eq (dSb_0 _ _ _) ?_
      refine vO_eq (dSb_2 _ _ _ _ _) ?_
      refine vO_eq (dSb_2 _ _ _ _ _) ?_
      refine vO_eq (dSub_int _ _ _) ?_
      exact hj
    · rw [List.filter_eq_self.mpr fun _ _ => rfl]
      have e : ((List.zip f l).map fun x => D.p (gP (x.1.1, x.2.2.2 - x.1.2.2))) = ((gainL f l).map gP).map D.p := by
        unfold gainL
        rw [← List.map_uncurry_zip_eq_zipWith, List.map_map, List.map_map]
        rfl
      refine vO_eq (by rw [bTup_lst, e, mkT_map]) ?_
      show (fin s _ _).1 = _ ∧ (fin s _ _).2 = _
      rw [fin_p]
      exact ⟨rfl, rfl⟩
  obtain ⟨d, s', e, rfl, rfl⟩ := key.of
  exact e
end K76

set_option Elab.async false
set_option linter.all false
set_option maxRecDepth 100000
set_option maxHeartbeats 400000
namespace K76
open PySem Mo
def bestG (gl : List (Str × Int)) : Option Str := ((gl.filter fun x => decide (x.2 = maxI (gl.map (·.2)))).head?).map (·.1)
theorem bMaxL_map {l : List Int} (h : l ≠ []) (s : S) : bMaxL [.lst (l.map fun x => .p (.int x))] s = some (.p (.int (maxI l)), s) := by
  have : allI (l.map fun x => D.p (.int x)) = some l := allI_ints l
  simp [bMaxL, this, h]
theorem F_best {m : Market} {f : Fair} {row : List Deal} (h : Legal m f row) (h1 : row.length ≤ 900) (h2 : f.length ≤ 1000) (s : S) : F_best_trader [.p (pMarket m), .p (pFair f), .p (pRow row)] s = .ok (.p (optP .str (bestG (gainL f (endF m f row))))) s := by
  have key : wO (F_best_trader [.p (pMarket m), .p (pFair f), .p (pRow row)] s) (fun d s' => d = .p (optP .str (bestG (gainL f (endF m f row)))) ∧ s' = s) (fun _ _ => False) := by
    refine w_best_trader ?_
    unfold W_best_trader
    refine wO_eq (F_gain h h1 h2 s) ?_
    have hgl : (gainL f (endF m f row)).length ≤ 1000 := by unfold gainL; rw [List.length_zipWith]; omega
    generalize gainL f (endF m f row) = gl at hgl
    refine vO_eq (bLen_tup _ _) ?_
    refine vO_eq (dEq_int _ _ _) ?_
    rw [vBl_bl]
    cases gl with
    | nil =>
      show (fin s _ _).1 = _ ∧ (fin s _ _).2 = _
      rw [fin_p]
      exact ⟨rfl, rfl⟩
    | cons g0 gr =>
      have e1 : decide ((((((g0 :: gr).map gP).length : Nat)) : Int) = 0) = false := decide_eq_false (by simp; omega)
      rw [e1, if_neg (by decide)]
      have hne : (g0 :: gr) ≠ [] := by simp
      generalize (g0 :: gr) = gl at hgl hne
      refine vW_eq rfl ?_
      refine vLc_pure (g := fun x => D.p (gP x)) (u := fun _ => true) (y := fun x => D.p (.int x.2)) (l := gl) (by rw [List.map_map]; rfl) (fun _ => rfl) (fun x hx acc j hj => ?_) (by omega) (fun _ _ => rfl) ?_
      · refine vT_eq (ds := [.p (.str x.1), .p (.int x.2)]) rfl ?_
        rw [vH_cons, vH_cons, vN_nil, vC_true]
        exact hj
      · rw [List.filter_eq_self.mpr fun _ _ => rfl]
        have e2 : (gl.map fun x => D.p (.int x.2)) = (gl.map (·.2)).map fun x => D.p (.int x) := by simp
        rw [e2]
        refine vO_eq (bMaxL_map (fun e => hne (List.map_eq_nil_iff.mp e)) _) ?_
        refine vW_eq rfl ?_
        have hmem := maxI_mem (xs := gl.map (·.2)) (fun e => hne (List.map_eq_nil_iff.mp e))
        generalize hmx : maxI (gl.map (·.2)) = mx at hmem
        refine vLc_pure (g := fun x => D.p (gP x)) (u := fun x => decide (x.2 = mx)) (y := fun x => D.p (.str x.1)) (l := gl) (by rw [List.map_map]; rfl) (fun _ => rfl) (fun x hx acc j hj => ?_) (by omega) (fun _ _ => rfl) ?_
        · refine vT_eq (ds := [.p (.str x.1), .p (.int x.2)]) rfl ?_
          rw [vH_cons, vH_cons, vN_nil]
          refine vO_eq (dEq_int _ _ _) ?_
          rw [vBl_bl]
          cases hb : decide (x.2 = mx) with
          | false => rw [hb] at hj; exact hj
          | true => rw [hb] at hj; exact hj
        · obtain ⟨x, hx, hxm⟩ := List.mem_map.mp hmem
          unfold bestG
          rw [hmx]
          have hfm : x ∈ gl.filter fun x => decide (x.2 = mx) := List.mem_filter.mpr ⟨hx, decide_eq_true hxm⟩
          cases hfl : gl.filter fun x => decide (x.2 = mx) with
          | nil => rw [hfl] at hfm; cases hfm
          | cons y r =>
            refine vO_eq (dSb_ix (dIxV (d := .p (.str y.1)) (show L2.atI _ ((0 : Nat) : Int) = _ from atI_nat rfl))) ?_
            show (fin s _ _).1 = _ ∧ (fin s _ _).2 = _
            rw [fin_p]
            exact ⟨rfl, rfl⟩
  obtain ⟨d, s', e, rfl, rfl⟩ := key.of
  exact e
def evenO (o : Offer) : Bool := match o.other with
  | none => false
  | some x => decide (o.one.change + x.change = 0)
theorem dSb_side4 (o : Side) (s : S) : dSb (.p (pSide o)) (.p (.int 4)) s = some (.p (.int o.change), s) := dSb_ix (ix_side4 o s)
theorem F_evenO (o : Offer) (s : S) : F_is_even_offer [.p (pOffer o)] s = .ok (.p (.bl (evenO o))) s := by
  have key : wO (F_is_even_offer [.p (pOffer o)] s) (fun d s' => d = .p (.bl (evenO o)) ∧ s' = s) (fun _ _ => False) := by
    refine w_is_even_offer ?_
    unfold W_is_even_offer
    refine vO_eq (dSb_ix (ix_offer2 o s)) ?_
    rw [vBl_bl, isN_optSide]
    unfold evenO
    cases ho : o.other with
    | none =>
      show (fin s _ _).1 = _ ∧ (fin s _ _).2 = _
      rw [fin_p]
      exact ⟨rfl, rfl⟩
    | some x =>
      show vC true _ _ _
      rw [vC_true]
      refine vO_eq (dSb_ix (ix_offer1 o s)) ?_
      refine vO_eq (dSb_side4 _ _) ?_
      refine vO_eq (dSb_ix (ix_offer2 o s)) ?_
      rw [ho]
      refine vO_eq (dSb_side4 x _) ?_
      refine vO_eq (dAdd_int _ _ _) ?_
      refine vO_eq (dEq_int _ _ _) ?_
      show (fin s _ _).1 = _ ∧ (fin s _ _).2 = _
      rw [fin_p]
      exact ⟨rfl, rfl⟩
  obtain ⟨d, s', e, rfl, rfl⟩ := key.of
  exact e
theorem F_even (m : Market) (hz : m.offers.length ≤ 1000) (s : S) : F_is_even [.p (pMarket m)] s = .ok (.p (.bl (m.offers.all evenO))) s := by
  have key : wO (F_is_even [.p (pMarket m)] s) (fun d s' => d = .p (.bl (m.offers.all evenO)) ∧ s' = s) (fun _ _ => False) := by
    refine w_is_even ?_
    unfold W_is_even
    refine vO_eq (dSb_ix (ix_market2 m s)) ?_
    refine vW_eq rfl ?_
    refine vLc_pure (g := fun x => D.p (pOffer x)) (u := fun _ => true) (y := fun x => D.p (.bl (evenO x))) (l := m.offers) (by rw [List.map_map]; rfl) (fun _ => rfl) (fun x hx acc j hj => ?_) (by omega) (fun _ _ => rfl) ?_
    · rw [vC_true]
      exact wO_eq (F_evenO x _) hj
    · rw [List.filter_eq_self.mpr fun _ _ => rfl]
      refine vO_eq (bAll_map _ _ _) ?_
      show (fin s _ _).1 = _ ∧ (fin s _ _).2 = _
      rw [fin_p]
      exact ⟨rfl, rfl⟩
  obtain ⟨d, s', e, rfl, rfl⟩ := key.of
  exact e
end K76

set_option Elab.async false
set_option linter.all false
set_option maxRecDepth 100000
set_option maxHeartbeats 400000
namespace K76
open PySem Mo
def get (da : Fair) (t : Str) : Hd := (found da t).getD ("", 0)
theorem told_eq (da : Fair) : toldF da = (srtS (names da)).map fun t => (t, get da t) := rfl
theorem get_with {da : Fair} {t u : Str} {h : Hd} (ht : t ∈ names da) : get (withH da t h) u = if u = t then h else get da u := by
  unfold get
  rw [found_with]
  by_cases e : u = t
  · obtain ⟨k, ek⟩ := found_names ht
    rw [if_pos e, if_pos e, ek]; rfl
  · rw [if_neg e, if_neg e]
theorem told_with {da : Fair} {t : Str} {h : Hd} (ht : t ∈ names da) : toldF (withH da t h) = withH (toldF da) t h := by
  rw [told_eq, told_eq, names_with]
  unfold withH
  rw [List.map_map]
  refine List.map_congr_left fun u _ => ?_
  have := get_with (u := u) (h := h) ht
  unfold withH at this
  simp only [Function.comp_def, this]
  by_cases e : u = t <;> simp [e]
theorem found_get {da : Fair} {t : Str} (h : t ∈ names da) : found da t = some (get da t) := by
  obtain ⟨k, e⟩ := found_names h
  unfold get
  rw [e]; rfl
theorem get_told (da : Fair) (t : Str) : get (toldF da) t = get da t := by unfold get; rw [told_rl da t]
def behD (m : Market) (da : Fair) (d : Deal) : Fair := match offerOf m d.name with
  | none => da
  | some o => match o.other with
    | none => withH da d.one (behind o.one (get da d.one))
    | some x => withH (withH da d.one (behind o.one (get da d.one))) d.other (behind x (get da d.other))
structure GoodD (m : Market) (da : Fair) (d : Deal) (o : Offer) : Prop where
  of : offerOf m d.name = some o
  one : d.one ∈ names da
  fit : fits o.one (get da d.one) = true
  none : o.other = none → d.other = ""
  some : ∀ x, o.other = some x → d.other ≠ "" ∧ d.other ≠ d.one ∧ d.other ∈ names da ∧ fits x (get da d.other) = true
theorem names_beh (m : Market) (da : Fair) (d : Deal) : names (behD m da d) = names da := by
  unfold behD
  split
  · rfl
  · split
    · rw [names_with]
    · rw [names_with, names_with]
theorem good_word {m : Market} {da : Fair} {d : Deal} {o : Offer} (g : GoodD m da d o) : dealWord m (toldF da) d = none := by
  have r := told_rl da
  have h1 := found_get g.one
  unfold dealWord
  rw [g.of, r d.one, h1]
  simp only
  cases ho : o.other with
  | none =>
    have e := g.none ho
    have hw : otherWrong o (toldF da) d.one d.other = false := by simp [otherWrong, ho, e]
    rw [if_neg (by rw [hw]; decide), if_pos g.fit, if_pos e]
  | some x =>
    obtain ⟨e1, e2, e3, e4⟩ := g.some x ho
    have h2 := found_get e3
    have hw : otherWrong o (toldF da) d.one d.other = false := by simp [otherWrong, ho, e1, e2, r d.other, h2]
    rw [if_neg (by rw [hw]; decide), if_pos g.fit, if_neg e1, r d.other, h2]
    simp only [e4, if_true]
theorem good_done {m : Market} {da : Fair} {d : Deal} {o : Offer} (g : GoodD m da d o) : doneDeal m (toldF da) d = toldF (behD m da d) := by
  have r := told_rl da
  have h1 := found_get g.one
  unfold doneDeal behD
  rw [g.of, r d.one, h1]
  simp only
  cases ho : o.other with
  | none =>
    rw [if_pos (g.none ho)]
    exact (told_with g.one).symm
  | some x =>
    obtain ⟨e1, e2, e3, e4⟩ := g.some x ho
    have h2 := found_get e3
    rw [if_neg e1, r d.other, h2]
    simp only
    rw [told_with (by rw [names_with]; exact e3), told_with g.one]
/-! sums -/
def money (f : Fair) : Int := (f.map fun e => e.2.2).sum
theorem money_with : ∀ {f : Fair} {t : Str} {h : Hd}, (names f).Nodup → t ∈ names f → money (withH f t h) = money f - (get f t).2 + h.2
  | (n, k) :: f, t, h, nd, ht => by
    have nd' := List.nodup_cons.mp (show (n :: names f).Nodup from nd)
    have ew : withH ((n, k) :: f) t h = (if n = t then (n, h) else (n, k)) :: withH f t h := by
      unfold withH
      simp
    have em : ∀ (x : Str × Hd) (l : Fair), money (x :: l) = x.2.2 + money l := fun x l => by simp [money]
    have eg : get ((n, k) :: f) t = if n = t then k else get f t := by
      unfold get
      rw [found_cons]
      by_cases e : n = t <;> simp [e]
    rw [ew, em, em, eg]
    by_cases e : n = t
    · subst e
      have hno : withH f n h = f := by
        unfold withH
        have : ∀ x ∈ f, (fun e : Str × Hd => if e.1 = n then (e.1, h) else e) x = x := fun x hx => by
          have : x.1 ≠ n := fun z => nd'.1 (z ▸ List.mem_map_of_mem hx)
          simp [this]
        rw [List.map_congr_left this, List.map_id']
      rw [hno]
      simp only [if_true]
      omega
    · have ht' : t ∈ names f := by
        rcases List.mem_cons.mp (show t ∈ n :: names f from ht) with z | z
        · exact absurd z.symm e
        · exact z
      have ih := money_with (h := h) nd'.2 ht'
      simp only [if_neg e]
      rw [ih]
      omega
theorem perm_sum {l l' : List Int} (h : l.Perm l') : l.sum = l'.sum := by
  induction h with
  | nil => rfl
  | cons x _ ih => rw [List.sum_cons, List.sum_cons, ih]
  | swap x y l => simp only [List.sum_cons]; omega
  | trans _ _ h1 h2 => exact h1.trans h2
theorem told_perm {da : Fair} (nd : (names da).Nodup) : (toldF da).Perm da := by
  have e : (names da).map (fun t => (t, get da t)) = da := by
    unfold names
    rw [List.map_map]
    have : ∀ x ∈ da, ((fun t => (t, get da t)) ∘ (·.1)) x = x := fun x hx => by
      have := found_nodup nd hx
      simp only [Function.comp_def, get, this]
      rfl
    rw [List.map_congr_left this, List.map_id']
  rw [told_eq]
  have := (srtS_perm (names da)).map fun t => (t, get da t)
  rwa [e] at this
theorem money_told {da : Fair} (nd : (names da).Nodup) : money (toldF da) = money da := perm_sum ((told_perm nd).map _)
theorem money_beh {m : Market} {da : Fair} {d : Deal} {o : Offer} (g : GoodD m da d o) (nd : (names da).Nodup) (ev : evenO o = true) : money (behD m da d) = money da := by
  unfold behD
  rw [g.of]
  unfold evenO at ev
  cases ho : o.other with
  | none => rw [ho] at ev; cases ev
  | some x =>
    rw [ho] at ev
    have ev' := of_decide_eq_true ev
    obtain ⟨e1, e2, e3, e4⟩ := g.some x ho
    simp only [ho]
    rw [money_with (by rw [names_with]; exact nd) (by rw [names_with]; exact e3), money_with nd g.one, get_with g.one, if_neg e2]
    unfold behind
    simp only
    omega
/-! who is not in a deal keeps what he has -/
theorem found_done {m : Market} {f : Fair} {d : Deal} {t : Str} (h : inv t d = false) : found (doneDeal m f d) t = found f t := by
  unfold inv at h
  have h1 : ¬ d.one = t := fun e => by rw [decide_eq_true e] at h; cases h
  have h2 : ¬ d.other = t := fun e => by rw [decide_eq_true e] at h; simp at h
  unfold doneDeal
  split
  · split
    · rw [found_with, if_neg (Ne.symm h1)]
    · split
      · rw [found_with, if_neg (Ne.symm h2), found_with, if_neg (Ne.symm h1)]
      · rfl
  · rfl
theorem end_keeps {m : Market} {t : Str} : ∀ {row : List Deal} {f : Fair}, (∀ d ∈ row, inv t d = false) → found (endF m f row) t = found f t
  | [], f, _ => rfl
  | d :: row, f, h => (end_keeps (f := doneDeal m f d) fun x hx => h x (List.mem_cons_of_mem _ hx)).trans (found_done (h d (List.mem_cons_self ..)))
theorem end_split (m : Market) (f : Fair) (row : List Deal) (i : Nat) : endF m f row = endF m (endF m f (row.take i)) (row.drop i) := by
  unfold endF
  rw [← List.foldl_append, List.take_append_drop]
theorem inv_free {row : List Deal} {t : Str} {i : Nat} (h : ∀ j, i ≤ j → j < row.length → j ∉ places row t) : ∀ d ∈ row.drop i, inv t d = false := fun d hd => by
  obtain ⟨k, hk, e⟩ := List.getElem_of_mem hd
  rw [List.getElem_drop] at e
  have hl : i + k < row.length := by rw [List.length_drop] at hk; omega
  cases hb : inv t d with
  | false => rfl
  | true =>
    refine absurd (List.mem_filter.mpr ⟨List.mem_range.mpr hl, ?_⟩) (h (i + k) (by omega) hl)
    simp [invAt, List.getElem?_eq_getElem hl, e, hb]
theorem hist_none {m : Market} {f : Fair} {row : List Deal} {t : Str} (h : places row t = []) : found (endF m f row) t = found f t :=
  end_keeps fun d hd => inv_free (i := 0) (fun j _ _ => by rw [h]; simp) d (by simpa using hd)
theorem hist_last {m : Market} {f : Fair} {row : List Deal} {t : Str} {l : List Nat} {i : Nat} (h : places row t = l ++ [i]) : found (endF m f row) t = found (endF m f (row.take (i + 1))) t := by
  rw [end_split m f row (i + 1)]
  refine end_keeps (inv_free fun j hj hl hm => ?_)
  have pw : (places row t).Pairwise (· < ·) := List.Pairwise.filter _ List.pairwise_lt_range
  rw [h] at pw hm
  rcases List.mem_append.mp hm with z | z
  · have := (List.pairwise_append.mp pw).2.2 j z i (by simp)
    omega
  · have := List.mem_singleton.mp z
    omega
/-! the first of the best -/
theorem first_max {w : Str → Int} {v : Int} : ∀ {ns : List Str}, v ∈ ns.map w → ∃ j n, (ns.map w).findIdx? (· == v) = some j ∧ ns[j]? = some n ∧ (((ns.map fun t => (t, w t)).filter fun x => decide (x.2 = v)).head?).map (·.1) = some n
  | t :: ns, h => by
    by_cases e : w t = v
    · exact ⟨0, t, by simp [List.findIdx?_cons, e], rfl, by simp [e]⟩
    · have hm : v ∈ ns.map w := by
        rcases List.mem_cons.mp (show v ∈ w t :: ns.map w from h) with z | z
        · exact absurd z.symm e
        · exact z
      obtain ⟨j, n, h1, h2, h3⟩ := first_max hm
      refine ⟨j + 1, n, ?_, by simpa using h2, ?_⟩
      · rw [List.map_cons, List.findIdx?_cons, h1]
        simp [e]
      · rw [List.map_cons, List.filter_cons]
        have : decide (((t, w t) : Str × Int).2 = v) = false := decide_eq_false e
        rw [this]
        exact h3
theorem gain_told {da db : Fair} (h : names db = names da) : gainL (toldF da) (toldF db) = (srtS (names da)).map fun t => (t, (get db t).2 - (get da t).2) := by
  unfold gainL
  rw [told_eq, told_eq, h, List.zipWith_map, List.zipWith_self]
theorem sum_sub {α : Type} (a b : α → Int) : ∀ l : List α, (l.map fun t => a t - b t).sum = (l.map a).sum - (l.map b).sum
  | [] => rfl
  | x :: l => by simp only [List.map_cons, List.sum_cons, sum_sub a b l]; omega
theorem gain_sum {da db : Fair} (h : names db = names da) : ((srtS (names da)).map fun t => (get db t).2 - (get da t).2).sum = money (toldF db) - money (toldF da) := by
  rw [sum_sub]
  unfold money
  rw [told_eq, told_eq, h, List.map_map, List.map_map]
  rfl
end K76

set_option Elab.async false
set_option linter.all false
set_option maxRecDepth 100000
set_option maxHeartbeats 400000
namespace K76
open PySem Mo
theorem kn_at {s rr : S} {j : Nat} {c : C} (h : Kn s rr) (e : rr[j]? = some c) : s[j + 2]? = some c := by
  obtain ⟨gs, cs, a, b, hc, rfl⟩ := h
  exact e
theorem kn_set {s rr : S} (j : Nat) (c : C) (h : Kn s rr) : Kn (s.set (j + 2) c) (rr.set j c) := by
  obtain ⟨gs, cs, a, b, hc, rfl⟩ := h
  exact ⟨gs, cs, a, b, hc, rfl⟩
theorem kn_cutL {s r t : S} (h : Kn s (r ++ t)) : ∃ q, Kn q r ∧ s = q ++ t := by
  obtain ⟨gs, cs, a, b, hc, rfl⟩ := h
  exact ⟨kS gs cs a b r, ⟨gs, cs, a, b, hc, rfl⟩, rfl⟩
theorem app_at {s : S} {n : Nat} {l : List D} {d : D} (e : s[n]? = some (.lst l)) (hl : l.length < 1000000) : appL (.loc n) [d] s = some (.p .non, s.set n (.lst (l ++ [d]))) := by
  have : l.length < sizeLine := by rw [sizeLine_eq]; omega
  simp [appL, e, this]
theorem isL_at {s : S} {n : Nat} {l : List D} (e : s[n]? = some (.lst l)) : isL s (.loc n) = true := by simp [e]
theorem putL_at {s : S} {n : Nat} {l : List D} {i : Nat} {d : D} (e : s[n]? = some (.lst l)) (hi : i < l.length) : putL (.loc n) (.p (.int (i : Nat))) d s = some (s.set n (.lst (l.set i d))) := by
  have h1 : L2.ixN l.length (i : Int) = some i := by
    unfold L2.ixN
    simp [hi]
  simp [putL, e, h1]
def wordOk (w : Str) : Prop := w ≠ "" ∧ 10 ∉ TL.tl w ∧ 32 ∉ TL.tl w ∧ (TL.tl w).head? ≠ some 35 ∧ (TL.tl w).length ≤ 50
instance (w : Str) : Decidable (wordOk w) := by unfold wordOk; infer_instance
structure GoodM (m : Market) : Prop where
  ne : m.offers ≠ []
  len : m.offers.length ≤ 10
  ok : okM m
  nd : (m.offers.map (·.name)).Nodup
  wds : ∀ o ∈ m.offers, wordOk o.name
  goods : ∃ gl : List Str, gl ≠ [] ∧ gl.length ≤ 3 ∧ m.goods = .tup (gl.map .str) ∧ ∀ g ∈ gl, PyData.strOk g = true ∧ wordOk g
def sideL (x : Side) : List D := [.p (.str x.good), .p (.int x.least), .p (optP .int x.most), .p (.str x.after), .p (.int x.change)]
def sideC (x : Side) : C := .lst (sideL x)
theorem tup_side {s : S} {n : Nat} {x : Side} (e : s[n]? = some (sideC x)) : bTup [.loc n] s = some (.p (pSide x), s) := by
  have := bTup_loc (s := s) (n := n) e
  rw [this]
  rfl
def nm (k : Nat) : Str := ("f" : Str) ++ txt k
theorem nm_nd : ((List.range 6).map nm).Nodup := by decide +kernel
theorem nm_ok : ∀ k, k < 6 → wordOk (nm k) := by decide +kernel
theorem bMax2_i (i j : Int) (s : S) : bMax2 [.p (.int i), .p (.int j)] s = some (.p (.int (if j > i then j else i)), s) := rfl
theorem bStr2_k (k : Nat) (s : S) (h : k < 1000000000) : bStr2 [.p (.int (k : Nat))] s = some (.p (.str (txt k)), s) := bStr_num h s
theorem market_w {s r : S} {Q : D → S → Prop} {E : Xc → S → Prop} (hk : Kn s r) (h : ∀ m s', Kn s' r → GoodM m → Q (.p (pMarket m)) s') : wO (F__law_market [.loc 1] s) Q E := by
  refine w__law_market ?_
  unfold W__law_market
  refine ear_w hk (by decide) (by decide) fun v1 s1 k1 l1 u1 => ?_
  refine vO_eq (dAdd_int _ _ _) ?_
  rw [vI_int]
  refine vO_eq (sl_to [.str "gem", .str "ink", .str "pot"] _ (by omega)) ?_
  let gl : List Str := ([("gem" : Str), "ink", "pot"]).take (1 + v1).toNat
  have hgl : gl = ([("gem" : Str), "ink", "pot"]).take (1 + v1).toNat := rfl
  have hsl2 : (.tup (([.str "gem", .str "ink", .str "pot"] : List P).take (1 + v1).toNat) : P) = .tup (gl.map .str) := by rw [hgl, List.map_take]; rfl
  rw [hsl2]
  have hg3 : gl.length ≤ 3 := by rw [hgl, List.length_take]; exact Nat.min_le_right _ _
  have hmem : ∀ g ∈ gl, g = "gem" ∨ g = "ink" ∨ g = "pot" := fun g h => by
    have := List.mem_of_mem_take (hgl ▸ h)
    simpa using this
  have hok : ∀ g ∈ gl, PyData.strOk g = true ∧ wordOk g := fun g h => by
    rcases hmem g h with e | e | e <;> rw [e] <;> decide +kernel
  obtain ⟨g0, gr, hgc⟩ : ∃ g0 gr, gl = g0 :: gr := by
    have : (1 + v1).toNat = v1.toNat + 1 := by omega
    rw [hgl, this]
    exact ⟨_, _, rfl⟩
  have hgp : 1 ≤ (gl.length : Int) := by rw [hgc]; simp; omega
  generalize hgg : gl = gl' at hok hgc hgp hg3
  clear hsl2 hmem hgg
  clear_value gl
  clear hgl gl
  refine ear_w k1 (by decide) (by decide) fun v2 s2 k2 l2 u2 => ?_
  refine vO_eq (dEq_int _ _ _) ?_
  generalize decide (v2 = 0) = even
  refine vNL_i ?_
  rw [vH_cons, vH_cons, vN_nil]
  have hn : s2.length = r.length + 2 := k2.len
  rw [hn]
  refine ear_w (k2.app [.lst []]) (by decide) (by decide) fun v3 s3 k3 l3 u3 => ?_
  refine vO_eq (dAdd_int _ _ _) ?_
  refine vW_eq (rgOf_int (by omega) (by omega)) ?_
  refine vFor_list (g := gI) rfl (fun pre _ _ t => ∃ (offs : List Offer) (g : S), Kn t (r ++ [.lst (offs.map fun o => D.p (pOffer o))] ++ g) ∧ offs.map (·.name) = pre.map nm ∧ ∀ o ∈ offs, o.one.after ∈ gl' ∧ ∀ y, o.other = some y → y.after ∈ gl') (fun _ => rfl) ⟨[], [], by rw [List.append_nil]; exact k3, rfl, (fun _ h => nomatch h)⟩ ?_ ?_
  · rintro pre k suf _ t nx el ⟨offs, g, kt, hnm, hof⟩ hnx
    have hk5 : k < 6 := by
      have : k ∈ List.range (2 + v3).toNat := by rw [el]; simp
      have := List.mem_range.mp this
      omega
    have hol : offs.length ≤ 10 := by
      have e1 := congrArg List.length hnm
      have e2 := congrArg List.length el
      simp at e1 e2
      omega
    refine vNL_i ?_
    generalize hr1 : r ++ [C.lst (offs.map fun o => D.p (pOffer o))] ++ g = r1 at kt
    have htl : t.length = r1.length + 2 := kt.len
    rw [htl]
    refine vW_eq (rgOf_int (i := 2) (by decide) (by decide)) ?_
    refine vFor_list (g := gI) rfl (fun pre _ _ t => ∃ xs : List Side, xs.length = pre.length ∧ Kn t (r1 ++ [.lst ((List.range xs.length).map fun i => .loc (r1.length + 3 + i))] ++ xs.map sideC) ∧ ∀ x ∈ xs, x.after ∈ gl') (fun _ => rfl) ⟨[], rfl, by simpa using kt.app [.lst []], (fun _ h => nomatch h)⟩ ?_ ?_
    · rintro pre2 k2' suf2 _ t2 nx2 el2 ⟨xs, hxl, kt2, hxa⟩ hnx2
      have hx2 : xs.length ≤ 2 := by have := congrArg List.length el2; simp at this; omega
      generalize hsl : ((List.range xs.length).map fun i => D.loc (r1.length + 3 + i)) = sl at kt2
      refine leaf_w kt2 (by decide) (by decide) fun a1 t3 k3' m1 n1 => ?_
      obtain ⟨le, hle⟩ := ints_at (ps := [.int 0, .int 0, .int 1, .int 3]) (n := a1.toNat) (by simp) (by simp; omega)
      refine vO_eq (dSb_ix (dIx_n t3 m1 hle)) ?_
      rw [vI_int, vI_int]
      refine leaf_w k3' (by decide) (by decide) fun a2 t4 k4 m2 n2 => ?_
      obtain ⟨ch, hch⟩ := ints_at (ps := [.int 0, .int 1, .int 3, .int 5, .int (-1), .int (-2)]) (n := a2.toNat) (by simp) (by simp; omega)
      refine vO_eq (dSb_ix (dIx_n t4 m2 hch)) ?_
      have e0 : ∀ cells : S, (r1 ++ [C.lst sl] ++ cells)[r1.length]? = some (.lst sl) := fun cells => by simp
      refine ⟨isL_at (kn_at k4 (e0 _)), ?_⟩
      refine vO_eq (bLen_tup _ _) ?_
      rw [List.length_map]
      refine leaf_w k4 hgp (by omega) fun a3 t5 k5 m3 n3 => ?_
      obtain ⟨go, hgo1, hgo⟩ := strs_at (gl := gl') (n := a3.toNat) (by omega)
      refine vO_eq (dSb_ix (dIx_n t5 m3 hgo)) ?_
      refine vO_eq (dAdd_int _ _ _) ?_
      refine leaf_w k5 (by decide) (by decide) fun a4 t6 k6 m4 n4 => ?_
      obtain ⟨mo, hmo⟩ : ∃ mo : Option Int, ([P.non, .non, .int (le + 7)] : List P)[a4.toNat]? = some (optP .int mo) := by
        have : a4.toNat = 0 ∨ a4.toNat = 1 ∨ a4.toNat = 2 := by omega
        rcases this with e | e | e <;> rw [e]
        · exact ⟨none, rfl⟩
        · exact ⟨none, rfl⟩
        · exact ⟨some (le + 7), rfl⟩
      refine vO_eq (dSb_ix (dIx_n t6 m4 hmo)) ?_
      refine vO_eq (bLen_tup _ _) ?_
      rw [List.length_map]
      refine leaf_w k6 hgp (by omega) fun a5 t7 k7 m5 n5 => ?_
      obtain ⟨af, haf1, haf⟩ := strs_at (gl := gl') (n := a5.toNat) (by omega)
      refine vO_eq (dSb_ix (dIx_n t7 m5 haf)) ?_
      rw [vI_int]
      refine vO_eq (bMax2_i _ _ _) ?_
      refine vNL_i ?_
      let x : Side := ⟨go, le, mo, af, if -le > ch then -le else ch⟩
      have kA : Kn (t7 ++ [sideC x]) (r1 ++ [C.lst sl] ++ (xs.map sideC ++ [sideC x])) := by
        have := k7.app [sideC x]
        rwa [List.append_assoc] at this
      have hsll : sl.length ≤ 2 := by rw [← hsl]; simp; omega
      refine vO_eq (app_at (kn_at kA (e0 _)) (by omega)) ?_
      have ht7 : t7.length = r1.length + 3 + xs.length := by
        rw [k7.len]
        simp
        omega
      refine hnx2 () _ ⟨xs ++ [x], by simp [hxl], ?_, fun y hy => ?_⟩
      · have := kn_set r1.length (.lst (sl ++ [.loc t7.length])) kA
        have e1 : (r1 ++ [C.lst sl] ++ (xs.map sideC ++ [sideC x])).set r1.length (.lst (sl ++ [.loc t7.length])) = r1 ++ [.lst (sl ++ [.loc t7.length])] ++ (xs.map sideC ++ [sideC x]) := by
          rw [List.append_assoc, List.set_append_right _ _ (Nat.le_refl _)]
          simp
        rw [e1] at this
        have e2 : ((List.range (xs ++ [x]).length).map fun i => D.loc (r1.length + 3 + i)) = sl ++ [.loc t7.length] := by
          rw [List.length_append, List.length_singleton, List.range_succ, List.map_append, hsl, ht7]
          rfl
        rw [e2, List.map_append]
        exact this
      · rcases List.mem_append.mp hy with z | z
        · exact hxa y z
        · rw [List.mem_singleton.mp z]; exact haf1
    · rintro _ t2 ⟨xs, hxl, kt2, hxa⟩
      obtain ⟨a, b, rfl⟩ : ∃ a b, xs = [a, b] := by
        have : xs.length = 2 := by rw [hxl]; rfl
        match xs, this with
        | [a, b], _ => exact ⟨a, b, rfl⟩
      have ha := hxa a (by simp)
      have hb := hxa b (by simp)
      generalize hA : C.lst ((List.range ([a, b] : List Side).length).map fun i => D.loc (r1.length + 3 + i)) = A at kt2
      have hA' : A = C.lst [.loc (r1.length + 3), .loc (r1.length + 4)] := by rw [← hA]; rfl
      have kt3 : Kn t2 (r1 ++ [A, sideC a, sideC b]) := by simpa using kt2
      have g0 : ∀ b : Side, (r1 ++ [A, sideC a, sideC b])[r1.length]? = some (.lst [.loc (r1.length + 3), .loc (r1.length + 4)]) := fun b => by simp [hA']
      have g1 : ∀ b : Side, (r1 ++ [A, sideC a, sideC b])[r1.length + 1]? = some (sideC a) := fun b => by simp
      have g2 : ∀ b : Side, (r1 ++ [A, sideC a, sideC b])[r1.length + 2]? = some (sideC b) := fun b => by simp
      have gs : ∀ (b c : Side), (r1 ++ [A, sideC a, sideC b]).set (r1.length + 2) (sideC c) = r1 ++ [A, sideC a, sideC c] := fun b c => by
        rw [List.set_append_right _ _ (by omega)]
        simp
      have at0 : ∀ (s : S) (b : Side), Kn s (r1 ++ [A, sideC a, sideC b]) → dSb (.loc (r1.length + 2)) (.p (.int 0)) s = some (.loc (r1.length + 3), s) := fun s b hk => dSb_ix (dIxL (kn_at hk (g0 b)) (atI_nat (n := 0) rfl))
      have at1 : ∀ (s : S) (b : Side), Kn s (r1 ++ [A, sideC a, sideC b]) → dSb (.loc (r1.length + 2)) (.p (.int 1)) s = some (.loc (r1.length + 4), s) := fun s b hk => dSb_ix (dIxL (kn_at hk (g0 b)) (atI_nat (n := 1) rfl))
      have put : ∀ (s : S) (b c : Side) (i : Nat) (d : D), Kn s (r1 ++ [A, sideC a, sideC b]) → i < 5 → (sideL b).set i d = sideL c → ∃ s', putL (.loc (r1.length + 4)) (.p (.int (i : Nat))) d s = some s' ∧ Kn s' (r1 ++ [A, sideC a, sideC c]) := fun s b c i d hk hi he => by
        refine ⟨_, putL_at (kn_at hk (g2 b)) hi, ?_⟩
        rw [he]
        have := kn_set (r1.length + 2) (sideC c) hk
        rwa [gs] at this
      rw [vBl_bl]
      refine vC_join (fun _ t => ∃ b', b'.after ∈ gl' ∧ Kn t (r1 ++ [A, sideC a, sideC b'])) ?_ ?_
      · rintro _ t3 ⟨b', hb', kt4⟩
        rw [vBl_bl]
        refine vC_join (fun _ t => Kn t (r1 ++ [A, sideC a, sideC b'])) ?_ ?_
        · rintro fl t4 kt5
          refine vC_join (fun d t => ∃ ot : Option Side, d = .p (optP pSide ot) ∧ (∀ y, ot = some y → y.after ∈ gl') ∧ Kn t (r1 ++ [A, sideC a, sideC b'])) ?_ ?_
          · rintro d t5 ⟨ot, rfl, hot, kt6⟩
            have hoA : (r1 ++ [A, sideC a, sideC b'])[r.length]? = some (.lst (offs.map fun o => D.p (pOffer o))) := by
              rw [← hr1]
              simp
            refine ⟨isL_at (kn_at kt6 hoA), ?_⟩
            refine vO_eq (bStr2_k k _ (by omega)) ?_
            refine vO_eq (dAdd_str _ _ _ (by
              have := txt_len k (by omega)
              have : (("f" : Str)).length = 1 := by decide +kernel
              omega)) ?_
            refine vO_eq (at0 _ _ kt6) ?_
            refine vO_eq (tup_side (kn_at kt6 (g1 b'))) ?_
            let o : Offer := ⟨nm k, a, ot⟩
            have happ := app_at (d := .p (pOffer o)) (kn_at kt6 hoA) (by rw [List.length_map]; omega)
            refine vO_eq happ ?_
            refine hnx () _ ⟨offs ++ [o], g ++ [A, sideC a, sideC b'], ?_, by simp [hnm, o], fun y hy => ?_⟩
            · have := kn_set r.length (.lst ((offs.map fun o => D.p (pOffer o)) ++ [.p (pOffer o)])) kt6
              have e1 : (r1 ++ [A, sideC a, sideC b']).set r.length (.lst ((offs.map fun o => D.p (pOffer o)) ++ [.p (pOffer o)])) = r ++ [.lst ((offs ++ [o]).map fun o => D.p (pOffer o))] ++ (g ++ [A, sideC a, sideC b']) := by
                rw [← hr1, List.append_assoc, List.append_assoc, List.set_append_right _ _ (Nat.le_refl _)]
                simp
              rw [e1] at this
              exact this
            · rcases List.mem_append.mp hy with z | z
              · exact hof y z
              · rw [List.mem_singleton.mp z]
                exact ⟨ha, hot⟩
          · intro k' hk'
            refine ⟨fun _ => hk' _ _ ⟨none, rfl, (fun _ h => nomatch h), kt5⟩, fun _ => ?_⟩
            refine vO_eq (at1 _ _ kt5) ?_
            refine vO_eq (tup_side (kn_at kt5 (g2 b'))) ?_
            exact hk' _ _ ⟨some b', rfl, (fun y hy => by cases hy; exact hb'), kt5⟩
        · intro k' hk'
          refine ⟨fun _ => ?_, fun _ => hk' _ _ kt4⟩
          refine leaf_w kt4 (by decide) (by decide) fun v t4 k4 l4 u4 => ?_
          refine vO_eq (dEq_int _ _ _) ?_
          exact hk' _ _ k4
      · intro k' hk'
        refine ⟨fun _ => ?_, fun _ => hk' _ _ ⟨b, hb, kt3⟩⟩
        refine vT_eq (ds := [.p (.int 5), .p .non]) rfl ?_
        rw [vH_cons]
        refine vO_eq (at1 _ _ kt3) ?_
        obtain ⟨t4, p1, kt4⟩ := put t2 b { b with least := 5 } 1 (.p (.int 5)) kt3 (by decide) rfl
        refine vP_eq p1 ?_
        rw [vH_cons]
        refine vO_eq (at1 _ _ kt4) ?_
        obtain ⟨t5, p2, kt5⟩ := put t4 _ { b with least := 5, most := none } 2 (.p .non) kt4 (by decide) rfl
        refine vP_eq p2 ?_
        rw [vN_nil]
        refine vO_eq (at0 _ _ kt5) ?_
        refine vO_eq (dSb_ix (dIxL (kn_at kt5 (g1 _)) (show L2.atI (sideL a) ((4 : Nat) : Int) = some (.p (.int a.change)) from atI_nat rfl))) ?_
        rw [vI_int]
        refine vO_eq (at1 _ _ kt5) ?_
        obtain ⟨t6, p3, kt6⟩ := put t5 _ { b with least := 5, most := none, change := -a.change } 4 (.p (.int (-a.change))) kt5 (by decide) rfl
        refine vP_eq (show putA _ _ _ _ = some t6 by unfold putA; rw [show ((4 : Int)) = ((4 : Nat) : Int) from rfl, p3]) ?_
        exact hk' _ _ ⟨{ b with least := 5, most := none, change := -a.change }, hb, kt6⟩
  · rintro _ t ⟨offs, g, kt, hnm, hof⟩
    have ix0 : ∀ s, dSb (.p (.tup (gl'.map .str))) (.p (.int 0)) s = some (.p (.str g0), s) := fun s => by rw [hgc]; exact dSb_0 _ _ _
    refine vO_eq (ix0 _) ?_
    have hoA : (r ++ [C.lst (offs.map fun o => D.p (pOffer o))] ++ g)[r.length]? = some (.lst (offs.map fun o => D.p (pOffer o))) := by simp
    have hmk : mkT (offs.map fun o => D.p (pOffer o)) = .p (.tup (offs.map pOffer)) := by
      rw [show (offs.map fun o => D.p (pOffer o)) = (offs.map pOffer).map D.p by simp]
      exact mkT_map _
    refine vO_eq (by rw [bTup_loc (kn_at kt hoA), hmk]) ?_
    rw [List.append_assoc] at kt
    obtain ⟨q, hq, rfl⟩ := kn_cutL kt
    show Q (fin s (.p (pMarket ⟨.tup (gl'.map .str), .tup [.tup [.str g0, .int 2]], offs⟩)) _).1 (fin s (.p (pMarket ⟨.tup (gl'.map .str), .tup [.tup [.str g0, .int 2]], offs⟩)) _).2
    rw [fin_kna hk hq]
    have hlen : offs.length = (2 + v3).toNat := by
      have := congrArg List.length hnm
      simpa using this
    have hsub : offs.map (·.name) = ((List.range 6).map nm).take (2 + v3).toNat := by
      rw [hnm, ← List.map_take, List.take_range]
      congr 2
      omega
    refine h _ q hq ⟨?_, ?_, ?_, ?_, ?_, gl', by rw [hgc]; simp, hg3, rfl, hok⟩
    · intro e
      have e' : offs = [] := e
      rw [e'] at hlen
      simp at hlen
      omega
    · show offs.length ≤ 10
      omega
    · intro o ho
      obtain ⟨z1, z2⟩ := hof o ho
      exact ⟨(hok _ z1).1, fun x hx => (hok _ (z2 x hx)).1⟩
    · show (offs.map (·.name)).Nodup
      rw [hsub]
      exact nm_nd.sublist (List.take_sublist _ _)
    · intro o ho
      have : o.name ∈ offs.map (·.name) := List.mem_map_of_mem ho
      rw [hsub] at this
      obtain ⟨k, hk, e⟩ := List.mem_map.mp (List.mem_of_mem_take this)
      rw [← e]
      exact nm_ok k (List.mem_range.mp hk)
end K76

set_option Elab.async false
set_option linter.all false
set_option maxRecDepth 100000
set_option maxHeartbeats 400000
namespace K76
open PySem Mo
theorem F_able (x : Side) (h : Hd) (s : S) : F__law_able [.p (pSide x), .p (pHd h)] s = .ok (.p (.bl (fits x h))) s := by
  obtain ⟨g, l, m, a, c⟩ := x
  obtain ⟨hg, hm⟩ := h
  have key : wO (F__law_able [.p (pSide ⟨g, l, m, a, c⟩), .p (pHd (hg, hm))] s) (fun d s' => d = .p (.bl (fits ⟨g, l, m, a, c⟩ (hg, hm))) ∧ s' = s) (fun _ _ => False) := by
    refine w__law_able ?_
    unfold W__law_able
    refine vO_eq (dSb_ix (ix_side0 _ _)) ?_
    refine vO_eq (dSb_ix (ix_hd0 _ _)) ?_
    refine vO_eq (dEq_str _ _ _) ?_
    rw [vBl_bl]
    unfold fits
    have fz : ∀ b : Bool, ((fin s (.p (.bl b)) s).1 = .p (.bl b) ∧ (fin s (.p (.bl b)) s).2 = s) := fun b => by rw [fin_p]; exact ⟨rfl, rfl⟩
    by_cases h1 : g = hg
    · have e1 : decide (hg = g) = true := decide_eq_true h1.symm
      simp only [decide_eq_true h1, e1, vC_true, Bool.true_and]
      refine vO_eq (dSb_ix (ix_side1 _ _)) ?_
      refine vO_eq (dSb_ix (ix_hd1 _ _)) ?_
      refine vO_eq (dLe_int _ _ _) ?_
      rw [vBl_bl]
      simp only
      cases e2 : decide (l ≤ hm) with
      | false => exact fz false
      | true =>
        simp only [vC_true, Bool.true_and]
        refine vO_eq (dSb_ix (ix_side2 _ _)) ?_
        rw [vBl_bl, isN_optInt]
        cases m with
        | none => exact fz true
        | some j =>
          show vC false _ _ _
          rw [vC_false]
          refine vO_eq (dSb_ix (ix_hd1 _ _)) ?_
          refine vO_eq (dSb_ix (ix_side2 _ _)) ?_
          refine vO_eq (dLe_int _ _ _) ?_
          exact fz _
    · have e1 : decide (hg = g) = false := decide_eq_false fun z => h1 z.symm
      simp only [decide_eq_false h1, e1, vC_false, Bool.false_and]
      exact fz false
  obtain ⟨d, s', e, rfl, rfl⟩ := key.of
  exact e
theorem some_w {m : Market} (gm : GoodM m) {fr : D} {da : Fair} {s r : S} {Q : D → S → Prop} {E : Xc → S → Prop} (hk : Kn s r) (dr : isDr r fr da) (hz : da.length < 64) (he : ("" : Str) ∉ names da)
    (h1 : ∀ s', Kn s' r → Q (.p .non) s') (h2 : ∀ d o s', Kn s' r → GoodD m da d o → o ∈ m.offers → Q (.p (pDeal d)) s') : wO (F__law_some_deal [.loc 1, .p (pMarket m), fr] s) Q E := by
  refine w__law_some_deal ?_
  unfold W__law_some_deal
  obtain ⟨d0, l0⟩ := dr s hk
  refine vO_eq (sortD d0 hz) ?_
  have hsl : (srtS (names da)).length ≤ 1000000 := by
    have := (srtS_perm (names da)).length_eq
    unfold names at this ⊢
    rw [List.length_map] at this
    omega
  have hf1 : ∀ t, Kn t r → Q (fin s (.p .non) t).1 (fin s (.p .non) t).2 := fun t ht => by rw [fin_kn hk ht]; exact h1 t ht
  have hf2 : ∀ d o t, Kn t r → GoodD m da d o → o ∈ m.offers → Q (fin s (.p (pDeal d)) t).1 (fin s (.p (pDeal d)) t).2 := fun d o t ht g ho => by rw [fin_kn hk ht]; exact h2 d o t ht g ho
  have hop : 1 ≤ (m.offers.length : Int) := by
    have := List.length_pos_iff.mpr gm.ne
    omega
  refine vW_eq (rgOf_int (i := 10) (by decide) (by decide)) ?_
  refine vFor_list (g := gI) rfl (fun _ _ _ t => Kn t r) (fun _ => rfl) hk ?_ ?_
  · rintro pre k suf _ t nx el kt hnx
    refine vO_eq (dSb_ix (ix_market2 m t)) ?_
    refine vO_eq (dSb_ix (ix_market2 m t)) ?_
    refine vO_eq (bLen_tup _ _) ?_
    rw [List.length_map]
    refine leaf_w kt hop (by have := gm.len; omega) fun v t1 k1 l1 u1 => ?_
    obtain ⟨o, ho, hix⟩ : ∃ o, o ∈ m.offers ∧ (m.offers.map pOffer)[v.toNat]? = some (pOffer o) := by
      have hl : v.toNat < m.offers.length := by omega
      exact ⟨m.offers[v.toNat], List.getElem_mem hl, by rw [List.getElem?_map, List.getElem?_eq_getElem hl]; rfl⟩
    refine vO_eq (dSb_ix (dIx_n t1 l1 hix)) ?_
    refine vT_eq (vi_offer o) ?_
    rw [vH_cons, vH_cons, vH_cons, vN_nil]
    obtain ⟨d1, _⟩ := dr t1 k1
    refine vW_eq rfl ?_
    refine vLc_pure (g := tD) (u := fun t => fits o.one (get da t)) (y := tD) (l := srtS (names da)) rfl (fun _ => rfl) (fun x hx acc j hj => ?_) hsl (fun _ _ => rfl) ?_
    · refine vO_eq (dSb_dict (isD_app d1) (found_get (srt_mem.mp hx))) ?_
      refine wO_eq (F_able _ _ _) ?_
      rw [vBl_bl]
      cases hb : fits o.one (get da x) with
      | false => rw [hb] at hj; exact hj
      | true => rw [hb] at hj; exact hj
    · have hfm : ∀ x ∈ (srtS (names da)).filter (fun t => fits o.one (get da t)), x ∈ names da ∧ fits o.one (get da x) = true := fun x hx => by
        obtain ⟨z1, z2⟩ := List.mem_filter.mp hx
        exact ⟨srt_mem.mp z1, z2⟩
      have hfl : ((srtS (names da)).filter fun t => fits o.one (get da t)).length ≤ 1000000 := Nat.le_trans (List.length_filter_le ..) hsl
      generalize (srtS (names da)).filter (fun t => fits o.one (get da t)) = first at hfm hfl
      refine vO_eq (bLen_lst _ _) ?_
      rw [List.length_map]
      refine vO_eq (dGt_int _ _ _) ?_
      rw [vBl_bl]
      refine vC_join (fun _ t => Kn t r) (fun _ t ht => hnx () t ht) ?_
      intro k' hk'
      refine ⟨fun hb => ?_, fun _ => hk' _ _ k1⟩
      have hb' := of_decide_eq_true hb
      refine vO_eq (bLen_lst _ _) ?_
      rw [List.length_map]
      refine leaf_w k1 (by omega) (by omega) fun v2 t2 k2 l2 u2 => ?_
      have hv2 : v2.toNat < first.length := by omega
      refine vO_eq (dSb_ix (dIxV (d := tD first[v2.toNat]) (atI_int l2 (by rw [List.getElem?_map, List.getElem?_eq_getElem hv2]; rfl)))) ?_
      obtain ⟨m1, m2⟩ := hfm _ (List.getElem_mem hv2)
      generalize first[v2.toNat] = one at m1 m2
      have hof := offerOf_nd gm.nd ho
      rw [vBl_bl, isN_optSide]
      cases hoo : o.other with
      | none =>
        exact hf2 ⟨o.name, one, ""⟩ o t2 k2 ⟨hof, m1, m2, fun _ => rfl, fun x hx => by rw [hoo] at hx; cases hx⟩ ho
      | some x =>
        rw [if_neg (show ¬ (some x : Option Side).isNone = true from fun h => nomatch h)]
        obtain ⟨d2, _⟩ := dr t2 k2
        refine vW_eq rfl ?_
        refine vLc_pure (g := tD) (u := fun t => !decide (t = one) && fits x (get da t)) (y := tD) (l := srtS (names da)) rfl (fun _ => rfl) (fun y hy acc j hj => ?_) hsl (fun _ _ => rfl) ?_
        · refine vO_eq (dNe_str _ _ _) ?_
          rw [vBl_bl]
          cases hb1 : decide (y = one) with
          | true =>
            rw [hb1] at hj
            exact hj
          | false =>
            rw [hb1] at hj
            show vC true _ _ _
            rw [vC_true]
            refine vO_eq (dSb_dict (isD_app d2) (found_get (srt_mem.mp hy))) ?_
            refine wO_eq (F_able _ _ _) ?_
            rw [vBl_bl]
            cases hb : fits x (get da y) with
            | false => rw [hb] at hj; exact hj
            | true => rw [hb] at hj; exact hj
        · have hsm : ∀ y ∈ (srtS (names da)).filter (fun t => !decide (t = one) && fits x (get da t)), y ∈ names da ∧ y ≠ one ∧ fits x (get da y) = true := fun y hy => by
            obtain ⟨z1, z2⟩ := List.mem_filter.mp hy
            obtain ⟨z3, z4⟩ := Bool.and_eq_true_iff.mp z2
            exact ⟨srt_mem.mp z1, by simpa using z3, z4⟩
          have hsl2 : ((srtS (names da)).filter fun t => !decide (t = one) && fits x (get da t)).length ≤ 1000000 := Nat.le_trans (List.length_filter_le ..) hsl
          generalize (srtS (names da)).filter (fun t => !decide (t = one) && fits x (get da t)) = second at hsm hsl2
          refine vO_eq (bLen_lst _ _) ?_
          rw [List.length_map]
          refine vO_eq (dGt_int _ _ _) ?_
          rw [vBl_bl]
          by_cases hc : (0 : Int) < (second.length : Nat)
          · rw [decide_eq_true hc, if_pos rfl]
            refine vO_eq (bLen_lst _ _) ?_
            rw [List.length_map]
            refine leaf_w k2 (by omega) (by omega) fun v3 t3 k3 l3 u3 => ?_
            have hv3 : v3.toNat < second.length := by omega
            refine vO_eq (dSb_ix (dIxV (d := tD second[v3.toNat]) (atI_int l3 (by rw [List.getElem?_map, List.getElem?_eq_getElem hv3]; rfl)))) ?_
            obtain ⟨n1, n2, n3⟩ := hsm _ (List.getElem_mem hv3)
            generalize second[v3.toNat] = oth at n1 n2 n3
            refine hf2 ⟨o.name, one, oth⟩ o t3 k3 ⟨hof, m1, m2, (fun z => by rw [hoo] at z; cases z), fun y hy => ?_⟩ ho
            rw [hoo] at hy
            cases hy
            exact ⟨fun z => he (z ▸ n1), n2, n1, n3⟩
          · rw [decide_eq_false hc, if_neg (by decide)]
            exact hk' _ _ k2
  · rintro _ t kt
    exact hf1 t kt
def vDc (e : Fair) : D := .dK (dk e) (dv e)
theorem F_beh {m : Market} (gm : GoodM m) {fr : D} {da : Fair} {d : Deal} {o : Offer} {s : S} (hd : isD s fr da) (hz : da.length ≤ 1000) (g : GoodD m da d o) (ho : o ∈ m.offers) : F__law_behind [.p (pMarket m), fr, .p (pDeal d)] s = .ok (vDc (behD m da d)) s := by
  have key : wO (F__law_behind [.p (pMarket m), fr, .p (pDeal d)] s) (fun x s' => x = vDc (behD m da d) ∧ s' = s) (fun _ _ => False) := by
    refine w__law_behind ?_
    unfold W__law_behind
    have hd' : viD s fr = some (dk da, dv da) := hd
    refine vO_eq (show bDict [fr] s = some (.loc s.length, s ++ [.dK (dk da) (dv da)]) by simp only [bDict, hd', Option.map_some]) ?_
    refine vO_eq (dSb_ix (ix_market2 m _)) ?_
    refine vW_eq rfl ?_
    refine vFor_list (g := fun x => D.p (pOffer x)) (l := m.offers) (by rw [List.map_map]; rfl) (fun pre _ _ t => ∃ e, t = s ++ [.dK (dk e) (dv e)] ∧ e = if (pre.any fun x => decide (x.name = d.name)) = true then behD m da d else da) (fun _ => rfl) ⟨da, rfl, rfl⟩ ?_ ?_
    · rintro pre x suf _ t nx el ⟨e, rfl, he⟩ hnx
      refine vT_eq (vi_offer x) ?_
      rw [vH_cons, vH_cons, vH_cons, vN_nil]
      refine vO_eq (dSb_ix (ix_deal0 d _)) ?_
      refine vO_eq (dEq_str _ _ _) ?_
      rw [vBl_bl]
      by_cases hx : x.name = d.name
      · rw [decide_eq_true hx, vC_true]
        have hxo : x = o := by
          have h1 := offerOf_nd gm.nd (show x ∈ m.offers by rw [el]; simp)
          rw [hx, g.of] at h1
          exact (Option.some.inj h1).symm
        subst hxo
        have hpre : (pre.any fun y => decide (y.name = d.name)) = false := by
          cases hb : pre.any fun y => decide (y.name = d.name) with
          | false => rfl
          | true =>
            obtain ⟨y, hy, hyn⟩ := List.any_eq_true.mp hb
            have hyn := of_decide_eq_true hyn
            have nd := gm.nd
            rw [el, List.map_append, List.map_cons] at nd
            exact absurd (hyn.trans hx.symm) ((List.nodup_append.mp nd).2.2 _ (List.mem_map_of_mem hy) _ (List.mem_cons_self ..))
        rw [hpre, if_neg (by decide)] at he
        subst he
        have hx1 := found_get g.one
        refine vO_eq (dSb_ix (ix_side3 _ _)) ?_
        refine vO_eq (dSb_ix (ix_deal1 d _)) ?_
        refine vO_eq (dSb_dict (isD_app hd) hx1) ?_
        refine vO_eq (dSb_ix (ix_hd1 _ _)) ?_
        refine vO_eq (dSb_ix (ix_side4 _ _)) ?_
        refine vO_eq (dAdd_int _ _ _) ?_
        refine vO_eq (dSb_ix (ix_deal1 d _)) ?_
        rw [mk_hd]
        refine vP_eq (putA_old (n := s.length) rfl (by rw [hx1]; rfl) hz) ?_
        have hnx' : ∀ e', e' = behD m e d → nx () (s ++ [.dK (dk e') (dv e')]) := fun e' he' => hnx () _ ⟨e', rfl, by
          rw [List.any_append, he']
          simp [hx]⟩
        rw [vBl_bl, isN_optSide]
        have hbd : behD m e d = match x.other with
          | none => withH e d.one (behind x.one (get e d.one))
          | some y => withH (withH e d.one (behind x.one (get e d.one))) d.other (behind y (get e d.other)) := by
          unfold behD
          rw [g.of] <;> rfl
        cases hoo : x.other with
        | none =>
          rw [hoo] at hbd
          exact hnx' _ hbd.symm
        | some y =>
          rw [hoo] at hbd
          obtain ⟨e1, e2, e3, e4⟩ := g.some y hoo
          have hx2 := found_get e3
          show vC true _ _ _
          rw [vC_true]
          refine vO_eq (dSb_ix (ix_side3 y _)) ?_
          refine vO_eq (dSb_ix (ix_deal2 d _)) ?_
          refine vO_eq (dSb_dict (isD_app hd) hx2) ?_
          refine vO_eq (dSb_ix (ix_hd1 _ _)) ?_
          refine vO_eq (dSb_ix (ix_side4 y _)) ?_
          refine vO_eq (dAdd_int _ _ _) ?_
          refine vO_eq (dSb_ix (ix_deal2 d _)) ?_
          rw [mk_hd]
          refine vP_eq (putA_old (n := s.length) rfl (by
            rw [found_with, if_neg e2, hx2]; rfl) (by rw [withH_len]; exact hz)) ?_
          exact hnx' _ hbd.symm
      · rw [decide_eq_false hx, vC_false]
        refine hnx () _ ⟨e, rfl, ?_⟩
        rw [List.any_append, he]
        simp [hx]
    · rintro _ t ⟨e, rfl, he⟩
      have hany : (m.offers.any fun x => decide (x.name = d.name)) = true := by
        have hn : o.name = d.name := by
          have h1 := offerOf_nd gm.nd ho
          have h2 := g.of
          unfold offerOf at h2
          have key : ∀ {l : List Offer} {b : Unit}, runSt (fun (_ : Unit) (e : Offer) => if e.name = d.name then Sum.inr e else Sum.inl ()) b l = .inr o → o.name = d.name := by
            intro l
            induction l with
            | nil => intro b h; cases h
            | cons x l ih =>
              intro b h
              unfold runSt at h
              by_cases e : x.name = d.name
              · simp only [e, if_true] at h
                cases h
                exact e
              · simp only [e, if_false] at h
                exact ih h
          cases e : runSt (fun (_ : Unit) (e : Offer) => if e.name = d.name then Sum.inr e else Sum.inl ()) () m.offers with
          | inl _ => rw [e] at h2; cases h2
          | inr o' =>
            rw [e] at h2
            cases h2
            exact key e
        exact List.any_eq_true.mpr ⟨o, ho, decide_eq_true hn⟩
      rw [hany, if_pos rfl] at he
      subst he
      show (fin s (.loc s.length) _).1 = _ ∧ (fin s (.loc s.length) _).2 = _
      rw [fin_newD (clDs_dv _ _)]
      exact ⟨rfl, rfl⟩
  obtain ⟨x, s', e, rfl, rfl⟩ := key.of
  exact e
end K76

set_option Elab.async false
set_option linter.all false
set_option maxRecDepth 100000
set_option maxHeartbeats 400000
namespace K76
open PySem Mo
def sfx : Nat → Str
  | 0 => ""
  | 1 => "x"
  | _ => "00"
def vn (k j : Nat) : Str := ("t" : Str) ++ txt k ++ sfx j
theorem vn_inj : ∀ k, k < 30 → ∀ k', k' < 30 → ∀ j, j < 3 → ∀ j', j' < 3 → vn k j = vn k' j' → k = k' := by decide +kernel
theorem vn_ok : ∀ k, k < 30 → ∀ j, j < 3 → wordOk (vn k j) ∧ PyData.strOk (vn k j) = true ∧ (txt k).length ≤ 5 ∧ (sfx j).length ≤ 5 := by decide +kernel
structure GoodF (da : Fair) : Prop where
  nd : (names da).Nodup
  nm : ∀ n ∈ names da, wordOk n ∧ PyData.strOk n = true
  hs : ∀ e ∈ da, wordOk e.2.1 ∧ 0 ≤ e.2.2 ∧ e.2.2 < 1000000000
def endD (m : Market) (da : Fair) (row : List Deal) : Fair := row.foldl (behD m) da
def stD (m : Market) : Fair → List Deal → List Fair
  | da, [] => [da]
  | da, d :: r => da :: stD m (behD m da d) r
def trD (n : Nat) : List Fair → List D
  | [] => []
  | _ :: r => .loc n :: r.map vDc
def GoodR (m : Market) : Fair → List Deal → Prop
  | _, [] => True
  | da, d :: r => (∃ o, GoodD m da d o ∧ o ∈ m.offers) ∧ GoodR m (behD m da d) r
theorem stD_snoc (m : Market) : ∀ (da : Fair) (row : List Deal) (d : Deal), stD m da (row ++ [d]) = stD m da row ++ [behD m (endD m da row) d]
  | da, [], d => rfl
  | da, e :: row, d => by
    rw [List.cons_append, stD, stD_snoc m _ row d, stD, List.cons_append]
    rfl
theorem stD_cons (m : Market) (da : Fair) (row : List Deal) : ∃ l, stD m da row = da :: l := by cases row <;> exact ⟨_, rfl⟩
theorem stD_len (m : Market) : ∀ (da : Fair) (row : List Deal), (stD m da row).length = row.length + 1
  | da, [] => rfl
  | da, e :: row => by rw [stD, List.length_cons, stD_len m _ row]; rfl
theorem trD_snoc (m : Market) (n : Nat) (da : Fair) (row : List Deal) (d : Deal) : trD n (stD m da (row ++ [d])) = trD n (stD m da row) ++ [vDc (behD m (endD m da row) d)] := by
  rw [stD_snoc]
  obtain ⟨l, e⟩ := stD_cons m da row
  rw [e]
  simp [trD]
theorem trD_len (m : Market) (n : Nat) (da : Fair) (row : List Deal) : (trD n (stD m da row)).length = row.length + 1 := by
  rw [← stD_len m da row]
  obtain ⟨l, e⟩ := stD_cons m da row
  rw [e]
  simp [trD]
theorem endD_snoc (m : Market) (da : Fair) (row : List Deal) (d : Deal) : endD m da (row ++ [d]) = behD m (endD m da row) d := by simp [endD]
theorem goodR_snoc {m : Market} : ∀ {row : List Deal} {da : Fair} {d : Deal}, GoodR m da row → (∃ o, GoodD m (endD m da row) d o ∧ o ∈ m.offers) → GoodR m da (row ++ [d])
  | [], da, d, _, h => ⟨h, trivial⟩
  | e :: row, da, d, h, h2 => ⟨h.1, goodR_snoc h.2 h2⟩
theorem names_endD (m : Market) : ∀ (row : List Deal) (da : Fair), names (endD m da row) = names da
  | [], da => rfl
  | d :: row, da => (names_endD m row (behD m da d)).trans (names_beh m da d)
theorem trD_last (m : Market) (n : Nat) (da : Fair) (row : List Deal) : ∃ l x, trD n (stD m da row) = l ++ [x] ∧ l.length = row.length ∧ ((x = .loc n ∧ endD m da row = da) ∨ x = vDc (endD m da row)) := by
  rcases List.eq_nil_or_concat row with e | ⟨row', d, e⟩
  · subst e
    exact ⟨[], .loc n, rfl, rfl, .inl ⟨rfl, rfl⟩⟩
  · subst e
    rw [List.concat_eq_append, trD_snoc, endD_snoc]
    exact ⟨_, _, rfl, by rw [trD_len]; simp, .inr rfl⟩
theorem isDr_at {rr : S} {j : Nat} {da : Fair} (e : rr[j]? = some (.dK (dk da) (dv da))) : isDr rr (.loc (j + 2)) da := fun s hk => by
  have h := kn_at hk e
  refine ⟨?_, ?_⟩
  · show viD _ _ = _
    simp [viD, h]
  · simp [isLk, h]
theorem fin_mix {s t : S} {a : Nat} {p : P} {l : List D} {n : Nat} (ha : ¬ a < s.length) (hn : ¬ n < s.length) (e : t[a]? = some (.lst (.loc n :: l))) : fin s (.mix [.loc a, .p p]) t = (.mix [.loc a, .p p], t) := by
  have h : clD s.length (frzD s.length t (.mix [.loc a, .p p])) = false := by
    simp [frzD, frz1, ha, e, clD, clDs, hn]
  unfold fin
  rw [h]
  simp
def mkC (r : S) (m : Market) (da : Fair) (row : List Deal) : S := r ++ [.dK (dk da) (dv da), .lst (trD (r.length + 2) (stD m da row)), .lst (row.map fun d => D.p (pDeal d))]
theorem mk0 (r : S) (m : Market) (da : Fair) (row : List Deal) : (mkC r m da row)[r.length]? = some (.dK (dk da) (dv da)) := by simp [mkC]
theorem mk1 (r : S) (m : Market) (da : Fair) (row : List Deal) : (mkC r m da row)[r.length + 1]? = some (.lst (trD (r.length + 2) (stD m da row))) := by simp [mkC]
theorem mk2 (r : S) (m : Market) (da : Fair) (row : List Deal) : (mkC r m da row)[r.length + 2]? = some (.lst (row.map fun d => D.p (pDeal d))) := by simp [mkC]
theorem made_w {m : Market} (gm : GoodM m) {s r : S} (hk : Kn s r) {many laps : Int} (h1 : 0 ≤ many) (h2 : many ≤ 30) (h3 : 0 ≤ laps) (h4 : laps ≤ 60) {Q : D → S → Prop} {E : Xc → S → Prop}
    (h : ∀ da row s', Kn s' (mkC r m da row) → GoodF da → ((da.length : Nat) : Int) = many → GoodR m da row → row.length ≤ 60 → Q (.mix [.loc (r.length + 3), .p (pRow row)]) s') : wO (F__law_made [.loc 1, .p (pMarket m), .p (.int many), .p (.int laps)] s) Q E := by
  refine w__law_made ?_
  unfold W__law_made
  obtain ⟨gl, g1, g2, g3, g4⟩ := gm.goods
  have hgp : 1 ≤ (gl.length : Int) := by
    have := List.length_pos_iff.mpr g1
    omega
  have hn : s.length = r.length + 2 := hk.len
  have ixg : ∀ s, dSb (.p (pMarket m)) (.p (.int 0)) s = some (.p (.tup (gl.map .str)), s) := fun s => by rw [← g3]; exact dSb_0 _ _ _
  refine vND_i ?_
  refine vW_eq (rgOf_int h1 (by omega)) ?_
  refine vFor_list (g := gI) (l := List.range many.toNat) rfl (fun pre suf _ t => ∃ da q, t = q ++ [.dK (dk da) (dv da)] ∧ Kn q r ∧ GoodF da ∧ da.length = pre.length ∧ ∀ n ∈ names da, ∃ k ∈ pre, ∃ j, j < 3 ∧ n = vn k j) (fun _ => rfl) ⟨[], s, rfl, hk, ⟨List.nodup_nil, (fun _ h => nomatch h), (fun _ h => nomatch h)⟩, rfl, (fun _ h => nomatch h)⟩ ?_ ?_
  · rintro pre k suf _ t nx el ⟨da, q, rfl, hkq, gf, hpl, hnm⟩ hnx
    have hkm : k < many.toNat := List.mem_range.mp (by rw [el]; simp)
    have hk30 : k < 30 := by omega
    have hpm : pre.length < many.toNat := by have := congrArg List.length el; simp at this; omega
    refine vO_eq (ixg _) ?_
    refine vO_eq (ixg _) ?_
    refine vO_eq (bLen_tup _ _) ?_
    rw [List.length_map]
    refine leaf_w (hkq.app [.dK (dk da) (dv da)]) hgp (by omega) fun v1 s1 k1 l1 u1 => ?_
    obtain ⟨g, gm1, hg⟩ := strs_at (gl := gl) (n := v1.toNat) (by omega)
    refine vO_eq (dSb_ix (dIx_n s1 l1 hg)) ?_
    refine leaf_w k1 (by decide) (by decide) fun v2 s2 k2 l2 u2 => ?_
    refine ear_w k2 (by decide) (by decide) fun v3 s3 k3 l3 u3 => ?_
    obtain ⟨mo, hmo, mo1, mo2⟩ : ∃ mo : Int, ([P.int 0, .int 3, .int 9, .int v2] : List P)[v3.toNat]? = some (.int mo) ∧ 0 ≤ mo ∧ mo < 1000 := by
      have : v3.toNat = 0 ∨ v3.toNat = 1 ∨ v3.toNat = 2 ∨ v3.toNat = 3 := by omega
      rcases this with e | e | e | e <;> rw [e]
      · exact ⟨0, rfl, by decide, by decide⟩
      · exact ⟨3, rfl, by decide, by decide⟩
      · exact ⟨9, rfl, by decide, by decide⟩
      · exact ⟨v2, rfl, l2, by omega⟩
    refine vO_eq (dSb_ix (dIx_n s3 l3 hmo)) ?_
    refine vO_eq (bStr2_k k _ (by omega)) ?_
    refine vO_eq (dAdd_str _ _ _ (by
      have := (vn_ok k hk30 0 (by decide)).2.2.1
      have : (("t" : Str)).length = 1 := by decide +kernel
      omega)) ?_
    refine leaf_w k3 (by decide) (by decide) fun v4 s4 k4 l4 u4 => ?_
    obtain ⟨j, hj, hjx⟩ : ∃ j, j < 3 ∧ ([P.str "", .str "x", .str "00"] : List P)[v4.toNat]? = some (.str (sfx j)) := by
      have : v4.toNat = 0 ∨ v4.toNat = 1 ∨ v4.toNat = 2 := by omega
      rcases this with e | e | e <;> rw [e]
      · exact ⟨0, by decide, rfl⟩
      · exact ⟨1, by decide, rfl⟩
      · exact ⟨2, by decide, rfl⟩
    refine vO_eq (dSb_ix (dIx_n s4 l4 hjx)) ?_
    obtain ⟨o1, o2, o3, o4⟩ := vn_ok k hk30 j hj
    refine vO_eq (dAdd_str _ _ _ (by
      have e1 : (("t" : Str) ++ txt k).length = 1 + (txt k).length := by
        rw [TL.len_tl, TL.tl_append, List.length_append, ← TL.len_tl, ← TL.len_tl]
        have : (("t" : Str)).length = 1 := by decide +kernel
        omega
      omega)) ?_
    obtain ⟨q2, hq2, rfl⟩ := k4.cut
    have hnew : vn k j ∉ names da := fun z => by
      obtain ⟨k', hk', j', hj', e⟩ := hnm _ z
      have hk'' : k' < 30 := by
        have : k' ∈ List.range many.toNat := by rw [el]; exact List.mem_append_left _ hk'
        have := List.mem_range.mp this
        omega
      have ek := vn_inj k hk30 k' hk'' j hj j' hj' e
      subst ek
      have nd : (List.range many.toNat).Nodup := List.nodup_range
      rw [el] at nd
      exact (List.nodup_append.mp nd).2.2 _ hk' _ (List.mem_cons_self ..) rfl
    rw [mk_hd]
    refine vP_eq (putA_new (t := vn k j) (by rw [hn, hq2.len]) hnew (by omega)) (hnx () _ ⟨_, q2, rfl, hq2, ⟨?_, ?_, ?_⟩, by simp [hpl], ?_⟩)
    · have : names (da ++ [(vn k j, g, mo)]) = names da ++ [vn k j] := by simp [names]
      rw [this]
      exact List.nodup_append.mpr ⟨gf.nd, by simp, fun a ha b hb e => by rw [List.mem_singleton.mp hb] at e; exact hnew (e ▸ ha)⟩
    · intro n hn'
      have : names (da ++ [(vn k j, g, mo)]) = names da ++ [vn k j] := by simp [names]
      rw [this] at hn'
      rcases List.mem_append.mp hn' with z | z
      · exact gf.nm n z
      · rw [List.mem_singleton.mp z]; exact ⟨o1, o2⟩
    · intro e he
      rcases List.mem_append.mp he with z | z
      · exact gf.hs e z
      · rw [List.mem_singleton.mp z]
        exact ⟨(g4 g gm1).2, mo1, by show mo < _; omega⟩
    · intro n hn'
      have : names (da ++ [(vn k j, g, mo)]) = names da ++ [vn k j] := by simp [names]
      rw [this] at hn'
      rcases List.mem_append.mp hn' with z | z
      · obtain ⟨k', hk', z⟩ := hnm n z
        exact ⟨k', List.mem_append_left _ hk', z⟩
      · rw [List.mem_singleton.mp z]
        exact ⟨k, by simp, j, hj, rfl⟩
  · rintro _ t ⟨da, q, rfl, hkq, gf, hpl, hnm⟩
    have hdl : da.length = many.toNat := by rw [hpl]; simp
    refine vNL_i ?_
    refine vNL_i ?_
    have e1 : (q ++ [C.dK (dk da) (dv da)]).length = r.length + 3 := by rw [List.length_append, hkq.len]; rfl
    have e2 : (q ++ [C.dK (dk da) (dv da)] ++ [C.lst [D.loc s.length]]).length = r.length + 4 := by rw [List.length_append, e1]; rfl
    rw [e1, e2, vH_cons, vH_cons, vN_nil]
    refine vW_eq (rgOf_int h3 (by omega)) ?_
    have hem : ("" : Str) ∉ names da := fun z => (gf.nm _ z).1.1 rfl
    refine vFor_list (g := gI) (l := List.range laps.toNat) rfl (fun pre suf _ t => ∃ row, Kn t (mkC r m da row) ∧ GoodR m da row ∧ row.length ≤ pre.length) (fun _ => rfl) ⟨[], ?_, trivial, Nat.le_refl _⟩ ?_ ?_
    · have := hkq.app [C.dK (dk da) (dv da), .lst [D.loc s.length], .lst []]
      rw [hn] at this ⊢
      simpa [mkC, stD, trD] using this
    · rintro pre k suf _ t nx el ⟨row, kt, gr, hrl⟩ hnx
      have hpm : pre.length < 60 := by have := congrArg List.length el; simp at this; omega
      have ne := names_endD m row da
      have hel : (endD m da row).length = da.length := by
        have := congrArg List.length ne
        simpa [names] using this
      obtain ⟨l, x, htr, hll, hx⟩ := trD_last m (r.length + 2) da row
      have drx : isDr (mkC r m da row) x (endD m da row) := by
        rcases hx with ⟨z1, z2⟩ | z1
        · rw [z1, z2]; exact isDr_at (mk0 r m da row)
        · rw [z1]; exact isDr_dK _ _
      have i1 : ∀ s, Kn s (mkC r m da row) → bLen [.loc (r.length + 3)] s = some (.p (.int ((l.length : Nat) + 1)), s) := fun s hs => by
        rw [bLen_loc (kn_at hs (mk1 r m da row)), htr]
        simp
      have i2 : ∀ s, Kn s (mkC r m da row) → dSb (.loc (r.length + 3)) (.p (.int ((l.length : Nat) + 1 - 1))) s = some (x, s) := fun s hs => by
        have h0 := kn_at hs (mk1 r m da row)
        rw [htr] at h0
        have hi : ((l.length : Nat) : Int) + 1 - 1 = ((l.length : Nat) : Int) := by omega
        rw [hi]
        exact dSb_ix (dIxL h0 (atI_nat (by simp)))
      refine vO_eq (dGt_int _ _ _) ?_
      rw [vBl_bl]
      refine vC_join (fun d t => Kn t (mkC r m da row) ∧ (d = .p .non ∨ ∃ dl o, d = .p (pDeal dl) ∧ GoodD m (endD m da row) dl o ∧ o ∈ m.offers)) ?_ ?_
      · rintro d t ⟨kt2, hd⟩
        rcases hd with rfl | ⟨dl, o, rfl, gd, ho⟩
        · exact hnx () t ⟨row, kt2, gr, by simp; omega⟩
        · rw [vBl_bl]
          have ei : (!isN (.p (pDeal dl))) = true := rfl
          rw [ei, vC_true]
          refine ⟨isL_at (kn_at kt2 (mk2 r m da row)), ?_⟩
          refine vO_eq (app_at (kn_at kt2 (mk2 r m da row)) (by rw [List.length_map]; omega)) ?_
          have kt3 := kn_set (r.length + 2) (.lst ((row.map fun d => D.p (pDeal d)) ++ [.p (pDeal dl)])) kt2
          have es : (mkC r m da row).set (r.length + 2) (.lst ((row.map fun d => D.p (pDeal d)) ++ [.p (pDeal dl)])) = r ++ [.dK (dk da) (dv da), .lst (trD (r.length + 2) (stD m da row)), .lst ((row ++ [dl]).map fun d => D.p (pDeal d))] := by
            unfold mkC
            rw [List.set_append_right _ _ (by omega)]
            simp
          rw [es] at kt3
          generalize t.set (r.length + 2 + 2) _ = t3 at kt3
          have a1 : (r ++ [C.dK (dk da) (dv da), .lst (trD (r.length + 2) (stD m da row)), .lst ((row ++ [dl]).map fun d => D.p (pDeal d))])[r.length + 1]? = some (.lst (trD (r.length + 2) (stD m da row))) := by simp
          have a0 : (r ++ [C.dK (dk da) (dv da), .lst (trD (r.length + 2) (stD m da row)), .lst ((row ++ [dl]).map fun d => D.p (pDeal d))])[r.length]? = some (.dK (dk da) (dv da)) := by simp
          have h0 := kn_at kt3 a1
          refine ⟨isL_at h0, ?_⟩
          refine vO_eq (bLen_loc h0) ?_
          rw [htr] at h0
          rw [htr]
          refine vO_eq (dSub_int _ _ _) ?_
          have hi : (((l ++ [x]).length : Nat) : Int) - 1 = ((l.length : Nat) : Int) := by simp
          rw [hi]
          refine vO_eq (dSb_ix (dIxL (d := x) h0 (atI_nat (by simp)))) ?_
          have drx3 : isD t3 x (endD m da row) := by
            rcases hx with ⟨z1, z2⟩ | z1
            · rw [z1, z2]; exact (isDr_at a0 t3 kt3).1
            · rw [z1]; exact (isDr_dK _ _ t3 kt3).1
          refine wO_eq (F_beh gm drx3 (by rw [hel]; omega) gd ho) ?_
          refine vO_eq (app_at h0 (by rw [List.length_append, hll, List.length_singleton]; omega)) ?_
          have kt4 := kn_set (r.length + 1) (.lst (l ++ [x] ++ [vDc (behD m (endD m da row) dl)])) kt3
          refine hnx () _ ⟨row ++ [dl], ?_, goodR_snoc gr ⟨o, gd, ho⟩, by simp; omega⟩
          have es2 : (r ++ [C.dK (dk da) (dv da), .lst (trD (r.length + 2) (stD m da row)), .lst ((row ++ [dl]).map fun d => D.p (pDeal d))]).set (r.length + 1) (.lst (l ++ [x] ++ [vDc (behD m (endD m da row) dl)])) = mkC r m da (row ++ [dl]) := by
            unfold mkC
            rw [trD_snoc, htr, List.set_append_right _ _ (by omega)]
            simp
          rw [es2] at kt4
          exact kt4
      · intro k' hk'
        refine ⟨fun hb => ?_, fun _ => hk' _ _ ⟨kt, .inl rfl⟩⟩
        refine vO_eq (i1 _ kt) ?_
        refine vO_eq (dSub_int _ _ _) ?_
        refine vO_eq (i2 _ kt) ?_
        refine some_w gm kt drx (by rw [hel]; omega) (by rw [ne]; exact hem) (fun s' ks => hk' _ _ ⟨ks, .inl rfl⟩) (fun d o s' ks gd ho => hk' _ _ ⟨ks, .inr ⟨d, o, rfl, gd, ho⟩⟩)
    · rintro _ t ⟨row, kt, gr, hrl⟩
      have hmk : mkT (row.map fun d => D.p (pDeal d)) = .p (pRow row) := by
        rw [show (row.map fun d => D.p (pDeal d)) = (row.map pDeal).map D.p by simp]
        exact mkT_map _
      refine vO_eq (by rw [bTup_loc (kn_at kt (mk2 r m da row)), hmk]) ?_
      show Q (fin s (.mix [.loc (r.length + 3), .p (pRow row)]) t).1 (fin s (.mix [.loc (r.length + 3), .p (pRow row)]) t).2
      obtain ⟨l, hl⟩ := stD_cons m da row
      have h0 := kn_at kt (mk1 r m da row)
      rw [hl] at h0
      rw [fin_mix (by omega) (by omega) h0]
      exact h da row t kt gf (by rw [hdl]; omega) gr (by simp at hrl; omega)
end K76

set_option Elab.async false
set_option linter.all false
set_option maxRecDepth 100000
set_option maxHeartbeats 1000000
namespace K76
open PySem Mo
def gK (k : Nat) : D := .p (.int (0 + (k : Int) * 1))
theorem gK_eq (k : Nat) : gK k = .p (.int (k : Nat)) := by
  unfold gK
  congr 2
  omega
theorem same_refl (j : Nat) : ∀ (p : P) (s : S), dpt p < j → szs p = true → Fr__law_same j [.p p, .p p] s = .ok (.p (.bl true)) s := by
  induction j with
  | zero => intro p s h; exact absurd h (Nat.not_lt_zero _)
  | succ j ihj =>
    intro p s h hs
    have b1 : isB "tuple" "tuple" = true := by decide
    have b2 : isB "bool" "tuple" = false := by decide
    have b3 : isB "int" "tuple" = false := by decide
    have b4 : isB "str" "tuple" = false := by decide
    have b5 : isB "NoneType" "tuple" = false := by decide
    have b6 : isB "bool" "bool" = true := by decide
    have b7 : isB "int" "bool" = false := by decide
    have b8 : isB "str" "bool" = false := by decide
    have b9 : isB "str" "str" = true := by decide
    have b10 : isB "int" "str" = false := by decide
    have b11 : isB "int" "int" = true := by decide
    cases p with
    | non => simp [Fr__law_same, runF, b__law_same, tyD, tyP, b5]
    | bl b =>
      have n1 : isN (.p (.bl b)) = false := rfl
      simp [Fr__law_same, runF, b__law_same, tyD, tyP, b2, b6, n1]
    | int i => simp [Fr__law_same, runF, b__law_same, tyD, tyP, b3, b7, b10, b11]
    | str x => simp [Fr__law_same, runF, b__law_same, tyD, tyP, b4, b8, b9]
    | tup ps =>
      simp only [szs, Bool.and_eq_true, decide_eq_true_eq] at hs
      obtain ⟨h1, h2⟩ := hs
      have hd : dpts ps < j := by
        rw [dpt] at h
        omega
      obtain ⟨L, hL⟩ : ∃ L : Int, L = ((ps.length : Nat) : Int) := ⟨_, rfl⟩
      have hr : rgD 0 1 L.toNat = (List.range ps.length).map gK := by rw [hL, Int.toNat_natCast]; rfl
      have hcond : -(2 ^ 62 : Int) ≤ L ∧ L < 2 ^ 62 := by omega
      have hbl : ∀ s, bLen [.p (.tup ps)] s = some (.p (.int L), s) := fun s => by rw [hL]; exact bLen_tup ps s
      have hsrc : sRng1 (aCons (eCa bLen (aCons (eVar 1) aNil)) aNil) [some (.p (.tup ps)), some (.p (.tup ps)), none] s = .ok ⟨(List.range ps.length).map gK, fun _ => true⟩ s := by
        simp only [sRng1, aCons, aNil, eCa, eVar, List.getElem?_cons_zero, List.getElem?_cons_succ, Out.bind_ok, hbl, ofO, hcond, and_self, if_true, hr]
      have kl := eLc_pure (g := gK) (u := fun _ => true) (y := fun _ => D.p (.bl true)) (Sg := sRng1 (aCons (eCa bLen (aCons (eVar 1) aNil)) aNil)) (own := [2]) (T := .nm 2) (U := tTrue) (A := ca__law_same_0 (Fr__law_same j)) (ρ := [some (.p (.tup ps)), some (.p (.tup ps)), none]) (s := s) (ok := fun _ => true) (l := List.range ps.length)
        hsrc (fun _ => rfl)
        (fun k hk => by
          have hk' := List.mem_range.mp hk
          refine ⟨[some (.p (.tup ps)), some (.p (.tup ps)), some (.p (.int (k : Nat)))], by rw [gK_eq]; rfl, fun _ => rfl, fun _ acc => ?_⟩
          have hi : ps[((k : Nat) : Int).toNat]? = some ps[k] := by
            have : ((k : Nat) : Int).toNat = k := by omega
            rw [this]
            exact List.getElem?_eq_getElem hk'
          have ix := dIx_n (i := ((k : Nat) : Int)) (s ++ [.lst acc]) (by omega) hi
          have hm := List.getElem_mem hk'
          have ih := ihj ps[k] (s ++ [.lst acc]) (Nat.lt_of_le_of_lt (dpts_mem hm) hd) (szss_mem h2 hm)
          simp [ca__law_same_0, ix, ih]) (by simp; omega) (fun _ _ => rfl)
      have hall : bAll [.lst ((List.filter (fun _ => true) (List.range ps.length)).map fun _ => D.p (.bl true))] s = some (.p (.bl true), s) := by
        have e : ((List.filter (fun _ => true) (List.range ps.length)).map fun _ => D.p (.bl true)) = (List.replicate ps.length true).map fun b => D.p (.bl b) := by
          rw [List.filter_eq_self.mpr (fun _ _ => rfl), List.map_replicate]
          rw [List.map_const', List.length_range]
        have e2 : allB ((List.replicate ps.length true).map fun b => D.p (.bl b)) = some (List.replicate ps.length true) := allB_map _
        have e3 : (List.replicate ps.length true).all id = true := List.all_eq_true.mpr fun x hx => (List.mem_replicate.mp hx).2
        rw [e]
        simp only [bAll, viL_lst, Option.bind, e2, Option.map_some, e3]
      generalize hρ : [some (D.p (.tup ps)), some (.p (.tup ps)), none] = ρ at kl
      have v0 : ∀ s, eVar 0 ρ s = .ok (.p (.tup ps)) s := fun s => by subst hρ; rfl
      have v1 : ∀ s, eVar 1 ρ s = .ok (.p (.tup ps)) s := fun s => by subst hρ; rfl
      have t0 : tyD s (.p (.tup ps)) = some "tuple" := rfl
      have e2 : eIsI "tuple" (eVar 0) ρ s = .ok (.p (.bl true)) s := by
        simp only [eIsI, v0, Out.bind_ok, t0, b1]
      have e1 : tV (eIsI "tuple" (eVar 1)) ρ s = .ok true s := by
        simp only [tV, eIsI, v1, Out.bind_ok, t0, b1]
      have e3 : eOp dEq (eCa bLen (aCons (eVar 0) aNil)) (eCa bLen (aCons (eVar 1) aNil)) ρ s = .ok (.p (.bl true)) s := by
        simp only [eOp, eCa, aCons, aNil, v0, v1, Out.bind_ok, hbl, ofO, dEq_int, eq_self_iff_true, decide_true]
      have e4 : eCa bAll (aCons (eLc (sRng1 (aCons (eCa bLen (aCons (eVar 1) aNil)) aNil)) [2] (.nm 2) tTrue (ca__law_same_0 (Fr__law_same j))) aNil) ρ s = .ok (.p (.bl true)) s := by
        rw [eCa, aCons, kl]
        simp only [Out.bind_ok, aNil, hall, ofO]
      have and_ok : ∀ (P1 P2 : Ex), P1 ρ s = .ok (.p (.bl true)) s → P2 ρ s = .ok (.p (.bl true)) s → eAnd P1 P2 ρ s = .ok (.p (.bl true)) s := fun P1 P2 h1 h2 => by
        rw [eAnd, h1]
        exact h2
      have if_ok : ∀ (T : Te) (A : Ex) (B C : Bl), T ρ s = .ok true s → A ρ s = .ok (.p (.bl true)) s → bSeq (bIf T (bRet A) B) C ρ s = .rt (.p (.bl true)) s := fun T A B C h1 h2 => by
        rw [bSeq, bIf, h1]
        show (bRet A ρ s).then_ C = _
        rw [bRet, h2]
        rfl
      have hB : b__law_same (Fr__law_same j) ρ s = .rt (.p (.bl true)) s := if_ok _ _ _ _ e1 (and_ok _ _ e2 (and_ok _ _ e3 e4))
      subst hρ
      rw [Fr__law_same, runF]
      have h22 : ([D.p (.tup ps), D.p (.tup ps)] : List D).length = 2 := rfl
      rw [if_pos h22]
      have henv : (List.map some [D.p (.tup ps), D.p (.tup ps)] ++ List.replicate (3 - 2) none : Mo.Env) = [some (.p (.tup ps)), some (.p (.tup ps)), none] := rfl
      rw [henv]
      rw [hB]
      simp only [fin_p]
end K76

set_option Elab.async false
set_option linter.all false
set_option maxRecDepth 100000
set_option maxHeartbeats 400000
namespace K76
open PySem Mo
theorem told_mem {da : Fair} (nd : (names da).Nodup) {e : Str × Hd} : e ∈ toldF da ↔ e ∈ da := (told_perm nd).mem_iff
theorem goodR_mem {m : Market} {P : Str → Prop} : ∀ {row : List Deal} {da : Fair}, GoodR m da row → ∀ d ∈ row, (∃ o ∈ m.offers, offerOf m d.name = some o) ∧ d.one ∈ names da ∧ (d.other = "" ∨ d.other ∈ names da)
  | e :: row, da, h, d, hd => by
    rcases List.mem_cons.mp hd with z | z
    · subst z
      obtain ⟨⟨o, g, ho⟩, _⟩ := h
      refine ⟨⟨o, ho, g.of⟩, g.one, ?_⟩
      cases hoo : o.other with
      | none => exact .inl (g.none hoo)
      | some x => exact .inr (g.some x hoo).2.2.1
    · have := goodR_mem (P := P) h.2 d z
      rwa [names_beh] at this
theorem good_end {m : Market} : ∀ {row : List Deal} {da : Fair}, GoodR m da row → Legal m (toldF da) row ∧ endF m (toldF da) row = toldF (endD m da row)
  | [], da, _ => ⟨trivial, rfl⟩
  | d :: row, da, h => by
    obtain ⟨⟨o, g, ho⟩, h2⟩ := h
    obtain ⟨i1, i2⟩ := good_end h2
    have e := good_done g
    refine ⟨⟨good_word g, by rw [e]; exact i1⟩, ?_⟩
    show endF m (doneDeal m (toldF da) d) row = _
    rw [e, i2]
    rfl
theorem goodR_take {m : Market} : ∀ {row : List Deal} {da : Fair} (i : Nat), GoodR m da row → GoodR m da (row.take i)
  | _, _, 0, _ => trivial
  | [], _, i + 1, _ => trivial
  | d :: row, da, i + 1, h => ⟨h.1, goodR_take i h.2⟩
theorem even_end {m : Market} (ev : m.offers.all evenO = true) : ∀ {row : List Deal} {da : Fair}, (names da).Nodup → GoodR m da row → money (endD m da row) = money da
  | [], _, _, _ => rfl
  | d :: row, da, nd, h => by
    obtain ⟨⟨o, g, ho⟩, h2⟩ := h
    have e := even_end ev (row := row) (da := behD m da d) (by rw [names_beh]; exact nd) h2
    exact e.trans (money_beh g nd (List.all_eq_true.mp ev o ho))
theorem offer_name {m : Market} {n : Str} {o : Offer} (h : offerOf m n = some o) : o.name = n := by
  unfold offerOf at h
  have key : ∀ {l : List Offer} {b : Unit}, runSt (fun (_ : Unit) (e : Offer) => if e.name = n then Sum.inr e else Sum.inl ()) b l = .inr o → o.name = n := by
    intro l
    induction l with
    | nil => intro b h; cases h
    | cons x l ih =>
      intro b h
      unfold runSt at h
      by_cases e : x.name = n
      · simp only [e, if_true] at h
        cases h
        exact e
      · simp only [e, if_false] at h
        exact ih h
  cases e : runSt (fun (_ : Unit) (e : Offer) => if e.name = n then Sum.inr e else Sum.inl ()) () m.offers with
  | inl _ => rw [e] at h; cases h
  | inr o' =>
    rw [e] at h
    cases h
    exact key e
theorem srt_rev {da : Fair} : srtS (names (toldF da).reverse) = srtS (names da) := by
  have h1 : names (toldF da).reverse = (srtS (names da)).reverse := by
    have := told_names da
    unfold names at this ⊢
    rw [List.map_reverse, this]
  rw [h1]
  exact List.Perm.eq_of_pairwise (le := fun a b => leS a b = true) (fun a b _ _ h1 h2 => leS_anti h1 h2) (srtS_pw _) (srtS_pw _) ((srtS_perm _).trans ((List.reverse_perm _).trans (List.Perm.refl _)))
theorem told_rev {da : Fair} (nd : (names da).Nodup) : toldF (toldF da).reverse = toldF da := by
  rw [told_eq (toldF da).reverse, srt_rev]
  show _ = (srtS (names da)).map fun t => (t, get da t)
  refine List.map_congr_left fun t ht => ?_
  have hm : (t, get da t) ∈ toldF da := by rw [told_eq]; exact List.mem_map_of_mem ht
  have ndr : (names (toldF da).reverse).Nodup := by
    have : names (toldF da).reverse = (srtS (names da)).reverse := by
      have := told_names da
      unfold names at this ⊢
      rw [List.map_reverse, this]
    rw [this]
    exact (List.reverse_perm _).nodup_iff.mpr ((srtS_perm _).nodup_iff.mpr nd)
  have h := found_nodup ndr (List.mem_reverse.mpr hm)
  have e : get (toldF da).reverse t = get da t := by
    show (found (toldF da).reverse t).getD ("", 0) = _
    rw [h]; rfl
  show (t, get (toldF da).reverse t) = _
  rw [e]
theorem wd_three {a b : Str} {p : P} (ha : a ≠ "") (hb : b ≠ "") (hp : noEP p = true) : wd [.str a, .str b, p] = [a, b, ats p] := by
  unfold wd
  have e1 : decide (a = "") = false := decide_eq_false ha
  have e2 : decide (b = "") = false := decide_eq_false hb
  have e3 : noEP (.str a) = true := by simp [noEP, e1]
  have e4 : noEP (.str b) = true := by simp [noEP, e2]
  simp only [List.filter, e3, e4, hp, List.map, ats]
theorem okW_of {ws : List Str} (h1 : ws ≠ []) (h2 : ws.length ≤ 3) (h : ∀ w ∈ ws, wordOk w) : okW ws := by
  refine ⟨h1, fun w hw => ⟨(h w hw).1, (h w hw).2.1, (h w hw).2.2.1⟩, ?_, ?_⟩
  · cases ws with
    | nil => exact absurd rfl h1
    | cons w r => exact (h w (List.mem_cons_self ..)).2.2.2.1
  · have key : ∀ ps : List (List Nat), (∀ p ∈ ps, p.length ≤ 50) → (TL.joinL [32] ps).length ≤ 51 * ps.length := by
      intro ps
      induction ps with
      | nil => intro _; simp [TL.joinL]
      | cons p ps ih =>
        intro hp
        have hpl := hp p (List.mem_cons_self ..)
        have ih' := ih fun q hq => hp q (List.mem_cons_of_mem _ hq)
        cases ps with
        | nil => show p.length ≤ _; simp; omega
        | cons q r =>
          show (p ++ ([32] ++ TL.joinL [32] (q :: r))).length ≤ _
          rw [List.length_append, List.length_append, List.length_singleton]
          simp only [List.length_cons] at ih' ⊢
          omega
    have := key (ws.map TL.tl) fun p hp => by
      obtain ⟨w, hw, rfl⟩ := List.mem_map.mp hp
      exact (h w hw).2.2.2.2
    rw [List.length_map] at this
    omega
theorem num_word {n : Nat} (h : n < 1000000000) : wordOk (num n) := by
  refine ⟨fun e => ?_, ?_, ?_, ?_, ?_⟩
  · have := congrArg TL.tl e
    rw [tl_num, tl_em] at this
    exact TL.numL_ne n this
  · rw [tl_num]; exact TL.numL_free (.inl (by decide))
  · rw [tl_num]; exact TL.numL_free (.inl (by decide))
  · rw [tl_num]
    intro e
    have : (35 : Nat) ∈ TL.numL n := by
      cases hn : TL.numL n with
      | nil => rw [hn] at e; cases e
      | cons c r => rw [hn] at e; simp at e; rw [e]; exact List.mem_cons_self ..
    exact TL.numL_free (.inl (by decide)) this
  · rw [tl_num]
    have := TL.numL_len (n := n) (k := 9) (by decide) h
    omega
/-! how deep, how long -/
theorem dpts_map {α : Type} {g : α → P} {k : Nat} : ∀ {l : List α}, (∀ x ∈ l, dpt (g x) ≤ k) → dpts (l.map g) ≤ k
  | [], _ => Nat.zero_le _
  | x :: l, h => by
    rw [List.map_cons]
    show max _ _ ≤ k
    have h1 := h x (List.mem_cons_self ..)
    have h2 := dpts_map (l := l) fun y hy => h y (List.mem_cons_of_mem _ hy)
    omega
theorem szss_map {α : Type} {g : α → P} : ∀ {l : List α}, (∀ x ∈ l, szs (g x) = true) → szss (l.map g) = true
  | [], _ => rfl
  | x :: l, h => by
    rw [List.map_cons]
    show (szs (g x) && szss _) = true
    rw [h x (List.mem_cons_self ..), szss_map (l := l) fun y hy => h y (List.mem_cons_of_mem _ hy)]
    rfl
theorem dpt_tup {α : Type} {g : α → P} {k : Nat} {l : List α} (h : ∀ x ∈ l, dpt (g x) ≤ k) : dpt (.tup (l.map g)) ≤ k + 1 := by
  have := dpts_map h
  show dpts _ + 1 ≤ _
  omega
theorem szs_tup {α : Type} {g : α → P} {l : List α} (hz : l.length ≤ 1000) (h : ∀ x ∈ l, szs (g x) = true) : szs (.tup (l.map g)) = true := by
  show (decide ((l.map g).length ≤ 1000) && szss _) = true
  rw [szss_map h, Bool.and_true, List.length_map]
  exact decide_eq_true hz
theorem fair_dpt (f : Fair) : dpt (pFair f) ≤ 2 := dpt_tup (k := 1) fun e _ => Nat.le_refl _
theorem fair_szs {f : Fair} (h : f.length ≤ 1000) : szs (pFair f) = true := szs_tup h fun e _ => rfl
theorem rowd_dpt (row : List Deal) : dpt (pRow row) ≤ 2 := dpt_tup (k := 1) fun e _ => Nat.le_refl _
theorem row_szs' {row : List Deal} (h : row.length ≤ 1000) : szs (pRow row) = true := szs_tup h fun e _ => rfl
theorem two_szs {p q : P} (h1 : szs p = true) (h2 : szs q = true) : szs (.tup [p, q]) = true := by
  show (decide (2 ≤ 1000) && (szs p && (szs q && true))) = true
  rw [h1, h2]; rfl
theorem two_dpt {p q : P} {k : Nat} (h1 : dpt p ≤ k) (h2 : dpt q ≤ k) : dpt (.tup [p, q]) ≤ k + 1 := by
  show max (dpt p) (max (dpt q) 0) + 1 ≤ _
  omega
/-- what is, is the same -/
theorem same_w {p : P} {s : S} {Q : D → S → Prop} {E : Xc → S → Prop} (h1 : dpt p < 6) (h2 : szs p = true) (h : Q (.p (.bl true)) s) : wO (F__law_same [.p p, .p p] s) Q E := wO_eq (same_refl 6 p s h1 h2) h
/-- over a dict's values -/
theorem vLcG_vals {fr : D} {s : S} {da : Fair} {y : Hd → D} {bd : D → S → (Option D → S → Prop) → Prop} {Q : D → S → Prop} (hd : isD s fr da) (hl : isLk s fr = true)
    (h : ∀ e ∈ da, ∀ s' acc (j : Option D → S → Prop), j (some (y e.2)) (s' ++ [.lst acc]) → bd (.p (pHd e.2)) (s' ++ [.lst acc]) j) (hz : da.length ≤ 1000) (hc : ∀ e ∈ da, clD s.length (y e.2) = true) (q : Q (.lst (da.map fun e => y e.2)) s) : vLcG dVals fr s bd Q := by
  refine ⟨dk da, dv da, hd, hl, fun l acc t => ∃ l1 l2, da = l1 ++ l2 ∧ l = l2.map (fun e => D.p (pHd e.2)) ∧ acc = l1.map (fun e => y e.2) ∧ t = lockS s fr (dk da) (dv da) ++ [.lst acc], ⟨⟨[], da, rfl, ?_, rfl, rfl⟩, (fun _ _ _ _ => rfl), ?_⟩, ?_⟩
  · rfl
  · rintro d l acc t ⟨l1, l2, e1, e2, e3, rfl⟩
    cases l2 with
    | nil => cases e2
    | cons x l2 =>
      injection e2 with e2 e4
      subst e2
      refine h x (by rw [e1]; simp) _ acc _ ?_
      have hln : acc.length ≤ 1000 := by
        have := congrArg List.length e1
        rw [e3]
        simp at this ⊢
        omega
      exact ⟨at_last, by omega, l1 ++ [x], l2, by simp [e1], e4, by simp [e3], set_last⟩
  · rintro acc t ⟨l1, l2, e1, e2, e3, rfl⟩
    have : l2 = [] := by cases l2 with | nil => rfl | cons _ _ => cases e2
    subst this
    rw [List.append_nil] at e1
    subst e1
    have hlk := lock_len s fr (dk da) (dv da)
    rw [e3, ← hlk, fin_new (clDs_all fun d hd => by
      obtain ⟨x, hx, rfl⟩ := List.mem_map.mp hd
      rw [hlk]
      exact hc x hx)]
    exact ⟨s, unlock_isD hd hl, q⟩
end K76

set_option Elab.async false
set_option linter.all false
set_option maxRecDepth 100000
set_option maxHeartbeats 400000
namespace K76
open PySem Mo
theorem dNe_int (a b : Int) (s : S) : dNe (.p (.int a)) (.p (.int b)) s = some (.p (.bl (!decide (a = b))), s) := by simp [dNe, scP]
theorem viT_two (a b : D) : viT (mkT [a, b]) = some [a, b] := by
  cases a <;> cases b <;> rfl
theorem map_getD {α : Type} (f : Str → α) (ns : List Str) : (List.range ns.length).map (fun k => f (ns.getD k "")) = ns.map f := by
  apply List.ext_getElem?
  intro i
  rw [List.getElem?_map, List.getElem?_map]
  by_cases h : i < ns.length
  · rw [List.getElem?_range h, List.getElem?_eq_getElem h]
    simp [List.getD, List.getElem?_eq_getElem h]
  · rw [List.getElem?_eq_none (by rw [List.length_range]; omega), List.getElem?_eq_none (by omega)]
    rfl
theorem hd_dpt (h : Hd) : dpt (pHd h) < 6 := Nat.lt_of_le_of_lt (Nat.le_of_eq (show dpt (pHd h) = 1 from rfl)) (by decide)
theorem stD_get (m : Market) : ∀ (da : Fair) (row : List Deal) (i : Nat), i ≤ row.length → (stD m da row)[i]? = some (endD m da (row.take i))
  | da, [], i, h => by
    have : i = 0 := by simpa using h
    subst this; rfl
  | da, d :: row, 0, _ => rfl
  | da, d :: row, i + 1, h => by
    rw [stD, List.getElem?_cons_succ, stD_get m _ row i (by simpa using h)]
    rfl
theorem trD_get (m : Market) (n : Nat) (da : Fair) (row : List Deal) (i : Nat) (h : i < row.length) : (trD n (stD m da row))[i + 1]? = some (vDc (endD m da (row.take (i + 1)))) := by
  have h1 := stD_get m da row (i + 1) (by omega)
  obtain ⟨l, e⟩ := stD_cons m da row
  rw [e] at h1 ⊢
  rw [List.getElem?_cons_succ] at h1
  show (D.loc n :: l.map vDc)[i + 1]? = _
  rw [List.getElem?_cons_succ, List.getElem?_map, h1]
  rfl
theorem asked_w {m : Market} (gm : GoodM m) {s r : S} (hk : Kn s r) {many laps : Int} (h1 : 0 ≤ many) (h2 : many ≤ 30) (h3 : 0 ≤ laps) (h4 : laps ≤ 60) {Q : D → S → Prop} {E : Xc → S → Prop} (hq : ∀ s', Kn s' r → Q (.p (.bl true)) s') :
    wO (F__law_asked [.loc 1, .p (pMarket m), .p (.int many), .p (.int laps)] s) Q E := by
  refine w__law_asked ?_
  unfold W__law_asked
  refine made_w gm hk h1 h2 h3 h4 fun da row t kt gf hdl gr hrl => ?_
  have hdz : da.length ≤ 30 := by omega
  have fin0 : ∀ t, Kn t (mkC r m da row) → Q (fin s (.p (.bl true)) t).1 (fin s (.p (.bl true)) t).2 := fun t ht => by
    obtain ⟨q, hq1, rfl⟩ := kn_cutL ht
    rw [fin_kna hk hq1]
    exact hq q hq1
  obtain ⟨l, x, htr, hll, hx⟩ := trD_last m (r.length + 2) da row
  obtain ⟨tl, htl⟩ := stD_cons m da row
  have dr0 : isDr (mkC r m da row) (.loc (r.length + 2)) da := isDr_at (mk0 r m da row)
  have drx : isDr (mkC r m da row) x (endD m da row) := by
    rcases hx with ⟨z1, z2⟩ | z1
    · rw [z1, z2]; exact dr0
    · rw [z1]; exact isDr_dK _ _
  have ne := names_endD m row da
  have hel : (endD m da row).length = da.length := by
    have := congrArg List.length ne
    simpa [names] using this
  have hcell : ∀ s, Kn s (mkC r m da row) → s[r.length + 3]? = some (.lst (trD (r.length + 2) (stD m da row))) := fun s hs => kn_at hs (mk1 r m da row)
  refine vT_eq (ds := [.loc (r.length + 3), .p (pRow row)]) rfl ?_
  rw [vH_cons, vH_cons, vN_nil]
  have i0 : dSb (.loc (r.length + 3)) (.p (.int 0)) t = some (.loc (r.length + 2), t) := by
    have h0 := hcell t kt
    rw [htl] at h0
    exact dSb_ix (dIxL h0 (atI_nat (n := 0) rfl))
  refine vO_eq i0 ?_
  refine vO_eq (bLen_loc (hcell t kt)) ?_
  refine vO_eq (dSub_int _ _ _) ?_
  have i1 : dSb (.loc (r.length + 3)) (.p (.int (((trD (r.length + 2) (stD m da row)).length : Nat) - 1))) t = some (x, t) := by
    have h0 := hcell t kt
    rw [htr] at h0 ⊢
    have hi : (((l ++ [x]).length : Nat) : Int) - 1 = ((l.length : Nat) : Int) := by simp
    rw [hi]
    exact dSb_ix (dIxL (d := x) h0 (atI_nat (by simp)))
  refine vO_eq i1 ?_
  refine vT_eq (viT_two _ _) ?_
  rw [vH_cons, vH_cons, vN_nil]
  refine wO_eq (F_tuple (dr0 t kt).1 (by omega)) ?_
  refine vO_eq (sortD (dr0 t kt).1 (by omega)) ?_
  refine vT_eq (viT_two _ _) ?_
  rw [vH_cons, vH_cons, vN_nil]
  obtain ⟨lg, ef⟩ := good_end gr
  have nd := gf.nd
  have hfe : ∀ e ∈ toldF da, wordOk e.1 ∧ PyData.strOk e.1 = true ∧ wordOk e.2.1 ∧ 0 ≤ e.2.2 ∧ e.2.2 < 1000000000 := fun e he => by
    have he' := (told_mem nd).mp he
    have h5 := gf.nm e.1 (List.mem_map_of_mem he')
    have h6 := gf.hs e he'
    exact ⟨h5.1, h5.2, h6.1, h6.2.1, h6.2.2⟩
  have hfl : (toldF da).length ≤ 30 := by rw [told_len]; exact hdz
  have hnames := told_names da
  have htold := told_rev nd
  -- the fair's text
  have hrev : revQ (.p (pFair (toldF da))) t = some (.p (.tup (((toldF da).reverse.map fun e => ([.str e.1, .str e.2.1, .int e.2.2] : List P)).map P.tup)), t) := by
    have : mkT (((toldF da).map fun e => D.p (pEn e)).reverse) = .p (.tup (((toldF da).reverse.map fun e => ([.str e.1, .str e.2.1, .int e.2.2] : List P)).map P.tup)) := by
      rw [← List.map_reverse, show ((toldF da).reverse.map fun e => D.p (pEn e)) = ((toldF da).reverse.map pEn).map D.p by simp, mkT_map, List.map_map]
      rfl
    simp only [revQ, vi_fair, this]
  refine vO_eq hrev ?_
  have hw1 : ((toldF da).reverse.map fun e => ([.str e.1, .str e.2.1, .int e.2.2] : List P)).map wd = (toldF da).reverse.map went := by
    rw [List.map_map]
    refine List.map_congr_left fun e he => ?_
    have := hfe e (List.mem_reverse.mp he)
    exact wd_three this.1.1 this.2.2.1.1 rfl
  refine text_w kt (fun row' hr p hp => ?_) (fun row' hr => ?_) (by rw [List.length_map, List.length_reverse]; omega) (fun row' hr => ?_) fun T L t1 kt1 tx => ?_
  · obtain ⟨e, he, rfl⟩ := List.mem_map.mp hr
    have := hfe e (List.mem_reverse.mp he)
    have hp' : p = .str e.1 ∨ p = .str e.2.1 ∨ p = .int e.2.2 := by simpa using hp
    rcases hp' with z | z | z <;> subst z
    · trivial
    · trivial
    · exact ⟨this.2.2.2.1, this.2.2.2.2⟩
  · obtain ⟨e, he, rfl⟩ := List.mem_map.mp hr
    have := hfe e (List.mem_reverse.mp he)
    rw [wd_three this.1.1 this.2.2.1.1 rfl]
    refine okW_of (by simp) (by simp) fun w hw => ?_
    have hw' : w = e.1 ∨ w = e.2.1 ∨ w = ats (.int e.2.2) := by simpa using hw
    rcases hw' with z | z | z <;> subst z
    · exact this.1
    · exact this.2.2.1
    · exact num_word (by have := this.2.2.2; omega)
  · obtain ⟨e, he, rfl⟩ := List.mem_map.mp hr
    simp
  rw [hw1] at tx
  have rf := F_readfair tx (by rw [List.length_reverse]; omega) (by
    have : names (toldF da).reverse = (srtS (names da)).reverse := by
      unfold names at hnames ⊢
      rw [List.map_reverse, hnames]
    rw [this]
    exact (List.reverse_perm _).nodup_iff.mpr ((srtS_perm _).nodup_iff.mpr nd)) (fun e he => (hfe e (List.mem_reverse.mp he)).2.2.2) t1
  rw [htold] at rf
  refine wO_eq rf ?_
  -- the row's text
  have hd : ∀ d ∈ row, wordOk d.name ∧ wordOk d.one ∧ (d.other = "" ∨ wordOk d.other) ∧ okD d := fun d hd => by
    obtain ⟨⟨o, ho, e1⟩, e2, e3⟩ := goodR_mem (P := fun _ => True) gr d hd
    have n1 := gm.wds o ho
    rw [offer_name e1] at n1
    have n2 := gf.nm _ e2
    refine ⟨n1, n2.1, ?_, n2.2, ?_⟩
    · rcases e3 with z | z
      · exact .inl z
      · exact .inr (gf.nm _ z).1
    · rcases e3 with z | z
      · rw [z]; decide +kernel
      · exact (gf.nm _ z).2
  have hprow : (D.p (pRow row)) = .p (.tup ((row.map fun d => ([.str d.name, .str d.one, .str d.other] : List P)).map P.tup)) := by
    rw [List.map_map]; rfl
  have hw2 : (row.map fun d => ([.str d.name, .str d.one, .str d.other] : List P)).map wd = row.map wdD := by rw [List.map_map]; rfl
  rw [show F__law_text [.loc 1, .p (pRow row)] t1 = F__law_text [.loc 1, .p (.tup ((row.map fun d => ([.str d.name, .str d.one, .str d.other] : List P)).map P.tup))] t1 by rw [← hprow]]
  refine text_w kt1 (fun row' hr p hp => ?_) (fun row' hr => ?_) (by rw [List.length_map]; omega) (fun row' hr => ?_) fun T2 L2 t2 kt2 tx2 => ?_
  · obtain ⟨e, he, rfl⟩ := List.mem_map.mp hr
    have hp' : p = .str e.name ∨ p = .str e.one ∨ p = .str e.other := by simpa using hp
    rcases hp' with z | z | z <;> subst z <;> trivial
  · obtain ⟨e, he, rfl⟩ := List.mem_map.mp hr
    obtain ⟨w1, w2, w3, _⟩ := hd e he
    show okW (wdD e)
    rw [wdD_eq w1.1 w2.1]
    by_cases ho : e.other = ""
    · rw [if_pos ho]
      refine okW_of (by simp) (by simp) fun w hw => ?_
      have hw' : w = e.name ∨ w = e.one := by simpa using hw
      rcases hw' with z | z <;> subst z <;> assumption
    · rw [if_neg ho]
      refine okW_of (by simp) (by simp) fun w hw => ?_
      have hw' : w = e.name ∨ w = e.one ∨ w = e.other := by simpa using hw
      rcases hw' with z | z | z <;> subst z
      · assumption
      · assumption
      · exact w3.resolve_left ho
  · obtain ⟨e, he, rfl⟩ := List.mem_map.mp hr
    simp
  rw [hw2] at tx2
  refine wO_eq (F_readrow tx2 (by omega) (fun d hd' => ⟨(hd d hd').1.1, (hd d hd').2.1.1⟩) t2) ?_
  have hs1 : dpt (.tup [pFair (toldF da), pRow row]) < 6 := Nat.lt_of_le_of_lt (two_dpt (k := 2) (fair_dpt (toldF da)) (rowd_dpt row)) (by decide)
  have hs2 : szs (.tup [pFair (toldF da), pRow row]) = true := two_szs (fair_szs (by omega)) (row_szs' (by omega))
  rw [mkT_two]
  generalize P.tup [pFair (toldF da), pRow row] = p at hs1 hs2
  refine same_w hs1 hs2 ?_
  clear hs1 hs2 p
  rw [vBl_bl, if_neg (by decide)]
  -- the row run
  refine wO_eq (F_runL lg (by omega) (by omega) t2) ?_
  rw [ef]
  obtain ⟨d2, l2⟩ := drx t2 kt2
  have hle : (toldF (endD m da row)).length ≤ 30 := by rw [told_len, hel]; exact hdz
  refine wO_eq (F_tuple d2 (by omega)) ?_
  have hs1 : dpt (pFair (toldF (endD m da row))) < 6 := Nat.lt_of_le_of_lt (fair_dpt (toldF (endD m da row))) (by decide)
  have hs2 : szs (pFair (toldF (endD m da row))) = true := fair_szs (by omega)
  refine wO_eq (same_refl 6 _ t2 hs1 hs2) ?_
  clear hs1 hs2
  rw [vBl_bl, if_neg (by decide), vI_int]
  -- what stays from here on
  obtain ⟨f0, _⟩ := dr0 t2 kt2
  have hns : ∀ t ∈ srtS (names da), t ∈ names da := fun t ht => srt_mem.mp ht
  have hnl : (srtS (names da)).length ≤ 30 := by
    have := (srtS_perm (names da)).length_eq
    unfold names at this ⊢
    rw [List.length_map] at this
    omega
  have hst : ∀ i, i < row.length → ∀ acc, dSb (.loc (r.length + 3)) (.p (.int ((i : Nat) + 1))) (t2 ++ acc) = some (vDc (endD m da (row.take (i + 1))), t2 ++ acc) := fun i hi acc => by
    have h0 := hcell t2 kt2
    have h0' : (t2 ++ acc)[r.length + 3]? = some (.lst (trD (r.length + 2) (stD m da row))) := by
      rw [List.getElem?_append_left (List.getElem?_eq_some_iff.mp h0).1]
      exact h0
    rw [show ((i : Nat) : Int) + 1 = ((i + 1 : Nat) : Int) by omega]
    exact dSb_ix (dIxL h0' (atI_nat (trD_get m _ da row i hi)))
  have hlook : ∀ i t, t ∈ names da → ∀ s', dSb (vDc (endD m da (row.take (i + 1)))) (.p (.str t)) s' = some (.p (pHd (get (endD m da (row.take (i + 1))) t)), s') := fun i t ht s' =>
    dSb_dict (show isD s' (vDc _) _ from rfl) (found_get (by rw [names_endD]; exact ht))
  have hlast : ∀ t, t ∈ names da → ∀ acc, dSb x (.p (.str t)) (t2 ++ acc) = some (.p (pHd (get (endD m da row) t)), t2 ++ acc) := fun t ht acc =>
    dSb_dict (isD_app d2) (found_get (by rw [ne]; exact ht))
  have hfirst : ∀ t, t ∈ names da → ∀ acc, dSb (.loc (r.length + 2)) (.p (.str t)) (t2 ++ acc) = some (.p (pHd (get da t)), t2 ++ acc) := fun t ht acc =>
    dSb_dict (isD_app f0) (found_get ht)
  have hsl8 : dSl (.lst ((srtS (names da)).map fun x => .p (.str x))) none (some 8) t2 = some (.lst (((srtS (names da)).take 8).map tD), t2) := by
    have e := cut_to (ds := (srtS (names da)).map fun x => D.p (.str x)) (i := 8) (by decide)
    have e2 : (8 : Int).toNat = 8 := rfl
    rw [e2, ← List.map_take] at e
    simp only [dSl, slT, slL, viT_lst, viL_lst, Option.map_none, Option.map_some, e]
    rfl
  refine vO_eq hsl8 ?_
  refine vW_eq rfl ?_
  have hof : names (toldF da) = srtS (names da) := hnames
  refine vFor_list (g := tD) (l := (srtS (names da)).take 8) rfl (fun _ _ _ t => t2 = t) (fun _ => rfl) rfl ?_ ?_
  · rintro pre n suf _ t3 nx el rfl hnx
    have hn0 : n ∈ srtS (names da) := List.mem_of_mem_take (by rw [el]; simp)
    have hn := hns n hn0
    have hno := gf.nm n hn
    have hntold : n ∈ names (toldF da) := by rw [hof]; exact hn0
    have bl : ∀ s, bLen [.p (pRow row)] s = some (.p (.int (row.length : Nat)), s) := fun s => by simp [pRow]
    refine vO_eq (bl _) ?_
    refine vW_eq (rgOf_nat (by omega)) ?_
    refine vLc_pure (g := gI) (u := invAt row n) (y := fun i => D.p (.tup [.int (i : Nat), pHd (get (endD m da (row.take (i + 1))) n)])) (l := List.range row.length) rfl (fun _ => rfl) (fun i hi acc j hj => ?_) (by rw [List.length_range]; omega) (fun _ _ => rfl) ?_
    · have hil : i < row.length := List.mem_range.mp hi
      have hix : (row.map pDeal)[((i : Nat) : Int).toNat]? = some (pDeal row[i]) := by
        rw [Int.toNat_natCast, List.getElem?_map, List.getElem?_eq_getElem hil]; rfl
      refine vO_eq (dSb_ix (dIx_n _ (by omega) hix)) ?_
      rw [vI_int]
      refine in_deal hno.2 (hd row[i] (List.getElem_mem hil)).2.2.2 ?_
      have hia : invAt row n i = inv n row[i] := by simp [invAt, List.getElem?_eq_getElem hil]
      rw [hia] at hj
      rw [vBl_bl]
      cases hb : inv n row[i] with
      | false => rw [hb] at hj; exact hj
      | true =>
        rw [hb] at hj
        rw [vC_true]
        refine vO_eq (dAdd_int _ _ _) ?_
        refine vO_eq (hst i hil _) ?_
        refine vO_eq (hlook i n hn _) ?_
        exact hj
    · have hmk : mkT (((List.range row.length).filter (invAt row n)).map fun i => D.p (.tup [.int (i : Nat), pHd (get (endD m da (row.take (i + 1))) n)])) = .p (histP m (toldF da) row n) := by
        have e : (((List.range row.length).filter (invAt row n)).map fun i => D.p (.tup [.int (i : Nat), pHd (get (endD m da (row.take (i + 1))) n)])) = ((places row n).map fun i => P.tup [.int (i : Nat), pHd (hdAt m (toldF da) row n (i + 1))]).map D.p := by
          rw [List.map_map]
          refine List.map_congr_left fun i _ => ?_
          have e1 : hdAt m (toldF da) row n (i + 1) = get (endD m da (row.take (i + 1))) n := by
            unfold hdAt
            rw [(good_end (goodR_take (i + 1) gr)).2]
            exact get_told _ _
          show _ = D.p (P.tup [.int (i : Nat), pHd (hdAt m (toldF da) row n (i + 1))])
          rw [e1]
        rw [e, mkT_map]
        rfl
      refine vO_eq (by rw [bTup_lst, hmk]) ?_
      refine wO_eq (F_history lg (by omega) (by omega) hno.2 (fun d hd' => (hd d hd').2.2.2) hntold t2) ?_
      have hpl : (places row n).length ≤ 60 := by
        have : (places row n).length ≤ (List.range row.length).length := List.length_filter_le ..
        rw [List.length_range] at this
        omega
      have hs1 : dpt (histP m (toldF da) row n) < 6 := Nat.lt_of_le_of_lt (dpt_tup (k := 2) fun e _ => Nat.le_refl _) (by decide)
      have hs2 : szs (histP m (toldF da) row n) = true := szs_tup (by omega) fun e _ => rfl
      refine wO_eq (same_refl 6 _ t2 hs1 hs2) ?_
      clear hs1 hs2
      rw [vBl_bl, if_neg (by decide)]
      refine wO_eq (F_tuple d2 (by omega)) ?_
      have hfl2 : found (toldF (endD m da row)) n = some (get (endD m da row) n) := by
        rw [told_rl]
        exact found_get (by rw [ne]; exact hn)
      refine wO_eq (F_holding hfl2 t2) ?_
      have blh : ∀ s, bLen [.p (histP m (toldF da) row n)] s = some (.p (.int ((places row n).length : Nat)), s) := fun s => by
        have := bLen_tup ((places row n).map fun i => P.tup [.int (i : Nat), pHd (hdAt m (toldF da) row n (i + 1))]) s
        rw [List.length_map] at this
        exact this
      refine vO_eq (blh _) ?_
      refine vO_eq (dGt_int _ _ _) ?_
      rw [vBl_bl]
      refine vC_join (fun d t => d = .p (pHd (get (endD m da row) n)) ∧ t = t2) ?_ ?_
      · rintro _ _ ⟨rfl, rfl⟩
        have hs1 := hd_dpt (get (endD m da row) n)
        have hs2 : szs (pHd (get (endD m da row) n)) = true := rfl
        generalize pHd (get (endD m da row) n) = p at hs1 hs2
        refine wO_eq (same_refl 6 p _ hs1 hs2) ?_
        clear hs1 hs2 p
        rw [vBl_bl, if_neg (by decide)]
        exact hnx () _ rfl
      · intro k' hk'
        refine ⟨fun hb => ?_, fun hb => ?_⟩
        · have hpos := of_decide_eq_true hb
          have hne : places row n ≠ [] := fun e => by rw [e] at hpos; simp at hpos
          obtain ⟨li, i, hli⟩ : ∃ li i, places row n = li ++ [i] := ⟨_, _, (List.dropLast_concat_getLast hne).symm⟩
          refine vO_eq (blh _) ?_
          refine vO_eq (dSub_int _ _ _) ?_
          have hix : ((places row n).map fun i => P.tup [.int (i : Nat), pHd (hdAt m (toldF da) row n (i + 1))])[((((places row n).length : Nat) : Int) - 1).toNat]? = some (.tup [.int (i : Nat), pHd (hdAt m (toldF da) row n (i + 1))]) := by
            rw [hli]
            have : (((((li ++ [i]).length : Nat) : Int) - 1)).toNat = li.length := by simp
            rw [this, List.getElem?_map]
            simp
          refine vO_eq (dSb_ix (dIx_n _ (by omega) hix)) ?_
          refine vO_eq (dSb_1 _ _ _ _) ?_
          refine hk' _ _ ⟨?_, rfl⟩
          have e1 := hist_last (m := m) (f := toldF da) hli
          have e2 : hdAt m (toldF da) row n (i + 1) = get (endD m da row) n := by
            unfold hdAt
            rw [← e1, ef]
            exact get_told _ _
          rw [e2]
        · have hpos := of_decide_eq_false hb
          have hnil : places row n = [] := by
            cases e : places row n with
            | nil => rfl
            | cons a b => rw [e] at hpos; simp at hpos
          have h0 := hfirst n hn []
          rw [List.append_nil] at h0
          refine vO_eq h0 (hk' _ _ ⟨?_, rfl⟩)
          have e1 := hist_none (m := m) (f := toldF da) hnil
          have e2 : get (endD m da row) n = get da n := by
            rw [← get_told (endD m da row) n, ← ef, ← get_told da n]
            unfold get
            rw [e1]
          rw [e2]
  · rintro _ t3 rfl
    refine vW_eq rfl ?_
    let w : Str → Int := fun n => (get (endD m da row) n).2 - (get da n).2
    refine vLc_pure (g := tD) (u := fun _ => true) (y := fun n => D.p (.int (w n))) (l := srtS (names da)) rfl (fun _ => rfl) (fun n hn acc j hj => ?_) (by omega) (fun _ _ => rfl) ?_
    · have hn' := hns n hn
      rw [vC_true]
      refine vO_eq (hlast n hn' _) ?_
      refine vO_eq (dSb_ix (ix_hd1 _ _)) ?_
      refine vO_eq (hfirst n hn' _) ?_
      refine vO_eq (dSb_ix (ix_hd1 _ _)) ?_
      refine vO_eq (dSub_int _ _ _) ?_
      exact hj
    · rw [List.filter_eq_self.mpr fun _ _ => rfl]
      refine wO_eq (F_gain lg (by omega) (by omega) t2) ?_
      rw [ef]
      have hgt : gainL (toldF da) (toldF (endD m da row)) = (srtS (names da)).map fun n => (n, w n) := gain_told ne
      rw [hgt]
      have bln : ∀ s, bLen [.lst ((srtS (names da)).map fun x => .p (.str x))] s = some (.p (.int ((srtS (names da)).length : Nat)), s) := fun s => by
        rw [bLen_lst, List.length_map]
      refine vO_eq (bln _) ?_
      refine vW_eq (rgOf_nat (by omega)) ?_
      refine vLc_pure (g := gI) (u := fun _ => true) (y := fun k => D.p (.tup [.str ((srtS (names da)).getD k ""), .int (w ((srtS (names da)).getD k ""))])) (l := List.range (srtS (names da)).length) rfl (fun _ => rfl) (fun k hk' acc j hj => ?_) (by rw [List.length_range]; omega) (fun _ _ => rfl) ?_
      · have hkl : k < (srtS (names da)).length := List.mem_range.mp hk'
        have hgd : (srtS (names da)).getD k "" = (srtS (names da))[k] := by simp [List.getD, List.getElem?_eq_getElem hkl]
        rw [vC_true]
        refine vO_eq (dSb_ix (dIxV (d := tD ((srtS (names da))[k])) (atI_nat (by rw [List.getElem?_map, List.getElem?_eq_getElem hkl]; rfl)))) ?_
        refine vO_eq (dSb_ix (dIxV (d := .p (.int (w ((srtS (names da))[k])))) (atI_nat (by rw [List.getElem?_map, List.getElem?_eq_getElem hkl]; rfl)))) ?_
        rw [hgd] at hj
        exact hj
      · rw [List.filter_eq_self.mpr fun _ _ => rfl]
        have hmk : mkT ((List.range (srtS (names da)).length).map fun k => D.p (.tup [.str ((srtS (names da)).getD k ""), .int (w ((srtS (names da)).getD k ""))])) = .p (.tup (((srtS (names da)).map fun n => (n, w n)).map gP)) := by
          rw [map_getD (fun n => D.p (.tup [.str n, .int (w n)])) (srtS (names da))]
          rw [show ((srtS (names da)).map fun n => D.p (.tup [.str n, .int (w n)])) = (((srtS (names da)).map fun n => (n, w n)).map gP).map D.p by rw [List.map_map, List.map_map]; rfl]
          exact mkT_map _
        refine vO_eq (by rw [bTup_lst, hmk]) ?_
        have hs1 : dpt (.tup (((srtS (names da)).map fun n => (n, w n)).map gP)) < 6 := Nat.lt_of_le_of_lt (dpt_tup (k := 1) fun e _ => Nat.le_refl _) (by decide)
        have hs2 : szs (.tup (((srtS (names da)).map fun n => (n, w n)).map gP)) = true := szs_tup (by rw [List.length_map]; omega) fun e _ => rfl
        refine wO_eq (same_refl 6 _ t2 hs1 hs2) ?_
        clear hs1 hs2
        rw [vBl_bl, if_neg (by decide)]
        refine vO_eq (bln _) ?_
        refine vO_eq (dGt_int _ _ _) ?_
        rw [vBl_bl]
        have hwl : ((srtS (names da)).map fun n => D.p (.int (w n))) = ((srtS (names da)).map w).map fun x => D.p (.int x) := by rw [List.map_map]; rfl
        refine vC_join (fun d t => t2 = t ∧ d = .p (optP .str (bestG ((srtS (names da)).map fun n => (n, w n))))) ?_ ?_
        · rintro _ _ ⟨rfl, rfl⟩
          have hbt := F_best lg (by omega) (by omega) t2
          rw [ef, hgt] at hbt
          refine wO_eq hbt ?_
          have hs1 : dpt (optP .str (bestG ((srtS (names da)).map fun n => (n, w n)))) < 6 := by
            cases bestG ((srtS (names da)).map fun n => (n, w n)) <;> exact (show (0 : Nat) < 6 by decide)
          have hs2 : szs (optP .str (bestG ((srtS (names da)).map fun n => (n, w n)))) = true := by
            cases bestG ((srtS (names da)).map fun n => (n, w n)) <;> rfl
          refine wO_eq (same_refl 6 _ t2 hs1 hs2) ?_
          clear hs1 hs2
          rw [vBl_bl, if_neg (by decide)]
          refine vO_eq (dSb_ix (ix_market2 m t2)) ?_
          refine vW_eq rfl ?_
          refine vLc_pure (g := fun o => D.p (pOffer o)) (u := fun o => !evenO o) (y := fun _ => D.p (.int 1)) (l := m.offers) (by rw [List.map_map]; rfl) (fun _ => rfl) (fun o ho acc j hj => ?_) (by have := gm.len; omega) (fun _ _ => rfl) ?_
          · refine vT_eq (vi_offer o) ?_
            rw [vH_cons, vH_cons, vH_cons, vN_nil, vBl_bl, isN_optSide]
            unfold evenO at hj
            cases hoo : o.other with
            | none =>
              rw [hoo] at hj
              exact hj
            | some y =>
              rw [hoo] at hj
              have hj' : j (if (!decide (o.one.change + y.change = 0)) = true then some (D.p (.int 1)) else none) (t2 ++ [C.lst acc]) := hj
              show vC false _ _ _
              rw [vC_false]
              refine vO_eq (dSb_side4 _ _) ?_
              refine vO_eq (dSb_side4 y _) ?_
              refine vO_eq (dAdd_int _ _ _) ?_
              refine vO_eq (dNe_int _ _ _) ?_
              rw [vBl_bl]
              dsimp only
              cases hb : decide (o.one.change + y.change = 0) with
              | true => rw [hb] at hj'; exact hj'
              | false => rw [hb] at hj'; exact hj'
          · refine vO_eq (bLen_lst _ _) ?_
            refine vO_eq (dEq_int _ _ _) ?_
            rw [vBl_bl]
            have hev : decide (((((m.offers.filter fun o => !evenO o).map fun _ => D.p (.int 1)).length : Nat) : Int) = 0) = m.offers.all evenO := by
              rw [List.length_map]
              cases hb : m.offers.all evenO with
              | true =>
                have : m.offers.filter (fun o => !evenO o) = [] := List.filter_eq_nil_iff.mpr fun o ho => by
                  rw [List.all_eq_true.mp hb o ho]; decide
                rw [this]; rfl
              | false =>
                refine decide_eq_false fun e => ?_
                have e0 : m.offers.filter (fun o => !evenO o) = [] := List.length_eq_zero_iff.mp (by omega)
                have : m.offers.all evenO = true := List.all_eq_true.mpr fun o ho => by
                  have := List.filter_eq_nil_iff.mp e0 o ho
                  simpa using this
                rw [this] at hb; cases hb
            rw [hev]
            have hml : money (toldF (endD m da row)) = money (endD m da row) := money_told (by rw [ne]; exact nd)
            refine vC_join (fun b t => b = false ∧ t2 = t) ?_ ?_
            · rintro _ _ ⟨rfl, rfl⟩
              rw [if_neg (by decide)]
              refine vLcG_vals (y := fun h => D.p (.int h.2)) d2 l2 (fun e he s' acc j hj => ?_) (by omega) (fun _ _ => rfl) ?_
              · rw [vC_true]
                exact vO_eq (dSb_ix (ix_hd1 _ _)) hj
              · rw [show ((endD m da row).map fun e => D.p (.int e.2.2)) = ((endD m da row).map fun e => e.2.2).map fun x => D.p (.int x) by rw [List.map_map]; rfl]
                refine vO_eq (bSum_map _ _) ?_
                refine wO_eq (F_even m (by have := gm.len; omega) t2) ?_
                refine wO_eq (F_tuple d2 (by omega)) ?_
                refine wO_eq (F_total _ (by omega) t2) ?_
                have hmm : ((toldF (endD m da row)).map fun e => e.2.2).sum = ((endD m da row).map fun e => e.2.2).sum := hml
                rw [hmm]
                generalize m.offers.all evenO = b
                generalize ((endD m da row).map fun e => e.2.2).sum = z
                rw [mkT_two]
                have hs1 : dpt (.tup [.bl b, .int z]) < 6 := Nat.lt_of_le_of_lt (Nat.le_of_eq (show _ = 1 from rfl)) (by decide)
                have hs2 : szs (.tup [.bl b, .int z]) = true := rfl
                generalize P.tup [.bl b, .int z] = p at hs1 hs2
                refine wO_eq (same_refl 6 p t2 hs1 hs2) ?_
                exact fin0 t2 kt2
            · intro k' hk'
              refine ⟨fun hb => ?_, fun _ => hk' _ _ ⟨rfl, rfl⟩⟩
              rw [hwl]
              refine vO_eq (bSum_map _ _) ?_
              refine vO_eq (dNe_int _ _ _) ?_
              rw [vBl_bl]
              refine hk' _ _ ⟨?_, rfl⟩
              have hz : ((srtS (names da)).map w).sum = 0 := by
                have e1 := gain_sum (da := da) (db := endD m da row) ne
                have e2 := even_end hb nd gr
                have e3 := money_told nd
                show ((srtS (names da)).map fun n => (get (endD m da row) n).2 - (get da n).2).sum = 0
                rw [e1, hml, e2, e3]
                omega
              rw [hz]
              decide
        · intro k' hk'
          refine ⟨fun hb => ?_, fun hb => ?_⟩
          · have hpos := of_decide_eq_true hb
            have hnn : (srtS (names da)).map w ≠ [] := fun e => by
              rw [List.map_eq_nil_iff.mp e] at hpos
              simp at hpos
            rw [hwl]
            refine ⟨by simp, ?_⟩
            refine vO_eq (bMaxL_map hnn _) ?_
            obtain ⟨j, n, e1, e2, e3⟩ := first_max (w := w) (maxI_mem hnn)
            have hidx : ∀ s, idxL (.lst (((srtS (names da)).map w).map fun x => D.p (.int x))) [.p (.int (maxI ((srtS (names da)).map w)))] s = some (.p (.int (j : Nat)), s) := fun s => by
              have ha : allI (((srtS (names da)).map w).map fun x => D.p (.int x)) = some ((srtS (names da)).map w) := allI_ints _
              simp only [idxL, viL_lst, Option.bind, ha, e1, Option.map_some]
            refine vO_eq (hidx _) ?_
            refine vO_eq (dSb_ix (dIxV (d := tD n) (atI_nat (by rw [List.getElem?_map, e2]; rfl)))) ?_
            refine hk' _ _ ⟨rfl, ?_⟩
            have hb2 : bestG ((srtS (names da)).map fun n => (n, w n)) = some n := by
              unfold bestG
              rw [show ((srtS (names da)).map fun n => (n, w n)).map (·.2) = (srtS (names da)).map w by rw [List.map_map]; rfl]
              exact e3
            rw [hb2]
            rfl
          · have hpos := of_decide_eq_false hb
            have hnn : srtS (names da) = [] := by
              cases e : srtS (names da) with
              | nil => rfl
              | cons a b => rw [e] at hpos; simp at hpos
            refine hk' _ _ ⟨rfl, ?_⟩
            rw [hnn]
            rfl
end K76

set_option Elab.async false
set_option linter.all false
set_option maxRecDepth 100000
set_option maxHeartbeats 400000
namespace K76
open PySem Mo
def swapM : Market := ⟨.tup [.str "a"], .tup [.tup [.str "a", .int 0]], [⟨"lend", ⟨"a", 0, none, "a", 2⟩, some ⟨"a", 4, none, "a", -2⟩⟩, ⟨"win", ⟨"a", 0, none, "a", 1⟩, some ⟨"a", 0, none, "a", 1⟩⟩]⟩
def fairS : Fair := [("ann", "a", 0), ("bob", "a", 9), ("cy", "a", 7)]
def rowS : List Deal := [⟨"lend", "ann", "bob"⟩, ⟨"win", "bob", "cy"⟩, ⟨"win", "cy", "bob"⟩]
theorem legalS : Legal swapM fairS rowS := ⟨by decide +kernel, by decide +kernel, by decide +kernel, trivial⟩
theorem histS : histP swapM fairS rowS "bob" = .tup [.tup [.int 0, .tup [.str "a", .int 7]], .tup [.int 1, .tup [.str "a", .int 8]], .tup [.int 2, .tup [.str "a", .int 9]]] := by decide +kernel
theorem gainS : P.tup ((gainL fairS (endF swapM fairS rowS)).map gP) = .tup [.tup [.str "ann", .int 2], .tup [.str "bob", .int 0], .tup [.str "cy", .int 2]] := by decide +kernel
theorem bestS : optP P.str (bestG (gainL fairS (endF swapM fairS rowS))) = .str "ann" := by decide +kernel
theorem okDS : ∀ d ∈ rowS, okD d := fun d hd => by
  have : d = ⟨"lend", "ann", "bob"⟩ ∨ d = ⟨"win", "bob", "cy"⟩ ∨ d = ⟨"win", "cy", "bob"⟩ := by simpa [rowS] using hd
  rcases this with e | e | e <;> subst e <;> unfold okD <;> decide +kernel
theorem bobS : ("bob" : Str) ∈ names fairS := by decide +kernel
theorem fin_fst (s t : S) (p : P) : (fin s (.p p) t).1 = .p p := by
  unfold fin
  split <;> rfl
theorem law_w (ns : List Int) (hz : ns.length ≤ 63) : wO (F_law [.ro (ns.map iD)] []) (fun d _ => d = .p (.bl true)) (fun _ _ => False) := by
  refine w_law ?_
  unfold W_law
  refine book_w ns hz fun s1 k1 => ?_
  refine vW_eq (rgOf_int (i := 3) (by decide) (by decide)) ?_
  refine vFor_list (g := gI) rfl (fun _ _ _ t => Kn t []) (fun _ => rfl) k1 ?_ ?_
  · rintro pre k suf _ t nx el hkt hnx
    refine market_w hkt fun m s2 k2 gm => ?_
    refine vO_eq (dAdd_int _ _ _) ?_
    refine ear_w k2 (by decide) (by decide) fun v s3 k3 l3 u3 => ?_
    refine vO_eq (dAdd_int _ _ _) ?_
    refine vO_eq (dAdd_int _ _ _) ?_
    refine ear_w k3 (by decide) (by decide) fun v' s4 k4 l4 u4 => ?_
    refine asked_w gm k4 (by omega) (by omega) (by omega) (by omega) fun s5 k5 => ?_
    rw [vBl_bl, if_neg (by decide)]
    exact hnx () s5 k5
  · rintro _ t kt
    refine market_w kt fun m s2 k2 gm => ?_
    refine asked_w gm k2 (by decide) (by decide) (by decide) (by decide) fun s3 k3 => ?_
    rw [vBl_bl]
    show vC false _ _ _
    rw [vC_false]
    refine asked_w gm k3 (by decide) (by decide) (by decide) (by decide) fun s4 k4 => ?_
    rw [vBl_bl]
    dsimp only
    rw [if_neg (by decide), vI_int]
    have h1 := F_history legalS (by decide) (by decide) (by decide +kernel) okDS bobS s4
    have h2 := F_gain legalS (by decide) (by decide) s4
    have h3 := F_best legalS (by decide) (by decide) s4
    rw [histS] at h1
    rw [gainS] at h2
    rw [bestS] at h3
    refine wO_eq h1 ?_
    refine wO_eq h2 ?_
    refine wO_eq h3 ?_
    refine wO_eq (same_refl 6 (.tup [.tup [.tup [.int 0, .tup [.str "a", .int 7]], .tup [.int 1, .tup [.str "a", .int 8]], .tup [.int 2, .tup [.str "a", .int 9]]], .tup [.tup [.str "ann", .int 2], .tup [.str "bob", .int 0], .tup [.str "cy", .int 2]], .str "ann"]) s4 (by decide) (by decide)) ?_
    rw [vBl_bl, if_neg (by decide)]
    refine leaf_w k4 (by decide) (by decide) fun v s6 k6 l6 u6 => ?_
    refine vO_eq (dGt_int _ _ _) ?_
    rw [vBl_bl]
    refine vC_join (fun d _ => d = .p (.bl true)) ?_ ?_
    · rintro d s rfl
      exact fin_fst _ _ _
    · intro k' hk'
      refine ⟨fun _ => hk' _ _ rfl, fun _ => ?_⟩
      exact asked_w gm k6 (by decide) (by decide) (by decide) (by decide) fun s8 _ => hk' _ _ rfl
theorem law_ok (ns : List Int) (hz : ns.length ≤ 63) : ∃ s, F_law [.ro (ns.map fun i => .p (.int i))] [] = .ok (.p (.bl true)) s := by
  obtain ⟨d, s, e, h⟩ := (law_w ns hz).of
  exact ⟨s, by rw [← h]; exact e⟩
end K76

set_option Elab.async false
set_option linter.all false
set_option maxRecDepth 100000
set_option maxHeartbeats 0
namespace K76
open PySem PySem.Spec PyProof.Rows L2 Mo
def top (i : Nat) : Stmt := PySem.Challenge.pw_moneyheld_k76_whole_audits.main.body.getD i (.Pass ⟨0, 0, 0, 0⟩)
structure Bi (mg : Str → Option Value) : Prop where
  b_sum : mg "sum" = none
  b_tuple : mg "tuple" = none
  b_enumerate : mg "enumerate" = none
  b_zip : mg "zip" = none
  b_len : mg "len" = none
  b_max : mg "max" = none
  b_all : mg "all" = none
  b_str : mg "str" = none
  b_int : mg "int" = none
  b_sorted : mg "sorted" = none
  b_abs : mg "abs" = none
  b_range : mg "range" = none
  b_dict : mg "dict" = none
  b_isinstance : mg "isinstance" = none
  b_bool : mg "bool" = none
section
variable {P : Program} {w : World} {K : PySem.W.Frag} {mg : Str → Option Value} {base : Heap} {ca : Str → Addr}
theorem sc_found_holding : FnScope ["fair", "trader", "name", "good", "money"] ["fair", "trader"] (defScope (top 6)) := ⟨rfl, rfl, rfl, by decide +kernel, rfl, by decide +kernel, by decide +kernel⟩
theorem fn_found_holding {f : Addr} {fd : FuncData} (F : FunD K "found_holding" "found_holding" (defArgs (top 6)) (defBody (top 6)) (defScope (top 6)) [] [] f fd)  : FnOk P w K mg base (L2.CX P w) 1 f fd ["fair", "trader"] (spF K ca 2 F_found_holding) := by
  refine fn_def (k := 0) (N := ["fair", "trader", "name", "good", "money"]) (B := b_found_holding) F sc_found_holding fun cdv A outer s H E o => ?_
  have hN := sc_found_holding.nd
  have hp := passes_of (X := cxOf (L2.CX P w) P w K mg base ["fair", "trader", "name", "good", "money"] "found_holding" (defScope (top 6)) f cdv A outer s H E) rfl
  exact (eb_cons (es_for hp (ei_any (ev_var 0)) (et_tup (ets_cons (et_nm 2 hN) (ets_cons (et_nm 3 hN) (ets_cons (et_nm 4 hN) ets_nil)))) (eb_one (es_if (et_eq o (ev_var 2) (ev_var 1)) (eb_one (es_ret (ev_tup (ea_cons (ev_var 3) (ea_cons (ev_var 4) ea_nil))))) eb_nil)))
   (eb_one (es_ret ev_non)))
theorem sc_holding_of : FnScope ["fair", "trader", "holding"] ["fair", "trader"] (defScope (top 7)) := ⟨rfl, rfl, rfl, by decide +kernel, rfl, by decide +kernel, by decide +kernel⟩
theorem fn_holding_of {f : Addr} {fd : FuncData} (F : FunD K "holding_of" "holding_of" (defArgs (top 7)) (defBody (top 7)) (defScope (top 7)) [] [] f fd) (c_found_holding : Callee P w K mg base ca 1 "found_holding" 2 F_found_holding) (x_NoSuch : ExcOk P w K mg base ca 1 "NoSuch" ["word", "name"]) : FnOk P w K mg base (L2.CX P w) 4 f fd ["fair", "trader"] (spF K ca 2 F_holding_of) := by
  refine fn_def (k := 3) (N := ["fair", "trader", "holding"]) (B := b_holding_of) F sc_holding_of fun cdv A outer s H E o => ?_
  have hN := sc_holding_of.nd
  have hp := passes_of (X := cxOf (L2.CX P w) P w K mg base ["fair", "trader", "holding"] "holding_of" (defScope (top 7)) f cdv A outer s H E) rfl
  exact (eb_cons (es_set 2 hN (ev_call o c_found_holding (Nat.le_of_ble_eq_true rfl) (ea_cons (ev_var 0) (ea_cons (ev_var 1) ea_nil))))
   (eb_cons (es_if (et_isN (ev_var 2)) (eb_one (es_raise o x_NoSuch (Nat.le_of_ble_eq_true rfl) (ea_cons ev_str (ea_cons (ev_var 1) ea_nil)))) eb_nil)
   (eb_one (es_ret (ev_var 2)))))
theorem sc_total_money : FnScope ["fair", "name", "good", "money"] ["fair"] (defScope (top 8)) := ⟨rfl, rfl, rfl, by decide +kernel, rfl, by decide +kernel, by decide +kernel⟩
theorem fn_total_money {f : Addr} {fd : FuncData} (F : FunD K "total_money" "total_money" (defArgs (top 8)) (defBody (top 8)) (defScope (top 8)) [] [] f fd) (bi : Bi mg) : FnOk P w K mg base (L2.CX P w) 1 f fd ["fair"] (spF K ca 1 F_total_money) := by
  refine fn_def (k := 0) (N := ["fair", "name", "good", "money"]) (B := b_total_money) F sc_total_money fun cdv A outer s H E o => ?_
  have hN := sc_total_money.nd
  have hp := passes_of (X := cxOf (L2.CX P w) P w K mg base ["fair", "name", "good", "money"] "total_money" (defScope (top 8)) f cdv A outer s H E) rfl
  exact (eb_one (es_ret (ev_sum bi.b_sum (ea_cons (ev_lc hN (ei_any (ev_var 0)) (lc_mk (own := [("name", 1), ("good", 2), ("money", 3)]) o (blkOk_by (N := ["fair", "name", "good", "money"]) (sc := defScope (top 8)) (by decide +kernel)) (by decide) (fun _ _ _ _ _ => (et_tup (ets_cons (et_nm 1 hN) (ets_cons (et_nm 2 hN) (ets_cons (et_nm 3 hN) ets_nil))))) (fun _ _ _ _ _ o1 => ets_no) (fun _ _ _ _ _ o1 => (ev_var 3)))) ea_nil))))
theorem sc_with_holding : FnScope ["fair", "trader", "holding", "name", "good", "money"] ["fair", "trader", "holding"] (defScope (top 9)) := ⟨rfl, rfl, rfl, by decide +kernel, rfl, by decide +kernel, by decide +kernel⟩
theorem fn_with_holding {f : Addr} {fd : FuncData} (F : FunD K "with_holding" "with_holding" (defArgs (top 9)) (defBody (top 9)) (defScope (top 9)) [] [] f fd) (bi : Bi mg) : FnOk P w K mg base (L2.CX P w) 1 f fd ["fair", "trader", "holding"] (spF K ca 3 F_with_holding) := by
  refine fn_def (k := 0) (N := ["fair", "trader", "holding", "name", "good", "money"]) (B := b_with_holding) F sc_with_holding fun cdv A outer s H E o => ?_
  have hN := sc_with_holding.nd
  have hp := passes_of (X := cxOf (L2.CX P w) P w K mg base ["fair", "trader", "holding", "name", "good", "money"] "with_holding" (defScope (top 9)) f cdv A outer s H E) rfl
  exact (eb_one (es_ret (ev_tuplec bi.b_tuple (ea_cons (ev_lc hN (ei_any (ev_var 0)) (lc_mk (own := [("name", 3), ("good", 4), ("money", 5)]) o (blkOk_by (N := ["fair", "trader", "holding", "name", "good", "money"]) (sc := defScope (top 9)) (by decide +kernel)) (by decide) (fun _ _ _ _ _ => (et_tup (ets_cons (et_nm 3 hN) (ets_cons (et_nm 4 hN) (ets_cons (et_nm 5 hN) ets_nil))))) (fun _ _ _ _ _ o1 => ets_no) (fun _ _ _ _ _ o1 => (ev_if (et_eq o1 (ev_var 3) (ev_var 1)) (ev_add (ev_tup (ea_cons (ev_var 3) ea_nil)) (ev_var 2)) (ev_tup (ea_cons (ev_var 3) (ea_cons (ev_var 4) (ea_cons (ev_var 5) ea_nil)))))))) ea_nil))))
theorem sc_offer_of : FnScope ["market", "name", "offer"] ["market", "name"] (defScope (top 11)) := ⟨rfl, rfl, rfl, by decide +kernel, rfl, by decide +kernel, by decide +kernel⟩
theorem fn_offer_of {f : Addr} {fd : FuncData} (F : FunD K "offer_of" "offer_of" (defArgs (top 11)) (defBody (top 11)) (defScope (top 11)) [] [] f fd)  : FnOk P w K mg base (L2.CX P w) 1 f fd ["market", "name"] (spF K ca 2 F_offer_of) := by
  refine fn_def (k := 0) (N := ["market", "name", "offer"]) (B := b_offer_of) F sc_offer_of fun cdv A outer s H E o => ?_
  have hN := sc_offer_of.nd
  have hp := passes_of (X := cxOf (L2.CX P w) P w K mg base ["market", "name", "offer"] "offer_of" (defScope (top 11)) f cdv A outer s H E) rfl
  exact (eb_cons (es_for hp (ei_any (ev_subs o (ev_var 0) ev_int)) (et_nm 2 hN) (eb_one (es_if (et_eq o (ev_subs o (ev_var 2) ev_int) (ev_var 1)) (eb_one (es_ret (ev_var 2))) eb_nil)))
   (eb_one (es_ret ev_non)))
theorem sc_fits : FnScope ["side", "holding", "good", "least", "most", "after", "change"] ["side", "holding"] (defScope (top 13)) := ⟨rfl, rfl, rfl, by decide +kernel, rfl, by decide +kernel, by decide +kernel⟩
theorem fn_fits {f : Addr} {fd : FuncData} (F : FunD K "fits" "fits" (defArgs (top 13)) (defBody (top 13)) (defScope (top 13)) [] [] f fd)  : FnOk P w K mg base (L2.CX P w) 1 f fd ["side", "holding"] (spF K ca 2 F_fits) := by
  refine fn_def (k := 0) (N := ["side", "holding", "good", "least", "most", "after", "change"]) (B := b_fits) F sc_fits fun cdv A outer s H E o => ?_
  have hN := sc_fits.nd
  have hp := passes_of (X := cxOf (L2.CX P w) P w K mg base ["side", "holding", "good", "least", "most", "after", "change"] "fits" (defScope (top 13)) f cdv A outer s H E) rfl
  exact (eb_cons (es_asgP (ev_var 0) (et_tup (ets_cons (et_nm 2 hN) (ets_cons (et_nm 3 hN) (ets_cons (et_nm 4 hN) (ets_cons (et_nm 5 hN) (ets_cons (et_nm 6 hN) ets_nil)))))))
   (eb_one (es_ret (ev_and (ev_eq o (ev_subs o (ev_var 1) ev_int) (ev_var 2)) (ev_and (ev_le (ev_var 3) (ev_subs o (ev_var 1) ev_int)) (ev_one (ev_or (ev_isN (ev_var 4)) (ev_one (ev_le (ev_subs o (ev_var 1) ev_int) (ev_var 4))))))))))
theorem sc_behind : FnScope ["side", "holding"] ["side", "holding"] (defScope (top 14)) := ⟨rfl, rfl, rfl, by decide +kernel, rfl, by decide +kernel, by decide +kernel⟩
theorem fn_behind {f : Addr} {fd : FuncData} (F : FunD K "behind" "behind" (defArgs (top 14)) (defBody (top 14)) (defScope (top 14)) [] [] f fd)  : FnOk P w K mg base (L2.CX P w) 1 f fd ["side", "holding"] (spF K ca 2 F_behind) := by
  refine fn_def (k := 0) (N := ["side", "holding"]) (B := b_behind) F sc_behind fun cdv A outer s H E o => ?_
  have hN := sc_behind.nd
  have hp := passes_of (X := cxOf (L2.CX P w) P w K mg base ["side", "holding"] "behind" (defScope (top 14)) f cdv A outer s H E) rfl
  exact (eb_one (es_ret (ev_tup (ea_cons (ev_subs o (ev_var 0) ev_int) (ea_cons (ev_add (ev_subs o (ev_var 1) ev_int) (ev_subs o (ev_var 0) ev_int)) ea_nil)))))
theorem sc_other_is_wrong : FnScope ["offer", "fair", "one", "other"] ["offer", "fair", "one", "other"] (defScope (top 16)) := ⟨rfl, rfl, rfl, by decide +kernel, rfl, by decide +kernel, by decide +kernel⟩
theorem fn_other_is_wrong {f : Addr} {fd : FuncData} (F : FunD K "other_is_wrong" "other_is_wrong" (defArgs (top 16)) (defBody (top 16)) (defScope (top 16)) [] [] f fd) (c_found_holding : Callee P w K mg base ca 1 "found_holding" 2 F_found_holding) : FnOk P w K mg base (L2.CX P w) 2 f fd ["offer", "fair", "one", "other"] (spF K ca 4 F_other_is_wrong) := by
  refine fn_def (k := 1) (N := ["offer", "fair", "one", "other"]) (B := b_other_is_wrong) F sc_other_is_wrong fun cdv A outer s H E o => ?_
  have hN := sc_other_is_wrong.nd
  have hp := passes_of (X := cxOf (L2.CX P w) P w K mg base ["offer", "fair", "one", "other"] "other_is_wrong" (defScope (top 16)) f cdv A outer s H E) rfl
  exact (eb_cons (es_if (et_isN (ev_subs o (ev_var 0) ev_int)) (eb_one (es_ret (ev_ne o (ev_var 3) ev_str))) eb_nil)
   (eb_one (es_ret (ev_or (ev_eq o (ev_var 3) ev_str) (ev_or (ev_eq o (ev_var 3) (ev_var 2)) (ev_one (ev_isN (ev_call o c_found_holding (Nat.le_of_ble_eq_true rfl) (ea_cons (ev_var 1) (ea_cons (ev_var 3) ea_nil))))))))))
theorem sc_deal_word : FnScope ["market", "fair", "deal", "offer", "name", "one", "other"] ["market", "fair", "deal"] (defScope (top 17)) := ⟨rfl, rfl, rfl, by decide +kernel, rfl, by decide +kernel, by decide +kernel⟩
theorem fn_deal_word {f : Addr} {fd : FuncData} (F : FunD K "deal_word" "deal_word" (defArgs (top 17)) (defBody (top 17)) (defScope (top 17)) [] [] f fd) (c_offer_of : Callee P w K mg base ca 1 "offer_of" 2 F_offer_of) (c_found_holding : Callee P w K mg base ca 1 "found_holding" 2 F_found_holding) (c_other_is_wrong : Callee P w K mg base ca 2 "other_is_wrong" 4 F_other_is_wrong) (c_fits : Callee P w K mg base ca 1 "fits" 2 F_fits) : FnOk P w K mg base (L2.CX P w) 3 f fd ["market", "fair", "deal"] (spF K ca 3 F_deal_word) := by
  refine fn_def (k := 2) (N := ["market", "fair", "deal", "offer", "name", "one", "other"]) (B := b_deal_word) F sc_deal_word fun cdv A outer s H E o => ?_
  have hN := sc_deal_word.nd
  have hp := passes_of (X := cxOf (L2.CX P w) P w K mg base ["market", "fair", "deal", "offer", "name", "one", "other"] "deal_word" (defScope (top 17)) f cdv A outer s H E) rfl
  exact (eb_cons (es_asgP (ev_var 2) (et_tup (ets_cons (et_nm 4 hN) (ets_cons (et_nm 5 hN) (ets_cons (et_nm 6 hN) ets_nil)))))
   (eb_cons (es_set 3 hN (ev_call o c_offer_of (Nat.le_of_ble_eq_true rfl) (ea_cons (ev_var 0) (ea_cons (ev_var 4) ea_nil))))
   (eb_cons (es_if (et_isN (ev_var 3)) (eb_one (es_ret ev_str)) eb_nil)
   (eb_cons (es_if (et_isN (ev_call o c_found_holding (Nat.le_of_ble_eq_true rfl) (ea_cons (ev_var 1) (ea_cons (ev_var 5) ea_nil)))) (eb_one (es_ret ev_str)) eb_nil)
   (eb_cons (es_if (et_val (ev_call o c_other_is_wrong (Nat.le_of_ble_eq_true rfl) (ea_cons (ev_var 3) (ea_cons (ev_var 1) (ea_cons (ev_var 5) (ea_cons (ev_var 6) ea_nil)))))) (eb_one (es_ret ev_str)) eb_nil)
   (eb_cons (es_if (et_not (et_val (ev_call o c_fits (Nat.le_of_ble_eq_true rfl) (ea_cons (ev_subs o (ev_var 3) ev_int) (ea_cons (ev_call o c_found_holding (Nat.le_of_ble_eq_true rfl) (ea_cons (ev_var 1) (ea_cons (ev_var 5) ea_nil))) ea_nil))))) (eb_one (es_ret ev_str)) eb_nil)
   (eb_one (es_ret (ev_if (EvW.t (ew_or (et_eq o (ev_var 6) ev_str) (ew_or1 (et_val (ev_call o c_fits (Nat.le_of_ble_eq_true rfl) (ea_cons (ev_subs o (ev_var 3) ev_int) (ea_cons (ev_call o c_found_holding (Nat.le_of_ble_eq_true rfl) (ea_cons (ev_var 1) (ea_cons (ev_var 6) ea_nil))) ea_nil))))))) ev_non ev_str)))))))))
theorem sc_done_deal : FnScope ["market", "fair", "deal", "offer", "here", "told", "name", "one", "other"] ["market", "fair", "deal"] (defScope (top 18)) := ⟨rfl, rfl, rfl, by decide +kernel, rfl, by decide +kernel, by decide +kernel⟩
theorem fn_done_deal {f : Addr} {fd : FuncData} (F : FunD K "done_deal" "done_deal" (defArgs (top 18)) (defBody (top 18)) (defScope (top 18)) [] [] f fd) (c_offer_of : Callee P w K mg base ca 1 "offer_of" 2 F_offer_of) (c_found_holding : Callee P w K mg base ca 1 "found_holding" 2 F_found_holding) (c_with_holding : Callee P w K mg base ca 1 "with_holding" 3 F_with_holding) (c_behind : Callee P w K mg base ca 1 "behind" 2 F_behind) : FnOk P w K mg base (L2.CX P w) 2 f fd ["market", "fair", "deal"] (spF K ca 3 F_done_deal) := by
  refine fn_def (k := 1) (N := ["market", "fair", "deal", "offer", "here", "told", "name", "one", "other"]) (B := b_done_deal) F sc_done_deal fun cdv A outer s H E o => ?_
  have hN := sc_done_deal.nd
  have hp := passes_of (X := cxOf (L2.CX P w) P w K mg base ["market", "fair", "deal", "offer", "here", "told", "name", "one", "other"] "done_deal" (defScope (top 18)) f cdv A outer s H E) rfl
  exact (eb_cons (es_asgP (ev_var 2) (et_tup (ets_cons (et_nm 6 hN) (ets_cons (et_nm 7 hN) (ets_cons (et_nm 8 hN) ets_nil)))))
   (eb_cons (es_set 3 hN (ev_call o c_offer_of (Nat.le_of_ble_eq_true rfl) (ea_cons (ev_var 0) (ea_cons (ev_var 6) ea_nil))))
   (eb_cons (es_set 4 hN (ev_call o c_found_holding (Nat.le_of_ble_eq_true rfl) (ea_cons (ev_var 1) (ea_cons (ev_var 7) ea_nil))))
   (eb_cons (es_set 5 hN (ev_call o c_with_holding (Nat.le_of_ble_eq_true rfl) (ea_cons (ev_var 1) (ea_cons (ev_var 7) (ea_cons (ev_call o c_behind (Nat.le_of_ble_eq_true rfl) (ea_cons (ev_subs o (ev_var 3) ev_int) (ea_cons (ev_var 4) ea_nil))) ea_nil)))))
   (eb_one (es_ret (ev_if (et_eq o (ev_var 8) ev_str) (ev_var 5) (ev_call o c_with_holding (Nat.le_of_ble_eq_true rfl) (ea_cons (ev_var 5) (ea_cons (ev_var 8) (ea_cons (ev_call o c_behind (Nat.le_of_ble_eq_true rfl) (ea_cons (ev_subs o (ev_var 3) ev_int) (ea_cons (ev_call o c_found_holding (Nat.le_of_ble_eq_true rfl) (ea_cons (ev_var 1) (ea_cons (ev_var 8) ea_nil))) ea_nil))) ea_nil)))))))))))
theorem sc_row_walk : FnScope ["market", "fair", "row", "found", "place", "deal", "word"] ["market", "fair", "row"] (defScope (top 20)) := ⟨rfl, rfl, rfl, by decide +kernel, rfl, by decide +kernel, by decide +kernel⟩
theorem fn_row_walk {f : Addr} {fd : FuncData} (F : FunD K "row_walk" "row_walk" (defArgs (top 20)) (defBody (top 20)) (defScope (top 20)) [] [] f fd) (bi : Bi mg) (c_deal_word : Callee P w K mg base ca 3 "deal_word" 3 F_deal_word) (c_done_deal : Callee P w K mg base ca 2 "done_deal" 3 F_done_deal) (x_BadRow : ExcOk P w K mg base ca 1 "BadRow" ["place", "word"]) : FnOk P w K mg base (L2.CX P w) 4 f fd ["market", "fair", "row"] (spF K ca 3 F_row_walk) := by
  refine fn_def (k := 3) (N := ["market", "fair", "row", "found", "place", "deal", "word"]) (B := b_row_walk) F sc_row_walk fun cdv A outer s H E o => ?_
  have hN := sc_row_walk.nd
  have hp := passes_of (X := cxOf (L2.CX P w) P w K mg base ["market", "fair", "row", "found", "place", "deal", "word"] "row_walk" (defScope (top 20)) f cdv A outer s H E) rfl
  exact (eb_cons (es_set 3 hN (ev_lstC (ea_cons (ev_var 1) ea_nil)))
   (eb_cons (es_for hp (ei_enum bi.b_enumerate (ea_cons (ev_var 2) ea_nil)) (et_tup (ets_cons (et_nm 4 hN) (ets_cons (et_nm 5 hN) ets_nil))) (eb_cons (es_set 6 hN (ev_call o c_deal_word (Nat.le_of_ble_eq_true rfl) (ea_cons (ev_var 0) (ea_cons (ev_subs o (ev_var 3) (ev_neg ev_int)) (ea_cons (ev_var 5) ea_nil)))))
   (eb_cons (es_if (et_notN (ev_var 6)) (eb_one (es_raise o x_BadRow (Nat.le_of_ble_eq_true rfl) (ea_cons (ev_var 4) (ea_cons (ev_var 6) ea_nil)))) eb_nil)
   (eb_one (es_expr (ev_app (ev_var 3) (ea_cons (ev_call o c_done_deal (Nat.le_of_ble_eq_true rfl) (ea_cons (ev_var 0) (ea_cons (ev_subs o (ev_var 3) (ev_neg ev_int)) (ea_cons (ev_var 5) ea_nil)))) ea_nil)))))))
   (eb_one (es_ret (ev_var 3)))))
theorem sc_run_row : FnScope ["market", "fair", "row"] ["market", "fair", "row"] (defScope (top 21)) := ⟨rfl, rfl, rfl, by decide +kernel, rfl, by decide +kernel, by decide +kernel⟩
theorem fn_run_row {f : Addr} {fd : FuncData} (F : FunD K "run_row" "run_row" (defArgs (top 21)) (defBody (top 21)) (defScope (top 21)) [] [] f fd) (c_row_walk : Callee P w K mg base ca 4 "row_walk" 3 F_row_walk) : FnOk P w K mg base (L2.CX P w) 5 f fd ["market", "fair", "row"] (spF K ca 3 F_run_row) := by
  refine fn_def (k := 4) (N := ["market", "fair", "row"]) (B := b_run_row) F sc_run_row fun cdv A outer s H E o => ?_
  have hN := sc_run_row.nd
  have hp := passes_of (X := cxOf (L2.CX P w) P w K mg base ["market", "fair", "row"] "run_row" (defScope (top 21)) f cdv A outer s H E) rfl
  exact (eb_one (es_ret (ev_subs o (ev_call o c_row_walk (Nat.le_of_ble_eq_true rfl) (ea_cons (ev_var 0) (ea_cons (ev_var 1) (ea_cons (ev_var 2) ea_nil)))) (ev_neg ev_int))))
theorem sc_run_trace : FnScope ["market", "fair", "row"] ["market", "fair", "row"] (defScope (top 22)) := ⟨rfl, rfl, rfl, by decide +kernel, rfl, by decide +kernel, by decide +kernel⟩
theorem fn_run_trace {f : Addr} {fd : FuncData} (F : FunD K "run_trace" "run_trace" (defArgs (top 22)) (defBody (top 22)) (defScope (top 22)) [] [] f fd) (bi : Bi mg) (c_row_walk : Callee P w K mg base ca 4 "row_walk" 3 F_row_walk) : FnOk P w K mg base (L2.CX P w) 5 f fd ["market", "fair", "row"] (spF K ca 3 F_run_trace) := by
  refine fn_def (k := 4) (N := ["market", "fair", "row"]) (B := b_run_trace) F sc_run_trace fun cdv A outer s H E o => ?_
  have hN := sc_run_trace.nd
  have hp := passes_of (X := cxOf (L2.CX P w) P w K mg base ["market", "fair", "row"] "run_trace" (defScope (top 22)) f cdv A outer s H E) rfl
  exact (eb_one (es_ret (ev_tuplec bi.b_tuple (ea_cons (ev_call o c_row_walk (Nat.le_of_ble_eq_true rfl) (ea_cons (ev_var 0) (ea_cons (ev_var 1) (ea_cons (ev_var 2) ea_nil)))) ea_nil))))
theorem sc_history_of : FnScope ["market", "fair", "row", "trader", "trace", "places", "place", "deal"] ["market", "fair", "row", "trader"] (defScope (top 24)) := ⟨rfl, rfl, rfl, by decide +kernel, rfl, by decide +kernel, by decide +kernel⟩
theorem fn_history_of {f : Addr} {fd : FuncData} (F : FunD K "history_of" "history_of" (defArgs (top 24)) (defBody (top 24)) (defScope (top 24)) [] [] f fd) (bi : Bi mg) (c_run_trace : Callee P w K mg base ca 5 "run_trace" 3 F_run_trace) (c_holding_of : Callee P w K mg base ca 4 "holding_of" 2 F_holding_of) : FnOk P w K mg base (L2.CX P w) 6 f fd ["market", "fair", "row", "trader"] (spF K ca 4 F_history_of) := by
  refine fn_def (k := 5) (N := ["market", "fair", "row", "trader", "trace", "places", "place", "deal"]) (B := b_history_of) F sc_history_of fun cdv A outer s H E o => ?_
  have hN := sc_history_of.nd
  have hp := passes_of (X := cxOf (L2.CX P w) P w K mg base ["market", "fair", "row", "trader", "trace", "places", "place", "deal"] "history_of" (defScope (top 24)) f cdv A outer s H E) rfl
  exact (eb_cons (es_set 4 hN (ev_call o c_run_trace (Nat.le_of_ble_eq_true rfl) (ea_cons (ev_var 0) (ea_cons (ev_var 1) (ea_cons (ev_var 2) ea_nil)))))
   (eb_cons (es_setLc 5 hN (ei_enum bi.b_enumerate (ea_cons (ev_var 2) ea_nil)) (lc_mk (own := [("place", 6), ("deal", 7)]) o (blkOk_by (N := ["market", "fair", "row", "trader", "trace", "places", "place", "deal"]) (sc := defScope (top 24)) (by decide +kernel)) (by decide) (fun _ _ _ _ _ => (et_tup (ets_cons (et_nm 6 hN) (ets_cons (et_nm 7 hN) ets_nil)))) (fun _ _ _ _ _ o1 => (ets_one (et_in o1 (ev_var 3) (ev_sl (ev_var 7) (ep_so ev_int) ep_no)))) (fun _ _ _ _ _ o1 => (ev_var 6))))
   (eb_one (es_ret (ev_tuplec bi.b_tuple (ea_cons (ev_lc hN (ei_any (ev_var 5)) (lc_mk (own := [("place", 6)]) o (blkOk_by (N := ["market", "fair", "row", "trader", "trace", "places", "place", "deal"]) (sc := defScope (top 24)) (by decide +kernel)) (by decide) (fun _ _ _ _ _ => (et_nm 6 hN)) (fun _ _ _ _ _ o1 => ets_no) (fun _ _ _ _ _ o1 => (ev_tup (ea_cons (ev_var 6) (ea_cons (ev_call o1 c_holding_of (Nat.le_of_ble_eq_true rfl) (ea_cons (ev_subs o1 (ev_var 4) (ev_add (ev_var 6) ev_int)) (ea_cons (ev_var 3) ea_nil))) ea_nil)))))) ea_nil))))))
theorem sc_gains : FnScope ["market", "fair", "row", "after", "one", "other"] ["market", "fair", "row"] (defScope (top 25)) := ⟨rfl, rfl, rfl, by decide +kernel, rfl, by decide +kernel, by decide +kernel⟩
theorem fn_gains {f : Addr} {fd : FuncData} (F : FunD K "gains" "gains" (defArgs (top 25)) (defBody (top 25)) (defScope (top 25)) [] [] f fd) (bi : Bi mg) (c_run_row : Callee P w K mg base ca 5 "run_row" 3 F_run_row) : FnOk P w K mg base (L2.CX P w) 6 f fd ["market", "fair", "row"] (spF K ca 3 F_gains) := by
  refine fn_def (k := 5) (N := ["market", "fair", "row", "after", "one", "other"]) (B := b_gains) F sc_gains fun cdv A outer s H E o => ?_
  have hN := sc_gains.nd
  have hp := passes_of (X := cxOf (L2.CX P w) P w K mg base ["market", "fair", "row", "after", "one", "other"] "gains" (defScope (top 25)) f cdv A outer s H E) rfl
  exact (eb_cons (es_set 3 hN (ev_call o c_run_row (Nat.le_of_ble_eq_true rfl) (ea_cons (ev_var 0) (ea_cons (ev_var 1) (ea_cons (ev_var 2) ea_nil)))))
   (eb_one (es_ret (ev_tuplec bi.b_tuple (ea_cons (ev_lc hN (ei_zip bi.b_zip (ea_cons (ev_var 1) (ea_cons (ev_var 3) ea_nil))) (lc_mk (own := [("one", 4), ("other", 5)]) o (blkOk_by (N := ["market", "fair", "row", "after", "one", "other"]) (sc := defScope (top 25)) (by decide +kernel)) (by decide) (fun _ _ _ _ _ => (et_tup (ets_cons (et_nm 4 hN) (ets_cons (et_nm 5 hN) ets_nil)))) (fun _ _ _ _ _ o1 => ets_no) (fun _ _ _ _ _ o1 => (ev_tup (ea_cons (ev_subs o1 (ev_var 4) ev_int) (ea_cons (ev_sub (ev_subs o1 (ev_var 5) ev_int) (ev_subs o1 (ev_var 4) ev_int)) ea_nil)))))) ea_nil)))))
theorem sc_best_trader : FnScope ["market", "fair", "row", "told", "most", "name", "gain"] ["market", "fair", "row"] (defScope (top 26)) := ⟨rfl, rfl, rfl, by decide +kernel, rfl, by decide +kernel, by decide +kernel⟩
theorem fn_best_trader {f : Addr} {fd : FuncData} (F : FunD K "best_trader" "best_trader" (defArgs (top 26)) (defBody (top 26)) (defScope (top 26)) [] [] f fd) (bi : Bi mg) (c_gains : Callee P w K mg base ca 6 "gains" 3 F_gains) : FnOk P w K mg base (L2.CX P w) 7 f fd ["market", "fair", "row"] (spF K ca 3 F_best_trader) := by
  refine fn_def (k := 6) (N := ["market", "fair", "row", "told", "most", "name", "gain"]) (B := b_best_trader) F sc_best_trader fun cdv A outer s H E o => ?_
  have hN := sc_best_trader.nd
  have hp := passes_of (X := cxOf (L2.CX P w) P w K mg base ["market", "fair", "row", "told", "most", "name", "gain"] "best_trader" (defScope (top 26)) f cdv A outer s H E) rfl
  exact (eb_cons (es_set 3 hN (ev_call o c_gains (Nat.le_of_ble_eq_true rfl) (ea_cons (ev_var 0) (ea_cons (ev_var 1) (ea_cons (ev_var 2) ea_nil)))))
   (eb_cons (es_if (et_eq o (ev_len bi.b_len (ea_cons (ev_var 3) ea_nil)) ev_int) (eb_one (es_ret ev_non)) eb_nil)
   (eb_cons (es_set 4 hN (ev_maxL bi.b_max (ea_cons (ev_lc hN (ei_any (ev_var 3)) (lc_mk (own := [("name", 5), ("gain", 6)]) o (blkOk_by (N := ["market", "fair", "row", "told", "most", "name", "gain"]) (sc := defScope (top 26)) (by decide +kernel)) (by decide) (fun _ _ _ _ _ => (et_tup (ets_cons (et_nm 5 hN) (ets_cons (et_nm 6 hN) ets_nil)))) (fun _ _ _ _ _ o1 => ets_no) (fun _ _ _ _ _ o1 => (ev_var 6)))) ea_nil)))
   (eb_one (es_ret (ev_subs o (ev_lc hN (ei_any (ev_var 3)) (lc_mk (own := [("name", 5), ("gain", 6)]) o (blkOk_by (N := ["market", "fair", "row", "told", "most", "name", "gain"]) (sc := defScope (top 26)) (by decide +kernel)) (by decide) (fun _ _ _ _ _ => (et_tup (ets_cons (et_nm 5 hN) (ets_cons (et_nm 6 hN) ets_nil)))) (fun _ _ _ _ _ o1 => (ets_one (et_eq o1 (ev_var 6) (ev_var 4)))) (fun _ _ _ _ _ o1 => (ev_var 5)))) ev_int))))))
theorem sc_is_even_offer : FnScope ["offer"] ["offer"] (defScope (top 28)) := ⟨rfl, rfl, rfl, by decide +kernel, rfl, by decide +kernel, by decide +kernel⟩
theorem fn_is_even_offer {f : Addr} {fd : FuncData} (F : FunD K "is_even_offer" "is_even_offer" (defArgs (top 28)) (defBody (top 28)) (defScope (top 28)) [] [] f fd)  : FnOk P w K mg base (L2.CX P w) 1 f fd ["offer"] (spF K ca 1 F_is_even_offer) := by
  refine fn_def (k := 0) (N := ["offer"]) (B := b_is_even_offer) F sc_is_even_offer fun cdv A outer s H E o => ?_
  have hN := sc_is_even_offer.nd
  have hp := passes_of (X := cxOf (L2.CX P w) P w K mg base ["offer"] "is_even_offer" (defScope (top 28)) f cdv A outer s H E) rfl
  exact (eb_one (es_ret (ev_and (ev_notN (ev_subs o (ev_var 0) ev_int)) (ev_one (ev_eq o (ev_add (ev_subs o (ev_subs o (ev_var 0) ev_int) ev_int) (ev_subs o (ev_subs o (ev_var 0) ev_int) ev_int)) ev_int)))))
theorem sc_is_even : FnScope ["market", "offer"] ["market"] (defScope (top 29)) := ⟨rfl, rfl, rfl, by decide +kernel, rfl, by decide +kernel, by decide +kernel⟩
theorem fn_is_even {f : Addr} {fd : FuncData} (F : FunD K "is_even" "is_even" (defArgs (top 29)) (defBody (top 29)) (defScope (top 29)) [] [] f fd) (bi : Bi mg) (c_is_even_offer : Callee P w K mg base ca 1 "is_even_offer" 1 F_is_even_offer) : FnOk P w K mg base (L2.CX P w) 2 f fd ["market"] (spF K ca 1 F_is_even) := by
  refine fn_def (k := 1) (N := ["market", "offer"]) (B := b_is_even) F sc_is_even fun cdv A outer s H E o => ?_
  have hN := sc_is_even.nd
  have hp := passes_of (X := cxOf (L2.CX P w) P w K mg base ["market", "offer"] "is_even" (defScope (top 29)) f cdv A outer s H E) rfl
  exact (eb_one (es_ret (ev_all bi.b_all (ea_cons (ev_lc hN (ei_any (ev_subs o (ev_var 0) ev_int)) (lc_mk (own := [("offer", 1)]) o (blkOk_by (N := ["market", "offer"]) (sc := defScope (top 29)) (by decide +kernel)) (by decide) (fun _ _ _ _ _ => (et_nm 1 hN)) (fun _ _ _ _ _ o1 => ets_no) (fun _ _ _ _ _ o1 => (ev_call o1 c_is_even_offer (Nat.le_of_ble_eq_true rfl) (ea_cons (ev_var 1) ea_nil))))) ea_nil))))
theorem sc_lines_of : FnScope ["text", "lines"] ["text"] (defScope (top 33)) := ⟨rfl, rfl, rfl, by decide +kernel, rfl, by decide +kernel, by decide +kernel⟩
theorem fn_lines_of {f : Addr} {fd : FuncData} (F : FunD K "lines_of" "lines_of" (defArgs (top 33)) (defBody (top 33)) (defScope (top 33)) [] [] f fd)  : FnOk P w K mg base (L2.CX P w) 1 f fd ["text"] (spF K ca 1 F_lines_of) := by
  refine fn_def (k := 0) (N := ["text", "lines"]) (B := b_lines_of) F sc_lines_of fun cdv A outer s H E o => ?_
  have hN := sc_lines_of.nd
  have hp := passes_of (X := cxOf (L2.CX P w) P w K mg base ["text", "lines"] "lines_of" (defScope (top 33)) f cdv A outer s H E) rfl
  exact (eb_cons (es_set 1 hN (ev_split (ev_var 0) ev_str))
   (eb_one (es_ret (ev_if (et_eq o (ev_subs o (ev_var 1) (ev_neg ev_int)) ev_str) (ev_sl (ev_var 1) ep_no (ep_so (ev_neg ev_int))) (ev_var 1)))))
theorem sc_limit_line : FnScope ["text", "most", "number", "line"] ["text", "most"] (defScope (top 34)) := ⟨rfl, rfl, rfl, by decide +kernel, rfl, by decide +kernel, by decide +kernel⟩
theorem fn_limit_line {f : Addr} {fd : FuncData} (F : FunD K "limit_line" "limit_line" (defArgs (top 34)) (defBody (top 34)) (defScope (top 34)) [] [] f fd) (bi : Bi mg) (c_lines_of : Callee P w K mg base ca 1 "lines_of" 1 F_lines_of) (h_SIGNS_MOST : ∃ u v, mg "SIGNS_MOST" = some u ∧ RelV v u ∧ ∀ H, RepP K H K_SIGNS_MOST v) : FnOk P w K mg base (L2.CX P w) 2 f fd ["text", "most"] (spF K ca 2 F_limit_line) := by
  refine fn_def (k := 1) (N := ["text", "most", "number", "line"]) (B := b_limit_line) F sc_limit_line fun cdv A outer s H E o => ?_
  have hN := sc_limit_line.nd
  have hp := passes_of (X := cxOf (L2.CX P w) P w K mg base ["text", "most", "number", "line"] "limit_line" (defScope (top 34)) f cdv A outer s H E) rfl
  exact (eb_cons (es_for hp (ei_enum bi.b_enumerate (ea_cons (ev_call o c_lines_of (Nat.le_of_ble_eq_true rfl) (ea_cons (ev_var 0) ea_nil)) ea_nil)) (et_tup (ets_cons (et_nm 2 hN) (ets_cons (et_nm 3 hN) ets_nil))) (eb_one (es_if (EvW.t (ew_or (et_ge (ev_var 2) (ev_var 1)) (ew_or1 (et_gt (ev_len bi.b_len (ea_cons (ev_var 3) ea_nil)) (ev_glob h_SIGNS_MOST))))) (eb_one (es_ret (ev_add (ev_var 2) ev_int))) eb_nil)))
   (eb_one (es_ret ev_non)))
theorem sc_counted_words : FnScope ["text", "found", "number", "line", "words", "word"] ["text"] (defScope (top 35)) := ⟨rfl, rfl, rfl, by decide +kernel, rfl, by decide +kernel, by decide +kernel⟩
theorem fn_counted_words {f : Addr} {fd : FuncData} (F : FunD K "counted_words" "counted_words" (defArgs (top 35)) (defBody (top 35)) (defScope (top 35)) [] [] f fd) (bi : Bi mg) (c_lines_of : Callee P w K mg base ca 1 "lines_of" 1 F_lines_of) : FnOk P w K mg base (L2.CX P w) 2 f fd ["text"] (spF K ca 1 F_counted_words) := by
  refine fn_def (k := 1) (N := ["text", "found", "number", "line", "words", "word"]) (B := b_counted_words) F sc_counted_words fun cdv A outer s H E o => ?_
  have hN := sc_counted_words.nd
  have hp := passes_of (X := cxOf (L2.CX P w) P w K mg base ["text", "found", "number", "line", "words", "word"] "counted_words" (defScope (top 35)) f cdv A outer s H E) rfl
  exact (eb_cons (es_set 1 hN (ev_lstC ea_nil))
   (eb_cons (es_for hp (ei_enum bi.b_enumerate (ea_cons (ev_call o c_lines_of (Nat.le_of_ble_eq_true rfl) (ea_cons (ev_var 0) ea_nil)) ea_nil)) (et_tup (ets_cons (et_nm 2 hN) (ets_cons (et_nm 3 hN) ets_nil))) (eb_cons (es_set 4 hN (ev_tuplec bi.b_tuple (ea_cons (ev_lc hN (ei_any (ev_split (ev_var 3) ev_str)) (lc_mk (own := [("word", 5)]) o (blkOk_by (N := ["text", "found", "number", "line", "words", "word"]) (sc := defScope (top 35)) (by decide +kernel)) (by decide) (fun _ _ _ _ _ => (et_nm 5 hN)) (fun _ _ _ _ _ o1 => (ets_one (et_ne o1 (ev_var 5) ev_str))) (fun _ _ _ _ _ o1 => (ev_var 5)))) ea_nil)))
   (eb_one (es_if (EvW.t (ew_and (et_gt (ev_len bi.b_len (ea_cons (ev_var 4) ea_nil)) ev_int) (ew_and1 (et_ne o (ev_subs o (ev_subs o (ev_var 4) ev_int) ev_int) ev_str)))) (eb_one (es_expr (ev_app (ev_var 1) (ea_cons (ev_tup (ea_cons (ev_add (ev_var 2) ev_int) (ea_cons (ev_var 4) ea_nil))) ea_nil)))) eb_nil))))
   (eb_one (es_ret (ev_var 1)))))
theorem sc_counted_lines : FnScope ["text", "most", "beyond"] ["text", "most"] (defScope (top 36)) := ⟨rfl, rfl, rfl, by decide +kernel, rfl, by decide +kernel, by decide +kernel⟩
theorem fn_counted_lines {f : Addr} {fd : FuncData} (F : FunD K "counted_lines" "counted_lines" (defArgs (top 36)) (defBody (top 36)) (defScope (top 36)) [.int 300] [] f fd) (c_limit_line : Callee P w K mg base ca 2 "limit_line" 2 F_limit_line) (c_counted_words : Callee P w K mg base ca 2 "counted_words" 1 F_counted_words) (x_BadText : ExcOk P w K mg base ca 1 "BadText" ["line", "word"]) : FnOk P w K mg base (L2.CX P w) 4 f fd ["text", "most"] (spF K ca 2 F_counted_lines) := by
  refine fn_def (k := 3) (N := ["text", "most", "beyond"]) (B := b_counted_lines) F sc_counted_lines fun cdv A outer s H E o => ?_
  have hN := sc_counted_lines.nd
  have hp := passes_of (X := cxOf (L2.CX P w) P w K mg base ["text", "most", "beyond"] "counted_lines" (defScope (top 36)) f cdv A outer s H E) rfl
  exact (eb_cons (es_set 2 hN (ev_call o c_limit_line (Nat.le_of_ble_eq_true rfl) (ea_cons (ev_var 0) (ea_cons (ev_var 1) ea_nil))))
   (eb_cons (es_if (et_notN (ev_var 2)) (eb_one (es_raise o x_BadText (Nat.le_of_ble_eq_true rfl) (ea_cons (ev_var 2) (ea_cons ev_str ea_nil)))) eb_nil)
   (eb_one (es_ret (ev_call o c_counted_words (Nat.le_of_ble_eq_true rfl) (ea_cons (ev_var 0) ea_nil))))))
theorem sc_written_integer : FnScope ["word", "figures", "sign"] ["word"] (defScope (top 37)) := ⟨rfl, rfl, rfl, by decide +kernel, rfl, by decide +kernel, by decide +kernel⟩
theorem fn_written_integer {f : Addr} {fd : FuncData} (F : FunD K "written_integer" "written_integer" (defArgs (top 37)) (defBody (top 37)) (defScope (top 37)) [] [] f fd) (bi : Bi mg) : FnOk P w K mg base (L2.CX P w) 1 f fd ["word"] (spF K ca 1 F_written_integer) := by
  refine fn_def (k := 0) (N := ["word", "figures", "sign"]) (B := b_written_integer) F sc_written_integer fun cdv A outer s H E o => ?_
  have hN := sc_written_integer.nd
  have hp := passes_of (X := cxOf (L2.CX P w) P w K mg base ["word", "figures", "sign"] "written_integer" (defScope (top 37)) f cdv A outer s H E) rfl
  exact (eb_cons (es_set 1 hN (ev_if (et_eq o (ev_sl (ev_var 0) ep_no (ep_so ev_int)) ev_str) (ev_sl (ev_var 0) (ep_so ev_int) ep_no) (ev_var 0)))
   (eb_cons (es_if (EvW.t (ew_or (et_eq o (ev_var 1) ev_str) (ew_or (et_gt (ev_len bi.b_len (ea_cons (ev_var 1) ea_nil)) ev_int) (ew_or1 (et_not (et_val (ev_all bi.b_all (ea_cons (ev_lc hN (ei_txt (ev_var 1)) (lc_mk (own := [("sign", 2)]) o (blkOk_by (N := ["word", "figures", "sign"]) (sc := defScope (top 37)) (by decide +kernel)) (by decide) (fun _ _ _ _ _ => (et_nm 2 hN)) (fun _ _ _ _ _ o1 => ets_no) (fun _ _ _ _ _ o1 => (ev_in o1 (ev_var 2) ev_str)))) ea_nil)))))))) (eb_one (es_ret ev_non)) eb_nil)
   (eb_one (es_ret (ev_if (et_eq o (ev_strc2 bi.b_str (ea_cons (ev_intc2 bi.b_int (ea_cons (ev_var 0) ea_nil)) ea_nil)) (ev_var 0)) (ev_intc2 bi.b_int (ea_cons (ev_var 0) ea_nil)) ev_non)))))
theorem sc_written_number : FnScope ["word", "number"] ["word"] (defScope (top 38)) := ⟨rfl, rfl, rfl, by decide +kernel, rfl, by decide +kernel, by decide +kernel⟩
theorem fn_written_number {f : Addr} {fd : FuncData} (F : FunD K "written_number" "written_number" (defArgs (top 38)) (defBody (top 38)) (defScope (top 38)) [] [] f fd) (c_written_integer : Callee P w K mg base ca 1 "written_integer" 1 F_written_integer) : FnOk P w K mg base (L2.CX P w) 2 f fd ["word"] (spF K ca 1 F_written_number) := by
  refine fn_def (k := 1) (N := ["word", "number"]) (B := b_written_number) F sc_written_number fun cdv A outer s H E o => ?_
  have hN := sc_written_number.nd
  have hp := passes_of (X := cxOf (L2.CX P w) P w K mg base ["word", "number"] "written_number" (defScope (top 38)) f cdv A outer s H E) rfl
  exact (eb_cons (es_set 1 hN (ev_call o c_written_integer (Nat.le_of_ble_eq_true rfl) (ea_cons (ev_var 0) ea_nil)))
   (eb_one (es_ret (ev_if (EvW.t (ew_and (et_notN (ev_var 1)) (ew_and1 (et_ge (ev_var 1) ev_int)))) (ev_var 1) ev_non))))
theorem sc_read_fair : FnScope ["text", "found", "number", "words", "money", "name"] ["text"] (defScope (top 40)) := ⟨rfl, rfl, rfl, by decide +kernel, rfl, by decide +kernel, by decide +kernel⟩
theorem fn_read_fair {f : Addr} {fd : FuncData} (F : FunD K "read_fair" "read_fair" (defArgs (top 40)) (defBody (top 40)) (defScope (top 40)) [] [] f fd) (bi : Bi mg) (dc_counted_lines_1 : DCallee P w K mg base ca 4 "counted_lines" 2 F_counted_lines [(.int 300)]) (c_written_number : Callee P w K mg base ca 2 "written_number" 1 F_written_number) (x_BadText : ExcOk P w K mg base ca 1 "BadText" ["line", "word"]) : FnOk P w K mg base (L2.CX P w) 5 f fd ["text"] (spF K ca 1 F_read_fair) := by
  refine fn_def (k := 4) (N := ["text", "found", "number", "words", "money", "name"]) (B := b_read_fair) F sc_read_fair fun cdv A outer s H E o => ?_
  have hN := sc_read_fair.nd
  have hp := passes_of (X := cxOf (L2.CX P w) P w K mg base ["text", "found", "number", "words", "money", "name"] "read_fair" (defScope (top 40)) f cdv A outer s H E) rfl
  exact (eb_cons (es_set 1 hN ev_dnew)
   (eb_cons (es_for hp (ei_any (ev_callD o dc_counted_lines_1 (Nat.le_of_ble_eq_true rfl) (ea_cons (ev_var 0) ea_nil))) (et_tup (ets_cons (et_nm 2 hN) (ets_cons (et_nm 3 hN) ets_nil))) (eb_cons (es_set 4 hN (ev_if (et_eq o (ev_len bi.b_len (ea_cons (ev_var 3) ea_nil)) ev_int) (ev_call o c_written_number (Nat.le_of_ble_eq_true rfl) (ea_cons (ev_subs o (ev_var 3) ev_int) ea_nil)) ev_non))
   (eb_cons (es_if (et_isN (ev_var 4)) (eb_one (es_raise o x_BadText (Nat.le_of_ble_eq_true rfl) (ea_cons (ev_var 2) (ea_cons ev_str ea_nil)))) eb_nil)
   (eb_cons (es_if (et_in o (ev_subs o (ev_var 3) ev_int) (ev_var 1)) (eb_one (es_raise o x_BadText (Nat.le_of_ble_eq_true rfl) (ea_cons (ev_var 2) (ea_cons ev_str ea_nil)))) eb_nil)
   (eb_one (es_or2 (es_putL (ev_tup (ea_cons (ev_subs o (ev_var 3) ev_int) (ea_cons (ev_var 4) ea_nil))) (ev_var 1) (ev_subs o (ev_var 3) ev_int) (by exact fun _ => rfl)) (es_dput o (ev_tup (ea_cons (ev_subs o (ev_var 3) ev_int) (ea_cons (ev_var 4) ea_nil))) (ev_var 1) (ev_subs o (ev_var 3) ev_int))))))))
   (eb_one (es_ret (ev_tuplec bi.b_tuple (ea_cons (ev_lc hN (ei_any (ev_sortD bi.b_sorted (ea_cons (ev_var 1) ea_nil))) (lc_mk (own := [("name", 5)]) o (blkOk_by (N := ["text", "found", "number", "words", "money", "name"]) (sc := defScope (top 40)) (by decide +kernel)) (by decide) (fun _ _ _ _ _ => (et_nm 5 hN)) (fun _ _ _ _ _ o1 => ets_no) (fun _ _ _ _ _ o1 => (ev_add (ev_tup (ea_cons (ev_var 5) ea_nil)) (ev_subs o1 (ev_var 1) (ev_var 5)))))) ea_nil))))))
theorem sc_read_row : FnScope ["text", "row", "number", "words"] ["text"] (defScope (top 41)) := ⟨rfl, rfl, rfl, by decide +kernel, rfl, by decide +kernel, by decide +kernel⟩
theorem fn_read_row {f : Addr} {fd : FuncData} (F : FunD K "read_row" "read_row" (defArgs (top 41)) (defBody (top 41)) (defScope (top 41)) [] [] f fd) (bi : Bi mg) (dc_counted_lines_1 : DCallee P w K mg base ca 4 "counted_lines" 2 F_counted_lines [(.int 300)]) (x_BadText : ExcOk P w K mg base ca 1 "BadText" ["line", "word"]) : FnOk P w K mg base (L2.CX P w) 5 f fd ["text"] (spF K ca 1 F_read_row) := by
  refine fn_def (k := 4) (N := ["text", "row", "number", "words"]) (B := b_read_row) F sc_read_row fun cdv A outer s H E o => ?_
  have hN := sc_read_row.nd
  have hp := passes_of (X := cxOf (L2.CX P w) P w K mg base ["text", "row", "number", "words"] "read_row" (defScope (top 41)) f cdv A outer s H E) rfl
  exact (eb_cons (es_set 1 hN (ev_lstC ea_nil))
   (eb_cons (es_for hp (ei_any (ev_callD o dc_counted_lines_1 (Nat.le_of_ble_eq_true rfl) (ea_cons (ev_var 0) ea_nil))) (et_tup (ets_cons (et_nm 2 hN) (ets_cons (et_nm 3 hN) ets_nil))) (eb_cons (es_if (et_nin o (ev_len bi.b_len (ea_cons (ev_var 3) ea_nil)) (ev_tup (ea_cons ev_int (ea_cons ev_int ea_nil)))) (eb_one (es_raise o x_BadText (Nat.le_of_ble_eq_true rfl) (ea_cons (ev_var 2) (ea_cons ev_str ea_nil)))) eb_nil)
   (eb_one (es_expr (ev_app (ev_var 1) (ea_cons (ev_if (et_eq o (ev_len bi.b_len (ea_cons (ev_var 3) ea_nil)) ev_int) (ev_var 3) (ev_add (ev_var 3) (ev_tup (ea_cons ev_str ea_nil)))) ea_nil))))))
   (eb_one (es_ret (ev_tuplec bi.b_tuple (ea_cons (ev_var 1) ea_nil))))))
theorem sc__law_book : FnScope ["script", "cells", "great", "k"] ["script"] (defScope (top 43)) := ⟨rfl, rfl, rfl, by decide +kernel, rfl, by decide +kernel, by decide +kernel⟩
theorem fn__law_book {f : Addr} {fd : FuncData} (F : FunD K "_law_book" "_law_book" (defArgs (top 43)) (defBody (top 43)) (defScope (top 43)) [] [] f fd) (bi : Bi mg) : FnOk P w K mg base (L2.CX P w) 1 f fd ["script"] (spF K ca 1 F__law_book) := by
  refine fn_def (k := 0) (N := ["script", "cells", "great", "k"]) (B := b__law_book) F sc__law_book fun cdv A outer s H E o => ?_
  have hN := sc__law_book.nd
  have hp := passes_of (X := cxOf (L2.CX P w) P w K mg base ["script", "cells", "great", "k"] "_law_book" (defScope (top 43)) f cdv A outer s H E) rfl
  exact (eb_cons (es_set 1 hN (ev_add (ev_rev (ev_lc hN (ei_any (ev_sl (ev_var 0) ep_no (ep_so ev_int))) (lc_mk (own := [("k", 3)]) o (blkOk_by (N := ["script", "cells", "great", "k"]) (sc := defScope (top 43)) (by decide +kernel)) (by decide) (fun _ _ _ _ _ => (et_nm 3 hN)) (fun _ _ _ _ _ o1 => ets_no) (fun _ _ _ _ _ o1 => (ev_mod (ev_intc2 bi.b_int (ea_cons (ev_abs bi.b_abs (ea_cons (ev_intc2 bi.b_int (ea_cons (ev_var 3) ea_nil)) ea_nil)) ea_nil)) ev_int))))) (ev_lst (ea_cons (ev_add (ev_mod (ev_len bi.b_len (ea_cons (ev_var 0) ea_nil)) ev_int) ev_int) ea_nil))))
   (eb_cons (es_setLcC 2 hN (ei_any (ev_sl (ev_var 0) ep_no (ep_so ev_int))) (lc_mk (own := [("k", 3)]) o (blkOk_by (N := ["script", "cells", "great", "k"]) (sc := defScope (top 43)) (by decide +kernel)) (by decide) (fun _ _ _ _ _ => (et_nm 3 hN)) (fun _ _ _ _ _ o1 => (ets_one (et_ge (ev_abs bi.b_abs (ea_cons (ev_intc2 bi.b_int (ea_cons (ev_var 3) ea_nil)) ea_nil)) (ev_pow ev_int ev_int)))) (fun _ _ _ _ _ o1 => (ev_intc2 bi.b_int (ea_cons (ev_abs bi.b_abs (ea_cons (ev_intc2 bi.b_int (ea_cons (ev_var 3) ea_nil)) ea_nil)) ea_nil)))))
   (eb_one (es_ret (ev_lstC (ea_cons ev_int (ea_cons ev_int (ea_cons (ev_var 1) (ea_cons (ev_var 2) ea_nil)))))))))
theorem sc__law_leaf : FnScope ["book", "many", "rest"] ["book", "many"] (defScope (top 44)) := ⟨rfl, rfl, rfl, by decide +kernel, rfl, by decide +kernel, by decide +kernel⟩
theorem fn__law_leaf {f : Addr} {fd : FuncData} (F : FunD K "_law_leaf" "_law_leaf" (defArgs (top 44)) (defBody (top 44)) (defScope (top 44)) [] [] f fd) (bi : Bi mg) : FnOk P w K mg base (L2.CX P w) 1 f fd ["book", "many"] (spF K ca 2 F__law_leaf) := by
  refine fn_def (k := 0) (N := ["book", "many", "rest"]) (B := b__law_leaf) F sc__law_leaf fun cdv A outer s H E o => ?_
  have hN := sc__law_leaf.nd
  have hp := passes_of (X := cxOf (L2.CX P w) P w K mg base ["book", "many", "rest"] "_law_leaf" (defScope (top 44)) f cdv A outer s H E) rfl
  exact (eb_cons (es_or2 (es_putL (ev_add (ev_subs o (ev_var 0) ev_int) ev_int) (ev_var 0) ev_int (by exact fun _ => rfl)) (es_dput o (ev_add (ev_subs o (ev_var 0) ev_int) ev_int) (ev_var 0) ev_int))
   (eb_cons (es_if (EvW.t (ew_and (et_gt (ev_len bi.b_len (ea_cons (ev_subs o (ev_var 0) ev_int) ea_nil)) ev_int) (ew_and1 (et_gt (ev_subs o (ev_subs o (ev_var 0) ev_int) (ev_neg ev_int)) ev_int)))) (eb_cons (es_set 2 hN (ev_intc2 bi.b_int (ea_cons (ev_subs o (ev_subs o (ev_var 0) ev_int) (ev_neg ev_int)) ea_nil)))
   (eb_cons (es_or2 (es_putL (ev_div (ev_var 2) (ev_add (ev_var 1) ev_int)) (ev_subs o (ev_var 0) ev_int) (ev_neg ev_int) (by exact fun _ => rfl)) (es_dput o (ev_div (ev_var 2) (ev_add (ev_var 1) ev_int)) (ev_subs o (ev_var 0) ev_int) (ev_neg ev_int)))
   (eb_one (es_ret (ev_mod (ev_intc2 bi.b_int (ea_cons (ev_var 2) ea_nil)) (ev_var 1)))))) eb_nil)
   (eb_cons (es_or2 (es_putL (ev_mod (ev_intc2 bi.b_int (ea_cons (ev_add (ev_add (ev_mul (ev_subs o (ev_var 0) ev_int) ev_int) (ev_mul (ev_subs o (ev_subs o (ev_var 0) ev_int) (ev_mod (ev_subs o (ev_var 0) ev_int) (ev_len bi.b_len (ea_cons (ev_subs o (ev_var 0) ev_int) ea_nil)))) ev_int)) (ev_mul (ev_subs o (ev_var 0) ev_int) ev_int)) ea_nil)) ev_int) (ev_var 0) ev_int (by exact fun _ => rfl)) (es_dput o (ev_mod (ev_intc2 bi.b_int (ea_cons (ev_add (ev_add (ev_mul (ev_subs o (ev_var 0) ev_int) ev_int) (ev_mul (ev_subs o (ev_subs o (ev_var 0) ev_int) (ev_mod (ev_subs o (ev_var 0) ev_int) (ev_len bi.b_len (ea_cons (ev_subs o (ev_var 0) ev_int) ea_nil)))) ev_int)) (ev_mul (ev_subs o (ev_var 0) ev_int) ev_int)) ea_nil)) ev_int) (ev_var 0) ev_int))
   (eb_one (es_ret (ev_mod (ev_intc2 bi.b_int (ea_cons (ev_div (ev_subs o (ev_var 0) ev_int) ev_int) ea_nil)) (ev_var 1)))))))
theorem sc__law_ear : FnScope ["book", "place", "many", "way"] ["book", "place", "many"] (defScope (top 45)) := ⟨rfl, rfl, rfl, by decide +kernel, rfl, by decide +kernel, by decide +kernel⟩
theorem fn__law_ear {f : Addr} {fd : FuncData} (F : FunD K "_law_ear" "_law_ear" (defArgs (top 45)) (defBody (top 45)) (defScope (top 45)) [] [] f fd) (bi : Bi mg) (c__law_leaf : Callee P w K mg base ca 1 "_law_leaf" 2 F__law_leaf) : FnOk P w K mg base (L2.CX P w) 2 f fd ["book", "place", "many"] (spF K ca 3 F__law_ear) := by
  refine fn_def (k := 1) (N := ["book", "place", "many", "way"]) (B := b__law_ear) F sc__law_ear fun cdv A outer s H E o => ?_
  have hN := sc__law_ear.nd
  have hp := passes_of (X := cxOf (L2.CX P w) P w K mg base ["book", "place", "many", "way"] "_law_ear" (defScope (top 45)) f cdv A outer s H E) rfl
  exact (eb_cons (es_set 3 hN (ev_mod (ev_intc2 bi.b_int (ea_cons (ev_add (ev_div (ev_subs o (ev_subs o (ev_var 0) ev_int) (ev_mod (ev_add (ev_mul (ev_var 1) ev_int) ev_int) (ev_len bi.b_len (ea_cons (ev_subs o (ev_var 0) ev_int) ea_nil)))) ev_int) (ev_var 1)) ea_nil)) ev_int))
   (eb_cons (es_if (et_eq o (ev_var 3) ev_int) (eb_one (es_ret (ev_sub (ev_var 2) ev_int))) eb_nil)
   (eb_cons (es_if (et_eq o (ev_var 3) ev_int) (eb_one (es_ret ev_int)) eb_nil)
   (eb_one (es_ret (ev_call o c__law_leaf (Nat.le_of_ble_eq_true rfl) (ea_cons (ev_var 0) (ea_cons (ev_var 2) ea_nil))))))))
theorem sc__law_market : FnScope ["book", "goods", "k", "even", "offers", "sides", "at", "other", "least", "change"] ["book"] (defScope (top 46)) := ⟨rfl, rfl, rfl, by decide +kernel, rfl, by decide +kernel, by decide +kernel⟩
theorem fn__law_market {f : Addr} {fd : FuncData} (F : FunD K "_law_market" "_law_market" (defArgs (top 46)) (defBody (top 46)) (defScope (top 46)) [] [] f fd) (bi : Bi mg) (c__law_ear : Callee P w K mg base ca 2 "_law_ear" 3 F__law_ear) (c__law_leaf : Callee P w K mg base ca 1 "_law_leaf" 2 F__law_leaf) : FnOk P w K mg base (L2.CX P w) 3 f fd ["book"] (spF K ca 1 F__law_market) := by
  refine fn_def (k := 2) (N := ["book", "goods", "k", "even", "offers", "sides", "at", "other", "least", "change"]) (B := b__law_market) F sc__law_market fun cdv A outer s H E o => ?_
  have hN := sc__law_market.nd
  have hp := passes_of (X := cxOf (L2.CX P w) P w K mg base ["book", "goods", "k", "even", "offers", "sides", "at", "other", "least", "change"] "_law_market" (defScope (top 46)) f cdv A outer s H E) rfl
  exact (eb_cons (es_set 1 hN (ev_sl (ev_tup (ea_cons ev_str (ea_cons ev_str (ea_cons ev_str ea_nil)))) ep_no (ep_so (ev_add ev_int (ev_call o c__law_ear (Nat.le_of_ble_eq_true rfl) (ea_cons (ev_var 0) (ea_cons ev_int (ea_cons ev_int ea_nil))))))))
   (eb_cons (es_par2 3 4 hN (ea_cons (ev_eq o (ev_call o c__law_ear (Nat.le_of_ble_eq_true rfl) (ea_cons (ev_var 0) (ea_cons ev_int (ea_cons ev_int ea_nil)))) ev_int) (ea_cons (ev_lstC ea_nil) ea_nil)))
   (eb_cons (es_for hp (ei_rng1 bi.b_range (ea_cons (ev_add ev_int (ev_call o c__law_ear (Nat.le_of_ble_eq_true rfl) (ea_cons (ev_var 0) (ea_cons ev_int (ea_cons ev_int ea_nil))))) ea_nil)) (et_nm 2 hN) (eb_cons (es_set 5 hN (ev_lstC ea_nil))
   (eb_cons (es_for hp (ei_rng1 bi.b_range (ea_cons ev_int ea_nil)) (et_nm 6 hN) (eb_cons (es_set 8 hN (ev_subs o (ev_tup (ea_cons ev_int (ea_cons ev_int (ea_cons ev_int (ea_cons ev_int ea_nil))))) (ev_call o c__law_leaf (Nat.le_of_ble_eq_true rfl) (ea_cons (ev_var 0) (ea_cons ev_int ea_nil)))))
   (eb_cons (es_set 9 hN (ev_subs o (ev_tup (ea_cons ev_int (ea_cons ev_int (ea_cons ev_int (ea_cons ev_int (ea_cons (ev_neg ev_int) (ea_cons (ev_neg ev_int) ea_nil))))))) (ev_call o c__law_leaf (Nat.le_of_ble_eq_true rfl) (ea_cons (ev_var 0) (ea_cons ev_int ea_nil)))))
   (eb_one (es_expr (ev_app (ev_var 5) (ea_cons (ev_lstC (ea_cons (ev_subs o (ev_var 1) (ev_call o c__law_leaf (Nat.le_of_ble_eq_true rfl) (ea_cons (ev_var 0) (ea_cons (ev_len bi.b_len (ea_cons (ev_var 1) ea_nil)) ea_nil)))) (ea_cons (ev_var 8) (ea_cons (ev_subs o (ev_tup (ea_cons ev_non (ea_cons ev_non (ea_cons (ev_add (ev_var 8) ev_int) ea_nil)))) (ev_call o c__law_leaf (Nat.le_of_ble_eq_true rfl) (ea_cons (ev_var 0) (ea_cons ev_int ea_nil)))) (ea_cons (ev_subs o (ev_var 1) (ev_call o c__law_leaf (Nat.le_of_ble_eq_true rfl) (ea_cons (ev_var 0) (ea_cons (ev_len bi.b_len (ea_cons (ev_var 1) ea_nil)) ea_nil)))) (ea_cons (ev_max2 bi.b_max (ea_cons (ev_var 9) (ea_cons (ev_neg (ev_var 8)) ea_nil))) ea_nil)))))) ea_nil)))))))
   (eb_cons (es_if (et_val (ev_var 3)) (eb_cons (es_asgB (ev_tup (ea_cons ev_int (ea_cons ev_non ea_nil))) (egb_tup (egbs_cons (egb_subL (ev_subs o (ev_var 5) ev_int) ev_int) (egbs_cons (egb_subL (ev_subs o (ev_var 5) ev_int) ev_int) egbs_nil))))
   (eb_one (es_or2 (es_putL (ev_neg (ev_subs o (ev_subs o (ev_var 5) ev_int) ev_int)) (ev_subs o (ev_var 5) ev_int) ev_int (by exact fun _ => rfl)) (es_dput o (ev_neg (ev_subs o (ev_subs o (ev_var 5) ev_int) ev_int)) (ev_subs o (ev_var 5) ev_int) ev_int)))) eb_nil)
   (eb_cons (es_set 7 hN (ev_if (EvW.t (ew_and (et_not (et_val (ev_var 3))) (ew_and1 (et_eq o (ev_call o c__law_leaf (Nat.le_of_ble_eq_true rfl) (ea_cons (ev_var 0) (ea_cons ev_int ea_nil))) ev_int)))) ev_non (ev_tuplec bi.b_tuple (ea_cons (ev_subs o (ev_var 5) ev_int) ea_nil))))
   (eb_one (es_expr (ev_app (ev_var 4) (ea_cons (ev_tup (ea_cons (ev_add ev_str (ev_strc2 bi.b_str (ea_cons (ev_var 2) ea_nil))) (ea_cons (ev_tuplec bi.b_tuple (ea_cons (ev_subs o (ev_var 5) ev_int) ea_nil)) (ea_cons (ev_var 7) ea_nil)))) ea_nil)))))))))
   (eb_one (es_ret (ev_tup (ea_cons (ev_var 1) (ea_cons (ev_tup (ea_cons (ev_tup (ea_cons (ev_subs o (ev_var 1) ev_int) (ea_cons ev_int ea_nil))) ea_nil)) (ea_cons (ev_tuplec bi.b_tuple (ea_cons (ev_var 4) ea_nil)) ea_nil)))))))))
theorem sc__law_able : FnScope ["side", "holding"] ["side", "holding"] (defScope (top 47)) := ⟨rfl, rfl, rfl, by decide +kernel, rfl, by decide +kernel, by decide +kernel⟩
theorem fn__law_able {f : Addr} {fd : FuncData} (F : FunD K "_law_able" "_law_able" (defArgs (top 47)) (defBody (top 47)) (defScope (top 47)) [] [] f fd)  : FnOk P w K mg base (L2.CX P w) 1 f fd ["side", "holding"] (spF K ca 2 F__law_able) := by
  refine fn_def (k := 0) (N := ["side", "holding"]) (B := b__law_able) F sc__law_able fun cdv A outer s H E o => ?_
  have hN := sc__law_able.nd
  have hp := passes_of (X := cxOf (L2.CX P w) P w K mg base ["side", "holding"] "_law_able" (defScope (top 47)) f cdv A outer s H E) rfl
  exact (eb_one (es_ret (ev_and (ev_eq o (ev_subs o (ev_var 0) ev_int) (ev_subs o (ev_var 1) ev_int)) (ev_and (ev_le (ev_subs o (ev_var 0) ev_int) (ev_subs o (ev_var 1) ev_int)) (ev_one (ev_or (ev_isN (ev_subs o (ev_var 0) ev_int)) (ev_one (ev_le (ev_subs o (ev_var 1) ev_int) (ev_subs o (ev_var 0) ev_int)))))))))
theorem sc__law_some_deal : FnScope ["book", "market", "fair", "names", "lap", "first", "name", "one", "other", "trader", "second", "last"] ["book", "market", "fair"] (defScope (top 48)) := ⟨rfl, rfl, rfl, by decide +kernel, rfl, by decide +kernel, by decide +kernel⟩
theorem fn__law_some_deal {f : Addr} {fd : FuncData} (F : FunD K "_law_some_deal" "_law_some_deal" (defArgs (top 48)) (defBody (top 48)) (defScope (top 48)) [] [] f fd) (bi : Bi mg) (c__law_leaf : Callee P w K mg base ca 1 "_law_leaf" 2 F__law_leaf) (c__law_able : Callee P w K mg base ca 1 "_law_able" 2 F__law_able) : FnOk P w K mg base (L2.CX P w) 2 f fd ["book", "market", "fair"] (spF K ca 3 F__law_some_deal) := by
  refine fn_def (k := 1) (N := ["book", "market", "fair", "names", "lap", "first", "name", "one", "other", "trader", "second", "last"]) (B := b__law_some_deal) F sc__law_some_deal fun cdv A outer s H E o => ?_
  have hN := sc__law_some_deal.nd
  have hp := passes_of (X := cxOf (L2.CX P w) P w K mg base ["book", "market", "fair", "names", "lap", "first", "name", "one", "other", "trader", "second", "last"] "_law_some_deal" (defScope (top 48)) f cdv A outer s H E) rfl
  exact (eb_cons (es_set 3 hN (ev_sortD bi.b_sorted (ea_cons (ev_var 2) ea_nil)))
   (eb_cons (es_for hp (ei_rng1 bi.b_range (ea_cons ev_int ea_nil)) (et_nm 4 hN) (eb_cons (es_asgP (ev_subs o (ev_subs o (ev_var 1) ev_int) (ev_call o c__law_leaf (Nat.le_of_ble_eq_true rfl) (ea_cons (ev_var 0) (ea_cons (ev_len bi.b_len (ea_cons (ev_subs o (ev_var 1) ev_int) ea_nil)) ea_nil)))) (et_tup (ets_cons (et_nm 6 hN) (ets_cons (et_nm 7 hN) (ets_cons (et_nm 8 hN) ets_nil)))))
   (eb_cons (es_setLc 5 hN (ei_any (ev_var 3)) (lc_mk (own := [("trader", 9)]) o (blkOk_by (N := ["book", "market", "fair", "names", "lap", "first", "name", "one", "other", "trader", "second", "last"]) (sc := defScope (top 48)) (by decide +kernel)) (by decide) (fun _ _ _ _ _ => (et_nm 9 hN)) (fun _ _ _ _ _ o1 => (ets_one (et_val (ev_call o1 c__law_able (Nat.le_of_ble_eq_true rfl) (ea_cons (ev_var 7) (ea_cons (ev_subs o1 (ev_var 2) (ev_var 9)) ea_nil)))))) (fun _ _ _ _ _ o1 => (ev_var 9))))
   (eb_one (es_if (et_gt (ev_len bi.b_len (ea_cons (ev_var 5) ea_nil)) ev_int) (eb_cons (es_set 9 hN (ev_subs o (ev_var 5) (ev_call o c__law_leaf (Nat.le_of_ble_eq_true rfl) (ea_cons (ev_var 0) (ea_cons (ev_len bi.b_len (ea_cons (ev_var 5) ea_nil)) ea_nil)))))
   (eb_cons (es_if (et_isN (ev_var 8)) (eb_one (es_ret (ev_tup (ea_cons (ev_var 6) (ea_cons (ev_var 9) (ea_cons ev_str ea_nil)))))) eb_nil)
   (eb_cons (es_setLc 10 hN (ei_any (ev_var 3)) (lc_mk (own := [("last", 11)]) o (blkOk_by (N := ["book", "market", "fair", "names", "lap", "first", "name", "one", "other", "trader", "second", "last"]) (sc := defScope (top 48)) (by decide +kernel)) (by decide) (fun _ _ _ _ _ => (et_nm 11 hN)) (fun _ _ _ _ _ o1 => (ets_one (EvW.t (ew_and (et_ne o1 (ev_var 11) (ev_var 9)) (ew_and1 (et_val (ev_call o1 c__law_able (Nat.le_of_ble_eq_true rfl) (ea_cons (ev_var 8) (ea_cons (ev_subs o1 (ev_var 2) (ev_var 11)) ea_nil))))))))) (fun _ _ _ _ _ o1 => (ev_var 11))))
   (eb_one (es_if (et_gt (ev_len bi.b_len (ea_cons (ev_var 10) ea_nil)) ev_int) (eb_one (es_ret (ev_tup (ea_cons (ev_var 6) (ea_cons (ev_var 9) (ea_cons (ev_subs o (ev_var 10) (ev_call o c__law_leaf (Nat.le_of_ble_eq_true rfl) (ea_cons (ev_var 0) (ea_cons (ev_len bi.b_len (ea_cons (ev_var 10) ea_nil)) ea_nil)))) ea_nil)))))) eb_nil))))) eb_nil)))))
   (eb_one (es_ret ev_non))))
theorem sc__law_behind : FnScope ["market", "fair", "deal", "told", "name", "one", "other"] ["market", "fair", "deal"] (defScope (top 49)) := ⟨rfl, rfl, rfl, by decide +kernel, rfl, by decide +kernel, by decide +kernel⟩
theorem fn__law_behind {f : Addr} {fd : FuncData} (F : FunD K "_law_behind" "_law_behind" (defArgs (top 49)) (defBody (top 49)) (defScope (top 49)) [] [] f fd) (bi : Bi mg) : FnOk P w K mg base (L2.CX P w) 1 f fd ["market", "fair", "deal"] (spF K ca 3 F__law_behind) := by
  refine fn_def (k := 0) (N := ["market", "fair", "deal", "told", "name", "one", "other"]) (B := b__law_behind) F sc__law_behind fun cdv A outer s H E o => ?_
  have hN := sc__law_behind.nd
  have hp := passes_of (X := cxOf (L2.CX P w) P w K mg base ["market", "fair", "deal", "told", "name", "one", "other"] "_law_behind" (defScope (top 49)) f cdv A outer s H E) rfl
  exact (eb_cons (es_set 3 hN (ev_dictc bi.b_dict (ea_cons (ev_var 1) ea_nil)))
   (eb_cons (es_for hp (ei_any (ev_subs o (ev_var 0) ev_int)) (et_tup (ets_cons (et_nm 4 hN) (ets_cons (et_nm 5 hN) (ets_cons (et_nm 6 hN) ets_nil)))) (eb_one (es_if (et_eq o (ev_var 4) (ev_subs o (ev_var 2) ev_int)) (eb_cons (es_or2 (es_putL (ev_tup (ea_cons (ev_subs o (ev_var 5) ev_int) (ea_cons (ev_add (ev_subs o (ev_subs o (ev_var 1) (ev_subs o (ev_var 2) ev_int)) ev_int) (ev_subs o (ev_var 5) ev_int)) ea_nil))) (ev_var 3) (ev_subs o (ev_var 2) ev_int) (by exact fun _ => rfl)) (es_dput o (ev_tup (ea_cons (ev_subs o (ev_var 5) ev_int) (ea_cons (ev_add (ev_subs o (ev_subs o (ev_var 1) (ev_subs o (ev_var 2) ev_int)) ev_int) (ev_subs o (ev_var 5) ev_int)) ea_nil))) (ev_var 3) (ev_subs o (ev_var 2) ev_int)))
   (eb_one (es_if (et_notN (ev_var 6)) (eb_one (es_or2 (es_putL (ev_tup (ea_cons (ev_subs o (ev_var 6) ev_int) (ea_cons (ev_add (ev_subs o (ev_subs o (ev_var 1) (ev_subs o (ev_var 2) ev_int)) ev_int) (ev_subs o (ev_var 6) ev_int)) ea_nil))) (ev_var 3) (ev_subs o (ev_var 2) ev_int) (by exact fun _ => rfl)) (es_dput o (ev_tup (ea_cons (ev_subs o (ev_var 6) ev_int) (ea_cons (ev_add (ev_subs o (ev_subs o (ev_var 1) (ev_subs o (ev_var 2) ev_int)) ev_int) (ev_subs o (ev_var 6) ev_int)) ea_nil))) (ev_var 3) (ev_subs o (ev_var 2) ev_int)))) eb_nil))) eb_nil)))
   (eb_one (es_ret (ev_var 3)))))
theorem sc__law_made : FnScope ["book", "market", "many", "laps", "fair", "k", "trace", "row", "deal"] ["book", "market", "many", "laps"] (defScope (top 50)) := ⟨rfl, rfl, rfl, by decide +kernel, rfl, by decide +kernel, by decide +kernel⟩
theorem fn__law_made {f : Addr} {fd : FuncData} (F : FunD K "_law_made" "_law_made" (defArgs (top 50)) (defBody (top 50)) (defScope (top 50)) [] [] f fd) (bi : Bi mg) (c__law_leaf : Callee P w K mg base ca 1 "_law_leaf" 2 F__law_leaf) (c__law_ear : Callee P w K mg base ca 2 "_law_ear" 3 F__law_ear) (c__law_some_deal : Callee P w K mg base ca 2 "_law_some_deal" 3 F__law_some_deal) (c__law_behind : Callee P w K mg base ca 1 "_law_behind" 3 F__law_behind) : FnOk P w K mg base (L2.CX P w) 3 f fd ["book", "market", "many", "laps"] (spF K ca 4 F__law_made) := by
  refine fn_def (k := 2) (N := ["book", "market", "many", "laps", "fair", "k", "trace", "row", "deal"]) (B := b__law_made) F sc__law_made fun cdv A outer s H E o => ?_
  have hN := sc__law_made.nd
  have hp := passes_of (X := cxOf (L2.CX P w) P w K mg base ["book", "market", "many", "laps", "fair", "k", "trace", "row", "deal"] "_law_made" (defScope (top 50)) f cdv A outer s H E) rfl
  exact (eb_cons (es_set 4 hN ev_dnew)
   (eb_cons (es_for hp (ei_rng1 bi.b_range (ea_cons (ev_var 2) ea_nil)) (et_nm 5 hN) (eb_one (es_or2 (es_putL (ev_tup (ea_cons (ev_subs o (ev_subs o (ev_var 1) ev_int) (ev_call o c__law_leaf (Nat.le_of_ble_eq_true rfl) (ea_cons (ev_var 0) (ea_cons (ev_len bi.b_len (ea_cons (ev_subs o (ev_var 1) ev_int) ea_nil)) ea_nil)))) (ea_cons (ev_subs o (ev_tup (ea_cons ev_int (ea_cons ev_int (ea_cons ev_int (ea_cons (ev_call o c__law_leaf (Nat.le_of_ble_eq_true rfl) (ea_cons (ev_var 0) (ea_cons ev_int ea_nil))) ea_nil))))) (ev_call o c__law_ear (Nat.le_of_ble_eq_true rfl) (ea_cons (ev_var 0) (ea_cons ev_int (ea_cons ev_int ea_nil))))) ea_nil))) (ev_var 4) (ev_add (ev_add ev_str (ev_strc2 bi.b_str (ea_cons (ev_var 5) ea_nil))) (ev_subs o (ev_tup (ea_cons ev_str (ea_cons ev_str (ea_cons ev_str ea_nil)))) (ev_call o c__law_leaf (Nat.le_of_ble_eq_true rfl) (ea_cons (ev_var 0) (ea_cons ev_int ea_nil))))) (by exact fun _ => rfl)) (es_dput o (ev_tup (ea_cons (ev_subs o (ev_subs o (ev_var 1) ev_int) (ev_call o c__law_leaf (Nat.le_of_ble_eq_true rfl) (ea_cons (ev_var 0) (ea_cons (ev_len bi.b_len (ea_cons (ev_subs o (ev_var 1) ev_int) ea_nil)) ea_nil)))) (ea_cons (ev_subs o (ev_tup (ea_cons ev_int (ea_cons ev_int (ea_cons ev_int (ea_cons (ev_call o c__law_leaf (Nat.le_of_ble_eq_true rfl) (ea_cons (ev_var 0) (ea_cons ev_int ea_nil))) ea_nil))))) (ev_call o c__law_ear (Nat.le_of_ble_eq_true rfl) (ea_cons (ev_var 0) (ea_cons ev_int (ea_cons ev_int ea_nil))))) ea_nil))) (ev_var 4) (ev_add (ev_add ev_str (ev_strc2 bi.b_str (ea_cons (ev_var 5) ea_nil))) (ev_subs o (ev_tup (ea_cons ev_str (ea_cons ev_str (ea_cons ev_str ea_nil)))) (ev_call o c__law_leaf (Nat.le_of_ble_eq_true rfl) (ea_cons (ev_var 0) (ea_cons ev_int ea_nil)))))))))
   (eb_cons (es_par2 6 7 hN (ea_cons (ev_lstC (ea_cons (ev_var 4) ea_nil)) (ea_cons (ev_lstC ea_nil) ea_nil)))
   (eb_cons (es_for hp (ei_rng1 bi.b_range (ea_cons (ev_var 3) ea_nil)) (et_nm 5 hN) (eb_cons (es_set 8 hN (ev_if (et_gt (ev_var 2) ev_int) (ev_call o c__law_some_deal (Nat.le_of_ble_eq_true rfl) (ea_cons (ev_var 0) (ea_cons (ev_var 1) (ea_cons (ev_subs o (ev_var 6) (ev_sub (ev_len bi.b_len (ea_cons (ev_var 6) ea_nil)) ev_int)) ea_nil)))) ev_non))
   (eb_one (es_if (et_notN (ev_var 8)) (eb_cons (es_expr (ev_app (ev_var 7) (ea_cons (ev_var 8) ea_nil)))
   (eb_one (es_expr (ev_app (ev_var 6) (ea_cons (ev_call o c__law_behind (Nat.le_of_ble_eq_true rfl) (ea_cons (ev_var 1) (ea_cons (ev_subs o (ev_var 6) (ev_sub (ev_len bi.b_len (ea_cons (ev_var 6) ea_nil)) ev_int)) (ea_cons (ev_var 8) ea_nil)))) ea_nil))))) eb_nil))))
   (eb_one (es_ret (ev_tup (ea_cons (ev_var 6) (ea_cons (ev_tuplec bi.b_tuple (ea_cons (ev_var 7) ea_nil)) ea_nil)))))))))
theorem sc__law_tuple : FnScope ["fair", "trader"] ["fair"] (defScope (top 51)) := ⟨rfl, rfl, rfl, by decide +kernel, rfl, by decide +kernel, by decide +kernel⟩
theorem fn__law_tuple {f : Addr} {fd : FuncData} (F : FunD K "_law_tuple" "_law_tuple" (defArgs (top 51)) (defBody (top 51)) (defScope (top 51)) [] [] f fd) (bi : Bi mg) : FnOk P w K mg base (L2.CX P w) 1 f fd ["fair"] (spF K ca 1 F__law_tuple) := by
  refine fn_def (k := 0) (N := ["fair", "trader"]) (B := b__law_tuple) F sc__law_tuple fun cdv A outer s H E o => ?_
  have hN := sc__law_tuple.nd
  have hp := passes_of (X := cxOf (L2.CX P w) P w K mg base ["fair", "trader"] "_law_tuple" (defScope (top 51)) f cdv A outer s H E) rfl
  exact (eb_one (es_ret (ev_tuplec bi.b_tuple (ea_cons (ev_lc hN (ei_any (ev_sortD bi.b_sorted (ea_cons (ev_var 0) ea_nil))) (lc_mk (own := [("trader", 1)]) o (blkOk_by (N := ["fair", "trader"]) (sc := defScope (top 51)) (by decide +kernel)) (by decide) (fun _ _ _ _ _ => (et_nm 1 hN)) (fun _ _ _ _ _ o1 => ets_no) (fun _ _ _ _ _ o1 => (ev_add (ev_tup (ea_cons (ev_var 1) ea_nil)) (ev_subs o1 (ev_var 0) (ev_var 1)))))) ea_nil))))
theorem sc__law_text : FnScope ["book", "rows", "told", "row", "one"] ["book", "rows"] (defScope (top 52)) := ⟨rfl, rfl, rfl, by decide +kernel, rfl, by decide +kernel, by decide +kernel⟩
theorem fn__law_text {f : Addr} {fd : FuncData} (F : FunD K "_law_text" "_law_text" (defArgs (top 52)) (defBody (top 52)) (defScope (top 52)) [] [] f fd) (bi : Bi mg) (c__law_leaf : Callee P w K mg base ca 1 "_law_leaf" 2 F__law_leaf) : FnOk P w K mg base (L2.CX P w) 2 f fd ["book", "rows"] (spF K ca 2 F__law_text) := by
  refine fn_def (k := 1) (N := ["book", "rows", "told", "row", "one"]) (B := b__law_text) F sc__law_text fun cdv A outer s H E o => ?_
  have hN := sc__law_text.nd
  have hp := passes_of (X := cxOf (L2.CX P w) P w K mg base ["book", "rows", "told", "row", "one"] "_law_text" (defScope (top 52)) f cdv A outer s H E) rfl
  exact (eb_cons (es_set 2 hN ev_str)
   (eb_cons (es_for hp (ei_any (ev_var 1)) (et_nm 3 hN) (eb_one (es_set 2 hN (ev_add (ev_add (ev_add (ev_var 2) (ev_subs o (ev_tup (ea_cons ev_str (ea_cons ev_str ea_nil))) (ev_call o c__law_leaf (Nat.le_of_ble_eq_true rfl) (ea_cons (ev_var 0) (ea_cons ev_int ea_nil))))) (ev_join ev_str (ev_lc hN (ei_any (ev_var 3)) (lc_mk (own := [("one", 4)]) o (blkOk_by (N := ["book", "rows", "told", "row", "one"]) (sc := defScope (top 52)) (by decide +kernel)) (by decide) (fun _ _ _ _ _ => (et_nm 4 hN)) (fun _ _ _ _ _ o1 => (ets_one (et_ne o1 (ev_var 4) ev_str))) (fun _ _ _ _ _ o1 => (ev_strc2 bi.b_str (ea_cons (ev_var 4) ea_nil))))))) (ev_subs o (ev_tup (ea_cons ev_str (ea_cons ev_str (ea_cons ev_str (ea_cons ev_str ea_nil))))) (ev_call o c__law_leaf (Nat.le_of_ble_eq_true rfl) (ea_cons (ev_var 0) (ea_cons ev_int ea_nil))))))))
   (eb_one (es_ret (ev_var 2)))))
theorem sc__law_same : FnScope ["told", "due", "k"] ["told", "due"] (defScope (top 53)) := ⟨rfl, rfl, rfl, by decide +kernel, rfl, by decide +kernel, by decide +kernel⟩
theorem fn__law_same {f : Addr} {fd : FuncData} (F : FunD K "_law_same" "_law_same" (defArgs (top 53)) (defBody (top 53)) (defScope (top 53)) [] [] f fd) (hm : mg "_law_same" = some (.ref f)) (bi : Bi mg) (j : Nat) : FnOk P w K mg base (L2.CX P w) (1 + j) f fd ["told", "due"] (spF K ca 2 (Fr__law_same j)) := by
  induction j with
  | zero => exact fn_no rfl
  | succ j ih =>
    have c__law_same : Callee P w K mg base ca (1 + j) "_law_same" 2 (Fr__law_same j) := ⟨_, _, _, ih, hm, F.kp, F.bindsN fun _ _ _ _ _ _ us hl => match us, hl with | [_, _], _ => rfl⟩
    refine fn_def (N := ["told", "due", "k"]) (B := b__law_same (Fr__law_same j)) F sc__law_same fun cdv A outer s H E o => ?_
    have hN := sc__law_same.nd
    have hp := passes_of (X := cxOf (L2.CX P w) P w K mg base ["told", "due", "k"] "_law_same" (defScope (top 53)) f cdv A outer s H E) rfl
    exact (eb_cons (es_if (et_val (ev_isi "tuple" bi.b_isinstance bi.b_tuple (ev_var 1))) (eb_one (es_ret (ev_and (ev_isi "tuple" bi.b_isinstance bi.b_tuple (ev_var 0)) (ev_and (ev_eq o (ev_len bi.b_len (ea_cons (ev_var 0) ea_nil)) (ev_len bi.b_len (ea_cons (ev_var 1) ea_nil))) (ev_one (ev_all bi.b_all (ea_cons (ev_lc hN (ei_rng1 bi.b_range (ea_cons (ev_len bi.b_len (ea_cons (ev_var 1) ea_nil)) ea_nil)) (lc_mk (own := [("k", 2)]) o (blkOk_by (N := ["told", "due", "k"]) (sc := defScope (top 53)) (by decide +kernel)) (by decide) (fun _ _ _ _ _ => (et_nm 2 hN)) (fun _ _ _ _ _ o1 => ets_no) (fun _ _ _ _ _ o1 => (ev_call o1 c__law_same (by show _ ≤ 1 + j; omega) (ea_cons (ev_subs o1 (ev_var 0) (ev_var 2)) (ea_cons (ev_subs o1 (ev_var 1) (ev_var 2)) ea_nil)))))) ea_nil))))))) eb_nil)
   (eb_cons (es_if (et_isN (ev_var 1)) (eb_one (es_ret (ev_isN (ev_var 0)))) eb_nil)
   (eb_cons (es_if (et_val (ev_isi "bool" bi.b_isinstance bi.b_bool (ev_var 1))) (eb_one (es_ret (ev_and (ev_isi "bool" bi.b_isinstance bi.b_bool (ev_var 0)) (ev_one (ev_eq o (ev_var 0) (ev_var 1)))))) eb_nil)
   (eb_cons (es_if (et_val (ev_isi "str" bi.b_isinstance bi.b_str (ev_var 1))) (eb_one (es_ret (ev_and (ev_isi "str" bi.b_isinstance bi.b_str (ev_var 0)) (ev_one (ev_eq o (ev_var 0) (ev_var 1)))))) eb_nil)
   (eb_one (es_ret (ev_and (ev_isi "int" bi.b_isinstance bi.b_int (ev_var 0)) (ev_and (ev_not (ev_isi "bool" bi.b_isinstance bi.b_bool (ev_var 0))) (ev_one (ev_eq o (ev_var 0) (ev_var 1)))))))))))
theorem sc__law_asked : FnScope ["book", "market", "many", "laps", "trader", "won", "best", "even", "money", "trace", "row", "first", "last", "fair", "names", "due", "holding", "at", "k", "name", "one", "other"] ["book", "market", "many", "laps"] (defScope (top 54)) := ⟨rfl, rfl, rfl, by decide +kernel, rfl, by decide +kernel, by decide +kernel⟩
theorem fn__law_asked {f : Addr} {fd : FuncData} (F : FunD K "_law_asked" "_law_asked" (defArgs (top 54)) (defBody (top 54)) (defScope (top 54)) [] [] f fd) (bi : Bi mg) (c__law_made : Callee P w K mg base ca 3 "_law_made" 4 F__law_made) (c__law_tuple : Callee P w K mg base ca 1 "_law_tuple" 1 F__law_tuple) (c__law_same : Callee P w K mg base ca 7 "_law_same" 2 F__law_same) (c_read_fair : Callee P w K mg base ca 5 "read_fair" 1 F_read_fair) (c__law_text : Callee P w K mg base ca 2 "_law_text" 2 F__law_text) (c_read_row : Callee P w K mg base ca 5 "read_row" 1 F_read_row) (c_run_row : Callee P w K mg base ca 5 "run_row" 3 F_run_row) (c_history_of : Callee P w K mg base ca 6 "history_of" 4 F_history_of) (c_holding_of : Callee P w K mg base ca 4 "holding_of" 2 F_holding_of) (c_gains : Callee P w K mg base ca 6 "gains" 3 F_gains) (k_best_trader_fair_row : KwCallee P w K mg base ca 7 "best_trader" 3 F_best_trader 1 ["fair", "row"] [0, 1, 2]) (c_is_even : Callee P w K mg base ca 2 "is_even" 1 F_is_even) (c_total_money : Callee P w K mg base ca 1 "total_money" 1 F_total_money) : FnOk P w K mg base (L2.CX P w) 8 f fd ["book", "market", "many", "laps"] (spF K ca 4 F__law_asked) := by
  refine fn_def (k := 7) (N := ["book", "market", "many", "laps", "trader", "won", "best", "even", "money", "trace", "row", "first", "last", "fair", "names", "due", "holding", "at", "k", "name", "one", "other"]) (B := b__law_asked) F sc__law_asked fun cdv A outer s H E o => ?_
  have hN := sc__law_asked.nd
  have hp := passes_of (X := cxOf (L2.CX P w) P w K mg base ["book", "market", "many", "laps", "trader", "won", "best", "even", "money", "trace", "row", "first", "last", "fair", "names", "due", "holding", "at", "k", "name", "one", "other"] "_law_asked" (defScope (top 54)) f cdv A outer s H E) rfl
  exact (eb_cons (es_asgP (ev_call o c__law_made (Nat.le_of_ble_eq_true rfl) (ea_cons (ev_var 0) (ea_cons (ev_var 1) (ea_cons (ev_var 2) (ea_cons (ev_var 3) ea_nil))))) (et_tup (ets_cons (et_nm 9 hN) (ets_cons (et_nm 10 hN) ets_nil))))
   (eb_cons (es_asgP (ev_tup (ea_cons (ev_subs o (ev_var 9) ev_int) (ea_cons (ev_subs o (ev_var 9) (ev_sub (ev_len bi.b_len (ea_cons (ev_var 9) ea_nil)) ev_int)) ea_nil))) (et_tup (ets_cons (et_nm 11 hN) (ets_cons (et_nm 12 hN) ets_nil))))
   (eb_cons (es_asgP (ev_tup (ea_cons (ev_call o c__law_tuple (Nat.le_of_ble_eq_true rfl) (ea_cons (ev_var 11) ea_nil)) (ea_cons (ev_sortD bi.b_sorted (ea_cons (ev_var 11) ea_nil)) ea_nil))) (et_tup (ets_cons (et_nm 13 hN) (ets_cons (et_nm 14 hN) ets_nil))))
   (eb_cons (es_if (et_not (et_val (ev_call o c__law_same (Nat.le_of_ble_eq_true rfl) (ea_cons (ev_tup (ea_cons (ev_call o c_read_fair (Nat.le_of_ble_eq_true rfl) (ea_cons (ev_call o c__law_text (Nat.le_of_ble_eq_true rfl) (ea_cons (ev_var 0) (ea_cons (ev_rev (ev_var 13)) ea_nil))) ea_nil)) (ea_cons (ev_call o c_read_row (Nat.le_of_ble_eq_true rfl) (ea_cons (ev_call o c__law_text (Nat.le_of_ble_eq_true rfl) (ea_cons (ev_var 0) (ea_cons (ev_var 10) ea_nil))) ea_nil)) ea_nil))) (ea_cons (ev_tup (ea_cons (ev_var 13) (ea_cons (ev_var 10) ea_nil))) ea_nil))))) (eb_one (es_ret ev_bl)) eb_nil)
   (eb_cons (es_if (et_not (et_val (ev_call o c__law_same (Nat.le_of_ble_eq_true rfl) (ea_cons (ev_call o c_run_row (Nat.le_of_ble_eq_true rfl) (ea_cons (ev_var 1) (ea_cons (ev_var 13) (ea_cons (ev_var 10) ea_nil)))) (ea_cons (ev_call o c__law_tuple (Nat.le_of_ble_eq_true rfl) (ea_cons (ev_var 12) ea_nil)) ea_nil))))) (eb_one (es_ret ev_bl)) eb_nil)
   (eb_cons (es_for hp (ei_any (ev_sl (ev_var 14) ep_no (ep_so ev_int))) (et_nm 4 hN) (eb_cons (es_set 15 hN (ev_tuplec bi.b_tuple (ea_cons (ev_lc hN (ei_rng1 bi.b_range (ea_cons (ev_len bi.b_len (ea_cons (ev_var 10) ea_nil)) ea_nil)) (lc_mk (own := [("at", 17)]) o (blkOk_by (N := ["book", "market", "many", "laps", "trader", "won", "best", "even", "money", "trace", "row", "first", "last", "fair", "names", "due", "holding", "at", "k", "name", "one", "other"]) (sc := defScope (top 54)) (by decide +kernel)) (by decide) (fun _ _ _ _ _ => (et_nm 17 hN)) (fun _ _ _ _ _ o1 => (ets_one (et_in o1 (ev_var 4) (ev_sl (ev_subs o1 (ev_var 10) (ev_var 17)) (ep_so ev_int) ep_no)))) (fun _ _ _ _ _ o1 => (ev_tup (ea_cons (ev_var 17) (ea_cons (ev_subs o1 (ev_subs o1 (ev_var 9) (ev_add (ev_var 17) ev_int)) (ev_var 4)) ea_nil)))))) ea_nil)))
   (eb_cons (es_if (et_not (et_val (ev_call o c__law_same (Nat.le_of_ble_eq_true rfl) (ea_cons (ev_call o c_history_of (Nat.le_of_ble_eq_true rfl) (ea_cons (ev_var 1) (ea_cons (ev_var 13) (ea_cons (ev_var 10) (ea_cons (ev_var 4) ea_nil))))) (ea_cons (ev_var 15) ea_nil))))) (eb_one (es_ret ev_bl)) eb_nil)
   (eb_one (es_if (et_not (et_val (ev_call o c__law_same (Nat.le_of_ble_eq_true rfl) (ea_cons (ev_call o c_holding_of (Nat.le_of_ble_eq_true rfl) (ea_cons (ev_call o c__law_tuple (Nat.le_of_ble_eq_true rfl) (ea_cons (ev_var 12) ea_nil)) (ea_cons (ev_var 4) ea_nil))) (ea_cons (ev_if (et_gt (ev_len bi.b_len (ea_cons (ev_var 15) ea_nil)) ev_int) (ev_subs o (ev_subs o (ev_var 15) (ev_sub (ev_len bi.b_len (ea_cons (ev_var 15) ea_nil)) ev_int)) ev_int) (ev_subs o (ev_var 11) (ev_var 4))) ea_nil))))) (eb_one (es_ret ev_bl)) eb_nil)))))
   (eb_cons (es_set 5 hN (ev_lc hN (ei_any (ev_var 14)) (lc_mk (own := [("trader", 4)]) o (blkOk_by (N := ["book", "market", "many", "laps", "trader", "won", "best", "even", "money", "trace", "row", "first", "last", "fair", "names", "due", "holding", "at", "k", "name", "one", "other"]) (sc := defScope (top 54)) (by decide +kernel)) (by decide) (fun _ _ _ _ _ => (et_nm 4 hN)) (fun _ _ _ _ _ o1 => ets_no) (fun _ _ _ _ _ o1 => (ev_sub (ev_subs o1 (ev_subs o1 (ev_var 12) (ev_var 4)) ev_int) (ev_subs o1 (ev_subs o1 (ev_var 11) (ev_var 4)) ev_int))))))
   (eb_cons (es_if (et_not (et_val (ev_call o c__law_same (Nat.le_of_ble_eq_true rfl) (ea_cons (ev_call o c_gains (Nat.le_of_ble_eq_true rfl) (ea_cons (ev_var 1) (ea_cons (ev_var 13) (ea_cons (ev_var 10) ea_nil)))) (ea_cons (ev_tuplec bi.b_tuple (ea_cons (ev_lc hN (ei_rng1 bi.b_range (ea_cons (ev_len bi.b_len (ea_cons (ev_var 14) ea_nil)) ea_nil)) (lc_mk (own := [("k", 18)]) o (blkOk_by (N := ["book", "market", "many", "laps", "trader", "won", "best", "even", "money", "trace", "row", "first", "last", "fair", "names", "due", "holding", "at", "k", "name", "one", "other"]) (sc := defScope (top 54)) (by decide +kernel)) (by decide) (fun _ _ _ _ _ => (et_nm 18 hN)) (fun _ _ _ _ _ o1 => ets_no) (fun _ _ _ _ _ o1 => (ev_tup (ea_cons (ev_subs o1 (ev_var 14) (ev_var 18)) (ea_cons (ev_subs o1 (ev_var 5) (ev_var 18)) ea_nil)))))) ea_nil)) ea_nil))))) (eb_one (es_ret ev_bl)) eb_nil)
   (eb_cons (es_set 6 hN (ev_if (et_gt (ev_len bi.b_len (ea_cons (ev_var 14) ea_nil)) ev_int) (ev_subs o (ev_var 14) (ev_index (ev_var 5) (ea_cons (ev_maxL bi.b_max (ea_cons (ev_var 5) ea_nil)) ea_nil))) ev_non))
   (eb_cons (es_if (et_not (et_val (ev_call o c__law_same (Nat.le_of_ble_eq_true rfl) (ea_cons (ev_callK o k_best_trader_fair_row (Nat.le_of_ble_eq_true rfl) (ea_cons (ev_var 1) ea_nil) (ek_cons (ev_var 13) (ek_cons (ev_var 10) ek_nil)) (al_cons al_nil)) (ea_cons (ev_var 6) ea_nil))))) (eb_one (es_ret ev_bl)) eb_nil)
   (eb_cons (es_set 7 hN (ev_eq o (ev_len bi.b_len (ea_cons (ev_lc hN (ei_any (ev_subs o (ev_var 1) ev_int)) (lc_mk (own := [("name", 19), ("one", 20), ("other", 21)]) o (blkOk_by (N := ["book", "market", "many", "laps", "trader", "won", "best", "even", "money", "trace", "row", "first", "last", "fair", "names", "due", "holding", "at", "k", "name", "one", "other"]) (sc := defScope (top 54)) (by decide +kernel)) (by decide) (fun _ _ _ _ _ => (et_tup (ets_cons (et_nm 19 hN) (ets_cons (et_nm 20 hN) (ets_cons (et_nm 21 hN) ets_nil))))) (fun _ _ _ _ _ o1 => (ets_one (EvW.t (ew_or (et_isN (ev_var 21)) (ew_or1 (et_ne o1 (ev_add (ev_subs o1 (ev_var 20) ev_int) (ev_subs o1 (ev_var 21) ev_int)) ev_int)))))) (fun _ _ _ _ _ o1 => ev_int))) ea_nil)) ev_int))
   (eb_cons (es_if (EvW.t (ew_and (et_val (ev_var 7)) (ew_and1 (et_ne o (ev_sum bi.b_sum (ea_cons (ev_var 5) ea_nil)) ev_int)))) (eb_one (es_ret ev_bl)) eb_nil)
   (eb_cons (es_set 8 hN (ev_sum bi.b_sum (ea_cons (ev_lcVals 12 hN (lc_mk (own := [("holding", 16)]) o (blkOk_by (N := ["book", "market", "many", "laps", "trader", "won", "best", "even", "money", "trace", "row", "first", "last", "fair", "names", "due", "holding", "at", "k", "name", "one", "other"]) (sc := defScope (top 54)) (by decide +kernel)) (by decide) (fun _ _ _ _ _ => (et_nm 16 hN)) (fun _ _ _ _ _ o1 => ets_no) (fun _ _ _ _ _ o1 => (ev_subs o1 (ev_var 16) ev_int)))) ea_nil)))
   (eb_one (es_ret (ev_call o c__law_same (Nat.le_of_ble_eq_true rfl) (ea_cons (ev_tup (ea_cons (ev_call o c_is_even (Nat.le_of_ble_eq_true rfl) (ea_cons (ev_var 1) ea_nil)) (ea_cons (ev_call o c_total_money (Nat.le_of_ble_eq_true rfl) (ea_cons (ev_call o c__law_tuple (Nat.le_of_ble_eq_true rfl) (ea_cons (ev_var 12) ea_nil)) ea_nil)) ea_nil))) (ea_cons (ev_tup (ea_cons (ev_var 7) (ea_cons (ev_var 8) ea_nil))) ea_nil))))))))))))))))))
theorem sc_law : FnScope ["script", "book", "turn", "market", "swap", "fair", "row", "told"] ["script"] (defScope (top 55)) := ⟨rfl, rfl, rfl, by decide +kernel, rfl, by decide +kernel, by decide +kernel⟩
theorem fn_law {f : Addr} {fd : FuncData} (F : FunD K "law" "law" (defArgs (top 55)) (defBody (top 55)) (defScope (top 55)) [] [] f fd) (bi : Bi mg) (c__law_book : Callee P w K mg base ca 1 "_law_book" 1 F__law_book) (c__law_asked : Callee P w K mg base ca 8 "_law_asked" 4 F__law_asked) (c__law_market : Callee P w K mg base ca 3 "_law_market" 1 F__law_market) (c__law_ear : Callee P w K mg base ca 2 "_law_ear" 3 F__law_ear) (c_history_of : Callee P w K mg base ca 6 "history_of" 4 F_history_of) (c_gains : Callee P w K mg base ca 6 "gains" 3 F_gains) (c_best_trader : Callee P w K mg base ca 7 "best_trader" 3 F_best_trader) (c__law_same : Callee P w K mg base ca 7 "_law_same" 2 F__law_same) (c__law_leaf : Callee P w K mg base ca 1 "_law_leaf" 2 F__law_leaf) : FnOk P w K mg base (L2.CX P w) 9 f fd ["script"] (spF K ca 1 F_law) := by
  refine fn_def (k := 8) (N := ["script", "book", "turn", "market", "swap", "fair", "row", "told"]) (B := b_law) F sc_law fun cdv A outer s H E o => ?_
  have hN := sc_law.nd
  have hp := passes_of (X := cxOf (L2.CX P w) P w K mg base ["script", "book", "turn", "market", "swap", "fair", "row", "told"] "law" (defScope (top 55)) f cdv A outer s H E) rfl
  exact (eb_cons (es_set 1 hN (ev_call o c__law_book (Nat.le_of_ble_eq_true rfl) (ea_cons (ev_var 0) ea_nil)))
   (eb_cons (es_for hp (ei_rng1 bi.b_range (ea_cons ev_int ea_nil)) (et_nm 2 hN) (eb_one (es_if (et_not (et_val (ev_call o c__law_asked (Nat.le_of_ble_eq_true rfl) (ea_cons (ev_var 1) (ea_cons (ev_call o c__law_market (Nat.le_of_ble_eq_true rfl) (ea_cons (ev_var 1) ea_nil)) (ea_cons (ev_add ev_int (ev_call o c__law_ear (Nat.le_of_ble_eq_true rfl) (ea_cons (ev_var 1) (ea_cons (ev_add ev_int (ev_var 2)) (ea_cons ev_int ea_nil))))) (ea_cons (ev_call o c__law_ear (Nat.le_of_ble_eq_true rfl) (ea_cons (ev_var 1) (ea_cons (ev_add ev_int (ev_var 2)) (ea_cons ev_int ea_nil)))) ea_nil))))))) (eb_one (es_ret ev_bl)) eb_nil)))
   (eb_cons (es_set 3 hN (ev_call o c__law_market (Nat.le_of_ble_eq_true rfl) (ea_cons (ev_var 1) ea_nil)))
   (eb_cons (es_if (EvW.t (ew_or (et_not (et_val (ev_call o c__law_asked (Nat.le_of_ble_eq_true rfl) (ea_cons (ev_var 1) (ea_cons (ev_var 3) (ea_cons ev_int (ea_cons ev_int ea_nil))))))) (ew_or1 (et_not (et_val (ev_call o c__law_asked (Nat.le_of_ble_eq_true rfl) (ea_cons (ev_var 1) (ea_cons (ev_var 3) (ea_cons ev_int (ea_cons ev_int ea_nil)))))))))) (eb_one (es_ret ev_bl)) eb_nil)
   (eb_cons (es_set 4 hN (ev_tup (ea_cons (ev_tup (ea_cons ev_str ea_nil)) (ea_cons (ev_tup (ea_cons (ev_tup (ea_cons ev_str (ea_cons ev_int ea_nil))) ea_nil)) (ea_cons (ev_tup (ea_cons (ev_tup (ea_cons ev_str (ea_cons (ev_tup (ea_cons ev_str (ea_cons ev_int (ea_cons ev_non (ea_cons ev_str (ea_cons ev_int ea_nil)))))) (ea_cons (ev_tup (ea_cons ev_str (ea_cons ev_int (ea_cons ev_non (ea_cons ev_str (ea_cons (ev_neg ev_int) ea_nil)))))) ea_nil)))) (ea_cons (ev_tup (ea_cons ev_str (ea_cons (ev_tup (ea_cons ev_str (ea_cons ev_int (ea_cons ev_non (ea_cons ev_str (ea_cons ev_int ea_nil)))))) (ea_cons (ev_tup (ea_cons ev_str (ea_cons ev_int (ea_cons ev_non (ea_cons ev_str (ea_cons ev_int ea_nil)))))) ea_nil)))) ea_nil))) ea_nil)))))
   (eb_cons (es_set 5 hN (ev_tup (ea_cons (ev_tup (ea_cons ev_str (ea_cons ev_str (ea_cons ev_int ea_nil)))) (ea_cons (ev_tup (ea_cons ev_str (ea_cons ev_str (ea_cons ev_int ea_nil)))) (ea_cons (ev_tup (ea_cons ev_str (ea_cons ev_str (ea_cons ev_int ea_nil)))) ea_nil)))))
   (eb_cons (es_set 6 hN (ev_tup (ea_cons (ev_tup (ea_cons ev_str (ea_cons ev_str (ea_cons ev_str ea_nil)))) (ea_cons (ev_tup (ea_cons ev_str (ea_cons ev_str (ea_cons ev_str ea_nil)))) (ea_cons (ev_tup (ea_cons ev_str (ea_cons ev_str (ea_cons ev_str ea_nil)))) ea_nil)))))
   (eb_cons (es_set 7 hN (ev_tup (ea_cons (ev_call o c_history_of (Nat.le_of_ble_eq_true rfl) (ea_cons (ev_var 4) (ea_cons (ev_var 5) (ea_cons (ev_var 6) (ea_cons ev_str ea_nil))))) (ea_cons (ev_call o c_gains (Nat.le_of_ble_eq_true rfl) (ea_cons (ev_var 4) (ea_cons (ev_var 5) (ea_cons (ev_var 6) ea_nil)))) (ea_cons (ev_call o c_best_trader (Nat.le_of_ble_eq_true rfl) (ea_cons (ev_var 4) (ea_cons (ev_var 5) (ea_cons (ev_var 6) ea_nil)))) ea_nil)))))
   (eb_cons (es_if (et_not (et_val (ev_call o c__law_same (Nat.le_of_ble_eq_true rfl) (ea_cons (ev_var 7) (ea_cons (ev_tup (ea_cons (ev_tup (ea_cons (ev_tup (ea_cons ev_int (ea_cons (ev_tup (ea_cons ev_str (ea_cons ev_int ea_nil))) ea_nil))) (ea_cons (ev_tup (ea_cons ev_int (ea_cons (ev_tup (ea_cons ev_str (ea_cons ev_int ea_nil))) ea_nil))) (ea_cons (ev_tup (ea_cons ev_int (ea_cons (ev_tup (ea_cons ev_str (ea_cons ev_int ea_nil))) ea_nil))) ea_nil)))) (ea_cons (ev_tup (ea_cons (ev_tup (ea_cons ev_str (ea_cons ev_int ea_nil))) (ea_cons (ev_tup (ea_cons ev_str (ea_cons ev_int ea_nil))) (ea_cons (ev_tup (ea_cons ev_str (ea_cons ev_int ea_nil))) ea_nil)))) (ea_cons ev_str ea_nil)))) ea_nil))))) (eb_one (es_ret ev_bl)) eb_nil)
   (eb_one (es_ret (ev_or (ev_gt (ev_call o c__law_leaf (Nat.le_of_ble_eq_true rfl) (ea_cons (ev_var 1) (ea_cons ev_int ea_nil))) ev_int) (ev_one (ev_call o c__law_asked (Nat.le_of_ble_eq_true rfl) (ea_cons (ev_var 1) (ea_cons (ev_var 3) (ea_cons ev_int (ea_cons ev_int ea_nil))))))))))))))))))
end
end K76

set_option Elab.async false
set_option linter.all false
set_option maxRecDepth 100000
set_option maxHeartbeats 0
namespace K76
open PySem PySem.Spec PyProof.Rows L2 Mo
def d_found_holding : He.DefD := ⟨("found_holding", none), "found_holding", "found_holding", defArgs (top 6), defBody (top 6), defScope (top 6), [], []⟩
def d_holding_of : He.DefD := ⟨("holding_of", none), "holding_of", "holding_of", defArgs (top 7), defBody (top 7), defScope (top 7), [], []⟩
def d_total_money : He.DefD := ⟨("total_money", none), "total_money", "total_money", defArgs (top 8), defBody (top 8), defScope (top 8), [], []⟩
def d_with_holding : He.DefD := ⟨("with_holding", none), "with_holding", "with_holding", defArgs (top 9), defBody (top 9), defScope (top 9), [], []⟩
def d_offer_of : He.DefD := ⟨("offer_of", none), "offer_of", "offer_of", defArgs (top 11), defBody (top 11), defScope (top 11), [], []⟩
def d_fits : He.DefD := ⟨("fits", none), "fits", "fits", defArgs (top 13), defBody (top 13), defScope (top 13), [], []⟩
def d_behind : He.DefD := ⟨("behind", none), "behind", "behind", defArgs (top 14), defBody (top 14), defScope (top 14), [], []⟩
def d_other_is_wrong : He.DefD := ⟨("other_is_wrong", none), "other_is_wrong", "other_is_wrong", defArgs (top 16), defBody (top 16), defScope (top 16), [], []⟩
def d_deal_word : He.DefD := ⟨("deal_word", none), "deal_word", "deal_word", defArgs (top 17), defBody (top 17), defScope (top 17), [], []⟩
def d_done_deal : He.DefD := ⟨("done_deal", none), "done_deal", "done_deal", defArgs (top 18), defBody (top 18), defScope (top 18), [], []⟩
def d_row_walk : He.DefD := ⟨("row_walk", none), "row_walk", "row_walk", defArgs (top 20), defBody (top 20), defScope (top 20), [], []⟩
def d_run_row : He.DefD := ⟨("run_row", none), "run_row", "run_row", defArgs (top 21), defBody (top 21), defScope (top 21), [], []⟩
def d_run_trace : He.DefD := ⟨("run_trace", none), "run_trace", "run_trace", defArgs (top 22), defBody (top 22), defScope (top 22), [], []⟩
def d_history_of : He.DefD := ⟨("history_of", none), "history_of", "history_of", defArgs (top 24), defBody (top 24), defScope (top 24), [], []⟩
def d_gains : He.DefD := ⟨("gains", none), "gains", "gains", defArgs (top 25), defBody (top 25), defScope (top 25), [], []⟩
def d_best_trader : He.DefD := ⟨("best_trader", none), "best_trader", "best_trader", defArgs (top 26), defBody (top 26), defScope (top 26), [], []⟩
def d_is_even_offer : He.DefD := ⟨("is_even_offer", none), "is_even_offer", "is_even_offer", defArgs (top 28), defBody (top 28), defScope (top 28), [], []⟩
def d_is_even : He.DefD := ⟨("is_even", none), "is_even", "is_even", defArgs (top 29), defBody (top 29), defScope (top 29), [], []⟩
def d_lines_of : He.DefD := ⟨("lines_of", none), "lines_of", "lines_of", defArgs (top 33), defBody (top 33), defScope (top 33), [], []⟩
def d_limit_line : He.DefD := ⟨("limit_line", none), "limit_line", "limit_line", defArgs (top 34), defBody (top 34), defScope (top 34), [], []⟩
def d_counted_words : He.DefD := ⟨("counted_words", none), "counted_words", "counted_words", defArgs (top 35), defBody (top 35), defScope (top 35), [], []⟩
def d_counted_lines : He.DefD := ⟨("counted_lines", none), "counted_lines", "counted_lines", defArgs (top 36), defBody (top 36), defScope (top 36), [.int 300], []⟩
def d_written_integer : He.DefD := ⟨("written_integer", none), "written_integer", "written_integer", defArgs (top 37), defBody (top 37), defScope (top 37), [], []⟩
def d_written_number : He.DefD := ⟨("written_number", none), "written_number", "written_number", defArgs (top 38), defBody (top 38), defScope (top 38), [], []⟩
def d_read_fair : He.DefD := ⟨("read_fair", none), "read_fair", "read_fair", defArgs (top 40), defBody (top 40), defScope (top 40), [], []⟩
def d_read_row : He.DefD := ⟨("read_row", none), "read_row", "read_row", defArgs (top 41), defBody (top 41), defScope (top 41), [], []⟩
def d__law_book : He.DefD := ⟨("_law_book", none), "_law_book", "_law_book", defArgs (top 43), defBody (top 43), defScope (top 43), [], []⟩
def d__law_leaf : He.DefD := ⟨("_law_leaf", none), "_law_leaf", "_law_leaf", defArgs (top 44), defBody (top 44), defScope (top 44), [], []⟩
def d__law_ear : He.DefD := ⟨("_law_ear", none), "_law_ear", "_law_ear", defArgs (top 45), defBody (top 45), defScope (top 45), [], []⟩
def d__law_market : He.DefD := ⟨("_law_market", none), "_law_market", "_law_market", defArgs (top 46), defBody (top 46), defScope (top 46), [], []⟩
def d__law_able : He.DefD := ⟨("_law_able", none), "_law_able", "_law_able", defArgs (top 47), defBody (top 47), defScope (top 47), [], []⟩
def d__law_some_deal : He.DefD := ⟨("_law_some_deal", none), "_law_some_deal", "_law_some_deal", defArgs (top 48), defBody (top 48), defScope (top 48), [], []⟩
def d__law_behind : He.DefD := ⟨("_law_behind", none), "_law_behind", "_law_behind", defArgs (top 49), defBody (top 49), defScope (top 49), [], []⟩
def d__law_made : He.DefD := ⟨("_law_made", none), "_law_made", "_law_made", defArgs (top 50), defBody (top 50), defScope (top 50), [], []⟩
def d__law_tuple : He.DefD := ⟨("_law_tuple", none), "_law_tuple", "_law_tuple", defArgs (top 51), defBody (top 51), defScope (top 51), [], []⟩
def d__law_text : He.DefD := ⟨("_law_text", none), "_law_text", "_law_text", defArgs (top 52), defBody (top 52), defScope (top 52), [], []⟩
def d__law_same : He.DefD := ⟨("_law_same", none), "_law_same", "_law_same", defArgs (top 53), defBody (top 53), defScope (top 53), [], []⟩
def d__law_asked : He.DefD := ⟨("_law_asked", none), "_law_asked", "_law_asked", defArgs (top 54), defBody (top 54), defScope (top 54), [], []⟩
def d_law : He.DefD := ⟨("law", none), "law", "law", defArgs (top 55), defBody (top 55), defScope (top 55), [], []⟩
def fnL : List He.DefD := [d_found_holding, d_holding_of, d_total_money, d_with_holding, d_offer_of, d_fits, d_behind, d_other_is_wrong, d_deal_word, d_done_deal, d_row_walk, d_run_row, d_run_trace, d_history_of, d_gains, d_best_trader, d_is_even_offer, d_is_even, d_lines_of, d_limit_line, d_counted_words, d_counted_lines, d_written_integer, d_written_number, d_read_fair, d_read_row, d__law_book, d__law_leaf, d__law_ear, d__law_market, d__law_able, d__law_some_deal, d__law_behind, d__law_made, d__law_tuple, d__law_text, d__law_same, d__law_asked, d_law]
def y_BadRow : XcD := ⟨"BadRow", "BadRow.__init__", defArgs (clsAt (top 2) 0), defBody (clsAt (top 2) 0), defScope (clsAt (top 2) 0), ["place", "word"]⟩
def y_BadText : XcD := ⟨"BadText", "BadText.__init__", defArgs (clsAt (top 3) 0), defBody (clsAt (top 3) 0), defScope (clsAt (top 3) 0), ["line", "word"]⟩
def y_NoSuch : XcD := ⟨"NoSuch", "NoSuch.__init__", defArgs (clsAt (top 4) 0), defBody (clsAt (top 4) 0), defScope (clsAt (top 4) 0), ["word", "name"]⟩
def xsL : List XcD := [y_BadRow, y_BadText, y_NoSuch]
def csL : List (Str × P) := [("SIGNS_MOST", K_SIGNS_MOST)]
def faL : List He.Fa := [.glo "found_holding", .glo "holding_of", .glo "total_money", .glo "with_holding", .glo "offer_of", .glo "fits", .glo "behind", .glo "other_is_wrong", .glo "deal_word", .glo "done_deal", .glo "row_walk", .glo "run_row", .glo "run_trace", .glo "history_of", .glo "gains", .glo "best_trader", .glo "is_even_offer", .glo "is_even", .glo "lines_of", .glo "limit_line", .glo "counted_words", .glo "counted_lines", .glo "written_integer", .glo "written_number", .glo "read_fair", .glo "read_row", .glo "_law_book", .glo "_law_leaf", .glo "_law_ear", .glo "_law_market", .glo "_law_able", .glo "_law_some_deal", .glo "_law_behind", .glo "_law_made", .glo "_law_tuple", .glo "_law_text", .glo "_law_same", .glo "_law_asked", .glo "law", .glo "MarketError", .glo "BadRow", .glo "BadText", .glo "NoSuch", .free "sum", .free "tuple", .free "enumerate", .free "zip", .free "len", .free "max", .free "all", .free "str", .free "int", .free "sorted", .free "abs", .free "range", .free "dict", .free "isinstance", .free "bool", .free "super"]
abbrev Pg : Program := PySem.Challenge.rw_moneyheld_k76_whole_audits.prog
def fileN : Str := "/claim/cut.py"
abbrev Rw : PySem.W.OpenRow := PySem.W.OpenLaw.row PySem.Challenge.rw_moneyheld_k76_whole_audits
abbrev hkX : PySem.W.Hook := hookX 5 fileN faL fnL xsL csL
def obH (s : PySem.W.SharedT) : AlX := obsXG 5 fileN faL fnL xsL csL (HandSHeadRun.getT s)
theorem obH_eq (s : PySem.W.SharedT) : obH s = hkX.obs s.abs := obsXG_eq (HandSHeadRun.getT_eq s)
def loose0 : List PySem.Str := ["found_holding", "holding_of", "total_money", "with_holding", "offer_of", "fits", "behind", "other_is_wrong", "deal_word", "done_deal", "row_walk", "run_row", "run_trace", "history_of", "gains", "best_trader", "is_even_offer", "is_even", "lines_of", "limit_line"]
def loose1 : List PySem.Str := ["counted_words", "counted_lines", "written_integer", "written_number", "read_fair", "read_row", "_law_book", "_law_leaf", "_law_ear", "_law_market", "_law_able", "_law_some_deal", "_law_behind", "_law_made", "_law_tuple", "_law_text", "_law_same", "_law_asked", "MarketError", "BadRow"]
def loose2 : List PySem.Str := ["BadText", "NoSuch", "LINES_MOST", "SIGNS_MOST"]
def looseL : List PySem.Str := loose0 ++ loose1 ++ loose2
theorem runH (w : World) : HandSHeadRun.RunEq Rw (PySem.W.view Rw.prog [55]) hkX obH 4000 looseL w := by
  intro os
  kernel_rfl
theorem init_BadRow {w : World} {K : PySem.W.Frag} {mg : Str → Option Value} {base : Heap} {C f cda cc : Addr} {fd : FuncData} (D : InK Pg K mg C f cda cc "BadRow.__init__" (defArgs (clsAt (top 2) 0)) (defBody (clsAt (top 2) 0)) (defScope (clsAt (top 2) 0)) fd ["place", "word"]) (hin : K.In base) : FnOk Pg w K mg base (L2.CX Pg w) 1 f fd ["self", "place", "word"] (spI K C ["place", "word"]) :=
  fn_init (self := "self") (pargs := ["place", "word"]) D ⟨rfl, rfl, rfl, by decide +kernel, by decide +kernel, by decide +kernel, by decide +kernel, by decide +kernel, by decide +kernel⟩ rfl rfl (by decide) hin rfl (by decide)
    (fun A outer s H E => ⟨_, (pa_cons (pe_var (i := 1) rfl (.inl rfl)) (pa_cons (pe_var (i := 2) rfl (.inl rfl)) pa_nil)), fun σ H Q hq ⟨ws, hl, hw⟩ => match ws, hl, hw with | [v0, v1], _, hw => ⟨_, hw 0 _ rfl, ⟨_, hw 1 _ rfl, hq _ (Nat.le_of_ble_eq_true rfl)⟩⟩⟩) (fun A outer s H E => (pss_cons (ps_ost (pe_var (i := 0) rfl (.inl rfl)) (pe_var (i := 1) rfl (.inl rfl))) (pss_cons (ps_ost (pe_var (i := 0) rfl (.inl rfl)) (pe_var (i := 2) rfl (.inl rfl))) pss_nil)))
theorem init_BadText {w : World} {K : PySem.W.Frag} {mg : Str → Option Value} {base : Heap} {C f cda cc : Addr} {fd : FuncData} (D : InK Pg K mg C f cda cc "BadText.__init__" (defArgs (clsAt (top 3) 0)) (defBody (clsAt (top 3) 0)) (defScope (clsAt (top 3) 0)) fd ["line", "word"]) (hin : K.In base) : FnOk Pg w K mg base (L2.CX Pg w) 1 f fd ["self", "line", "word"] (spI K C ["line", "word"]) :=
  fn_init (self := "self") (pargs := ["line", "word"]) D ⟨rfl, rfl, rfl, by decide +kernel, by decide +kernel, by decide +kernel, by decide +kernel, by decide +kernel, by decide +kernel⟩ rfl rfl (by decide) hin rfl (by decide)
    (fun A outer s H E => ⟨_, (pa_cons (pe_var (i := 1) rfl (.inl rfl)) (pa_cons (pe_var (i := 2) rfl (.inl rfl)) pa_nil)), fun σ H Q hq ⟨ws, hl, hw⟩ => match ws, hl, hw with | [v0, v1], _, hw => ⟨_, hw 0 _ rfl, ⟨_, hw 1 _ rfl, hq _ (Nat.le_of_ble_eq_true rfl)⟩⟩⟩) (fun A outer s H E => (pss_cons (ps_ost (pe_var (i := 0) rfl (.inl rfl)) (pe_var (i := 1) rfl (.inl rfl))) (pss_cons (ps_ost (pe_var (i := 0) rfl (.inl rfl)) (pe_var (i := 2) rfl (.inl rfl))) pss_nil)))
theorem init_NoSuch {w : World} {K : PySem.W.Frag} {mg : Str → Option Value} {base : Heap} {C f cda cc : Addr} {fd : FuncData} (D : InK Pg K mg C f cda cc "NoSuch.__init__" (defArgs (clsAt (top 4) 0)) (defBody (clsAt (top 4) 0)) (defScope (clsAt (top 4) 0)) fd ["word", "name"]) (hin : K.In base) : FnOk Pg w K mg base (L2.CX Pg w) 1 f fd ["self", "word", "name"] (spI K C ["word", "name"]) :=
  fn_init (self := "self") (pargs := ["word", "name"]) D ⟨rfl, rfl, rfl, by decide +kernel, by decide +kernel, by decide +kernel, by decide +kernel, by decide +kernel, by decide +kernel⟩ rfl rfl (by decide) hin rfl (by decide)
    (fun A outer s H E => ⟨_, (pa_cons (pe_var (i := 1) rfl (.inl rfl)) (pa_cons (pe_var (i := 2) rfl (.inl rfl)) pa_nil)), fun σ H Q hq ⟨ws, hl, hw⟩ => match ws, hl, hw with | [v0, v1], _, hw => ⟨_, hw 0 _ rfl, ⟨_, hw 1 _ rfl, hq _ (Nat.le_of_ble_eq_true rfl)⟩⟩⟩) (fun A outer s H E => (pss_cons (ps_ost (pe_var (i := 0) rfl (.inl rfl)) (pe_var (i := 1) rfl (.inl rfl))) (pss_cons (ps_ost (pe_var (i := 0) rfl (.inl rfl)) (pe_var (i := 2) rfl (.inl rfl))) pss_nil)))
theorem factsL {w : World} {K : PySem.W.Frag} {h : Heap} {mg : Str → Option Value} {f : Addr} (X : K.In h) (G : h.Ns mainGlobals mg) (hfa : mg ("law" : Str) = some (.ref f)) (c : SaysX fileN faL fnL xsL csL K) :
    ∃ fd : FuncData, (∀ (s : Shared) (v : Value), BindsTo s fd ⟨[v], []⟩ [("script", v)]) ∧ ∀ base : Heap, K.In base → base.Ns mainGlobals mg → FnOk Pg w K mg base (L2.CX Pg w) 9 f fd ["script"] (spF K (He.ga K) 1 F_law) := by
  obtain ⟨fd_found_holding, D_found_holding⟩ := c.def_ 0 (d := d_found_holding) rfl
  obtain ⟨fd_holding_of, D_holding_of⟩ := c.def_ 1 (d := d_holding_of) rfl
  obtain ⟨fd_total_money, D_total_money⟩ := c.def_ 2 (d := d_total_money) rfl
  obtain ⟨fd_with_holding, D_with_holding⟩ := c.def_ 3 (d := d_with_holding) rfl
  obtain ⟨fd_offer_of, D_offer_of⟩ := c.def_ 4 (d := d_offer_of) rfl
  obtain ⟨fd_fits, D_fits⟩ := c.def_ 5 (d := d_fits) rfl
  obtain ⟨fd_behind, D_behind⟩ := c.def_ 6 (d := d_behind) rfl
  obtain ⟨fd_other_is_wrong, D_other_is_wrong⟩ := c.def_ 7 (d := d_other_is_wrong) rfl
  obtain ⟨fd_deal_word, D_deal_word⟩ := c.def_ 8 (d := d_deal_word) rfl
  obtain ⟨fd_done_deal, D_done_deal⟩ := c.def_ 9 (d := d_done_deal) rfl
  obtain ⟨fd_row_walk, D_row_walk⟩ := c.def_ 10 (d := d_row_walk) rfl
  obtain ⟨fd_run_row, D_run_row⟩ := c.def_ 11 (d := d_run_row) rfl
  obtain ⟨fd_run_trace, D_run_trace⟩ := c.def_ 12 (d := d_run_trace) rfl
  obtain ⟨fd_history_of, D_history_of⟩ := c.def_ 13 (d := d_history_of) rfl
  obtain ⟨fd_gains, D_gains⟩ := c.def_ 14 (d := d_gains) rfl
  obtain ⟨fd_best_trader, D_best_trader⟩ := c.def_ 15 (d := d_best_trader) rfl
  obtain ⟨fd_is_even_offer, D_is_even_offer⟩ := c.def_ 16 (d := d_is_even_offer) rfl
  obtain ⟨fd_is_even, D_is_even⟩ := c.def_ 17 (d := d_is_even) rfl
  obtain ⟨fd_lines_of, D_lines_of⟩ := c.def_ 18 (d := d_lines_of) rfl
  obtain ⟨fd_limit_line, D_limit_line⟩ := c.def_ 19 (d := d_limit_line) rfl
  obtain ⟨fd_counted_words, D_counted_words⟩ := c.def_ 20 (d := d_counted_words) rfl
  obtain ⟨fd_counted_lines, D_counted_lines⟩ := c.def_ 21 (d := d_counted_lines) rfl
  obtain ⟨fd_written_integer, D_written_integer⟩ := c.def_ 22 (d := d_written_integer) rfl
  obtain ⟨fd_written_number, D_written_number⟩ := c.def_ 23 (d := d_written_number) rfl
  obtain ⟨fd_read_fair, D_read_fair⟩ := c.def_ 24 (d := d_read_fair) rfl
  obtain ⟨fd_read_row, D_read_row⟩ := c.def_ 25 (d := d_read_row) rfl
  obtain ⟨fd__law_book, D__law_book⟩ := c.def_ 26 (d := d__law_book) rfl
  obtain ⟨fd__law_leaf, D__law_leaf⟩ := c.def_ 27 (d := d__law_leaf) rfl
  obtain ⟨fd__law_ear, D__law_ear⟩ := c.def_ 28 (d := d__law_ear) rfl
  obtain ⟨fd__law_market, D__law_market⟩ := c.def_ 29 (d := d__law_market) rfl
  obtain ⟨fd__law_able, D__law_able⟩ := c.def_ 30 (d := d__law_able) rfl
  obtain ⟨fd__law_some_deal, D__law_some_deal⟩ := c.def_ 31 (d := d__law_some_deal) rfl
  obtain ⟨fd__law_behind, D__law_behind⟩ := c.def_ 32 (d := d__law_behind) rfl
  obtain ⟨fd__law_made, D__law_made⟩ := c.def_ 33 (d := d__law_made) rfl
  obtain ⟨fd__law_tuple, D__law_tuple⟩ := c.def_ 34 (d := d__law_tuple) rfl
  obtain ⟨fd__law_text, D__law_text⟩ := c.def_ 35 (d := d__law_text) rfl
  obtain ⟨fd__law_same, D__law_same⟩ := c.def_ 36 (d := d__law_same) rfl
  obtain ⟨fd__law_asked, D__law_asked⟩ := c.def_ 37 (d := d__law_asked) rfl
  obtain ⟨fd_law, D_law⟩ := c.def_ 38 (d := d_law) rfl
  have g_found_holding : mg "found_holding" = some (.ref (He.ga K "found_holding")) := He.glo_ok X G (c.fact 0 (f := .glo "found_holding") rfl)
  have g_holding_of : mg "holding_of" = some (.ref (He.ga K "holding_of")) := He.glo_ok X G (c.fact 1 (f := .glo "holding_of") rfl)
  have g_total_money : mg "total_money" = some (.ref (He.ga K "total_money")) := He.glo_ok X G (c.fact 2 (f := .glo "total_money") rfl)
  have g_with_holding : mg "with_holding" = some (.ref (He.ga K "with_holding")) := He.glo_ok X G (c.fact 3 (f := .glo "with_holding") rfl)
  have g_offer_of : mg "offer_of" = some (.ref (He.ga K "offer_of")) := He.glo_ok X G (c.fact 4 (f := .glo "offer_of") rfl)
  have g_fits : mg "fits" = some (.ref (He.ga K "fits")) := He.glo_ok X G (c.fact 5 (f := .glo "fits") rfl)
  have g_behind : mg "behind" = some (.ref (He.ga K "behind")) := He.glo_ok X G (c.fact 6 (f := .glo "behind") rfl)
  have g_other_is_wrong : mg "other_is_wrong" = some (.ref (He.ga K "other_is_wrong")) := He.glo_ok X G (c.fact 7 (f := .glo "other_is_wrong") rfl)
  have g_deal_word : mg "deal_word" = some (.ref (He.ga K "deal_word")) := He.glo_ok X G (c.fact 8 (f := .glo "deal_word") rfl)
  have g_done_deal : mg "done_deal" = some (.ref (He.ga K "done_deal")) := He.glo_ok X G (c.fact 9 (f := .glo "done_deal") rfl)
  have g_row_walk : mg "row_walk" = some (.ref (He.ga K "row_walk")) := He.glo_ok X G (c.fact 10 (f := .glo "row_walk") rfl)
  have g_run_row : mg "run_row" = some (.ref (He.ga K "run_row")) := He.glo_ok X G (c.fact 11 (f := .glo "run_row") rfl)
  have g_run_trace : mg "run_trace" = some (.ref (He.ga K "run_trace")) := He.glo_ok X G (c.fact 12 (f := .glo "run_trace") rfl)
  have g_history_of : mg "history_of" = some (.ref (He.ga K "history_of")) := He.glo_ok X G (c.fact 13 (f := .glo "history_of") rfl)
  have g_gains : mg "gains" = some (.ref (He.ga K "gains")) := He.glo_ok X G (c.fact 14 (f := .glo "gains") rfl)
  have g_best_trader : mg "best_trader" = some (.ref (He.ga K "best_trader")) := He.glo_ok X G (c.fact 15 (f := .glo "best_trader") rfl)
  have g_is_even_offer : mg "is_even_offer" = some (.ref (He.ga K "is_even_offer")) := He.glo_ok X G (c.fact 16 (f := .glo "is_even_offer") rfl)
  have g_is_even : mg "is_even" = some (.ref (He.ga K "is_even")) := He.glo_ok X G (c.fact 17 (f := .glo "is_even") rfl)
  have g_lines_of : mg "lines_of" = some (.ref (He.ga K "lines_of")) := He.glo_ok X G (c.fact 18 (f := .glo "lines_of") rfl)
  have g_limit_line : mg "limit_line" = some (.ref (He.ga K "limit_line")) := He.glo_ok X G (c.fact 19 (f := .glo "limit_line") rfl)
  have g_counted_words : mg "counted_words" = some (.ref (He.ga K "counted_words")) := He.glo_ok X G (c.fact 20 (f := .glo "counted_words") rfl)
  have g_counted_lines : mg "counted_lines" = some (.ref (He.ga K "counted_lines")) := He.glo_ok X G (c.fact 21 (f := .glo "counted_lines") rfl)
  have g_written_integer : mg "written_integer" = some (.ref (He.ga K "written_integer")) := He.glo_ok X G (c.fact 22 (f := .glo "written_integer") rfl)
  have g_written_number : mg "written_number" = some (.ref (He.ga K "written_number")) := He.glo_ok X G (c.fact 23 (f := .glo "written_number") rfl)
  have g_read_fair : mg "read_fair" = some (.ref (He.ga K "read_fair")) := He.glo_ok X G (c.fact 24 (f := .glo "read_fair") rfl)
  have g_read_row : mg "read_row" = some (.ref (He.ga K "read_row")) := He.glo_ok X G (c.fact 25 (f := .glo "read_row") rfl)
  have g__law_book : mg "_law_book" = some (.ref (He.ga K "_law_book")) := He.glo_ok X G (c.fact 26 (f := .glo "_law_book") rfl)
  have g__law_leaf : mg "_law_leaf" = some (.ref (He.ga K "_law_leaf")) := He.glo_ok X G (c.fact 27 (f := .glo "_law_leaf") rfl)
  have g__law_ear : mg "_law_ear" = some (.ref (He.ga K "_law_ear")) := He.glo_ok X G (c.fact 28 (f := .glo "_law_ear") rfl)
  have g__law_market : mg "_law_market" = some (.ref (He.ga K "_law_market")) := He.glo_ok X G (c.fact 29 (f := .glo "_law_market") rfl)
  have g__law_able : mg "_law_able" = some (.ref (He.ga K "_law_able")) := He.glo_ok X G (c.fact 30 (f := .glo "_law_able") rfl)
  have g__law_some_deal : mg "_law_some_deal" = some (.ref (He.ga K "_law_some_deal")) := He.glo_ok X G (c.fact 31 (f := .glo "_law_some_deal") rfl)
  have g__law_behind : mg "_law_behind" = some (.ref (He.ga K "_law_behind")) := He.glo_ok X G (c.fact 32 (f := .glo "_law_behind") rfl)
  have g__law_made : mg "_law_made" = some (.ref (He.ga K "_law_made")) := He.glo_ok X G (c.fact 33 (f := .glo "_law_made") rfl)
  have g__law_tuple : mg "_law_tuple" = some (.ref (He.ga K "_law_tuple")) := He.glo_ok X G (c.fact 34 (f := .glo "_law_tuple") rfl)
  have g__law_text : mg "_law_text" = some (.ref (He.ga K "_law_text")) := He.glo_ok X G (c.fact 35 (f := .glo "_law_text") rfl)
  have g__law_same : mg "_law_same" = some (.ref (He.ga K "_law_same")) := He.glo_ok X G (c.fact 36 (f := .glo "_law_same") rfl)
  have g__law_asked : mg "_law_asked" = some (.ref (He.ga K "_law_asked")) := He.glo_ok X G (c.fact 37 (f := .glo "_law_asked") rfl)
  have g_law : mg "law" = some (.ref (He.ga K "law")) := He.glo_ok X G (c.fact 38 (f := .glo "law") rfl)
  have hsup : mg "super" = none := He.free_ok X G (c.fact 58 (f := .free "super") rfl)
  have e := hfa.symm.trans g_law
  cases e
  have b := FunD.bindsA (ps := ["script"]) D_law fun _ _ _ _ _ _ us hl => match us, hl with | [_], _ => rfl
  refine ⟨fd_law, fun s v => b s [v] rfl, fun base hb hn => ?_⟩
  have bi : Bi mg := ⟨He.free_ok X G (c.fact 43 (f := .free "sum") rfl), He.free_ok X G (c.fact 44 (f := .free "tuple") rfl), He.free_ok X G (c.fact 45 (f := .free "enumerate") rfl), He.free_ok X G (c.fact 46 (f := .free "zip") rfl), He.free_ok X G (c.fact 47 (f := .free "len") rfl), He.free_ok X G (c.fact 48 (f := .free "max") rfl), He.free_ok X G (c.fact 49 (f := .free "all") rfl), He.free_ok X G (c.fact 50 (f := .free "str") rfl), He.free_ok X G (c.fact 51 (f := .free "int") rfl), He.free_ok X G (c.fact 52 (f := .free "sorted") rfl), He.free_ok X G (c.fact 53 (f := .free "abs") rfl), He.free_ok X G (c.fact 54 (f := .free "range") rfl), He.free_ok X G (c.fact 55 (f := .free "dict") rfl), He.free_ok X G (c.fact 56 (f := .free "isinstance") rfl), He.free_ok X G (c.fact 57 (f := .free "bool") rfl)⟩
  have h_SIGNS_MOST : ∃ u v, mg "SIGNS_MOST" = some u ∧ RelV v u ∧ ∀ H, RepP K H K_SIGNS_MOST v := con_ok X G (c.con 0 (d := ("SIGNS_MOST", K_SIGNS_MOST)) rfl)
  have g_BadRow : mg "BadRow" = some (.ref (He.ga K "BadRow")) := He.glo_ok X G (c.fact 40 (f := .glo "BadRow") rfl)
  obtain ⟨⟨f_BadRow, cda_BadRow, cc_BadRow, fd_BadRow, D_BadRow⟩, t_BadRow, e_BadRow_BadRow⟩ := xc_ok (P := Pg) (mg := mg) (c.exc 0 (d := y_BadRow) rfl).1 (c.exc 0 (d := y_BadRow) rfl).2 (by decide +kernel) (by decide +kernel) hsup
  have x_BadRow : ExcOk Pg w K mg base (He.ga K) 1 "BadRow" ["place", "word"] := excOk_of g_BadRow D_BadRow (init_BadRow D_BadRow hb) fun _ _ _ _ _ _ _ us hl => match us, hl with | [_, _, _], _ => rfl
  have g_BadText : mg "BadText" = some (.ref (He.ga K "BadText")) := He.glo_ok X G (c.fact 41 (f := .glo "BadText") rfl)
  obtain ⟨⟨f_BadText, cda_BadText, cc_BadText, fd_BadText, D_BadText⟩, t_BadText, e_BadText_BadText⟩ := xc_ok (P := Pg) (mg := mg) (c.exc 1 (d := y_BadText) rfl).1 (c.exc 1 (d := y_BadText) rfl).2 (by decide +kernel) (by decide +kernel) hsup
  have x_BadText : ExcOk Pg w K mg base (He.ga K) 1 "BadText" ["line", "word"] := excOk_of g_BadText D_BadText (init_BadText D_BadText hb) fun _ _ _ _ _ _ _ us hl => match us, hl with | [_, _, _], _ => rfl
  have g_NoSuch : mg "NoSuch" = some (.ref (He.ga K "NoSuch")) := He.glo_ok X G (c.fact 42 (f := .glo "NoSuch") rfl)
  obtain ⟨⟨f_NoSuch, cda_NoSuch, cc_NoSuch, fd_NoSuch, D_NoSuch⟩, t_NoSuch, e_NoSuch_NoSuch⟩ := xc_ok (P := Pg) (mg := mg) (c.exc 2 (d := y_NoSuch) rfl).1 (c.exc 2 (d := y_NoSuch) rfl).2 (by decide +kernel) (by decide +kernel) hsup
  have x_NoSuch : ExcOk Pg w K mg base (He.ga K) 1 "NoSuch" ["word", "name"] := excOk_of g_NoSuch D_NoSuch (init_NoSuch D_NoSuch hb) fun _ _ _ _ _ _ _ us hl => match us, hl with | [_, _, _], _ => rfl
  have n__law_book : FnOk Pg w K mg base (L2.CX Pg w) 1 (He.ga K "_law_book") fd__law_book ["script"] (spF K (He.ga K) 1 F__law_book) := fn__law_book D__law_book bi
  have c__law_book : Callee Pg w K mg base (He.ga K) 1 "_law_book" 1 F__law_book := ⟨_, _, _, n__law_book, g__law_book, D__law_book.kp, D__law_book.bindsN fun _ _ _ _ _ _ us hl => match us, hl with | [_], _ => rfl⟩
  have n__law_leaf : FnOk Pg w K mg base (L2.CX Pg w) 1 (He.ga K "_law_leaf") fd__law_leaf ["book", "many"] (spF K (He.ga K) 2 F__law_leaf) := fn__law_leaf D__law_leaf bi
  have c__law_leaf : Callee Pg w K mg base (He.ga K) 1 "_law_leaf" 2 F__law_leaf := ⟨_, _, _, n__law_leaf, g__law_leaf, D__law_leaf.kp, D__law_leaf.bindsN fun _ _ _ _ _ _ us hl => match us, hl with | [_, _], _ => rfl⟩
  have n__law_ear : FnOk Pg w K mg base (L2.CX Pg w) 2 (He.ga K "_law_ear") fd__law_ear ["book", "place", "many"] (spF K (He.ga K) 3 F__law_ear) := fn__law_ear D__law_ear bi c__law_leaf
  have c__law_ear : Callee Pg w K mg base (He.ga K) 2 "_law_ear" 3 F__law_ear := ⟨_, _, _, n__law_ear, g__law_ear, D__law_ear.kp, D__law_ear.bindsN fun _ _ _ _ _ _ us hl => match us, hl with | [_, _, _], _ => rfl⟩
  have n__law_able : FnOk Pg w K mg base (L2.CX Pg w) 1 (He.ga K "_law_able") fd__law_able ["side", "holding"] (spF K (He.ga K) 2 F__law_able) := fn__law_able D__law_able 
  have c__law_able : Callee Pg w K mg base (He.ga K) 1 "_law_able" 2 F__law_able := ⟨_, _, _, n__law_able, g__law_able, D__law_able.kp, D__law_able.bindsN fun _ _ _ _ _ _ us hl => match us, hl with | [_, _], _ => rfl⟩
  have n__law_some_deal : FnOk Pg w K mg base (L2.CX Pg w) 2 (He.ga K "_law_some_deal") fd__law_some_deal ["book", "market", "fair"] (spF K (He.ga K) 3 F__law_some_deal) := fn__law_some_deal D__law_some_deal bi c__law_leaf c__law_able
  have c__law_some_deal : Callee Pg w K mg base (He.ga K) 2 "_law_some_deal" 3 F__law_some_deal := ⟨_, _, _, n__law_some_deal, g__law_some_deal, D__law_some_deal.kp, D__law_some_deal.bindsN fun _ _ _ _ _ _ us hl => match us, hl with | [_, _, _], _ => rfl⟩
  have n__law_behind : FnOk Pg w K mg base (L2.CX Pg w) 1 (He.ga K "_law_behind") fd__law_behind ["market", "fair", "deal"] (spF K (He.ga K) 3 F__law_behind) := fn__law_behind D__law_behind bi
  have c__law_behind : Callee Pg w K mg base (He.ga K) 1 "_law_behind" 3 F__law_behind := ⟨_, _, _, n__law_behind, g__law_behind, D__law_behind.kp, D__law_behind.bindsN fun _ _ _ _ _ _ us hl => match us, hl with | [_, _, _], _ => rfl⟩
  have n__law_made : FnOk Pg w K mg base (L2.CX Pg w) 3 (He.ga K "_law_made") fd__law_made ["book", "market", "many", "laps"] (spF K (He.ga K) 4 F__law_made) := fn__law_made D__law_made bi c__law_leaf c__law_ear c__law_some_deal c__law_behind
  have c__law_made : Callee Pg w K mg base (He.ga K) 3 "_law_made" 4 F__law_made := ⟨_, _, _, n__law_made, g__law_made, D__law_made.kp, D__law_made.bindsN fun _ _ _ _ _ _ us hl => match us, hl with | [_, _, _, _], _ => rfl⟩
  have n__law_tuple : FnOk Pg w K mg base (L2.CX Pg w) 1 (He.ga K "_law_tuple") fd__law_tuple ["fair"] (spF K (He.ga K) 1 F__law_tuple) := fn__law_tuple D__law_tuple bi
  have c__law_tuple : Callee Pg w K mg base (He.ga K) 1 "_law_tuple" 1 F__law_tuple := ⟨_, _, _, n__law_tuple, g__law_tuple, D__law_tuple.kp, D__law_tuple.bindsN fun _ _ _ _ _ _ us hl => match us, hl with | [_], _ => rfl⟩
  have n__law_same : FnOk Pg w K mg base (L2.CX Pg w) 7 (He.ga K "_law_same") fd__law_same ["told", "due"] (spF K (He.ga K) 2 F__law_same) := fn__law_same D__law_same g__law_same bi 6
  have c__law_same : Callee Pg w K mg base (He.ga K) 7 "_law_same" 2 F__law_same := ⟨_, _, _, n__law_same, g__law_same, D__law_same.kp, D__law_same.bindsN fun _ _ _ _ _ _ us hl => match us, hl with | [_, _], _ => rfl⟩
  have n_lines_of : FnOk Pg w K mg base (L2.CX Pg w) 1 (He.ga K "lines_of") fd_lines_of ["text"] (spF K (He.ga K) 1 F_lines_of) := fn_lines_of D_lines_of 
  have c_lines_of : Callee Pg w K mg base (He.ga K) 1 "lines_of" 1 F_lines_of := ⟨_, _, _, n_lines_of, g_lines_of, D_lines_of.kp, D_lines_of.bindsN fun _ _ _ _ _ _ us hl => match us, hl with | [_], _ => rfl⟩
  have n_limit_line : FnOk Pg w K mg base (L2.CX Pg w) 2 (He.ga K "limit_line") fd_limit_line ["text", "most"] (spF K (He.ga K) 2 F_limit_line) := fn_limit_line D_limit_line bi c_lines_of h_SIGNS_MOST
  have c_limit_line : Callee Pg w K mg base (He.ga K) 2 "limit_line" 2 F_limit_line := ⟨_, _, _, n_limit_line, g_limit_line, D_limit_line.kp, D_limit_line.bindsN fun _ _ _ _ _ _ us hl => match us, hl with | [_, _], _ => rfl⟩
  have n_counted_words : FnOk Pg w K mg base (L2.CX Pg w) 2 (He.ga K "counted_words") fd_counted_words ["text"] (spF K (He.ga K) 1 F_counted_words) := fn_counted_words D_counted_words bi c_lines_of
  have c_counted_words : Callee Pg w K mg base (He.ga K) 2 "counted_words" 1 F_counted_words := ⟨_, _, _, n_counted_words, g_counted_words, D_counted_words.kp, D_counted_words.bindsN fun _ _ _ _ _ _ us hl => match us, hl with | [_], _ => rfl⟩
  have n_counted_lines : FnOk Pg w K mg base (L2.CX Pg w) 4 (He.ga K "counted_lines") fd_counted_lines ["text", "most"] (spF K (He.ga K) 2 F_counted_lines) := fn_counted_lines D_counted_lines c_limit_line c_counted_words x_BadText
  have E_dc_counted_lines_1 : FunD K "counted_lines" "counted_lines" (defArgs (top 36)) (defBody (top 36)) (defScope (top 36)) [.int 300] [] _ fd_counted_lines := D_counted_lines
  obtain ⟨u_dc_counted_lines_1, v_dc_counted_lines_1, b_dc_counted_lines_1⟩ := FunD.binds1 (ps := ["text", "most"]) E_dc_counted_lines_1 1 0 (List.cons_ne_nil _ _) rfl fun T kV doc pm an cdv ct us its h1 h2 => match us, its, h1, h2 with | [_], [_], _, _ => ⟨_, rfl, rfl⟩
  have dc_counted_lines_1 : DCallee Pg w K mg base (He.ga K) 4 "counted_lines" 2 F_counted_lines [(.int 300)] := ⟨_, _, _, _, _, n_counted_lines, g_counted_lines, D_counted_lines.kp, b_dc_counted_lines_1, v_dc_counted_lines_1, fun H => ⟨_, _, rfl, rfl, rfl⟩⟩
  have n_written_integer : FnOk Pg w K mg base (L2.CX Pg w) 1 (He.ga K "written_integer") fd_written_integer ["word"] (spF K (He.ga K) 1 F_written_integer) := fn_written_integer D_written_integer bi
  have c_written_integer : Callee Pg w K mg base (He.ga K) 1 "written_integer" 1 F_written_integer := ⟨_, _, _, n_written_integer, g_written_integer, D_written_integer.kp, D_written_integer.bindsN fun _ _ _ _ _ _ us hl => match us, hl with | [_], _ => rfl⟩
  have n_written_number : FnOk Pg w K mg base (L2.CX Pg w) 2 (He.ga K "written_number") fd_written_number ["word"] (spF K (He.ga K) 1 F_written_number) := fn_written_number D_written_number c_written_integer
  have c_written_number : Callee Pg w K mg base (He.ga K) 2 "written_number" 1 F_written_number := ⟨_, _, _, n_written_number, g_written_number, D_written_number.kp, D_written_number.bindsN fun _ _ _ _ _ _ us hl => match us, hl with | [_], _ => rfl⟩
  have n_read_fair : FnOk Pg w K mg base (L2.CX Pg w) 5 (He.ga K "read_fair") fd_read_fair ["text"] (spF K (He.ga K) 1 F_read_fair) := fn_read_fair D_read_fair bi dc_counted_lines_1 c_written_number x_BadText
  have c_read_fair : Callee Pg w K mg base (He.ga K) 5 "read_fair" 1 F_read_fair := ⟨_, _, _, n_read_fair, g_read_fair, D_read_fair.kp, D_read_fair.bindsN fun _ _ _ _ _ _ us hl => match us, hl with | [_], _ => rfl⟩
  have n__law_text : FnOk Pg w K mg base (L2.CX Pg w) 2 (He.ga K "_law_text") fd__law_text ["book", "rows"] (spF K (He.ga K) 2 F__law_text) := fn__law_text D__law_text bi c__law_leaf
  have c__law_text : Callee Pg w K mg base (He.ga K) 2 "_law_text" 2 F__law_text := ⟨_, _, _, n__law_text, g__law_text, D__law_text.kp, D__law_text.bindsN fun _ _ _ _ _ _ us hl => match us, hl with | [_, _], _ => rfl⟩
  have n_read_row : FnOk Pg w K mg base (L2.CX Pg w) 5 (He.ga K "read_row") fd_read_row ["text"] (spF K (He.ga K) 1 F_read_row) := fn_read_row D_read_row bi dc_counted_lines_1 x_BadText
  have c_read_row : Callee Pg w K mg base (He.ga K) 5 "read_row" 1 F_read_row := ⟨_, _, _, n_read_row, g_read_row, D_read_row.kp, D_read_row.bindsN fun _ _ _ _ _ _ us hl => match us, hl with | [_], _ => rfl⟩
  have n_offer_of : FnOk Pg w K mg base (L2.CX Pg w) 1 (He.ga K "offer_of") fd_offer_of ["market", "name"] (spF K (He.ga K) 2 F_offer_of) := fn_offer_of D_offer_of 
  have c_offer_of : Callee Pg w K mg base (He.ga K) 1 "offer_of" 2 F_offer_of := ⟨_, _, _, n_offer_of, g_offer_of, D_offer_of.kp, D_offer_of.bindsN fun _ _ _ _ _ _ us hl => match us, hl with | [_, _], _ => rfl⟩
  have n_found_holding : FnOk Pg w K mg base (L2.CX Pg w) 1 (He.ga K "found_holding") fd_found_holding ["fair", "trader"] (spF K (He.ga K) 2 F_found_holding) := fn_found_holding D_found_holding 
  have c_found_holding : Callee Pg w K mg base (He.ga K) 1 "found_holding" 2 F_found_holding := ⟨_, _, _, n_found_holding, g_found_holding, D_found_holding.kp, D_found_holding.bindsN fun _ _ _ _ _ _ us hl => match us, hl with | [_, _], _ => rfl⟩
  have n_other_is_wrong : FnOk Pg w K mg base (L2.CX Pg w) 2 (He.ga K "other_is_wrong") fd_other_is_wrong ["offer", "fair", "one", "other"] (spF K (He.ga K) 4 F_other_is_wrong) := fn_other_is_wrong D_other_is_wrong c_found_holding
  have c_other_is_wrong : Callee Pg w K mg base (He.ga K) 2 "other_is_wrong" 4 F_other_is_wrong := ⟨_, _, _, n_other_is_wrong, g_other_is_wrong, D_other_is_wrong.kp, D_other_is_wrong.bindsN fun _ _ _ _ _ _ us hl => match us, hl with | [_, _, _, _], _ => rfl⟩
  have n_fits : FnOk Pg w K mg base (L2.CX Pg w) 1 (He.ga K "fits") fd_fits ["side", "holding"] (spF K (He.ga K) 2 F_fits) := fn_fits D_fits 
  have c_fits : Callee Pg w K mg base (He.ga K) 1 "fits" 2 F_fits := ⟨_, _, _, n_fits, g_fits, D_fits.kp, D_fits.bindsN fun _ _ _ _ _ _ us hl => match us, hl with | [_, _], _ => rfl⟩
  have n_deal_word : FnOk Pg w K mg base (L2.CX Pg w) 3 (He.ga K "deal_word") fd_deal_word ["market", "fair", "deal"] (spF K (He.ga K) 3 F_deal_word) := fn_deal_word D_deal_word c_offer_of c_found_holding c_other_is_wrong c_fits
  have c_deal_word : Callee Pg w K mg base (He.ga K) 3 "deal_word" 3 F_deal_word := ⟨_, _, _, n_deal_word, g_deal_word, D_deal_word.kp, D_deal_word.bindsN fun _ _ _ _ _ _ us hl => match us, hl with | [_, _, _], _ => rfl⟩
  have n_with_holding : FnOk Pg w K mg base (L2.CX Pg w) 1 (He.ga K "with_holding") fd_with_holding ["fair", "trader", "holding"] (spF K (He.ga K) 3 F_with_holding) := fn_with_holding D_with_holding bi
  have c_with_holding : Callee Pg w K mg base (He.ga K) 1 "with_holding" 3 F_with_holding := ⟨_, _, _, n_with_holding, g_with_holding, D_with_holding.kp, D_with_holding.bindsN fun _ _ _ _ _ _ us hl => match us, hl with | [_, _, _], _ => rfl⟩
  have n_behind : FnOk Pg w K mg base (L2.CX Pg w) 1 (He.ga K "behind") fd_behind ["side", "holding"] (spF K (He.ga K) 2 F_behind) := fn_behind D_behind 
  have c_behind : Callee Pg w K mg base (He.ga K) 1 "behind" 2 F_behind := ⟨_, _, _, n_behind, g_behind, D_behind.kp, D_behind.bindsN fun _ _ _ _ _ _ us hl => match us, hl with | [_, _], _ => rfl⟩
  have n_done_deal : FnOk Pg w K mg base (L2.CX Pg w) 2 (He.ga K "done_deal") fd_done_deal ["market", "fair", "deal"] (spF K (He.ga K) 3 F_done_deal) := fn_done_deal D_done_deal c_offer_of c_found_holding c_with_holding c_behind
  have c_done_deal : Callee Pg w K mg base (He.ga K) 2 "done_deal" 3 F_done_deal := ⟨_, _, _, n_done_deal, g_done_deal, D_done_deal.kp, D_done_deal.bindsN fun _ _ _ _ _ _ us hl => match us, hl with | [_, _, _], _ => rfl⟩
  have n_row_walk : FnOk Pg w K mg base (L2.CX Pg w) 4 (He.ga K "row_walk") fd_row_walk ["market", "fair", "row"] (spF K (He.ga K) 3 F_row_walk) := fn_row_walk D_row_walk bi c_deal_word c_done_deal x_BadRow
  have c_row_walk : Callee Pg w K mg base (He.ga K) 4 "row_walk" 3 F_row_walk := ⟨_, _, _, n_row_walk, g_row_walk, D_row_walk.kp, D_row_walk.bindsN fun _ _ _ _ _ _ us hl => match us, hl with | [_, _, _], _ => rfl⟩
  have n_run_row : FnOk Pg w K mg base (L2.CX Pg w) 5 (He.ga K "run_row") fd_run_row ["market", "fair", "row"] (spF K (He.ga K) 3 F_run_row) := fn_run_row D_run_row c_row_walk
  have c_run_row : Callee Pg w K mg base (He.ga K) 5 "run_row" 3 F_run_row := ⟨_, _, _, n_run_row, g_run_row, D_run_row.kp, D_run_row.bindsN fun _ _ _ _ _ _ us hl => match us, hl with | [_, _, _], _ => rfl⟩
  have n_run_trace : FnOk Pg w K mg base (L2.CX Pg w) 5 (He.ga K "run_trace") fd_run_trace ["market", "fair", "row"] (spF K (He.ga K) 3 F_run_trace) := fn_run_trace D_run_trace bi c_row_walk
  have c_run_trace : Callee Pg w K mg base (He.ga K) 5 "run_trace" 3 F_run_trace := ⟨_, _, _, n_run_trace, g_run_trace, D_run_trace.kp, D_run_trace.bindsN fun _ _ _ _ _ _ us hl => match us, hl with | [_, _, _], _ => rfl⟩
  have n_holding_of : FnOk Pg w K mg base (L2.CX Pg w) 4 (He.ga K "holding_of") fd_holding_of ["fair", "trader"] (spF K (He.ga K) 2 F_holding_of) := fn_holding_of D_holding_of c_found_holding x_NoSuch
  have c_holding_of : Callee Pg w K mg base (He.ga K) 4 "holding_of" 2 F_holding_of := ⟨_, _, _, n_holding_of, g_holding_of, D_holding_of.kp, D_holding_of.bindsN fun _ _ _ _ _ _ us hl => match us, hl with | [_, _], _ => rfl⟩
  have n_history_of : FnOk Pg w K mg base (L2.CX Pg w) 6 (He.ga K "history_of") fd_history_of ["market", "fair", "row", "trader"] (spF K (He.ga K) 4 F_history_of) := fn_history_of D_history_of bi c_run_trace c_holding_of
  have c_history_of : Callee Pg w K mg base (He.ga K) 6 "history_of" 4 F_history_of := ⟨_, _, _, n_history_of, g_history_of, D_history_of.kp, D_history_of.bindsN fun _ _ _ _ _ _ us hl => match us, hl with | [_, _, _, _], _ => rfl⟩
  have n_gains : FnOk Pg w K mg base (L2.CX Pg w) 6 (He.ga K "gains") fd_gains ["market", "fair", "row"] (spF K (He.ga K) 3 F_gains) := fn_gains D_gains bi c_run_row
  have c_gains : Callee Pg w K mg base (He.ga K) 6 "gains" 3 F_gains := ⟨_, _, _, n_gains, g_gains, D_gains.kp, D_gains.bindsN fun _ _ _ _ _ _ us hl => match us, hl with | [_, _, _], _ => rfl⟩
  have n_best_trader : FnOk Pg w K mg base (L2.CX Pg w) 7 (He.ga K "best_trader") fd_best_trader ["market", "fair", "row"] (spF K (He.ga K) 3 F_best_trader) := fn_best_trader D_best_trader bi c_gains
  have c_best_trader : Callee Pg w K mg base (He.ga K) 7 "best_trader" 3 F_best_trader := ⟨_, _, _, n_best_trader, g_best_trader, D_best_trader.kp, D_best_trader.bindsN fun _ _ _ _ _ _ us hl => match us, hl with | [_, _, _], _ => rfl⟩
  have k_best_trader_fair_row : KwCallee Pg w K mg base (He.ga K) 7 "best_trader" 3 F_best_trader 1 ["fair", "row"] [0, 1, 2] := ⟨⟨_, _, _, n_best_trader, g_best_trader, D_best_trader.kp, bindsKw D_best_trader fun _ _ _ _ _ _ us ws h1 h2 => match us, ws, h1, h2 with | [_], [_, _], _, _ => rfl⟩, by decide⟩
  have n_is_even_offer : FnOk Pg w K mg base (L2.CX Pg w) 1 (He.ga K "is_even_offer") fd_is_even_offer ["offer"] (spF K (He.ga K) 1 F_is_even_offer) := fn_is_even_offer D_is_even_offer 
  have c_is_even_offer : Callee Pg w K mg base (He.ga K) 1 "is_even_offer" 1 F_is_even_offer := ⟨_, _, _, n_is_even_offer, g_is_even_offer, D_is_even_offer.kp, D_is_even_offer.bindsN fun _ _ _ _ _ _ us hl => match us, hl with | [_], _ => rfl⟩
  have n_is_even : FnOk Pg w K mg base (L2.CX Pg w) 2 (He.ga K "is_even") fd_is_even ["market"] (spF K (He.ga K) 1 F_is_even) := fn_is_even D_is_even bi c_is_even_offer
  have c_is_even : Callee Pg w K mg base (He.ga K) 2 "is_even" 1 F_is_even := ⟨_, _, _, n_is_even, g_is_even, D_is_even.kp, D_is_even.bindsN fun _ _ _ _ _ _ us hl => match us, hl with | [_], _ => rfl⟩
  have n_total_money : FnOk Pg w K mg base (L2.CX Pg w) 1 (He.ga K "total_money") fd_total_money ["fair"] (spF K (He.ga K) 1 F_total_money) := fn_total_money D_total_money bi
  have c_total_money : Callee Pg w K mg base (He.ga K) 1 "total_money" 1 F_total_money := ⟨_, _, _, n_total_money, g_total_money, D_total_money.kp, D_total_money.bindsN fun _ _ _ _ _ _ us hl => match us, hl with | [_], _ => rfl⟩
  have n__law_asked : FnOk Pg w K mg base (L2.CX Pg w) 8 (He.ga K "_law_asked") fd__law_asked ["book", "market", "many", "laps"] (spF K (He.ga K) 4 F__law_asked) := fn__law_asked D__law_asked bi c__law_made c__law_tuple c__law_same c_read_fair c__law_text c_read_row c_run_row c_history_of c_holding_of c_gains k_best_trader_fair_row c_is_even c_total_money
  have c__law_asked : Callee Pg w K mg base (He.ga K) 8 "_law_asked" 4 F__law_asked := ⟨_, _, _, n__law_asked, g__law_asked, D__law_asked.kp, D__law_asked.bindsN fun _ _ _ _ _ _ us hl => match us, hl with | [_, _, _, _], _ => rfl⟩
  have n__law_market : FnOk Pg w K mg base (L2.CX Pg w) 3 (He.ga K "_law_market") fd__law_market ["book"] (spF K (He.ga K) 1 F__law_market) := fn__law_market D__law_market bi c__law_ear c__law_leaf
  have c__law_market : Callee Pg w K mg base (He.ga K) 3 "_law_market" 1 F__law_market := ⟨_, _, _, n__law_market, g__law_market, D__law_market.kp, D__law_market.bindsN fun _ _ _ _ _ _ us hl => match us, hl with | [_], _ => rfl⟩
  have n_law : FnOk Pg w K mg base (L2.CX Pg w) 9 (He.ga K "law") fd_law ["script"] (spF K (He.ga K) 1 F_law) := fn_law D_law bi c__law_book c__law_asked c__law_market c__law_ear c_history_of c_gains c_best_trader c__law_same c__law_leaf
  exact n_law
end K76
open PySem PySem.W PySem.Calls PyProof.Rows
theorem PySem.Challenge.cw_moneyheld_k76_whole_audits_holds : PySem.Challenge.rw_moneyheld_k76_whole_audits.Holds := by
  w_on; o_law
  refine HandSHeadRun.head_any (r := K76.Rw) (q := view K76.Rw.prog [55]) (H := K76.hkX) (ob := K76.obH) (M := 4000) (loose := K76.looseL) (d := HandSHeadRun.topDef K76.Rw.prog 55) (kwd := []) K76.obH_eq
    (by kernel_rfl) (fun s => by kernel_rfl) K76.runH (by kernel_rfl) (by kernel_rfl) (by kernel_rfl) (by rfl) (by first | assumption | decide +kernel) (by decide +kernel) ⟨rfl, rfl, rfl, rfl, rfl, by decide +kernel⟩ ?hw ?hc
  case hw => w_witness2
  case hc =>
    refine Mo.walk_mo (l := PySem.Challenge.rw_moneyheld_k76_whole_audits) (n := 63) (k := 9) (x := "script") rfl (by decide) (by kernel_rfl) ⟨rfl, by decide, by decide⟩ ?F
    intro w mg fa h Y G hmg0
    obtain ⟨K, KX, c⟩ := Y
    have hmg : mg ("law" : PySem.Str) = some (.ref fa) := by
      have e : (HandSHeadRun.topDef K76.Rw.prog 55).name = ("law" : PySem.Str) := by kernel_rfl
      rw [← e]
      exact hmg0
    obtain ⟨fd, hb, hF⟩ := K76.factsL (w := w) KX G hmg c
    exact ⟨K, fd, He.ga K, K76.F_law, KX, hb, fun ns hl => K76.law_ok ns hl, hF⟩
