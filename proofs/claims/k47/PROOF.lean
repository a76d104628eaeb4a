import PyProof.Rows.All
import Wide.All
import OpenK.AllK
import Wide.FinOn
import HandS.ForMost
import HandS.TupAny
import HandS.NoneIn
import HandS.Wide
import HandS.Style
import HandS.More
import PyProof.ReprBulk
import HandS.Zip
import HandS.Deep
import HandS.IsInst
import HandS.SortInts
import HandS.WideBits
import HandS.TupMul
import HandS.Gcd
import HandS.SortRule
import HandS.Conv
import KE.KDictSum
import KE.GoesEnumKw
import KE.KDictPairs
import HandS.TupLen
import HandS.Star
import KE.KMathG
import Flt.RightSqrt
import PySem.Challenge.RW_tracetriples_k47_whole_at_triples_of_pai
set_option Elab.async false
set_option linter.all false
set_option maxRecDepth 100000
set_option maxHeartbeats 2000000
/-! QA: plain data over the hand layer. Values are told as data (PyData), mutable things of a def as local objects, the law's source as one state. -/
namespace QL
open PySem PySem.Spec PyProof.Rows L2

abbrev D := PyData
/-- a key as data -/
def kD : Key → D
  | .inl i => .int i
  | .inr x => .str x
/-- a tuple that may stand as dict's argument: of terms, or of nothing -/
def NdNeed : List D → Bool
  | [] => true
  | .tuple [.tuple _, .int _] :: _ => true
  | _ => false
/-- a thing known to have no dict of its own -/
def NoDi (K : PySem.W.Frag) (H : Hp) (a : Addr) : Prop := (∃ o u, H a = some (.frz o u) ∧ o.dict = none) ∨ ∃ o, K.lookup a = some o ∧ o.dict = none
mutual
inductive Dq (K : PySem.W.Frag) (H : Hp) : V → D → Prop
  | non : Dq K H .non .none
  | bl (b : Bool) : Dq K H (.bl b) (.bool b)
  | int (i : Int) : Dq K H (.int i) (.int i)
  | str (x : Str) : Dq K H (.str x) (.str x)
  | lst {a : Addr} {xs : List V} {ds : List D} : H a = some (.lst xs) → DqAll K H xs ds → Dq K H (.ref a) (.list ds)
  | tup {a : Addr} {xs : List V} {ds : List D} : SqT K H a xs → (NdNeed ds = true → NoDi K H a) → DqAll K H xs ds → Dq K H (.ref a) (.tuple ds)
  | dk {a : Addr} {ys : List (Key × V)} {kvs : List (D × D)} : H a = some (.dK ys) → DqK K H ys kvs → Dq K H (.ref a) (.dict kvs)
inductive DqK (K : PySem.W.Frag) (H : Hp) : List (Key × V) → List (D × D) → Prop
  | nil : DqK K H [] []
  | cons {k : Key} {v : V} {d : D} {ys : List (Key × V)} {kvs : List (D × D)} : Dq K H v d → DqK K H ys kvs → DqK K H ((k, v) :: ys) ((kD k, d) :: kvs)
inductive DqAll (K : PySem.W.Frag) (H : Hp) : List V → List D → Prop
  | nil : DqAll K H [] []
  | cons {v : V} {vs : List V} {d : D} {ds : List D} : Dq K H v d → DqAll K H vs ds → DqAll K H (v :: vs) (d :: ds)
end
section
variable {K : PySem.W.Frag} {H H' : Hp}
theorem same_tup (e : Same H H') {a : Addr} {xs : List V} (h : SqT K H a xs) : SqT K H' a xs := by
  rcases h with (h | ⟨o, h⟩) | h
  · exact .inl (.inl (e _ _ h))
  · exact .inl (.inr ⟨o, e _ _ h⟩)
  · exact .inr h
theorem NoDi.mono (e : Same H H') {a : Addr} (h : NoDi K H a) : NoDi K H' a := h.imp (fun ⟨o, u, q, r⟩ => ⟨o, u, e _ _ q, r⟩) id
mutual
theorem Dq.mono (e : Same H H') : ∀ (d : D) (v : V), Dq K H v d → Dq K H' v d
  | .none, _, h => by cases h; exact .non
  | .bool b, _, h => by cases h; exact .bl b
  | .int i, _, h => by cases h; exact .int i
  | .str x, _, h => by cases h; exact .str x
  | .list ds, _, h => by
    cases h with
    | lst h1 h2 => exact .lst (e _ _ h1) (DqAll.mono e ds _ h2)
  | .tuple ds, _, h => by
    cases h with
    | tup h1 hn h2 => exact .tup (same_tup e h1) (fun q => (hn q).mono e) (DqAll.mono e ds _ h2)
  | .dict kvs, _, h => by
    cases h with
    | dk h1 h2 => exact .dk (e _ _ h1) (DqK.mono e kvs _ h2)
theorem DqK.mono (e : Same H H') : ∀ (kvs : List (D × D)) (ys : List (Key × V)), DqK K H ys kvs → DqK K H' ys kvs
  | [], _, h => by cases h; exact .nil
  | (k, d) :: kvs, _, h => by
    cases h with
    | cons h1 h2 => exact .cons (Dq.mono e d _ h1) (DqK.mono e kvs _ h2)
theorem DqAll.mono (e : Same H H') : ∀ (ds : List D) (vs : List V), DqAll K H vs ds → DqAll K H' vs ds
  | [], _, h => by cases h; exact .nil
  | d :: ds, _, h => by
    cases h with
    | cons h1 h2 => exact .cons (Dq.mono e d _ h1) (DqAll.mono e ds _ h2)
end
mutual
theorem Dq.toDp : ∀ (d : D) (v : V), d.hasDict = false → Dq K H v d → Dp K H v d
  | .none, _, _, h => by cases h; exact .non
  | .bool b, _, _, h => by cases h; exact .bl b
  | .int i, _, _, h => by cases h; exact .int i
  | .str x, _, _, h => by cases h; exact .str x
  | .list ds, _, n, h => by
    simp only [PyData.hasDict] at n
    cases h with
    | lst h1 h2 => exact .lst (SqL.of h1) (DqAll.toDp ds _ n h2)
  | .tuple ds, _, n, h => by
    simp only [PyData.hasDict] at n
    cases h with
    | tup h1 _ h2 => exact .tup h1 (DqAll.toDp ds _ n h2)
  | .dict _, _, n, h => by simp [PyData.hasDict] at n
theorem DqAll.toDp : ∀ (ds : List D) (vs : List V), PyData.hasDictAll ds = false → DqAll K H vs ds → DpAll K H vs ds
  | [], _, _, h => by cases h; exact .nil
  | d :: ds, _, n, h => by
    simp only [PyData.hasDictAll, Bool.or_eq_false_iff] at n
    cases h with
    | cons h1 h2 => exact .cons (Dq.toDp d _ n.1 h1) (DqAll.toDp ds _ n.2 h2)
end
mutual
theorem canLay_noDict : ∀ d : D, d.canLay0 = true → d.hasDict = false
  | .none, _ => by simp [PyData.hasDict]
  | .bool _, _ => by simp [PyData.hasDict]
  | .int _, _ => by simp [PyData.hasDict]
  | .str _, _ => by simp [PyData.hasDict]
  | .list ds, h => by simp only [PyData.hasDict]; simp only [PyData.canLay0] at h; exact canLayAll_noDict ds h
  | .tuple ds, h => by simp only [PyData.hasDict]; simp only [PyData.canLay0] at h; exact canLayAll_noDict ds h
  | .dict _, h => by simp [PyData.canLay0] at h
theorem canLayAll_noDict : ∀ ds : List D, PyData.canLayAll0 ds = true → PyData.hasDictAll ds = false
  | [], _ => by simp [PyData.hasDictAll]
  | d :: ds, h => by
    simp only [PyData.canLayAll0, Bool.and_eq_true] at h
    simp [PyData.hasDictAll, canLay_noDict d h.1, canLayAll_noDict ds h.2]
end
theorem shaped_noDict {d : D} (h : SeqAt.shaped d = true) : d.hasDict = false := canLay_noDict d (SeqAt.canLay_of_shaped h)
theorem DqAll.len : ∀ {ds : List D} {vs : List V}, DqAll K H vs ds → vs.length = ds.length
  | [], _, h => by cases h; rfl
  | d :: ds, _, h => by
    cases h with
    | cons h1 h2 => simp [DqAll.len h2]
theorem DqAll.at : ∀ {ds : List D} {vs : List V} {i : Nat} {d : D}, DqAll K H vs ds → ds[i]? = some d → ∃ v, vs[i]? = some v ∧ Dq K H v d
  | [], _, _, _, h, e => by simp at e
  | d :: ds, _, 0, _, h, e => by
    cases h with
    | cons h1 h2 => simp at e; subst e; exact ⟨_, rfl, h1⟩
  | d :: ds, _, i + 1, _, h, e => by
    cases h with
    | cons h1 h2 =>
      obtain ⟨v, q1, q2⟩ := DqAll.at (i := i) h2 (by simpa using e)
      exact ⟨v, by simpa using q1, q2⟩
theorem DqAll.app : ∀ {ds es : List D} {vs ws : List V}, DqAll K H vs ds → DqAll K H ws es → DqAll K H (vs ++ ws) (ds ++ es)
  | [], _, _, _, h, k => by cases h; exact k
  | d :: ds, _, _, _, h, k => by
    cases h with
    | cons h1 h2 => exact .cons h1 (DqAll.app h2 k)
theorem DqAll.drop : ∀ {ds : List D} {vs : List V} (n : Nat), DqAll K H vs ds → DqAll K H (vs.drop n) (ds.drop n)
  | _, _, 0, h => h
  | [], _, n + 1, h => by cases h; exact .nil
  | d :: ds, _, n + 1, h => by
    cases h with
    | cons h1 h2 => exact DqAll.drop n h2
theorem DqAll.take : ∀ {ds : List D} {vs : List V} (n : Nat), DqAll K H vs ds → DqAll K H (vs.take n) (ds.take n)
  | _, _, 0, h => .nil
  | [], _, n + 1, h => by cases h; exact .nil
  | d :: ds, _, n + 1, h => by
    cases h with
    | cons h1 h2 => exact .cons h1 (DqAll.take n h2)
theorem DqAll.rev {ds : List D} {vs : List V} (h : DqAll K H vs ds) : DqAll K H vs.reverse ds.reverse := by
  induction ds generalizing vs with
  | nil => cases h; exact .nil
  | cons d ds ih =>
    cases h with
    | cons h1 h2 =>
      rw [List.reverse_cons, List.reverse_cons]
      exact (ih h2).app (.cons h1 .nil)
theorem DqAll.rep {ds : List D} {vs : List V} (h : DqAll K H vs ds) : ∀ n : Nat, DqAll K H (List.replicate n vs).flatten (List.replicate n ds).flatten
  | 0 => .nil
  | n + 1 => by
    rw [List.replicate_succ, List.replicate_succ, List.flatten_cons, List.flatten_cons]
    exact h.app (DqAll.rep h n)
theorem DqAll.pop {ds : List D} {vs : List V} (h : DqAll K H vs ds) : DqAll K H vs.dropLast ds.dropLast := by
  rw [List.dropLast_eq_take, List.dropLast_eq_take, h.len]
  exact h.take _
theorem DqAll.setAt : ∀ {ds : List D} {vs : List V} {d : D} {v : V} (i : Nat), DqAll K H vs ds → Dq K H v d → DqAll K H (vs.set i v) (ds.set i d)
  | [], _, _, _, i, h, _ => by cases h; exact .nil
  | x :: ds, _, _, _, 0, h, k => by
    cases h with
    | cons h1 h2 => exact .cons k h2
  | x :: ds, _, _, _, i + 1, h, k => by
    cases h with
    | cons h1 h2 => exact .cons h1 (DqAll.setAt i h2 k)
theorem DqAll.ints : ∀ {ns : List Int} {vs : List V}, DqAll K H vs (ns.map PyData.int) → vs = ns.map V.int
  | [], _, h => by cases h; rfl
  | n :: ns, _, h => by
    cases h with
    | cons h1 h2 => cases h1; simp [DqAll.ints h2]
theorem DqAll.bls : ∀ {ns : List Bool} {vs : List V}, DqAll K H vs (ns.map PyData.bool) → vs = ns.map V.bl
  | [], _, h => by cases h; rfl
  | n :: ns, _, h => by
    cases h with
    | cons h1 h2 => cases h1; simp [DqAll.bls h2]
theorem DqAll.ofInts : ∀ (ns : List Int), DqAll K H (ns.map V.int) (ns.map PyData.int)
  | [] => .nil
  | n :: ns => .cons (.int n) (DqAll.ofInts ns)
end

/-! ### the abstract state -/
inductive AV where
  | d (x : D) | o (j : Nat) | src | cells | scr (ns : List Int) | kt (ks : List Key) | dt (kvs : List (List Key × D)) | xt (kvs : List (List Int × D)) | hx (f : Addr → HO) | ty (n : String) | ad (a : Addr)
structure Src where
  cells : List Int
  left : Int
  mixed : Int
  turn : Int
inductive MO where
  | l (ds : List D) | kd (kvs : List (Key × D)) | td (kvs : List (List Key × D)) | xd (kvs : List (List Int × D))
structure Mm where
  s : Option Src
  o : List MO
structure AS where
  g : List (Option AV)
  m : Mm

def hid (Z : List Addr) (H : Hp) : Hp := fun a => if a ∈ Z then none else H a
theorem hid_some {Z : List Addr} {H : Hp} {a : Addr} {o : HO} (h : hid Z H a = some o) : a ∉ Z ∧ H a = some o := by
  unfold hid at h
  split at h
  · cases h
  · exact ⟨‹_›, h⟩
theorem hid_of {Z : List Addr} {H : Hp} {a : Addr} (h : a ∉ Z) : hid Z H a = H a := if_neg h
theorem hid_same {Z : List Addr} {H : Hp} : Same (hid Z H) H := fun a o h => (hid_some h).2

structure Ct where
  K : PySem.W.Frag
  Z : List Addr
  L0 : List Addr
  H0 : Hp
abbrev Ct.hd (C : Ct) (L Mo : List Addr) (H : Hp) : Hp := hid (C.Z ++ (L ++ Mo)) H
def srcKv (S : Src) (c : Addr) : List (Key × V) := [(.inr "cells", .ref c), (.inr "left", .int S.left), (.inr "mixed", .int S.mixed), (.inr "turn", .int S.turn)]
def SrcAt (H : Hp) : Option Src → List Addr → Prop
  | none, L => L = []
  | some S, L => ∃ d c, L = [d, c] ∧ H d = some (.dK (srcKv S c)) ∧ H c = some (.lst (S.cells.map V.int))
def KQ {κ : Type} (K : PySem.W.Frag) (h : Hp) : List (κ × V) → List (κ × D) → Prop := Paired fun (p : κ × V) (q : κ × D) => p.1 = q.1 ∧ Dq K h p.2 q.2
theorem KQ.mono {κ : Type} {K : PySem.W.Frag} {h h' : Hp} (e : Same h h') {l : List (κ × V)} {r : List (κ × D)} (q : KQ K h l r) : KQ K h' l r := Paired.mapP q fun a b ⟨q1, q2⟩ => ⟨q1, Dq.mono e _ _ q2⟩
def kvD (kvs : List (Key × D)) : List (D × D) := kvs.map fun p => (kD p.1, p.2)
theorem KQ.toK {K : PySem.W.Frag} {h : Hp} : ∀ {ys : List (Key × V)} {kvs : List (Key × D)}, KQ K h ys kvs → DqK K h ys (kvD kvs)
  | _, _, .nil => .nil
  | (_, _) :: _, (_, _) :: _, .cons q t => by
    obtain ⟨q1, q2⟩ := q
    simp only at q1 q2
    subst q1
    exact .cons q2 (KQ.toK t)
/-- a dict whose keys are tuples of ints, wherever these stand (also among a module's constants) -/
def XD (xs : List (List Int × Addr × V)) (a : Addr) (h : Heap) : Prop := xs.length ≤ sizeLine ∧ (a == sysModules) = false ∧ ∃ ys : List (List Int × Addr × Value), Paired (fun x y => x.1 = y.1 ∧ x.2.1 = y.2.1 ∧ RelV x.2.2 y.2.2) xs ys ∧
  ∃ o es ep, h.get? a = some o ∧ o.ExactDict ∧ o.data = .dict es ep ∧ (∀ (P : Program) (w : World), es.toList = ys.map (entryOfKey (tupleKind (PySem.intKind P w)))) ∧ (ys.map (·.1)).Nodup
def XQ (K : PySem.W.Frag) (h : Hp) : List (List Int × Addr × V) → List (List Int × D) → Prop := Paired fun x kv => x.1 = kv.1 ∧ SqT K h x.2.1 (x.1.map V.int) ∧ Dq K h x.2.2 kv.2
theorem XQ.mono {K : PySem.W.Frag} {h h' : Hp} (e : Same h h') {l : List (List Int × Addr × V)} {r : List (List Int × D)} (q : XQ K h l r) : XQ K h' l r := Paired.mapP q fun a b ⟨q1, q2, q3⟩ => ⟨q1, same_tup e q2, Dq.mono e _ _ q3⟩
def MOk (K : PySem.W.Frag) (h H : Hp) : MO → Addr → Prop
  | .l ds, l => ∃ xs, H l = some (.lst xs) ∧ DqAll K h xs ds
  | .kd kvs, l => ∃ ys, H l = some (.dK ys) ∧ KQ K h ys kvs
  | .td kvs, l => ∃ ys, H l = some (.dT ys) ∧ KQ K h ys kvs
  | .xd kvs, l => ∃ xs, H l = some (.ext (XD xs l)) ∧ XQ K h xs kvs
theorem MOk.mono {K : PySem.W.Frag} {h h' H H' : Hp} {o : MO} {l : Addr} (q : MOk K h H o l) (e : Same h h') (f : H' l = H l) : MOk K h' H' o l := by
  cases o with
  | l ds => obtain ⟨xs, q1, q2⟩ := q; exact ⟨xs, f.trans q1, DqAll.mono e _ _ q2⟩
  | kd ds => obtain ⟨xs, q1, q2⟩ := q; exact ⟨xs, f.trans q1, q2.mono e⟩
  | td ds => obtain ⟨xs, q1, q2⟩ := q; exact ⟨xs, f.trans q1, q2.mono e⟩
  | xd ds => obtain ⟨xs, q1, q2⟩ := q; exact ⟨xs, f.trans q1, q2.mono e⟩
theorem MOk.there {K : PySem.W.Frag} {h H : Hp} {o : MO} {l : Addr} (q : MOk K h H o l) : ∃ u, H l = some u := by
  cases o with
  | l ds => obtain ⟨xs, q1, q2⟩ := q; exact ⟨_, q1⟩
  | kd ds => obtain ⟨xs, q1, q2⟩ := q; exact ⟨_, q1⟩
  | td ds => obtain ⟨xs, q1, q2⟩ := q; exact ⟨_, q1⟩
  | xd ds => obtain ⟨xs, q1, q2⟩ := q; exact ⟨_, q1⟩

/-- no tuple -/
def NT (u : HO) : Prop := ∀ xs, u ≠ .tup xs
structure B (C : Ct) (m : Mm) (L Mo : List Addr) (H : Hp) : Prop where
  nd : (C.Z ++ (L ++ Mo)).Nodup
  sr : SrcAt H m.s L
  ob : Paired (MOk C.K (C.hd L Mo H) H) m.o Mo
  kp : ∀ a u, C.H0 a = some u → a ∉ C.L0 → H a = some u
  nl : ∀ x ∈ L, x ∈ C.L0 ∨ C.H0 x = none
  no : ∀ x ∈ Mo, C.H0 x = none ∧ x ∉ C.L0
  zt : ∀ z ∈ C.Z, (∃ u, C.H0 z = some u ∧ NT u) ∧ z ∉ C.L0
  l0 : C.L0 = [] ∨ L = C.L0
theorem paired_mem {α β : Type} {F : α → β → Prop} : ∀ {l : List α} {r : List β} {b : β}, Paired F l r → b ∈ r → ∃ a ∈ l, F a b
  | _, _, _, .nil, h => by cases h
  | _, _, _, .cons q t, h => by
    rcases List.mem_cons.mp h with rfl | h
    · exact ⟨_, List.mem_cons_self, q⟩
    · obtain ⟨a, h1, h2⟩ := paired_mem t h
      exact ⟨a, List.mem_cons_of_mem _ h1, h2⟩
theorem paired_at {α β : Type} {F : α → β → Prop} : ∀ {l : List α} {r : List β} {i : Nat} {a : α}, Paired F l r → l[i]? = some a → ∃ b, r[i]? = some b ∧ F a b
  | _, _, _, _, .nil, h => by simp at h
  | _, _, 0, _, .cons q t, h => by simp at h; subst h; exact ⟨_, rfl, q⟩
  | _, _, i + 1, _, .cons q t, h => by
    obtain ⟨b, h1, h2⟩ := paired_at (i := i) t (by simpa using h)
    exact ⟨b, by simpa using h1, h2⟩
theorem paired_app {α β : Type} {F : α → β → Prop} : ∀ {l l2 : List α} {r r2 : List β}, Paired F l r → Paired F l2 r2 → Paired F (l ++ l2) (r ++ r2)
  | _, _, _, _, .nil, k => k
  | _, _, _, _, .cons q t, k => .cons q (paired_app t k)
theorem paired_impM {α β : Type} {F G : α → β → Prop} : ∀ {l : List α} {r : List β}, Paired F l r → (∀ a b, b ∈ r → F a b → G a b) → Paired G l r
  | _, _, .nil, _ => .nil
  | _, _, .cons q t, f => .cons (f _ _ List.mem_cons_self q) (paired_impM t fun a b hb => f a b (List.mem_cons_of_mem _ hb))
theorem paired_take {α β : Type} {F : α → β → Prop} : ∀ {l : List α} {r : List β} (n : Nat), Paired F l r → Paired F (l.take n) (r.take n)
  | _, _, 0, _ => .nil
  | _, _, n + 1, .nil => .nil
  | _, _, n + 1, .cons q t => .cons q (paired_take n t)
theorem paired_set {α β : Type} {F : α → β → Prop} : ∀ {l : List α} {r : List β} {i : Nat} {a : α} {b : β}, Paired F l r → r[i]? = some b → F a b → Paired F (l.set i a) r
  | _, _, _, _, _, .nil, h, _ => by simp at h
  | _, _, 0, _, _, .cons q t, h, k => by simp at h; subst h; exact .cons k t
  | _, _, i + 1, _, _, .cons q t, h, k => .cons q (paired_set t (by simpa using h) k)

structure X2 (C : Ct) (L Mo : List Addr) (H : Hp) (L' Mo' : List Addr) (H' : Hp) : Prop where
  pl : L = [] ∨ L' = L
  po : Mo <+: Mo'
  sm : Same (C.hd L Mo H) (C.hd L' Mo' H')
section
variable {C : Ct} {m : Mm} {L Mo L' Mo' L2 Mo2 : List Addr} {H H' H2 : Hp} {p : Addr} {ho : HO}
theorem X2.refl : X2 C L Mo H L Mo H := ⟨.inr rfl, List.prefix_rfl, Same.refl _⟩
theorem X2.trans (a : X2 C L Mo H L' Mo' H') (b : X2 C L' Mo' H' L2 Mo2 H2) : X2 C L Mo H L2 Mo2 H2 :=
  ⟨by rcases a.pl with h | h
      · exact .inl h
      · rcases b.pl with k | k
        · exact .inl (h ▸ k)
        · exact .inr (k.trans h), a.po.trans b.po, a.sm.trans b.sm⟩
theorem B.there (b : B C m L Mo H) {x : Addr} (hx : x ∈ C.Z ++ (L ++ Mo)) : ∃ u, H x = some u := by
  rcases List.mem_append.mp hx with h | h
  · obtain ⟨⟨u, h1, _⟩, h2⟩ := b.zt x h
    exact ⟨u, b.kp x u h1 h2⟩
  · rcases List.mem_append.mp h with h | h
    · have q := b.sr
      cases e : m.s with
      | none => rw [e] at q; rw [show L = [] from q] at h; cases h
      | some S =>
        rw [e] at q
        obtain ⟨d, c, rfl, h1, h2⟩ := q
        rcases List.mem_cons.mp h with rfl | h
        · exact ⟨_, h1⟩
        · rcases List.mem_cons.mp h with rfl | h
          · exact ⟨_, h2⟩
          · cases h
    · obtain ⟨o, _, q⟩ := paired_mem b.ob h
      exact q.there
theorem B.thereN (b : B C m L Mo H) {x : Addr} (hx : x ∈ C.Z ++ (L ++ Mo)) : ∃ u, H x = some u ∧ NT u := by
  rcases List.mem_append.mp hx with h | h
  · obtain ⟨⟨u, h1, h3⟩, h2⟩ := b.zt x h
    exact ⟨u, b.kp x u h1 h2, h3⟩
  · rcases List.mem_append.mp h with h | h
    · have q := b.sr
      cases e : m.s with
      | none => rw [e] at q; rw [show L = [] from q] at h; cases h
      | some S =>
        rw [e] at q
        obtain ⟨d, c, rfl, h1, h2⟩ := q
        rcases List.mem_cons.mp h with rfl | h
        · exact ⟨_, h1, fun _ e => nomatch e⟩
        · rcases List.mem_cons.mp h with rfl | h
          · exact ⟨_, h2, fun _ e => nomatch e⟩
          · cases h
    · obtain ⟨o, _, q⟩ := paired_mem b.ob h
      cases o with
      | l ds => obtain ⟨xs, q1, _⟩ := q; exact ⟨_, q1, fun _ e => nomatch e⟩
      | kd ds => obtain ⟨xs, q1, _⟩ := q; exact ⟨_, q1, fun _ e => nomatch e⟩
      | td ds => obtain ⟨xs, q1, _⟩ := q; exact ⟨_, q1, fun _ e => nomatch e⟩
      | xd ds => obtain ⟨xs, q1, _⟩ := q; exact ⟨_, q1, fun _ e => nomatch e⟩
/-- a tuple is not hidden -/
theorem B.tup_hd (b : B C m L Mo H) {x : Addr} {xs : List V} (h : H x = some (.tup xs)) : C.hd L Mo H x = some (.tup xs) := by
  rw [Ct.hd, hid_of]
  · exact h
  · intro hx
    obtain ⟨u, h1, h2⟩ := b.thereN hx
    rw [h] at h1
    cases h1
    exact h2 _ rfl
theorem B.fresh (b : B C m L Mo H) (hp : H p = none) : p ∉ C.Z ++ (L ++ Mo) := fun h => by
  obtain ⟨u, q⟩ := b.there h
  rw [hp] at q; cases q
theorem B.freshL (b : B C m L Mo H) (hp : H p = none) : p ∉ C.L0 := fun h => by
  rcases b.l0 with z | z
  · rw [z] at h; cases h
  · exact b.fresh hp (by simp [z, h])
theorem B.fresh0 (b : B C m L Mo H) (hp : H p = none) : C.H0 p = none := by
  cases e : C.H0 p with
  | none => rfl
  | some u => rw [b.kp p u e (b.freshL hp)] at hp; cases hp
theorem hd_upd (hp : H p = none) : Same (C.hd L Mo H) (C.hd L Mo (upd H p ho)) := fun a o h => by
  obtain ⟨h1, h2⟩ := hid_some h
  rw [Ct.hd, hid_of h1, upd_ne (ne_of_none h2 hp)]
  exact h2
theorem hd_updIn {x : Addr} (hx : x ∈ C.Z ++ (L ++ Mo)) : C.hd L Mo (upd H x ho) = C.hd L Mo H := by
  funext a
  unfold Ct.hd hid
  by_cases h : a ∈ C.Z ++ (L ++ Mo)
  · rw [if_pos h, if_pos h]
  · rw [if_neg h, if_neg h]
    exact upd_ne fun e => h (e ▸ hx)
theorem X2.alloc (hp : H p = none) : X2 C L Mo H L Mo (upd H p ho) := ⟨.inr rfl, List.prefix_rfl, hd_upd hp⟩
theorem srcAt_upd {s : Option Src} (q : SrcAt H s L) (hn : p ∉ L) : SrcAt (upd H p ho) s L := by
  cases s with
  | none => exact q
  | some S =>
    obtain ⟨d, c, rfl, h1, h2⟩ := q
    refine ⟨d, c, rfl, ?_, ?_⟩
    · rw [upd_ne (fun e => hn (by simp [e]))]; exact h1
    · rw [upd_ne (fun e => hn (by simp [e]))]; exact h2
theorem B.alloc (b : B C m L Mo H) (hp : H p = none) : B C m L Mo (upd H p ho) := by
  have hf := b.fresh hp
  refine ⟨b.nd, srcAt_upd b.sr fun h => hf (by simp [h]), paired_impM b.ob fun o l hl q => q.mono (hd_upd hp) ?_, fun a u h1 h2 => ?_, b.nl, b.no, b.zt, b.l0⟩
  · exact upd_ne fun e => hf (by simp [← e, hl])
  · have := b.kp a u h1 h2
    rw [upd_ne (ne_of_none this hp)]; exact this
theorem hd_snoc (hp : H p = none) : Same (C.hd L Mo H) (C.hd L (Mo ++ [p]) (upd H p ho)) := fun a o h => by
  obtain ⟨h1, h2⟩ := hid_some h
  have ne : a ≠ p := ne_of_none h2 hp
  rw [Ct.hd, hid_of (fun z => h1 (by simp [ne] at z ⊢; exact z)), upd_ne ne]
  exact h2
theorem X2.allocO (hp : H p = none) : X2 C L Mo H L (Mo ++ [p]) (upd H p ho) := ⟨.inr rfl, List.prefix_append _ _, hd_snoc hp⟩
theorem B.allocO {o : MO} (b : B C m L Mo H) (hp : H p = none) (ok : ∀ h, Same (C.hd L Mo H) h → MOk C.K h (upd H p ho) o p) : B C ⟨m.s, m.o ++ [o]⟩ L (Mo ++ [p]) (upd H p ho) := by
  have hf := b.fresh hp
  have hs : Same (C.hd L Mo H) (C.hd L (Mo ++ [p]) (upd H p ho)) := hd_snoc hp
  refine ⟨?_, srcAt_upd b.sr fun h => hf (by simp [h]), paired_app (paired_impM b.ob fun o l hl q => q.mono hs ?_) (.cons (ok _ hs) .nil), fun a u h1 h2 => ?_, b.nl, fun x hx => ?_, b.zt, b.l0⟩
  · rw [← List.append_assoc, ← List.append_assoc]
    refine List.nodup_append.mpr ⟨by rw [List.append_assoc]; exact b.nd, by simp, fun x hx y hy e => ?_⟩
    have : y = p := by simpa using hy
    subst this; subst e
    exact hf (by rw [← List.append_assoc]; exact hx)
  · exact upd_ne fun e => hf (by simp [← e, hl])
  · have := b.kp a u h1 h2
    rw [upd_ne (ne_of_none this hp)]; exact this
  · rcases List.mem_append.mp hx with h | h
    · exact b.no x h
    · have : x = p := by simpa using h
      subst this
      exact ⟨b.fresh0 hp, b.freshL hp⟩
end
end QL

/-! QAT: new tuples, told as whole objects: they have no dict of their own. -/
namespace QL
open PySem PySem.Spec PyProof.Rows L2
/-- a new tuple: its object is known -/
abbrev newT (H : Hp) (p : Addr) (xs : List V) (Q : VK) : Prop := ∀ o : Obj, o.dict = none → Q (.ref p) (upd H p (.frz o (.tup xs)))
section
variable {X : Cx}
theorem ep_newT {pins : List (Addr × Obj)} {σ : L2.St} {H : Hp} {s : Shared} {its : List Value} {xs : List V} {Q : VK} (I : Inv X pins σ H s) (r : Vals xs its) (hz : xs.length ≤ sizeLine) (q : ∀ p, H p = none → newT H p xs Q) :
    EP X pins σ Q (.ref s.heap.objs.size) { s with heap := s.heap.push { cls := .type "tuple", data := .seq its.toArray } } := by
  refine ⟨.ref s.heap.objs.size, _, I.laid (t' := s.toks) (o := .frz { cls := .type "tuple", data := .seq its.toArray } (.tup xs)) (fun b ob q => Heap.get?_push_of_some _ q) (Nat.le_refl _) ?_, rfl, q _ (I.hok.fresh (Nat.le_refl _)) _ rfl⟩
  exact ⟨Heap.get?_push_size _ rfl, hz, its, r, IsTup.new _ _⟩
def tTupF (t : TA) : TE := fun σ H Q => t σ H fun xs H1 => xs.length ≤ sizeLine ∧ ∀ p, H1 p = none → newT H1 p xs Q
variable {e : Expr} {es : List Expr} {te : TE} {t : TA} {pos : Pos}
theorem pe_tupF {x1} (h : PA X es t) : PE X (.Tuple es x1 pos) (tTupF t) :=
  ⟨fun pins s σ H Q I hq => wpAny_Tuple_spliced (thn (h.run pos pins s σ H _ I hq) fun us s1 ⟨xs, H1, I1, r, z, q⟩ => ⟨by rw [← r.length]; exact z, ep_newT I1 r z q⟩)⟩
theorem call_tupF : CallR X (.type "tuple") (fun xs H Q => ∃ p ys, xs = [.ref p] ∧ ((SqL X.K H p ys ∧ ∀ l, H l = none → newT H l ys Q) ∨ (SqT X.K H p ys ∧ Q (.ref p) H))) := by
  rintro pins s σ H xs us Q I r ⟨p, ys, rfl, h⟩
  obtain ⟨u, rfl, rx⟩ := vals1 r
  cases rx
  rcases h with ⟨hq, q⟩ | ⟨hq, q⟩
  · obtain ⟨its, r', pl, hz⟩ := I.list hq
    have hlen := r'.length
    exact call_tuple_list pl.isList (fun h' kp => ep_newT (I.kept (t' := s.toks) kp) r' hz q) (by simp only [List.size_toArray] <;> omega)
  · obtain ⟨its, _, pl, _⟩ := I.tuple hq
    exact call_tuple_same pl ⟨.ref p, H, I, rfl, q⟩
/-- t + u -/
theorem op_catF : OpR X (binaryOp .Add) (fun x y H Q => ∃ a b xs ys, x = .ref a ∧ y = .ref b ∧ SqT X.K H a xs ∧ SqT X.K H b ys ∧ xs.length + ys.length ≤ sizeLine ∧
    (xs = [] → Q (.ref b) H) ∧ (xs ≠ [] → ys = [] → Q (.ref a) H) ∧ (xs ≠ [] → ys ≠ [] → ∀ p, H p = none → newT H p (xs ++ ys) Q)) := by
  rintro pins s σ H x y v u Q I rx ry ⟨a, b, xs, ys, rfl, rfl, ha, hb, hz, q0, q1, q2⟩
  cases rx
  cases ry
  obtain ⟨its, r1, p1, _⟩ := I.tuple ha
  obtain ⟨its2, r2, p2, _⟩ := I.tuple hb
  by_cases hx : xs = []
  · subst hx
    cases r1
    exact cat_tup0 p1 p2 ⟨.ref b, H, I, rfl, q0 rfl⟩
  · exact HT.cat_tup p1 p2 (fun z => hx (r1.nil_iff.mp z)) (fun z => ⟨.ref a, H, I, rfl, q1 hx (r2.nil_iff.mp z)⟩) (fun z => ep_newT I (r1.append r2) (by rw [List.length_append]; exact hz) (q2 hx fun w => z (r2.nil_iff.mpr w))) (by rw [← r1.length, ← r2.length]; exact hz)
/-- t[lo:hi] -/
theorem sl_tupF : SlR X (fun x lo hi H Q => ∃ a xs, x = .ref a ∧ SqT X.K H a xs ∧
    (HT.sIx xs.length 0 lo = 0 ∧ HT.sIx xs.length xs.length hi = xs.length → Q (.ref a) H) ∧ (¬ (HT.sIx xs.length 0 lo = 0 ∧ HT.sIx xs.length xs.length hi = xs.length) → ∀ p, H p = none → newT H p (cutV xs lo hi) Q)) := by
  rintro pins s σ H x v vl vu lo hi sl Q I rx hs pl pu ⟨a, xs, rfl, hx, q1, q2⟩
  cases rx
  obtain ⟨its, r, ht, hz⟩ := I.tuple hx
  have hlen : its.toArray.size = xs.length := by rw [List.size_toArray]; exact r.length.symm
  refine ⟨"tuple", _, PyProof.Rows.slot_tuple_getitem.lookup, ht.typeIs, ?_⟩
  by_cases hw : HT.sIx xs.length 0 lo = 0 ∧ HT.sIx xs.length xs.length hi = xs.length
  · exact getItem_tuple_whole ht hs pl pu (by rw [hlen]; exact hw) ⟨.ref a, H, I, rfl, q1 hw⟩
  · refine HT.getItem_tuple_cut ht hs pl pu (by rw [hlen]; exact hw) ?_ (by rw [hlen]; exact hz)
    rw [hlen]
    exact ep_newT I ((r.drop (HT.sIx xs.length 0 lo)).take (HT.sIx xs.length xs.length hi - HT.sIx xs.length 0 lo)) (Nat.le_trans (cutV_length xs lo hi) hz) (q2 hw)
end
end QL

namespace QL
open PySem PySem.Spec PyProof.Rows L2

def AVR (C : Ct) (L Mo : List Addr) (H : Hp) : AV → V → Prop
  | .d x, v => Dq C.K (C.hd L Mo H) v x
  | .o j, v => ∃ l, Mo[j]? = some l ∧ v = .ref l
  | .src, v => ∃ d c, L = [d, c] ∧ v = .ref d
  | .cells, v => ∃ d c, L = [d, c] ∧ v = .ref c
  | .scr ns, v => ∃ a, v = .ref a ∧ SqL C.K (C.hd L Mo H) a (ns.map V.int)
  | .kt ks, v => ∃ a, v = .ref a ∧ C.hd L Mo H a = some (.tup (ks.map kV))
  | .dt kvs, v => ∃ a ys, v = .ref a ∧ C.hd L Mo H a = some (.dT ys) ∧ KQ C.K (C.hd L Mo H) ys kvs
  | .xt kvs, v => ∃ a xs, v = .ref a ∧ C.hd L Mo H a = some (.ext (XD xs a)) ∧ XQ C.K (C.hd L Mo H) xs kvs
  | .hx f, v => ∃ a, v = .ref a ∧ C.hd L Mo H a = some (f a)
  | .ty n, v => v = .ty n
  | .ad a, v => v = .ref a
abbrev AVRs (C : Ct) (L Mo : List Addr) (H : Hp) : List AV → List V → Prop := Paired (AVR C L Mo H)
section
variable {C : Ct} {m m' : Mm} {L Mo L' Mo' L2 Mo2 : List Addr} {H H' H2 : Hp} {av : AV} {v : V}
theorem AVR.mono (h : AVR C L Mo H av v) (x : X2 C L Mo H L' Mo' H') : AVR C L' Mo' H' av v := by
  cases av with
  | d y => exact Dq.mono x.sm _ _ h
  | o j =>
    obtain ⟨l, h1, rfl⟩ := h
    obtain ⟨t, rfl⟩ := x.po
    exact ⟨l, by rw [List.getElem?_append_left (List.getElem?_eq_some_iff.mp h1).1]; exact h1, rfl⟩
  | src =>
    obtain ⟨d, c, e, rfl⟩ := h
    rcases x.pl with z | z
    · rw [z] at e; cases e
    · exact ⟨d, c, z.trans e, rfl⟩
  | cells =>
    obtain ⟨d, c, e, rfl⟩ := h
    rcases x.pl with z | z
    · rw [z] at e; cases e
    · exact ⟨d, c, z.trans e, rfl⟩
  | scr ns =>
    obtain ⟨a, rfl, h⟩ := h
    exact ⟨a, rfl, x.sm.seq h⟩
  | kt ks =>
    obtain ⟨a, rfl, h⟩ := h
    exact ⟨a, rfl, x.sm _ _ h⟩
  | dt kvs =>
    obtain ⟨a, ys, rfl, h, h2⟩ := h
    exact ⟨a, ys, rfl, x.sm _ _ h, h2.mono x.sm⟩
  | xt kvs =>
    obtain ⟨a, ys, rfl, h, h2⟩ := h
    exact ⟨a, ys, rfl, x.sm _ _ h, h2.mono x.sm⟩
  | hx f =>
    obtain ⟨a, rfl, h⟩ := h
    exact ⟨a, rfl, x.sm _ _ h⟩
  | ty n => exact h
  | ad a => exact h
theorem AVRs.mono {avs : List AV} {vs : List V} (h : AVRs C L Mo H avs vs) (x : X2 C L Mo H L' Mo' H') : AVRs C L' Mo' H' avs vs := Paired.mapP h fun _ _ q => q.mono x
end
structure R (C : Ct) (a : AS) (L Mo : List Addr) (σ : List (Option V)) (H : Hp) : Prop where
  b : B C a.m L Mo H
  ln : a.g.length = σ.length
  sl : ∀ (i : Nat) (av : AV), a.g[i]? = some (some av) → ∃ v, σ[i]? = some (some v) ∧ AVR C L Mo H av v
section
variable {C : Ct} {a : AS} {m' : Mm} {L Mo L' Mo' : List Addr} {σ : List (Option V)} {H H' : Hp} {av : AV} {v : V}
theorem R.next (r : R C a L Mo σ H) (b : B C m' L' Mo' H') (x : X2 C L Mo H L' Mo' H') : R C ⟨a.g, m'⟩ L' Mo' σ H' :=
  ⟨b, r.ln, fun i av h => let ⟨v, h1, h2⟩ := r.sl i av h; ⟨v, h1, h2.mono x⟩⟩
theorem R.set (r : R C a L Mo σ H) (i : Nat) (h : AVR C L Mo H av v) : R C ⟨a.g.set i (some av), a.m⟩ L Mo (σ.set i (some v)) H := by
  refine ⟨r.b, by simp [r.ln], fun j av' e => ?_⟩
  have e' : (a.g.set i (some av))[j]? = some (some av') := e
  by_cases hj : i = j
  · subst hj
    have hl : i < a.g.length := by
      have := (List.getElem?_eq_some_iff.mp e').1
      simpa using this
    rw [List.getElem?_set_self hl] at e'
    cases e'
    exact ⟨v, List.getElem?_set_self (by rw [← r.ln]; exact hl), h⟩
  · rw [List.getElem?_set_ne hj] at e'
    obtain ⟨w, h1, h2⟩ := r.sl j av' e'
    exact ⟨w, by rw [List.getElem?_set_ne hj]; exact h1, h2⟩
end
abbrev ATE := AS → (AV → Mm → Prop) → Prop
abbrev ATA := AS → (List AV → Mm → Prop) → Prop
abbrev ATT := AS → (Bool → Mm → Prop) → Prop
abbrev AR1 := AV → Mm → (AV → Mm → Prop) → Prop
abbrev AR2 := AV → AV → Mm → (AV → Mm → Prop) → Prop
/-- what follows a value -/
def Cont (C : Ct) (L Mo : List Addr) (H : Hp) (AQ : AV → Mm → Prop) (Q : VK) : Prop := ∀ av m' v L' Mo' H', AQ av m' → B C m' L' Mo' H' → AVR C L' Mo' H' av v → X2 C L Mo H L' Mo' H' → Q v H'
def lft (C : Ct) (t : ATE) : TE := fun σ H Q => ∃ a L Mo AQ, R C a L Mo σ H ∧ Cont C L Mo H AQ Q ∧ t a AQ
def ContA (C : Ct) (L Mo : List Addr) (H : Hp) (AQ : List AV → Mm → Prop) (Q : List V → Hp → Prop) : Prop := ∀ av m' v L' Mo' H', AQ av m' → B C m' L' Mo' H' → AVRs C L' Mo' H' av v → X2 C L Mo H L' Mo' H' → Q v H'
def lftA (C : Ct) (t : ATA) : TA := fun σ H Q => ∃ a L Mo AQ, R C a L Mo σ H ∧ ContA C L Mo H AQ Q ∧ t a AQ
def ContT (C : Ct) (L Mo : List Addr) (H : Hp) (AQ : Bool → Mm → Prop) (Q : Bool → Hp → Prop) : Prop := ∀ b m' L' Mo' H', AQ b m' → B C m' L' Mo' H' → X2 C L Mo H L' Mo' H' → Q b H'
def lftT (C : Ct) (t : ATT) : TT := fun σ H Q => ∃ a L Mo AQ, R C a L Mo σ H ∧ ContT C L Mo H AQ Q ∧ t a AQ

theorem PE.imp {X : Cx} {e : Expr} {t t' : TE} (h : PE X e t) (i : ∀ σ H Q, t' σ H Q → t σ H Q) : PE X e t' := ⟨fun pins s σ H Q I q => h.run pins s σ H Q I (i σ H Q q)⟩
theorem PA.imp {X : Cx} {e : List Expr} {t t' : TA} (h : PA X e t) (i : ∀ σ H Q, t' σ H Q → t σ H Q) : PA X e t' := ⟨fun pos pins s σ H Q I q => h.run pos pins s σ H Q I (i σ H Q q)⟩
theorem PT.imp {X : Cx} {e : Expr} {t t' : TT} (h : PT X e t) (i : ∀ σ H Q, t' σ H Q → t σ H Q) : PT X e t' := ⟨fun pins s σ H Q I q => h.run pins s σ H Q I (i σ H Q q)⟩
theorem PW.imp {X : Cx} {e : Expr} {t t' : TT} (h : PW X e t) (i : ∀ σ H Q, t' σ H Q → t σ H Q) : PW X e t' := ⟨fun wh pins s σ H Q I q => h.run wh pins s σ H Q I (i σ H Q q)⟩

def QE (X : Cx) (e : Expr) (t : ATE) : Prop := ∀ C : Ct, C.K = X.K → PE X e (lft C t)
def QA (X : Cx) (e : List Expr) (t : ATA) : Prop := ∀ C : Ct, C.K = X.K → PA X e (lftA C t)
def QT (X : Cx) (e : Expr) (t : ATT) : Prop := ∀ C : Ct, C.K = X.K → PT X e (lftT C t)
def QW (X : Cx) (e : Expr) (t : ATT) : Prop := ∀ C : Ct, C.K = X.K → PW X e (lftT C t)
section
variable {C : Ct} {m : Mm} {L Mo L' Mo' : List Addr} {H H' : Hp} {AQ : AV → Mm → Prop} {Q : VK} {av : AV} {v : V}
theorem Cont.ret (k : Cont C L Mo H AQ Q) (h : AQ av m) (b : B C m L Mo H) (r : AVR C L Mo H av v) : Q v H := k _ _ _ _ _ _ h b r X2.refl
theorem Cont.aft (k : Cont C L Mo H AQ Q) (x : X2 C L Mo H L' Mo' H') : Cont C L' Mo' H' AQ Q := fun av m' v L2 Mo2 H2 h b r y => k av m' v L2 Mo2 H2 h b r (x.trans y)
theorem hd_new {p : Addr} {o : HO} (b : B C m L Mo H) (hp : H p = none) : C.hd L Mo (upd H p o) p = some o := by
  rw [Ct.hd, hid_of (b.fresh hp)]; exact upd_same
theorem hd_frz {p : Addr} {o : Obj} {xs : List V} (b : B C m L Mo H) (hp : H p = none) : SqT C.K (C.hd L Mo (upd H p (.frz o (.tup xs)))) p xs := .inl (.inr ⟨o, hd_new b hp⟩)
theorem Cont.tup {p : Addr} {xs : List V} {ds : List D} (k : Cont C L Mo H AQ Q) (b : B C m L Mo H) (hp : H p = none) (r : DqAll C.K (C.hd L Mo H) xs ds) (h : AQ (.d (.tuple ds)) m) : newT H p xs Q := fun _ ho =>
  k _ _ _ _ _ _ h (b.alloc hp) (Dq.tup (hd_frz b hp) (fun _ => .inl ⟨_, _, hd_new b hp, ho⟩) (DqAll.mono (hd_upd hp) _ _ r)) (X2.alloc hp)
theorem Cont.lst {p : Addr} {xs : List V} {ds : List D} (k : Cont C L Mo H AQ Q) (b : B C m L Mo H) (hp : H p = none) (r : DqAll C.K (C.hd L Mo H) xs ds) (h : AQ (.d (.list ds)) m) : Q (.ref p) (upd H p (.lst xs)) :=
  k _ _ _ _ _ _ h (b.alloc hp) (Dq.lst (hd_new b hp) (DqAll.mono (hd_upd hp) _ _ r)) (X2.alloc hp)
/-- a new list as a local object -/
theorem Cont.lstM {p : Addr} {xs : List V} {ds : List D} (k : Cont C L Mo H AQ Q) (b : B C m L Mo H) (hp : H p = none) (r : DqAll C.K (C.hd L Mo H) xs ds) (h : AQ (.o m.o.length) ⟨m.s, m.o ++ [.l ds]⟩) : Q (.ref p) (upd H p (.lst xs)) :=
  k _ _ _ _ _ _ h (b.allocO (o := .l ds) hp fun h' e => ⟨xs, upd_same, DqAll.mono e _ _ r⟩) ⟨p, by rw [Paired.length b.ob]; simp, rfl⟩ (X2.allocO hp)
end

/-! ### names, constants -/
def slotA : List (Option AV) → Nat → Option AV
  | [], _ => none
  | o :: _, 0 => o
  | _ :: r, i + 1 => slotA r i
def aVar (i : Nat) : ATE := fun a Q => match slotA a.g i with
  | some av => Q av a.m
  | none => False
def aC (x : D) : ATE := fun a Q => Q (.d x) a.m
theorem slotA_get : ∀ {g : List (Option AV)} {i : Nat} {av : AV}, slotA g i = some av → g[i]? = some (some av)
  | [], _, _, h => by simp [slotA] at h
  | o :: _, 0, _, h => by simp [slotA] at h; simp [h]
  | _ :: r, i + 1, _, h => by
    simp only [slotA] at h
    simpa using slotA_get (g := r) (i := i) h
section
variable {X : Cx} {C : Ct} {e a b c : Expr} {ta tb tc : ATE} {pos : Pos}
theorem q_var {i : Nat} {x : Str} (hN : X.N[i]? = some x) (hv : Vis X.env.scope x) (hd : (x == ("__debug__" : Str)) = false := by decide) (hcd : (x == ("__classdict__" : Str)) = false := by decide) : QE X (.Name x pos) (aVar i) := fun C hK =>
  PE.imp (pe_var hN hv hd hcd) fun σ H Q ⟨a, L, Mo, AQ, r, k, h⟩ => by
    unfold aVar at h
    split at h
    · rename_i av e
      obtain ⟨v, h1, h2⟩ := r.sl i av (slotA_get e)
      exact ⟨v, h1, k.ret h r.b h2⟩
    · exact h.elim
theorem q_of {v : V} {x : D} (h : PE X e (tC v)) (hd : ∀ H, Dq X.K H v x) : QE X e (aC x) := fun C hK =>
  PE.imp h fun σ H Q ⟨a, L, Mo, AQ, r, k, h⟩ => k.ret h r.b (by rw [AVR, hK]; exact hd _)
theorem q_int {i j} : QE X (.Constant (.int i) j pos) (aC (.int i)) := q_of pe_int fun _ => .int i
theorem q_bl {i j} : QE X (.Constant (.bool i) j pos) (aC (.bool i)) := q_of pe_bl fun _ => .bl i
theorem q_non {j} : QE X (.Constant .none j pos) (aC .none) := q_of pe_non fun _ => .non
theorem q_str {i j} : QE X (.Constant (.str i) j pos) (aC (.str i)) := q_of pe_str fun _ => .str i
/-- a module's constant -/
theorem q_glob {x : Str} {v : V} {u : Value} {d : D} (hg : Gl X x) (hm : X.mg x = some u) (r : RelV v u) (hd : ∀ H, Dq X.K H v d) (hdb : (x == ("__debug__" : Str)) = false := by decide) : QE X (.Name x pos) (aC d) := q_of (pe_glob hg hm r hdb) hd

/-! ### operators -/
def aBin (r : AR2) (ta tb : ATE) : ATE := fun a Q => ta a fun x m1 => tb ⟨a.g, m1⟩ fun y m2 => r x y m2 Q
def OpQ (X : Cx) (f : Value → Value → Sem Value) (r : AR2) : Prop := ∃ r2, OpR X f r2 ∧ ∀ (C : Ct) L Mo H m x y v w Q AQ, C.K = X.K → B C m L Mo H → AVR C L Mo H x v → AVR C L Mo H y w → Cont C L Mo H AQ Q → r x y m AQ → r2 v w H Q
theorem bin_imp {r : AR2} {r2 : R2} (hK : C.K = X.K) (ho : ∀ (C : Ct) L Mo H m x y v w Q AQ, C.K = X.K → B C m L Mo H → AVR C L Mo H x v → AVR C L Mo H y w → Cont C L Mo H AQ Q → r x y m AQ → r2 v w H Q) (σ : List (Option V)) (H : Hp) (Q : VK)
    (h : lft C (aBin r ta tb) σ H Q) : tOp r2 (lft C ta) (lft C tb) σ H Q := by
  obtain ⟨a, L, Mo, AQ, rr, k, h⟩ := h
  exact ⟨a, L, Mo, _, rr, fun x m1 v L1 Mo1 H1 h1 b1 v1 e1 => ⟨⟨a.g, m1⟩, L1, Mo1, _, rr.next b1 e1, fun y m2 w L2 Mo2 H2 h2 b2 w2 e2 => ho C L2 Mo2 H2 m2 x y v w Q AQ hK b2 (v1.mono e2) w2 (k.aft (e1.trans e2)) h2, h1⟩, h⟩
theorem q_op {op : Operator} {r : AR2} (o : OpQ X (binaryOp op) r) (ha : QE X a ta) (hb : QE X b tb) : QE X (.BinOp a op b pos) (aBin r ta tb) := fun C hK => by
  obtain ⟨r2, ho, hi⟩ := o
  exact PE.imp (pe_op ho (ha C hK) (hb C hK)) (bin_imp hK hi)
theorem q_cmp {op : CmpOp} {r : AR2} (o : OpQ X (compareOp op) r) (ha : QE X a ta) (hb : QE X b tb) (hm : behindInMarks op b = false) : QE X (.Compare a [op] [b] pos) (aBin r ta tb) := fun C hK => by
  obtain ⟨r2, ho, hi⟩ := o
  exact PE.imp (pe_cmpR ho (ha C hK) (hb C hK) hm) (bin_imp hK hi)
/-- tests -/
def isB : AV → Option Bool
  | .d (.bool b) => some b
  | _ => none
def aTest (t : ATE) : ATT := fun a Q => t a fun x m => match isB x with
  | some b => Q b m
  | none => False
theorem isB_rel {L Mo : List Addr} {H : Hp} {x : AV} {v : V} {b : Bool} (h : isB x = some b) (r : AVR C L Mo H x v) : v = .bl b := by
  cases x with
  | d y =>
    cases y <;> simp [isB] at h
    subst h
    cases r; rfl
  | o j => simp [isB] at h
  | src => simp [isB] at h
  | cells => simp [isB] at h
  | scr ns => simp [isB] at h
  | kt ks => simp [isB] at h
  | dt ks => simp [isB] at h
  | xt ks => simp [isB] at h
  | hx ks => simp [isB] at h
  | ty ks => simp [isB] at h
  | ad ks => simp [isB] at h
theorem test_imp (σ : List (Option V)) (H : Hp) (Q : Bool → Hp → Prop) (h : lftT C (aTest ta) σ H Q) : tTest (lft C ta) σ H Q := by
  obtain ⟨a, L, Mo, AQ, rr, k, h⟩ := h
  refine ⟨a, L, Mo, _, rr, fun x m1 v L1 Mo1 H1 h1 b1 v1 e1 => ?_, h⟩
  have h1' : (match isB x with | some b => AQ b m1 | none => False) := h1
  split at h1'
  · rename_i b e
    exact ⟨b, isB_rel e v1, k _ _ _ _ _ h1' b1 e1⟩
  · exact h1'.elim
theorem qt_cmp {op : CmpOp} {r : AR2} (o : OpQ X (compareOp op) r) (ha : QE X a ta) (hb : QE X b tb) (hm : behindInMarks op b = false) : QT X (.Compare a [op] [b] pos) (aTest (aBin r ta tb)) := fun C hK => by
  obtain ⟨r2, ho, hi⟩ := o
  refine PT.imp (pt_cmpR ho (ha C hK) (hb C hK) hm) fun σ H Q h => ?_
  obtain ⟨a, L, Mo, AQ, rr, k, h⟩ := test_imp σ H Q h
  exact bin_imp hK hi σ H _ ⟨a, L, Mo, AQ, rr, k, h⟩
/-- a op1 b op2 c -/
def aChain (r r' : AR2) (ta tb tc : ATE) : ATE := fun a Q => ta a fun x m1 => tb ⟨a.g, m1⟩ fun y m2 => r x y m2 fun z m3 => match isB z with
  | some k => if k = true then tc ⟨a.g, m3⟩ fun w m4 => r' y w m4 Q else Q (.d (.bool false)) m3
  | none => False
theorem chain_imp {r r' : AR2} {r2 r2' : R2} (hK : C.K = X.K) (ho : ∀ (C : Ct) L Mo H m x y v w Q AQ, C.K = X.K → B C m L Mo H → AVR C L Mo H x v → AVR C L Mo H y w → Cont C L Mo H AQ Q → r x y m AQ → r2 v w H Q)
    (ho' : ∀ (C : Ct) L Mo H m x y v w Q AQ, C.K = X.K → B C m L Mo H → AVR C L Mo H x v → AVR C L Mo H y w → Cont C L Mo H AQ Q → r' x y m AQ → r2' v w H Q) (σ : List (Option V)) (H : Hp) (Q : VK)
    (h : lft C (aChain r r' ta tb tc) σ H Q) : tChain r2 r2' (lft C ta) (lft C tb) (lft C tc) σ H Q := by
  obtain ⟨a, L, Mo, AQ, rr, k, h⟩ := h
  refine ⟨a, L, Mo, _, rr, fun x m1 v L1 Mo1 H1 h1 b1 v1 e1 => ⟨⟨a.g, m1⟩, L1, Mo1, _, rr.next b1 e1, fun y m2 w L2 Mo2 H2 h2 b2 w2 e2 => ?_, h1⟩, h⟩
  refine ho C L2 Mo2 H2 m2 x y v w _ _ hK b2 (v1.mono e2) w2 (fun z m3 vz L3 Mo3 H3 h3 b3 v3 e3 => ?_) h2
  have h3' : (match isB z with | some k => if k = true then tc ⟨a.g, m3⟩ fun w m4 => r' y w m4 AQ else AQ (.d (.bool false)) m3 | none => False) := h3
  split at h3'
  · rename_i kk ek
    refine ⟨kk, isB_rel ek v3, ?_⟩
    cases kk with
    | true =>
      rw [if_pos rfl] at h3' ⊢
      exact ⟨⟨a.g, m3⟩, L3, Mo3, _, (rr.next b1 e1).next b3 (e2.trans e3), fun u m4 vu L4 Mo4 H4 h4 b4 v4 e4 => ho' C L4 Mo4 H4 m4 y u w vu Q AQ hK b4 (w2.mono (e3.trans e4)) v4 (k.aft (e1.trans (e2.trans (e3.trans e4)))) h4, h3'⟩
    | false =>
      rw [if_neg Bool.false_ne_true] at h3' ⊢
      exact (k.aft (e1.trans (e2.trans e3))).ret h3' b3 (.bl false)
  · exact h3'.elim
theorem q_chain {op op' : CmpOp} {r r' : AR2} (o : OpQ X (compareOp op) r) (o' : OpQ X (compareOp op') r') (ha : QE X a ta) (hb : QE X b tb) (hc : QE X c tc) (hm : lastMarks [op, op'] [b, c] = false) :
    QE X (.Compare a [op, op'] [b, c] pos) (aChain r r' ta tb tc) := fun C hK => by
  obtain ⟨r2, ho, hi⟩ := o
  obtain ⟨r3, ho', hi'⟩ := o'
  exact PE.imp (pe_chain ho ho' (ha C hK) (hb C hK) (hc C hK) hm) (chain_imp hK hi hi')
theorem qt_chain {op op' : CmpOp} {r r' : AR2} (o : OpQ X (compareOp op) r) (o' : OpQ X (compareOp op') r') (ha : QE X a ta) (hb : QE X b tb) (hc : QE X c tc) (hm : lastMarks [op, op'] [b, c] = false) :
    QT X (.Compare a [op, op'] [b, c] pos) (aTest (aChain r r' ta tb tc)) := fun C hK => by
  obtain ⟨r2, ho, hi⟩ := o
  obtain ⟨r3, ho', hi'⟩ := o'
  refine PT.imp (pt_chain ho ho' (ha C hK) (hb C hK) (hc C hK) hm) fun σ H Q h => ?_
  obtain ⟨a, L, Mo, AQ, rr, k, h⟩ := test_imp σ H Q h
  exact chain_imp hK hi hi' σ H _ ⟨a, L, Mo, AQ, rr, k, h⟩
end
end QL

namespace QL
open PySem PySem.Spec PyProof.Rows L2

/-! ### what an abstract value holds -/
def lstA (m : Mm) : AV → Option (List D)
  | .d (.list ds) => some ds
  | .o j => match m.o[j]? with
    | some (.l ds) => some ds
    | _ => none
  | .cells => match m.s with
    | some S => some (S.cells.map PyData.int)
    | none => none
  | _ => none
def tupA : AV → Option (List D)
  | .d (.tuple ds) => some ds
  | _ => none
def seqA (m : Mm) (x : AV) : Option (List D) := match tupA x with
  | some ds => some ds
  | none => lstA m x
section
variable {C : Ct} {m : Mm} {L Mo : List Addr} {H : Hp} {x : AV} {v : V} {ds : List D}
theorem dq_hid (h : DqAll C.K (C.hd L Mo H) [] []) : True := trivial
theorem lstA_ok (b : B C m L Mo H) (r : AVR C L Mo H x v) (h : lstA m x = some ds) : ∃ l xs, v = .ref l ∧ H l = some (.lst xs) ∧ DqAll C.K (C.hd L Mo H) xs ds := by
  cases x with
  | d y =>
    cases y <;> simp [lstA] at h
    subst h
    cases r with
    | lst h1 h2 => exact ⟨_, _, rfl, (hid_some h1).2, h2⟩
  | o j =>
    simp only [lstA] at h
    split at h
    · rename_i ds' e
      cases h
      obtain ⟨l, h1, rfl⟩ := r
      obtain ⟨l', h2, xs, h3, h4⟩ := paired_at b.ob e
      rw [h1] at h2; cases h2
      exact ⟨l, xs, rfl, h3, h4⟩
    · cases h
  | src => simp [lstA] at h
  | scr ns => simp [lstA] at h
  | kt ns => simp [lstA] at h
  | dt ns => simp [lstA] at h
  | xt ns => simp [lstA] at h
  | hx ns => simp [lstA] at h
  | ty ns => simp [lstA] at h
  | ad ns => simp [lstA] at h
  | cells =>
    simp only [lstA] at h
    split at h
    · rename_i S e
      cases h
      obtain ⟨d, c, h1, rfl⟩ := r
      have q := b.sr
      rw [e] at q
      obtain ⟨d', c', h2, h3, h4⟩ := q
      rw [h1] at h2; cases h2
      exact ⟨c, _, rfl, h4, DqAll.ofInts _⟩
    · cases h
theorem tupA_ok (r : AVR C L Mo H x v) (h : tupA x = some ds) : ∃ l xs, v = .ref l ∧ SqT C.K H l xs ∧ DqAll C.K (C.hd L Mo H) xs ds := by
  cases x with
  | d y =>
    cases y <;> simp [tupA] at h
    subst h
    cases r with
    | tup h1 _ h2 => exact ⟨_, _, rfl, same_tup hid_same h1, h2⟩
  | o j => simp [tupA] at h
  | src => simp [tupA] at h
  | cells => simp [tupA] at h
  | scr ns => simp [tupA] at h
  | kt ns => simp [tupA] at h
  | dt ns => simp [tupA] at h
  | xt ns => simp [tupA] at h
  | hx ns => simp [tupA] at h
  | ty ns => simp [tupA] at h
  | ad ns => simp [tupA] at h
theorem seqA_ok (b : B C m L Mo H) (r : AVR C L Mo H x v) (h : seqA m x = some ds) : ∃ l xs, v = .ref l ∧ (SqL C.K H l xs ∨ SqT C.K H l xs) ∧ DqAll C.K (C.hd L Mo H) xs ds := by
  unfold seqA at h
  split at h
  · rename_i ds' e
    cases h
    obtain ⟨l, xs, h1, h2, h3⟩ := tupA_ok r e
    exact ⟨l, xs, h1, .inr h2, h3⟩
  · obtain ⟨l, xs, h1, h2, h3⟩ := lstA_ok b r h
    exact ⟨l, xs, h1, .inl (SqL.of h2), h3⟩
end
theorem dq_int {K : PySem.W.Frag} {H : Hp} {v : V} {i : Int} (h : Dq K H v (.int i)) : v = .int i := by cases h; rfl
theorem dq_str {K : PySem.W.Frag} {H : Hp} {v : V} {i : Str} (h : Dq K H v (.str i)) : v = .str i := by cases h; rfl
theorem dq_bl {K : PySem.W.Frag} {H : Hp} {v : V} {i : Bool} (h : Dq K H v (.bool i)) : v = .bl i := by cases h; rfl

/-! ### operators -/
def intsR (c : Int → Int → Prop) (g : Int → Int → D) : AR2 := fun x y m Q => match x, y with
  | .d (.int i), .d (.int j) => c i j ∧ Q (.d (g i j)) m
  | _, _ => False
def intsR0 (g : Int → Int → D) : AR2 := fun x y m Q => match x, y with
  | .d (.int i), .d (.int j) => Q (.d (g i j)) m
  | _, _ => False
section
variable {X : Cx}
theorem opq_ints {f : Value → Value → Sem Value} {c : Int → Int → Prop} {g : Int → Int → V} {g' : Int → Int → D} (h : OpR X f (rI c g)) (hg : ∀ i j K H, Dq K H (g i j) (g' i j)) : OpQ X f (intsR c g') := by
  refine ⟨_, h, fun C L Mo H m x y v w Q AQ hK b r1 r2 k hh => ?_⟩
  unfold intsR at hh
  split at hh
  · exact ⟨_, _, dq_int r1, dq_int r2, hh.1, k.ret hh.2 b (hg _ _ _ _)⟩
  · exact hh.elim
theorem opq_ints0 {f : Value → Value → Sem Value} {g : Int → Int → V} {g' : Int → Int → D} (h : OpR X f (rI0 g)) (hg : ∀ i j K H, Dq K H (g i j) (g' i j)) : OpQ X f (intsR0 g') := by
  refine ⟨_, h, fun C L Mo H m x y v w Q AQ hK b r1 r2 k hh => ?_⟩
  unfold intsR0 at hh
  split at hh
  · exact ⟨_, _, dq_int r1, dq_int r2, k.ret hh b (hg _ _ _ _)⟩
  · exact hh.elim
def aSub : AR2 := intsR0 fun i j => .int (i - j)
theorem oq_sub : OpQ X (binaryOp .Sub) aSub := opq_ints0 op_sub fun _ _ _ _ => .int _
def aMod : AR2 := intsR (fun _ j => 0 < j) fun i j => .int (i % j)
theorem oq_mod : OpQ X (binaryOp .Mod) aMod := opq_ints op_mod fun _ _ _ _ => .int _
def DivOk (i j : Int) : Prop := CDiv i j ∨ CDivW i j
theorem rI_or {f : Value → Value → Sem Value} {c c' : Int → Int → Prop} {g : Int → Int → V} (h : OpR X f (rI c g)) (h' : OpR X f (rI c' g)) : OpR X f (rI (fun i j => c i j ∨ c' i j) g) := by
  intro pins s σ H x y v u Q I rx ry ⟨i, j, e1, e2, hc, q⟩
  rcases hc with hc | hc
  · exact h pins s σ H x y v u Q I rx ry ⟨i, j, e1, e2, hc, q⟩
  · exact h' pins s σ H x y v u Q I rx ry ⟨i, j, e1, e2, hc, q⟩
def aFdiv : AR2 := intsR DivOk fun i j => .int (i / j)
theorem oq_fdiv : OpQ X (binaryOp .FloorDiv) aFdiv := opq_ints (rI_or op_fdiv op_fdivW) fun _ _ _ _ => .int _
def aPow : AR2 := intsR CPow fun i j => .int (i ^ j.toNat)
theorem oq_pow : OpQ X (binaryOp .Pow) aPow := opq_ints op_pow fun _ _ _ _ => .int _
def aLt : AR2 := intsR0 fun i j => .bool (decide (i < j))
def aLe : AR2 := intsR0 fun i j => .bool (decide (i ≤ j))
def aGt : AR2 := intsR0 fun i j => .bool (decide (j < i))
def aGe : AR2 := intsR0 fun i j => .bool (decide (j ≤ i))
theorem oq_lt : OpQ X (compareOp .Lt) aLt := opq_ints0 op_lt fun _ _ _ _ => .bl _
theorem oq_le : OpQ X (compareOp .LtE) aLe := opq_ints0 op_le fun _ _ _ _ => .bl _
theorem oq_gt : OpQ X (compareOp .Gt) aGt := opq_ints0 op_gt fun _ _ _ _ => .bl _
theorem oq_ge : OpQ X (compareOp .GtE) aGe := opq_ints0 op_ge fun _ _ _ _ => .bl _
/-- == of data (a local list as its items) -/
def datA (m : Mm) : AV → Option D
  | .d x => some x
  | .o j => match m.o[j]? with
    | some (.l ds) => some (.list ds)
    | _ => none
  | .kt (k :: ks) => some (.tuple (kD k :: ks.map kD))
  | _ => none
theorem ndNeed_keys (k : Key) (ds : List D) : NdNeed (kD k :: ds) = false := by cases k <;> rfl
theorem DqAll.keys {K : PySem.W.Frag} {H : Hp} : ∀ ks : List Key, DqAll K H (ks.map kV) (ks.map kD)
  | [] => .nil
  | .inl i :: r => .cons (.int i) (DqAll.keys r)
  | .inr x :: r => .cons (.str x) (DqAll.keys r)
theorem datA_ok {C : Ct} {m : Mm} {L Mo : List Addr} {H : Hp} {x : AV} {v : V} {d : D} (b : B C m L Mo H) (r : AVR C L Mo H x v) (h : datA m x = some d) : Dq C.K H v d := by
  cases x with
  | d y => simp [datA] at h; subst h; exact Dq.mono hid_same _ _ r
  | o j =>
    simp only [datA] at h
    split at h
    · rename_i ds' e
      cases h
      obtain ⟨l, xs, rfl, h1, h2⟩ := lstA_ok (ds := ds') b r (by simp [lstA, e])
      exact .lst h1 (DqAll.mono hid_same _ _ h2)
    · cases h
  | src => simp [datA] at h
  | cells => simp [datA] at h
  | scr ns => simp [datA] at h
  | kt ns =>
    cases ns with
    | nil => simp [datA] at h
    | cons k ns =>
      simp [datA] at h
      subst h
      obtain ⟨a, rfl, q⟩ := r
      exact .tup (.inl (.inl (hid_some q).2)) (fun e => by rw [ndNeed_keys] at e; cases e) (DqAll.keys (k :: ns))
  | dt ns => simp [datA] at h
  | xt ns => simp [datA] at h
  | hx ns => simp [datA] at h
  | ty ns => simp [datA] at h
  | ad ns => simp [datA] at h
def aEq : AR2 := fun x y m Q => match datA m x, datA m y with
  | some (.int i), some (.int j) => Q (.d (.bool (decide (i = j)))) m
  | some (.str i), some (.str j) => Q (.d (.bool (decide (i = j)))) m
  | some d, some e => SeqAt.shaped d = true ∧ SeqAt.shaped e = true ∧ Q (.d (.bool (PyData.eqv d e))) m
  | _, _ => False
def aNe : AR2 := fun x y m Q => match datA m x, datA m y with
  | some (.int i), some (.int j) => Q (.d (.bool (!decide (i = j)))) m
  | some (.str i), some (.str j) => Q (.d (.bool (!decide (i = j)))) m
  | some d, some e => SeqAt.shaped d = true ∧ SeqAt.shaped e = true ∧ Q (.d (.bool (!PyData.eqv d e))) m
  | _, _ => False
theorem dec_i {i j : Int} : decide (V.int i = V.int j) = decide (i = j) := by by_cases h : i = j <;> simp [h]
theorem dec_s {i j : Str} : decide (V.str i = V.str j) = decide (i = j) := by by_cases h : i = j <;> simp [h]
theorem oq_eq (hu : X.A.units + 64 < cLine) : OpQ X (compareOp .Eq) aEq := by
  refine ⟨_, OpR.or op_eq (op_eqD hu), fun C L Mo H m x y v w Q AQ hK b r1 r2 k hh => ?_⟩
  unfold aEq at hh
  split at hh
  · rename_i i j e1 e2
    have q1 := dq_int (datA_ok b r1 e1); have q2 := dq_int (datA_ok b r2 e2)
    subst q1; subst q2
    exact .inl ⟨rfl, by rw [dec_i]; exact k.ret hh b (.bl _)⟩
  · rename_i i j e1 e2
    have q1 := dq_str (datA_ok b r1 e1); have q2 := dq_str (datA_ok b r2 e2)
    subst q1; subst q2
    exact .inl ⟨rfl, by rw [dec_s]; exact k.ret hh b (.bl _)⟩
  · rename_i d e _ _ e1 e2
    exact .inr ⟨d, e, Dq.toDp _ _ (shaped_noDict hh.1) (hK ▸ datA_ok b r1 e1), Dq.toDp _ _ (shaped_noDict hh.2.1) (hK ▸ datA_ok b r2 e2), hh.1, hh.2.1, k.ret hh.2.2 b (.bl _)⟩
  · exact hh.elim
theorem oq_ne (hu : X.A.units + 64 < cLine) : OpQ X (compareOp .NotEq) aNe := by
  refine ⟨_, OpR.or op_ne (op_neD hu), fun C L Mo H m x y v w Q AQ hK b r1 r2 k hh => ?_⟩
  unfold aNe at hh
  split at hh
  · rename_i i j e1 e2
    have q1 := dq_int (datA_ok b r1 e1); have q2 := dq_int (datA_ok b r2 e2)
    subst q1; subst q2
    exact .inl ⟨rfl, by rw [dec_i]; exact k.ret hh b (.bl _)⟩
  · rename_i i j e1 e2
    have q1 := dq_str (datA_ok b r1 e1); have q2 := dq_str (datA_ok b r2 e2)
    subst q1; subst q2
    exact .inl ⟨rfl, by rw [dec_s]; exact k.ret hh b (.bl _)⟩
  · rename_i d e _ _ e1 e2
    exact .inr ⟨d, e, Dq.toDp _ _ (shaped_noDict hh.1) (hK ▸ datA_ok b r1 e1), Dq.toDp _ _ (shaped_noDict hh.2.1) (hK ▸ datA_ok b r2 e2), hh.1, hh.2.1, k.ret hh.2.2 b (.bl _)⟩
  · exact hh.elim
/-- + -/
def aAdd : AR2 := fun x y m Q => match x, y with
  | .d (.int i), .d (.int j) => Q (.d (.int (i + j))) m
  | .d (.str i), .d (.str j) => i.length + j.length ≤ sizeLine ∧ Q (.d (.str (i ++ j))) m
  | .d (.tuple xs), .d (.tuple ys) => xs.length + ys.length ≤ sizeLine ∧ Q (.d (.tuple (xs ++ ys))) m
  | x, y => match lstA m x, lstA m y with
    | some xs, some ys => xs.length + ys.length ≤ sizeLine ∧ Q (.d (.list (xs ++ ys))) m
    | _, _ => False
theorem nil_of_len {xs : List V} {ds : List D} (h : xs.length = ds.length) (e : xs = []) : ds = [] := by subst e; exact List.length_eq_zero_iff.mp h.symm
theorem oq_add : OpQ X (binaryOp .Add) aAdd := by
  refine ⟨_, OpR.or op_add (OpR.or op_add_str (OpR.or op_catF op_cat)), fun C L Mo H m x y v w Q AQ hK b r1 r2 k hh => ?_⟩
  unfold aAdd at hh
  split at hh
  · exact .inl ⟨_, _, dq_int r1, dq_int r2, k.ret hh b (.int _)⟩
  · exact .inr (.inl ⟨_, _, dq_str r1, dq_str r2, hh.1, k.ret hh.2 b (.str _)⟩)
  · rename_i xs ys
    obtain ⟨l1, vs, rfl, h1, h2⟩ := tupA_ok (ds := xs) r1 rfl
    obtain ⟨l2, ws, rfl, h3, h4⟩ := tupA_ok (ds := ys) r2 rfl
    refine .inr (.inr (.inl ⟨l1, l2, vs, ws, rfl, rfl, hK ▸ h1, hK ▸ h3, by rw [h2.len, h4.len]; exact hh.1, fun e => ?_, fun _ e => ?_, fun _ _ p hp => k.tup b hp (h2.app h4) hh.2⟩))
    · have e' := nil_of_len h2.len e
      subst e'
      exact k.ret (by simpa using hh.2) b r2
    · have e' := nil_of_len h4.len e
      subst e'
      exact k.ret (by simpa using hh.2) b r1
  · split at hh
    · rename_i xs ys e1 e2
      obtain ⟨l1, vs, rfl, h1, h2⟩ := lstA_ok b r1 e1
      obtain ⟨l2, ws, rfl, h3, h4⟩ := lstA_ok b r2 e2
      exact .inr (.inr (.inr ⟨l1, l2, vs, ws, rfl, rfl, h1, h3, by rw [h2.len, h4.len]; exact hh.1, fun p hp => k.lst b hp (h2.app h4) hh.2⟩))
    · exact hh.elim
/-- * -/
def MulOk (i j : Int) : Prop := CMul i j ∨ CMulW i j
def aMul : AR2 := intsR MulOk fun i j => .int (i * j)
theorem oq_mul : OpQ X (binaryOp .Mult) aMul := opq_ints (rI_or op_mul op_mulW) fun _ _ _ _ => .int _
/-- a list or tuple of data at a place -/
def atD (ds : List D) (i : Int) : Option D := if 0 ≤ i then ds[i.toNat]? else if -(ds.length : Int) ≤ i then ds[(i + ds.length).toNat]? else none
theorem atD_at {K : PySem.W.Frag} {H : Hp} {ds : List D} {xs : List V} {i : Int} {d : D} (h : DqAll K H xs ds) (e : atD ds i = some d) : ∃ v, atI xs i = some v ∧ Dq K H v d := by
  unfold atD at e
  have hl := h.len
  unfold atI ixN
  by_cases h0 : 0 ≤ i
  · rw [if_pos h0] at e ⊢
    obtain ⟨v, h1, h2⟩ := h.at e
    have hlt : i.toNat < ds.length := (List.getElem?_eq_some_iff.mp e).1
    rw [if_pos (by omega)]
    exact ⟨v, by simpa using h1, h2⟩
  · rw [if_neg h0] at e ⊢
    split at e
    · rename_i h1
      obtain ⟨v, h2, h3⟩ := h.at e
      rw [if_pos (by omega)]
      exact ⟨v, by simpa [hl] using h2, h3⟩
    · cases e
def aIx : AR2 := fun x y m Q => match y with
  | .d (.int i) => match seqA m x with
    | some ds => match atD ds i with
      | some d => Q (.d d) m
      | none => False
    | none => False
  | _ => False
def IxQ (X : Cx) (r : AR2) : Prop := ∃ r2, IxR X r2 ∧ ∀ (C : Ct) L Mo H m x y v w Q AQ, C.K = X.K → B C m L Mo H → AVR C L Mo H x v → AVR C L Mo H y w → Cont C L Mo H AQ Q → r x y m AQ → r2 v w H Q
theorem iq_seq : IxQ X aIx := by
  refine ⟨_, ix_seq, fun C L Mo H m x y v w Q AQ hK b r1 r2 k hh => ?_⟩
  unfold aIx at hh
  split at hh
  · split at hh
    · rename_i ds e
      split at hh
      · rename_i d e2
        obtain ⟨l, xs, rfl, h1, h2⟩ := seqA_ok b r1 e
        obtain ⟨u, h3, h4⟩ := atD_at h2 e2
        rcases h1 with h1 | h1
        · exact .inl ⟨_, _, _, _, rfl, dq_int r2, hK ▸ h1, h3, k.ret hh b h4⟩
        · exact .inr (.inl ⟨_, _, _, _, rfl, dq_int r2, hK ▸ h1, h3, k.ret hh b h4⟩)
      · exact hh.elim
    · exact hh.elim
  · exact hh.elim
variable {C : Ct} {e a b c : Expr} {ta tb tc : ATE} {pos : Pos}
theorem q_ix {r : AR2} (o : IxQ X r) (ha : QE X a ta) (hb : QE X b tb) (hs : PlainIx b) : QE X (.Subscript a b pos) (aBin r ta tb) := fun C hK => by
  obtain ⟨r2, ho, hi⟩ := o
  exact PE.imp (pe_ix ho (ha C hK) (hb C hK) hs) (bin_imp hK hi)

/-! ### unary, tests -/
def aUn (r : AR1) (ta : ATE) : ATE := fun a Q => ta a fun x m1 => r x m1 Q
def aNeg : AR1 := fun x m Q => match x with
  | .d (.int i) => Q (.d (.int (-i))) m
  | _ => False
theorem q_neg (ha : QE X a ta) : QE X (.UnaryOp .USub a pos) (aUn aNeg ta) := fun C hK => PE.imp (pe_un un_neg (ha C hK)) fun σ H Q ⟨a, L, Mo, AQ, r, k, h⟩ => by
  refine ⟨a, L, Mo, _, r, fun x m1 v L1 Mo1 H1 h1 b1 v1 e1 => ?_, h⟩
  unfold aNeg at h1
  split at h1
  · exact ⟨_, dq_int v1, (k.aft e1).ret h1 b1 (.int _)⟩
  · exact h1.elim
def aNot (t : ATT) : ATT := fun a Q => t a fun b m => Q (!b) m
theorem qt_not {t : ATT} (h : QT X a t) : QT X (.UnaryOp .Not a pos) (aNot t) := fun C hK => PT.imp (pt_not (h C hK)) fun σ H Q ⟨a, L, Mo, AQ, r, k, h⟩ =>
  ⟨a, L, Mo, _, r, fun b m1 L1 Mo1 H1 h1 b1 e1 => k _ _ _ _ _ h1 b1 e1, h⟩
def aNotV (t : ATE) : ATE := fun a Q => t a fun x m => match isB x with
  | some b => Q (.d (.bool (!b))) m
  | none => False
theorem q_not (h : QE X a ta) : QE X (.UnaryOp .Not a pos) (aNotV ta) := fun C hK => PE.imp (pe_not (h C hK)) fun σ H Q ⟨a, L, Mo, AQ, r, k, h⟩ => by
  refine ⟨a, L, Mo, _, r, fun x m1 v L1 Mo1 H1 h1 b1 v1 e1 => ?_, h⟩
  have h1' : (match isB x with | some b => AQ (.d (.bool (!b))) m1 | none => False) := h1
  split at h1'
  · rename_i b e
    exact ⟨b, isB_rel e v1, (k.aft e1).ret h1' b1 (.bl _)⟩
  · exact h1'.elim
def aAnd (t u : ATT) : ATT := fun a Q => t a fun b m => if b = true then u ⟨a.g, m⟩ Q else Q false m
def aOr (t u : ATT) : ATT := fun a Q => t a fun b m => if b = true then Q true m else u ⟨a.g, m⟩ Q
theorem ContT.aft {L Mo L' Mo' : List Addr} {H H' : Hp} {AQ : Bool → Mm → Prop} {Q : Bool → Hp → Prop} (k : ContT C L Mo H AQ Q) (x : X2 C L Mo H L' Mo' H') : ContT C L' Mo' H' AQ Q := fun b m' L2 Mo2 H2 h b2 y => k b m' L2 Mo2 H2 h b2 (x.trans y)
variable {t u : ATT} {rest : List Expr}
theorem qw_and1 (h : QT X a t) : QW X (.BoolOp .And [a] pos) t := fun C hK => pw_and1 (h C hK)
theorem qw_or1 (h : QT X a t) : QW X (.BoolOp .Or [a] pos) t := fun C hK => pw_or1 (h C hK)
theorem qw_and (h : QT X a t) (h2 : QW X (.BoolOp .And (b :: rest) pos) u) : QW X (.BoolOp .And (a :: b :: rest) pos) (aAnd t u) := fun C hK => PW.imp (pw_and (h C hK) (h2 C hK)) fun σ H Q ⟨a, L, Mo, AQ, r, k, h⟩ => by
  refine ⟨a, L, Mo, _, r, fun b m1 L1 Mo1 H1 h1 b1 e1 => ?_, h⟩
  have h1' : if b = true then u ⟨a.g, m1⟩ AQ else AQ false m1 := h1
  cases b with
  | true => exact ⟨⟨a.g, m1⟩, L1, Mo1, AQ, r.next b1 e1, k.aft e1, h1'⟩
  | false => exact k _ _ _ _ _ h1' b1 e1
theorem qw_or (h : QT X a t) (h2 : QW X (.BoolOp .Or (b :: rest) pos) u) : QW X (.BoolOp .Or (a :: b :: rest) pos) (aOr t u) := fun C hK => PW.imp (pw_or (h C hK) (h2 C hK)) fun σ H Q ⟨a, L, Mo, AQ, r, k, h⟩ => by
  refine ⟨a, L, Mo, _, r, fun b m1 L1 Mo1 H1 h1 b1 e1 => ?_, h⟩
  have h1' : if b = true then AQ true m1 else u ⟨a.g, m1⟩ AQ := h1
  cases b with
  | false => exact ⟨⟨a.g, m1⟩, L1, Mo1, AQ, r.next b1 e1, k.aft e1, h1'⟩
  | true => exact k _ _ _ _ _ h1' b1 e1
theorem qt_w (h : QW X a t) : QT X a t := fun C hK => (h C hK).pt
/-- and, or as values: truth values but for the last -/
def aAndV (ta tb : ATE) : ATE := fun a Q => ta a fun x m => match isB x with
  | some c => if c = true then tb ⟨a.g, m⟩ Q else Q (.d (.bool false)) m
  | none => False
def aOrV (ta tb : ATE) : ATE := fun a Q => ta a fun x m => match isB x with
  | some c => if c = true then Q (.d (.bool true)) m else tb ⟨a.g, m⟩ Q
  | none => False
theorem q_one {op} (h : QE X a ta) : QE X (.BoolOp op [a] pos) ta := fun C hK => pe_one (h C hK)
theorem q_and (ha : QE X a ta) (hb : QE X (.BoolOp .And (b :: rest) pos) tb) : QE X (.BoolOp .And (a :: b :: rest) pos) (aAndV ta tb) := fun C hK => PE.imp (pe_and (ha C hK) (hb C hK)) fun σ H Q ⟨a, L, Mo, AQ, r, k, h⟩ => by
  refine ⟨a, L, Mo, _, r, fun x m1 v L1 Mo1 H1 h1 b1 v1 e1 => ?_, h⟩
  have h1' : (match isB x with | some c => if c = true then tb ⟨a.g, m1⟩ AQ else AQ (.d (.bool false)) m1 | none => False) := h1
  split at h1'
  · rename_i c e
    refine ⟨c, isB_rel e v1, ?_⟩
    cases c with
    | true => exact ⟨⟨a.g, m1⟩, L1, Mo1, AQ, r.next b1 e1, k.aft e1, h1'⟩
    | false => exact (k.aft e1).ret h1' b1 (.bl _)
  · exact h1'.elim
theorem q_or (ha : QE X a ta) (hb : QE X (.BoolOp .Or (b :: rest) pos) tb) : QE X (.BoolOp .Or (a :: b :: rest) pos) (aOrV ta tb) := fun C hK => PE.imp (pe_or (ha C hK) (hb C hK)) fun σ H Q ⟨a, L, Mo, AQ, r, k, h⟩ => by
  refine ⟨a, L, Mo, _, r, fun x m1 v L1 Mo1 H1 h1 b1 v1 e1 => ?_, h⟩
  have h1' : (match isB x with | some c => if c = true then AQ (.d (.bool true)) m1 else tb ⟨a.g, m1⟩ AQ | none => False) := h1
  split at h1'
  · rename_i c e
    refine ⟨c, isB_rel e v1, ?_⟩
    cases c with
    | false => exact ⟨⟨a.g, m1⟩, L1, Mo1, AQ, r.next b1 e1, k.aft e1, h1'⟩
    | true => exact (k.aft e1).ret h1' b1 (.bl _)
  · exact h1'.elim
def aIf (t : ATT) (ta tb : ATE) : ATE := fun a Q => t a fun b m => if b = true then ta ⟨a.g, m⟩ Q else tb ⟨a.g, m⟩ Q
theorem q_if (h : QT X c t) (ha : QE X a ta) (hb : QE X b tb) : QE X (.IfExp c a b pos) (aIf t ta tb) := fun C hK => PE.imp (pe_ifExp (h C hK) (ha C hK) (hb C hK)) fun σ H Q ⟨a, L, Mo, AQ, r, k, h⟩ => by
  refine ⟨a, L, Mo, _, r, fun b m1 L1 Mo1 H1 h1 b1 e1 => ?_, h⟩
  have h1' : if b = true then ta ⟨a.g, m1⟩ AQ else tb ⟨a.g, m1⟩ AQ := h1
  cases b with
  | true => exact ⟨⟨a.g, m1⟩, L1, Mo1, AQ, r.next b1 e1, k.aft e1, h1'⟩
  | false => exact ⟨⟨a.g, m1⟩, L1, Mo1, AQ, r.next b1 e1, k.aft e1, h1'⟩
/-- a value's truth -/
def truA (m : Mm) (x : AV) : Option Bool := match x with
  | .d .none => some false
  | .d (.bool b) => some b
  | .d (.int i) => some (i != 0)
  | x => match seqA m x with
    | some ds => some (!ds.isEmpty)
    | none => none
def aTru (t : ATE) : ATT := fun a Q => t a fun x m => match truA m x with
  | some b => Q b m
  | none => False
theorem isEmpty_len {α β : Type} {xs : List α} {ds : List β} (h : xs.length = ds.length) : xs.isEmpty = ds.isEmpty := by cases xs <;> cases ds <;> simp_all
theorem truA_ok {m : Mm} {L Mo : List Addr} {H : Hp} {x : AV} {v : V} {k : Bool} (bb : B C m L Mo H) (r : AVR C L Mo H x v) (h : truA m x = some k) : TruV C.K v H k := by
  unfold truA at h
  split at h
  · cases h; cases r; rfl
  · cases h; cases r; rfl
  · cases h; cases r; rfl
  · split at h
    · rename_i ds e
      cases h
      obtain ⟨l, xs, rfl, h1, h2⟩ := seqA_ok bb r e
      rcases h1 with h1 | h1
      · exact .inl ⟨xs, h1, by rw [isEmpty_len h2.len]⟩
      · exact .inr (.inl ⟨xs, h1, by rw [isEmpty_len h2.len]⟩)
    · cases h
theorem qt_tru (ha : QE X a ta) (he : ∀ whole, isTrue a X.env whole = (do let v ← whole; standAt a.pos; holding [v] (truthy v))) : QT X a (aTru ta) := fun C hK => PT.imp (pt_truth (ha C hK) he) fun σ H Q ⟨a, L, Mo, AQ, r, k, h⟩ => by
  refine ⟨a, L, Mo, _, r, fun x m1 v L1 Mo1 H1 h1 b1 v1 e1 => ?_, h⟩
  have h1' : (match truA m1 x with | some b => AQ b m1 | none => False) := h1
  split at h1'
  · rename_i b e
    exact ⟨b, hK ▸ truA_ok b1 v1 e, k _ _ _ _ _ h1' b1 e1⟩
  · exact h1'.elim

/-! ### arguments, displays -/
def aNil : ATA := fun a Q => Q [] a.m
def aCons (ta : ATE) (tr : ATA) : ATA := fun a Q => ta a fun x m1 => tr ⟨a.g, m1⟩ fun xs m2 => Q (x :: xs) m2
variable {es : List Expr} {tr : ATA}
theorem qa_nil : QA X [] aNil := fun C hK => PA.imp pa_nil fun σ H Q ⟨a, L, Mo, AQ, r, k, h⟩ => k _ _ _ _ _ _ h r.b .nil X2.refl
theorem qa_cons (ha : QE X e ta) (hr : QA X es tr) (hs : starEach (e :: es) X.env = (false, eval e X.env) :: starEach es X.env := by rfl) : QA X (e :: es) (aCons ta tr) := fun C hK => PA.imp (pa_cons (ha C hK) (hr C hK) hs) fun σ H Q ⟨a, L, Mo, AQ, r, k, h⟩ =>
  ⟨a, L, Mo, _, r, fun x m1 v L1 Mo1 H1 h1 b1 v1 e1 => ⟨⟨a.g, m1⟩, L1, Mo1, _, r.next b1 e1, fun xs m2 vs L2 Mo2 H2 h2 b2 v2 e2 => k _ _ _ _ _ _ h2 b2 (.cons (v1.mono e2) v2) (e1.trans e2), h1⟩, h⟩
def datas : List AV → Option (List D)
  | [] => some []
  | .d x :: r => match datas r with
    | some l => some (x :: l)
    | none => none
  | _ => none
theorem datas_ok {L Mo : List Addr} {H : Hp} : ∀ {avs : List AV} {vs : List V} {ds : List D}, AVRs C L Mo H avs vs → datas avs = some ds → DqAll C.K (C.hd L Mo H) vs ds
  | [], _, _, .nil, h => by cases h; exact .nil
  | .d x :: r, _, _, .cons q t, h => by
    simp only [datas] at h
    split at h
    · rename_i l e
      cases h
      exact .cons q (datas_ok t e)
    · cases h
  | .o j :: r, _, _, .cons q t, h => by simp [datas] at h
  | .src :: r, _, _, .cons q t, h => by simp [datas] at h
  | .cells :: r, _, _, .cons q t, h => by simp [datas] at h
  | .scr _ :: r, _, _, .cons q t, h => by simp [datas] at h
  | .kt _ :: r, _, _, .cons q t, h => by simp [datas] at h
  | .dt _ :: r, _, _, .cons q t, h => by simp [datas] at h
  | .xt _ :: r, _, _, .cons q t, h => by simp [datas] at h
  | .hx _ :: r, _, _, .cons q t, h => by simp [datas] at h
  | .ty _ :: r, _, _, .cons q t, h => by simp [datas] at h
  | .ad _ :: r, _, _, .cons q t, h => by simp [datas] at h
def aTup (t : ATA) : ATE := fun a Q => t a fun avs m => match datas avs with
  | some ds => ds.length ≤ 1000 ∧ Q (.d (.tuple ds)) m
  | none => False
def aLst (t : ATA) : ATE := fun a Q => t a fun avs m => match datas avs with
  | some ds => ds.length ≤ 1000 ∧ Q (.d (.list ds)) m
  | none => False
/-- a list that its def may change -/
def aLstM (t : ATA) : ATE := fun a Q => t a fun avs m => match datas avs with
  | some ds => ds.length ≤ 1000 ∧ Q (.o m.o.length) ⟨m.s, m.o ++ [.l ds]⟩
  | none => False
theorem line1000 {n : Nat} (h : n ≤ 1000) : n ≤ sizeLine := Nat.le_of_lt (small1000 h)
theorem q_tup {x1} (h : QA X es tr) : QE X (.Tuple es x1 pos) (aTup tr) := fun C hK => PE.imp (pe_tupF (h C hK)) fun σ H Q ⟨a, L, Mo, AQ, r, k, h⟩ => by
  refine ⟨a, L, Mo, _, r, fun xs m1 vs L1 Mo1 H1 h1 b1 v1 e1 => ?_, h⟩
  have h1' : (match datas xs with | some ds => ds.length ≤ 1000 ∧ AQ (.d (.tuple ds)) m1 | none => False) := h1
  split at h1'
  · rename_i ds e
    have q := datas_ok v1 e
    exact ⟨line1000 (by rw [q.len]; exact h1'.1), fun p hp => (k.aft e1).tup b1 hp q h1'.2⟩
  · exact h1'.elim
theorem q_lst (h : QA X es tr) : QE X (.List es pos) (aLst tr) := fun C hK => PE.imp (pe_lst (h C hK)) fun σ H Q ⟨a, L, Mo, AQ, r, k, h⟩ => by
  refine ⟨a, L, Mo, _, r, fun xs m1 vs L1 Mo1 H1 h1 b1 v1 e1 => ?_, h⟩
  have h1' : (match datas xs with | some ds => ds.length ≤ 1000 ∧ AQ (.d (.list ds)) m1 | none => False) := h1
  split at h1'
  · rename_i ds e
    have q := datas_ok v1 e
    exact ⟨line1000 (by rw [q.len]; exact h1'.1), fun p hp => (k.aft e1).lst b1 hp q h1'.2⟩
  · exact h1'.elim
theorem q_lstM (h : QA X es tr) : QE X (.List es pos) (aLstM tr) := fun C hK => PE.imp (pe_lst (h C hK)) fun σ H Q ⟨a, L, Mo, AQ, r, k, h⟩ => by
  refine ⟨a, L, Mo, _, r, fun xs m1 vs L1 Mo1 H1 h1 b1 v1 e1 => ?_, h⟩
  have h1' : (match datas xs with | some ds => ds.length ≤ 1000 ∧ AQ (.o m1.o.length) ⟨m1.s, m1.o ++ [.l ds]⟩ | none => False) := h1
  split at h1'
  · rename_i ds e
    have q := datas_ok v1 e
    exact ⟨line1000 (by rw [q.len]; exact h1'.1), fun p hp => (k.aft e1).lstM b1 hp q h1'.2⟩
  · exact h1'.elim

/-! ### calls of built-ins -/
abbrev AC1 := List AV → Mm → (AV → Mm → Prop) → Prop
def CallQ (X : Cx) (f : Value) (r : AC1) : Prop := ∃ r2, CallR X f r2 ∧ ∀ (C : Ct) L Mo H m avs vs Q AQ, C.K = X.K → B C m L Mo H → AVRs C L Mo H avs vs → Cont C L Mo H AQ Q → r avs m AQ → r2 vs H Q
def aCall (r : AC1) (t : ATA) : ATE := fun a Q => t a fun avs m => r avs m Q
theorem call_imp {r : AC1} {r2 : List V → Hp → VK → Prop} (hK : C.K = X.K) (ho : ∀ (C : Ct) L Mo H m avs vs Q AQ, C.K = X.K → B C m L Mo H → AVRs C L Mo H avs vs → Cont C L Mo H AQ Q → r avs m AQ → r2 vs H Q) (σ : List (Option V)) (H : Hp) (Q : VK)
    (h : lft C (aCall r tr) σ H Q) : tCB r2 (lftA C tr) σ H Q := by
  obtain ⟨a, L, Mo, AQ, rr, k, h⟩ := h
  exact ⟨a, L, Mo, _, rr, fun xs m1 vs L1 Mo1 H1 h1 b1 v1 e1 => ho C L1 Mo1 H1 m1 xs vs Q AQ hK b1 v1 (k.aft e1) h1, h⟩
variable {x : Str} {id T : String} {p : Pos}
theorem q_callB {r : AC1} (o : CallQ X (.builtin id) r) (hg : Gl X x) (hm : X.mg x = none) (hv : bootBuiltins x = some (.builtin id)) (ha : QA X (e :: es) tr) (hn : x ≠ "__name__" := by decide) (hdb : (x == ("__debug__" : Str)) = false := by decide)
    (he : starEach (e :: es) X.env = (false, eval e X.env) :: starEach es X.env := by rfl) (hpl : (backTo pos (starEach es X.env)).any (·.1) = false := by rfl) : QE X (.Call (.Name x p) (e :: es) [] pos) (aCall r tr) := fun C hK => by
  obtain ⟨r2, ho, hi⟩ := o
  exact PE.imp (pe_callB ho hg hm hv (ha C hK) hn hdb he hpl) (call_imp hK hi)
theorem q_callTy {r : AC1} (o : CallQ X (.type T) r) (hg : Gl X x) (hm : X.mg x = none) (hv : bootBuiltins x = some (.type T)) (ha : QA X (e :: es) tr) (hn : x ≠ "__name__" := by decide) (hdb : (x == ("__debug__" : Str)) = false := by decide)
    (he : starEach (e :: es) X.env = (false, eval e X.env) :: starEach es X.env := by rfl) (hpl : (backTo pos (starEach es X.env)).any (·.1) = false := by rfl) : QE X (.Call (.Name x p) (e :: es) [] pos) (aCall r tr) := fun C hK => by
  obtain ⟨r2, ho, hi⟩ := o
  exact PE.imp (pe_callTy ho hg hm hv (ha C hK) hn hdb he hpl) (call_imp hK hi)
theorem av1 {L Mo : List Addr} {H : Hp} {x : AV} {vs : List V} (h : AVRs C L Mo H [x] vs) : ∃ v, vs = [v] ∧ AVR C L Mo H x v := by
  cases h with
  | cons q t => cases t; exact ⟨_, rfl, q⟩
theorem av2 {L Mo : List Addr} {H : Hp} {x y : AV} {vs : List V} (h : AVRs C L Mo H [x, y] vs) : ∃ v w, vs = [v, w] ∧ AVR C L Mo H x v ∧ AVR C L Mo H y w := by
  cases h with
  | cons q t => cases t with
    | cons q2 t2 => cases t2; exact ⟨_, _, rfl, q, q2⟩
def bLen : AC1 := fun avs m Q => match avs with
  | [.d (.str x)] => x.length ≤ sizeLine ∧ Q (.d (.int x.length)) m
  | [x] => match seqA m x with
    | some ds => Q (.d (.int ds.length)) m
    | none => False
  | _ => False
theorem cq_len : CallQ X (.builtin "len") bLen := by
  refine ⟨_, call_len, fun C L Mo H m avs vs Q AQ hK b r k hh => ?_⟩
  unfold bLen at hh
  split at hh
  · obtain ⟨v, rfl, rv⟩ := av1 r
    have := dq_str rv
    subst this
    exact ⟨_, _, rfl, ⟨hh.1, rfl⟩, k.ret hh.2 b (.int _)⟩
  · split at hh
    · rename_i ds e
      obtain ⟨v, rfl, rv⟩ := av1 r
      obtain ⟨l, xs, rfl, h1, h2⟩ := seqA_ok b rv e
      rcases h1 with h1 | h1
      · exact ⟨_, xs.length, rfl, .inl ⟨xs, hK ▸ h1, rfl⟩, by rw [h2.len]; exact k.ret hh b (.int _)⟩
      · exact ⟨_, xs.length, rfl, .inr ⟨xs, hK ▸ h1, rfl⟩, by rw [h2.len]; exact k.ret hh b (.int _)⟩
    · exact hh.elim
  · exact hh.elim
def bInt : AC1 := fun avs m Q => match avs with
  | [.d (.int i)] => Q (.d (.int i)) m
  | [.d (.bool k)] => Q (.d (.int (if k then 1 else 0))) m
  | _ => False
theorem cq_int : CallQ X (.type "int") bInt := by
  refine ⟨_, call_int1, fun C L Mo H m avs vs Q AQ hK b r k hh => ?_⟩
  unfold bInt at hh
  split at hh
  · obtain ⟨v, rfl, rv⟩ := av1 r
    exact .inl ⟨_, by rw [dq_int rv], k.ret hh b (.int _)⟩
  · obtain ⟨v, rfl, rv⟩ := av1 r
    exact .inr ⟨_, by rw [dq_bl rv], k.ret hh b (.int _)⟩
  · exact hh.elim
def bAbs : AC1 := fun avs m Q => match avs with
  | [.d (.int i)] => Q (.d (.int (if i < 0 then -i else i))) m
  | _ => False
theorem cq_abs : CallQ X (.builtin "abs") bAbs := by
  refine ⟨_, call_abs, fun C L Mo H m avs vs Q AQ hK b r k hh => ?_⟩
  unfold bAbs at hh
  split at hh
  · obtain ⟨v, rfl, rv⟩ := av1 r
    exact ⟨_, by rw [dq_int rv], k.ret hh b (.int _)⟩
  · exact hh.elim
def bMax : AC1 := fun avs m Q => match avs with
  | [.d (.int i), .d (.int j)] => Q (.d (.int (if j > i then j else i))) m
  | _ => False
theorem cq_max (hc : X.calm = true) : CallQ X (.builtin "max") bMax := by
  refine ⟨_, call_max2 hc, fun C L Mo H m avs vs Q AQ hK b r k hh => ?_⟩
  unfold bMax at hh
  split at hh
  · obtain ⟨v, w, rfl, rv, rw_⟩ := av2 r
    exact ⟨_, _, by rw [dq_int rv, dq_int rw_], k.ret hh b (.int _)⟩
  · exact hh.elim
def bMin : AC1 := fun avs m Q => match avs with
  | [.d (.int i), .d (.int j)] => Q (.d (.int (if j < i then j else i))) m
  | _ => False
theorem cq_min (hc : X.calm = true) : CallQ X (.builtin "min") bMin := by
  refine ⟨_, call_min2 hc, fun C L Mo H m avs vs Q AQ hK b r k hh => ?_⟩
  unfold bMin at hh
  split at hh
  · obtain ⟨v, w, rfl, rv, rw_⟩ := av2 r
    exact ⟨_, _, by rw [dq_int rv, dq_int rw_], k.ret hh b (.int _)⟩
  · exact hh.elim
def bTuple : AC1 := fun avs m Q => match avs with
  | [.d (.tuple ds)] => Q (.d (.tuple ds)) m
  | [x] => match lstA m x with
    | some ds => Q (.d (.tuple ds)) m
    | none => False
  | _ => False
theorem cq_tuple : CallQ X (.type "tuple") bTuple := by
  refine ⟨_, call_tupF, fun C L Mo H m avs vs Q AQ hK b r k hh => ?_⟩
  unfold bTuple at hh
  split at hh
  · rename_i ds
    obtain ⟨v, rfl, rv⟩ := av1 r
    obtain ⟨l, xs, rfl, h1, h2⟩ := tupA_ok (ds := ds) rv rfl
    exact ⟨l, xs, rfl, .inr ⟨hK ▸ h1, k.ret hh b rv⟩⟩
  · split at hh
    · rename_i ds e
      obtain ⟨v, rfl, rv⟩ := av1 r
      obtain ⟨l, xs, rfl, h1, h2⟩ := lstA_ok b rv e
      exact ⟨l, xs, rfl, .inl ⟨SqL.of h1, fun p hp => k.tup b hp h2 hh⟩⟩
    · exact hh.elim
  · exact hh.elim
/-- list(x): a new list, not changed afterwards; one that may be changed -/
def bList : AC1 := fun avs m Q => match avs with
  | [x] => match seqA m x with
    | some ds => Q (.d (.list ds)) m
    | none => False
  | _ => False
theorem cq_list : CallQ X (.type "list") bList := by
  refine ⟨_, call_list_of, fun C L Mo H m avs vs Q AQ hK b r k hh => ?_⟩
  unfold bList at hh
  split at hh
  · split at hh
    · rename_i ds e
      obtain ⟨v, rfl, rv⟩ := av1 r
      obtain ⟨l, xs, rfl, h1, h2⟩ := seqA_ok b rv e
      exact ⟨l, xs, rfl, hK ▸ h1, fun p hp => k.lst b hp h2 hh⟩
    · exact hh.elim
  · exact hh.elim
def bListM : AC1 := fun avs m Q => match avs with
  | [x] => match seqA m x with
    | some ds => Q (.o m.o.length) ⟨m.s, m.o ++ [.l ds]⟩
    | none => False
  | _ => False
theorem cq_listM : CallQ X (.type "list") bListM := by
  refine ⟨_, call_list_of, fun C L Mo H m avs vs Q AQ hK b r k hh => ?_⟩
  unfold bListM at hh
  split at hh
  · split at hh
    · rename_i ds e
      obtain ⟨v, rfl, rv⟩ := av1 r
      obtain ⟨l, xs, rfl, h1, h2⟩ := seqA_ok b rv e
      exact ⟨l, xs, rfl, hK ▸ h1, fun p hp => k.lstM b hp h2 hh⟩
    · exact hh.elim
  · exact hh.elim
def intsD : List D → Option (List Int)
  | [] => some []
  | .int i :: r => match intsD r with
    | some l => some (i :: l)
    | none => none
  | _ => none
theorem intsD_ok {K : PySem.W.Frag} {H : Hp} : ∀ {ds : List D} {xs : List V} {ns : List Int}, DqAll K H xs ds → intsD ds = some ns → xs = ns.map V.int
  | [], _, _, h, e => by cases e; cases h; rfl
  | .int i :: r, _, _, h, e => by
    simp only [intsD] at e
    split at e
    · rename_i l e'
      cases e
      cases h with
      | cons h1 h2 => cases h1; simp [intsD_ok h2 e']
    · cases e
  | .none :: r, _, _, h, e => by simp [intsD] at e
  | .bool _ :: r, _, _, h, e => by simp [intsD] at e
  | .str _ :: r, _, _, h, e => by simp [intsD] at e
  | .list _ :: r, _, _, h, e => by simp [intsD] at e
  | .tuple _ :: r, _, _, h, e => by simp [intsD] at e
  | .dict _ :: r, _, _, h, e => by simp [intsD] at e
theorem intsD_map (ns : List Int) : intsD (ns.map PyData.int) = some ns := by
  induction ns with
  | nil => rfl
  | cons n ns ih => simp [intsD, ih]
def bSum : AC1 := fun avs m Q => match avs with
  | [x] => match lstA m x with
    | some ds => match intsD ds with
      | some ns => Q (.d (.int ns.sum)) m
      | none => False
    | none => False
  | _ => False
theorem cq_sum (hc : X.calm = true) : CallQ X (.builtin "sum") bSum := by
  refine ⟨_, cr_sum hc, fun C L Mo H m avs vs Q AQ hK b r k hh => ?_⟩
  unfold bSum at hh
  split at hh
  · split at hh
    · rename_i ds e
      split at hh
      · rename_i ns e2
        obtain ⟨v, rfl, rv⟩ := av1 r
        obtain ⟨l, xs, rfl, h1, h2⟩ := lstA_ok b rv e
        exact ⟨l, ns, rfl, SqL.of (by rw [h1, intsD_ok h2 e2]), k.ret hh b (.int _)⟩
      · exact hh.elim
    · exact hh.elim
  · exact hh.elim
end
end QL

namespace QL
open PySem PySem.Spec PyProof.Rows L2

/-! ### statements -/
structure AEnds where
  nx : AS → Prop
  rt : AV → Mm → Prop
  bk : AS → Prop := fun _ => False
  ct : AS → Prop := fun _ => False
abbrev ATS := AEnds → AS → Prop
structure Bel (C : Ct) (AD : AEnds) (D : Ends) : Prop where
  nx : ∀ a L Mo σ H, AD.nx a → R C a L Mo σ H → D.nx σ H
  rt : ∀ av m L Mo H v, AD.rt av m → B C m L Mo H → AVR C L Mo H av v → D.rt v H
  bk : ∀ a L Mo σ H, AD.bk a → R C a L Mo σ H → D.bk σ H
  ct : ∀ a L Mo σ H, AD.ct a → R C a L Mo σ H → D.ct σ H
def lftS (C : Ct) (t : ATS) : TS := fun D σ H => ∃ a L Mo AD, R C a L Mo σ H ∧ Bel C AD D ∧ t AD a
theorem PS.imp {X : Cx} {e : Stmt} {t t' : TS} (h : PS X e t) (i : ∀ D σ H, t' D σ H → t D σ H) : PS X e t' := ⟨fun pins s σ H Q I q => h.run pins s σ H Q I (i Q σ H q)⟩
theorem PSs.imp {X : Cx} {e : List Stmt} {t t' : TS} (h : PSs X e t) (i : ∀ D σ H, t' D σ H → t D σ H) : PSs X e t' := ⟨fun pins s σ H Q I q => h.run pins s σ H Q I (i Q σ H q)⟩
def QS (X : Cx) (st : Stmt) (t : ATS) : Prop := ∀ C : Ct, C.K = X.K → PS X st (lftS C t)
def QSs (X : Cx) (st : List Stmt) (t : ATS) : Prop := ∀ C : Ct, C.K = X.K → PSs X st (lftS C t)
def aNext : ATS := fun D a => D.nx a
def aSeq (t u : ATS) : ATS := fun D a => t { D with nx := u D } a
section
variable {X : Cx} {st : Stmt} {sts : List Stmt} {t u : ATS} {e : Expr} {te : ATE} {pos : Pos}
theorem qss_nil : QSs X [] aNext := fun C hK => PSs.imp pss_nil fun D σ H ⟨a, L, Mo, AD, r, b, h⟩ => b.nx _ _ _ _ _ h r
theorem qss_cons (h1 : QS X st t) (h2 : QSs X sts u) : QSs X (st :: sts) (aSeq t u) := fun C hK => PSs.imp (pss_cons (h1 C hK) (h2 C hK)) fun D σ H ⟨a, L, Mo, AD, r, b, h⟩ =>
  ⟨a, L, Mo, { AD with nx := u AD }, r, ⟨fun a' L' Mo' σ' H' q r' => ⟨a', L', Mo', AD, r', b, q⟩, b.rt, b.bk, b.ct⟩, h⟩
theorem qss_one (h1 : QS X st t) : QSs X [st] t := fun C hK => pss_one (h1 C hK)
def aBreak : ATS := fun D a => D.bk a
def aCont : ATS := fun D a => D.ct a
theorem qs_pass : QS X (.Pass pos) aNext := fun C hK => PS.imp ps_pass fun D σ H ⟨a, L, Mo, AD, r, b, h⟩ => b.nx _ _ _ _ _ h r
theorem qs_break : QS X (.Break pos) aBreak := fun C hK => PS.imp ps_break fun D σ H ⟨a, L, Mo, AD, r, b, h⟩ => b.bk _ _ _ _ _ h r
theorem qs_continue : QS X (.Continue pos) aCont := fun C hK => PS.imp ps_continue fun D σ H ⟨a, L, Mo, AD, r, b, h⟩ => b.ct _ _ _ _ _ h r
def aDrop (te : ATE) : ATS := fun D a => te a fun _ m => D.nx ⟨a.g, m⟩
theorem qs_expr (he : QE X e te) (hs : swapsWith e none pos.line X.env = pure false := by rfl) : QS X (.Expr e pos) (aDrop te) := fun C hK => PS.imp (ps_expr (he C hK) hs) fun D σ H ⟨a, L, Mo, AD, r, b, h⟩ =>
  ⟨a, L, Mo, _, r, fun av m' v L' Mo' H' q b' rv x => b.nx _ _ _ _ _ q (r.next b' x), h⟩
def aRet (te : ATE) : ATS := fun D a => te a D.rt
theorem qs_ret (he : QE X e te) : QS X (.Return (some e) pos) (aRet te) := fun C hK => PS.imp (ps_ret (he C hK)) fun D σ H ⟨a, L, Mo, AD, r, b, h⟩ =>
  ⟨a, L, Mo, _, r, fun av m' v L' Mo' H' q b' rv x => b.rt _ _ _ _ _ _ q b' rv, h⟩
def aRetN : ATS := fun D a => D.rt (.d .none) a.m
theorem qs_retN : QS X (.Return none pos) aRetN := fun C hK => PS.imp ps_retN fun D σ H ⟨a, L, Mo, AD, r, b, h⟩ => b.rt _ _ _ _ _ _ h r.b .non
def aIfS (c : ATT) (t u : ATS) : ATS := fun D a => c a fun b m => if b = true then t D ⟨a.g, m⟩ else u D ⟨a.g, m⟩
theorem qs_if {c : Expr} {x y : List Stmt} {tc : ATT} (hc : QT X c tc) (ha : QSs X x t) (hb : QSs X y u) : QS X (.If c x y pos) (aIfS tc t u) := fun C hK => PS.imp (ps_if (hc C hK) (ha C hK) (hb C hK)) fun D σ H ⟨a, L, Mo, AD, r, b, h⟩ => by
  refine ⟨a, L, Mo, _, r, fun k m1 L1 Mo1 H1 h1 b1 e1 => ?_, h⟩
  have h1' : if k = true then t AD ⟨a.g, m1⟩ else u AD ⟨a.g, m1⟩ := h1
  cases k with
  | true => exact ⟨⟨a.g, m1⟩, L1, Mo1, AD, r.next b1 e1, b, h1'⟩
  | false => exact ⟨⟨a.g, m1⟩, L1, Mo1, AD, r.next b1 e1, b, h1'⟩
def aNever : ATS := fun _ _ => False
theorem qs_never : QS X st aNever := fun C hK => PS.imp ps_never fun D σ H ⟨a, L, Mo, AD, r, b, h⟩ => h
end

/-! ### targets: the slots alone change -/
abbrev ATG := AV → Mm → List (Option AV) → (List (Option AV) → Prop) → Prop
abbrev ATGs := List D → Mm → List (Option AV) → (List (Option AV) → Prop) → Prop
def lftG (C : Ct) (vs : List Nat) (t : ATG) : TG := fun v σ H Q => ∃ a L Mo av AQ, R C a L Mo σ H ∧ AVR C L Mo H av v ∧ (∀ g' σ', AQ g' → R C ⟨g', a.m⟩ L Mo σ' H → wipe σ' vs = wipe σ vs → Q σ' H) ∧ t av a.m a.g AQ
def lftGs (C : Ct) (vs : List Nat) (t : ATGs) : TGs := fun us σ H Q => ∃ a L Mo ds AQ, R C a L Mo σ H ∧ DqAll C.K (C.hd L Mo H) us ds ∧ (∀ g' σ', AQ g' → R C ⟨g', a.m⟩ L Mo σ' H → wipe σ' vs = wipe σ vs → Q σ' H) ∧ t ds a.m a.g AQ
theorem PG.imp {X : Cx} {e : Expr} {t t' : TG} (h : PG X e t) (i : ∀ v σ H Q, t' v σ H Q → t v σ H Q) : PG X e t' := ⟨fun pins s σ H v u Q I rv q => h.run pins s σ H v u Q I rv (i v σ H Q q)⟩
theorem PGs.imp {X : Cx} {e : List Expr} {t t' : TGs} (h : PGs X e t) (i : ∀ v σ H Q, t' v σ H Q → t v σ H Q) : PGs X e t' := ⟨fun pins s σ H v u Q I rv q => h.run pins s σ H v u Q I rv (i v σ H Q q)⟩
def QG (X : Cx) (vs : List Nat) (e : Expr) (t : ATG) : Prop := ∀ C : Ct, C.K = X.K → PG X e (lftG C vs t)
def QGs (X : Cx) (vs : List Nat) (e : List Expr) (t : ATGs) : Prop := ∀ C : Ct, C.K = X.K → PGs X e (lftGs C vs t)
theorem wipe_get {σ : List (Option V)} {j : Nat} : ∀ {vs : List Nat}, (wipe σ vs)[j]? = if j ∈ vs then (if j < σ.length then some none else none) else σ[j]?
  | [] => by simp [wipe]
  | v :: vs => by
    show ((wipe σ vs).set v none)[j]? = _
    by_cases h : v = j
    · subst h
      rw [if_pos List.mem_cons_self]
      by_cases hl : v < σ.length
      · rw [if_pos hl, List.getElem?_set_self (by rw [wipe_length]; exact hl)]
      · rw [if_neg hl, List.getElem?_eq_none_iff.mpr (by rw [List.length_set, wipe_length]; omega)]
    · rw [List.getElem?_set_ne h, wipe_get]
      by_cases hm : j ∈ vs
      · rw [if_pos hm, if_pos (List.mem_cons_of_mem _ hm)]
      · rw [if_neg hm, if_neg (by simp [hm]; exact fun e => h e.symm)]
theorem wipe_set {σ : List (Option V)} {i : Nat} {v : Option V} {vs : List Nat} (h : i ∈ vs) : wipe (σ.set i v) vs = wipe σ vs := by
  apply List.ext_getElem?
  intro j
  rw [wipe_get, wipe_get, List.length_set]
  by_cases hj : j ∈ vs
  · rw [if_pos hj, if_pos hj]
  · rw [if_neg hj, if_neg hj, List.getElem?_set_ne (fun e => hj (by rw [← e]; exact h))]
section
variable {X : Cx} {pos : Pos} {vs : List Nat}
def aGName (i : Nat) : ATG := fun av m g Q => Q (g.set i (some av))
theorem qg_name {i : Nat} {x : Str} (hN : X.N.Nodup) (hi : X.N[i]? = some x) (hx : Loc X.env.scope x) (hv : i ∈ vs) (hf : X.fn x = true ∨ X.env.scope.names.lookup x = some .local := by first | exact .inl rfl | exact .inr rfl | assumption) : QG X vs (.Name x pos) (aGName i) := fun C hK =>
  PG.imp (pg_name hN hi hx hf) fun v σ H Q ⟨a, L, Mo, av, AQ, r, rv, k, h⟩ => k _ _ h (r.set i rv) (wipe_set hv)
def aGNil : ATGs := fun ds m g Q => match ds with
  | [] => Q g
  | _ => False
def aGCons (t : ATG) (u : ATGs) : ATGs := fun ds m g Q => match ds with
  | d :: r => t (.d d) m g fun g' => u r m g' Q
  | [] => False
theorem qgs_nil : QGs X vs [] aGNil := fun C hK => PGs.imp pgs_nil fun us σ H Q ⟨a, L, Mo, ds, AQ, r, rv, k, h⟩ => by
  unfold aGNil at h
  split at h
  · cases rv; exact ⟨rfl, k _ _ h r rfl⟩
  · exact h.elim
theorem qgs_cons {e : Expr} {es : List Expr} {t : ATG} {u : ATGs} (h1 : QG X vs e t) (h2 : QGs X vs es u) (hs : (assignEach (e :: es) X.env).map (·.2) = assign e X.env :: (assignEach es X.env).map (·.2) := by rfl) : QGs X vs (e :: es) (aGCons t u) := fun C hK =>
  PGs.imp (pgs_cons (h1 C hK) (h2 C hK) hs) fun us σ H Q ⟨a, L, Mo, ds, AQ, r, rv, k, h⟩ => by
    unfold aGCons at h
    split at h
    · rename_i d ds'
      cases rv with
      | cons q1 q2 =>
        refine ⟨_, _, rfl, a, L, Mo, .d d, _, r, q1, fun g' σ' hg r' w => ⟨⟨g', a.m⟩, L, Mo, _, AQ, r', q2, fun g2 σ2 hg2 r2 w2 => k g2 σ2 hg2 r2 (w2.trans w), hg⟩, h⟩
    · exact h.elim
def aGTup (n : Nat) (t : ATGs) : ATG := fun av m g Q => match tupA av with
  | some ds => ds.length = n ∧ t ds m g Q
  | none => False
theorem qg_tup {es : List Expr} {k : Nat} {t : ATGs} {n : Nat} (hc : X.calm = true) (h : QGs X vs es t) (hn : (assignEach es X.env).length = n := by rfl) (hst : (assignEach es X.env).findIdx? (·.1) = none := by rfl) : QG X vs (.Tuple es k pos) (aGTup n t) := fun C hK =>
  PG.imp (pg_tup hc (h C hK) hn hst) fun v σ H Q ⟨a, L, Mo, av, AQ, r, rv, k, h⟩ => by
    unfold aGTup at h
    split at h
    · rename_i ds e
      obtain ⟨l, xs, rfl, h1, h2⟩ := tupA_ok rv e
      exact ⟨l, xs, rfl, hK ▸ h1, h2.len.trans h.1, a, L, Mo, ds, AQ, r, h2, k, h.2⟩
    · exact h.elim
/-- a list unpacked -/
def aGLst (n : Nat) (t : ATGs) : ATG := fun av m g Q => match lstA m av with
  | some ds => ds.length = n ∧ t ds m g Q
  | none => False
theorem qg_lst {es : List Expr} {k : Nat} {t : ATGs} {n : Nat} (hc : X.calm = true) (h : QGs X vs es t) (hn : (assignEach es X.env).length = n := by rfl) (hst : (assignEach es X.env).findIdx? (·.1) = none := by rfl) : QG X vs (.Tuple es k pos) (aGLst n t) := fun C hK =>
  PG.imp (pg_unl hc (h C hK) hn hst) fun v σ H Q ⟨a, L, Mo, av, AQ, r, rv, k, h⟩ => by
    unfold aGLst at h
    split at h
    · rename_i ds e
      obtain ⟨l, xs, rfl, h1, h2⟩ := lstA_ok r.b rv e
      exact ⟨l, xs, rfl, SqL.of h1, h2.len.trans h.1, a, L, Mo, ds, AQ, r, h2, k, h.2⟩
    · exact h.elim
def aAsg (te : ATE) (g : ATG) : ATS := fun D a => te a fun x m => g x m a.g fun g' => D.nx ⟨g', m⟩
theorem asg_imp {C : Ct} {te : ATE} {g : ATG} (D : Ends) (σ : List (Option V)) (H : Hp) (h : lftS C (aAsg te g) D σ H) : tAsg (lft C te) (lftG C vs g) D σ H := by
  obtain ⟨a, L, Mo, AD, r, b, h⟩ := h
  exact ⟨a, L, Mo, _, r, fun x m1 v L1 Mo1 H1 h1 b1 v1 e1 => ⟨⟨a.g, m1⟩, L1, Mo1, x, _, r.next b1 e1, v1, fun g' σ' hg r' _ => b.nx _ _ _ _ _ hg r', h1⟩, h⟩
theorem qs_asg {tg e : Expr} {te : ATE} {g : ATG} (he : QE X e te) (hg : QG X vs tg g) (hs : swapsWithSole [tg] e pos.line X.env = pure false := by rfl) (hw : swappedStores [tg] e X.env = pure none := by rfl)
    (h1 : (assignEach [tg] X.env).map (·.2) = [assign tg X.env] := by rfl) : QS X (.Assign [tg] e pos) (aAsg te g) := fun C hK => PS.imp (ps_asg (he C hK) (hg C hK) hs hw h1) asg_imp
def aSet (i : Nat) (te : ATE) : ATS := fun D a => te a fun x m => D.nx ⟨a.g.set i (some x), m⟩
theorem qs_set {i : Nat} {x : Str} {e : Expr} {te : ATE} {pos' : Pos} (hN : X.N.Nodup) (hi : X.N[i]? = some x) (hx : Loc X.env.scope x) (he : QE X e te) (hs : swapsWith e (some (.Name x pos')) pos.line X.env = pure false := by rfl) (hf : X.fn x = true ∨ X.env.scope.names.lookup x = some .local := by first | exact .inl rfl | exact .inr rfl | assumption) :
    QS X (.Assign [.Name x pos'] e pos) (aSet i te) := fun C hK => PS.imp (ps_set hN hi hx (he C hK) hs hf) fun D σ H ⟨a, L, Mo, AD, r, b, h⟩ =>
  ⟨a, L, Mo, _, r, fun x m1 v L1 Mo1 H1 h1 b1 v1 e1 => b.nx _ _ _ _ _ h1 ((r.next b1 e1).set i v1), h⟩
def aPar (i j : Nat) (ta : ATA) : ATS := fun D a => ta a fun xs m => match xs with
  | [x, y] => D.nx ⟨(a.g.set i (some x)).set j (some y), m⟩
  | _ => False
theorem qs_par {i j : Nat} {x y : Str} {a b : Expr} {ta : ATA} {px py pt : Pos} {kt k2 pt2} (hc : X.calm = true) (hN : X.N.Nodup) (hi : X.N[i]? = some x) (hj : X.N[j]? = some y) (hij : i ≠ j)
    (hx : X.env.scope.names.lookup x = some .local) (hy : X.env.scope.names.lookup y = some .local) (ha : QA X [a, b] ta)
    (hw : swappedStores [.Tuple [.Name x px, .Name y py] kt pt] (.Tuple [a, b] k2 pt2) X.env = pure (some [x, y]))
    (hs : swapsWithSole [.Tuple [.Name x px, .Name y py] kt pt] (.Tuple [a, b] k2 pt2) pos.line X.env = pure false := by rfl) :
    QS X (.Assign [.Tuple [.Name x px, .Name y py] kt pt] (.Tuple [a, b] k2 pt2) pos) (aPar i j ta) := fun C hK => PS.imp (ps_par hc hN hi hj hij hx hy (ha C hK) hw hs) fun D σ H ⟨a, L, Mo, AD, r, b, h⟩ => by
  refine ⟨a, L, Mo, _, r, fun xs m1 vs L1 Mo1 H1 h1 b1 v1 e1 => ?_, h⟩
  split at h1
  · obtain ⟨v, w, rfl, q1, q2⟩ := av2 v1
    exact ⟨v, w, rfl, b.nx _ _ _ _ _ h1 (((r.next b1 e1).set i q1).set j q2)⟩
  · exact h1.elim
/-- x += e, ints -/
def aAugI (i : Nat) (f : Int → Int → Int) (te : ATE) : ATS := fun D a => match slotA a.g i with
  | some (.d (.int k)) => te a fun y m => match y with
    | .d (.int j) => D.nx ⟨a.g.set i (some (.d (.int (f k j)))), m⟩
    | _ => False
  | _ => False
theorem qs_augI {i : Nat} {x : Str} {e : Expr} {te : ATE} {op : Operator} {f : Int → Int → Int} {pos' : Pos} (hN : X.N.Nodup) (hi : X.N[i]? = some x) (hx : Loc X.env.scope x) (he : QE X e te) (ho : PIp X op (ipI f)) (hf : X.fn x = true ∨ X.env.scope.names.lookup x = some .local := by first | exact .inl rfl | exact .inr rfl | assumption) :
    QS X (.AugAssign (.Name x pos') op e pos) (aAugI i f te) := fun C hK => PS.imp (ps_aug hN hi hx (he C hK) ho hf) fun D σ H ⟨a, L, Mo, AD, r, b, h⟩ => by
  unfold aAugI at h
  split at h
  · rename_i k e
    obtain ⟨v, h1, h2⟩ := r.sl i _ (slotA_get e)
    refine ⟨v, h1, a, L, Mo, _, r, fun y m1 w L1 Mo1 H1 h1 b1 v1 e1 => ?_, h⟩
    split at h1
    · exact ⟨_, _, dq_int h2, dq_int v1, b.nx _ _ _ _ _ h1 ((r.next b1 e1).set i (.int _))⟩
    · exact h1.elim
  · exact h.elim
end

/-! ### dropping local objects -/
def fzV (n : Nat) (m : Mm) : AV → Option AV
  | .o j => if j < n then some (.o j) else match m.o[j]? with
    | some (.l ds) => some (.d (.list ds))
    | some (.kd kvs) => some (.d (.dict (kvD kvs)))
    | some (.td kvs) => some (.dt kvs)
    | some (.xd kvs) => some (.xt kvs)
    | none => none
  | x => some x
def fzS (n : Nat) (m : Mm) : Option AV → Option AV
  | some x => fzV n m x
  | none => none
def clr (g : List (Option AV)) (fs : List Nat) : List (Option AV) := fs.foldr (fun v g => g.set v none) g
def norm (n : Nat) (fs : List Nat) (a : AS) : AS := ⟨clr (a.g.map (fzS n a.m)) fs, ⟨a.m.s, a.m.o.take n⟩⟩
section
variable {C : Ct} {m : Mm} {a : AS} {L Mo : List Addr} {σ : List (Option V)} {H : Hp}
theorem mem_zlm {n : Nat} {x : Addr} (h : x ∈ C.Z ++ (L ++ Mo.take n)) : x ∈ C.Z ++ (L ++ Mo) := by
  simp only [List.mem_append] at h ⊢
  rcases h with h | h | h
  · exact .inl h
  · exact .inr (.inl h)
  · exact .inr (.inr (List.mem_of_mem_take h))
theorem hd_take (n : Nat) : Same (C.hd L Mo H) (C.hd L (Mo.take n) H) := fun x o h => by
  obtain ⟨h1, h2⟩ := hid_some h
  rw [Ct.hd, hid_of (fun z => h1 (mem_zlm z))]; exact h2
theorem B.take (b : B C m L Mo H) (n : Nat) : B C ⟨m.s, m.o.take n⟩ L (Mo.take n) H := by
  refine ⟨?_, b.sr, paired_take n (paired_impM b.ob fun o l _ q => q.mono (hd_take n) rfl), b.kp, b.nl, fun x hx => b.no x (List.mem_of_mem_take hx), b.zt, b.l0⟩
  exact b.nd.sublist ((List.Sublist.refl _).append ((List.Sublist.refl _).append (List.take_sublist _ _)))
theorem AVR.fz {n : Nat} {av av' : AV} {v : V} (b : B C m L Mo H) (r : AVR C L Mo H av v) (h : fzV n m av = some av') : AVR C L (Mo.take n) H av' v := by
  cases av with
  | d x => cases h; exact Dq.mono (hd_take n) _ _ r
  | src => cases h; exact r
  | cells => cases h; exact r
  | scr ns =>
    cases h
    obtain ⟨a, rfl, q⟩ := r
    exact ⟨a, rfl, (hd_take n).seq q⟩
  | kt ns =>
    cases h
    obtain ⟨a, rfl, q⟩ := r
    exact ⟨a, rfl, hd_take n _ _ q⟩
  | dt ns =>
    cases h
    obtain ⟨a, ys, rfl, q, q2⟩ := r
    exact ⟨a, ys, rfl, hd_take n _ _ q, q2.mono (hd_take n)⟩
  | xt ns =>
    cases h
    obtain ⟨a, ys, rfl, q, q2⟩ := r
    exact ⟨a, ys, rfl, hd_take n _ _ q, q2.mono (hd_take n)⟩
  | hx ns =>
    cases h
    obtain ⟨a, rfl, q⟩ := r
    exact ⟨a, rfl, hd_take n _ _ q⟩
  | ty n => cases h; exact r
  | ad n => cases h; exact r
  | o j =>
    simp only [fzV] at h
    split at h
    · rename_i hj
      cases h
      obtain ⟨l, h1, rfl⟩ := r
      exact ⟨l, by rw [List.getElem?_take_of_lt hj]; exact h1, rfl⟩
    · rename_i hj
      obtain ⟨l, h1, rfl⟩ := r
      have up : ∀ u, H l = some u → C.hd L (Mo.take n) H l = some u := fun u h3 => by
        have hm : l ∈ Mo.drop n := by
          have : (Mo.drop n)[j - n]? = some l := by rw [List.getElem?_drop]; rw [show n + (j - n) = j by omega]; exact h1
          exact List.mem_of_getElem? this
        rw [Ct.hd, hid_of]
        · exact h3
        · intro z
          have nd := b.nd
          have e2 : C.Z ++ (L ++ Mo) = (C.Z ++ (L ++ Mo.take n)) ++ Mo.drop n := by simp [List.append_assoc]
          rw [e2] at nd
          exact (List.nodup_append.mp nd).2.2 l z l hm rfl
      split at h
      · rename_i ds e
        cases h
        obtain ⟨l', h2, xs, h3, h4⟩ := paired_at b.ob e
        rw [h1] at h2; cases h2
        exact Dq.lst (xs := xs) (up _ h3) (DqAll.mono (hd_take n) _ _ h4)
      · rename_i ds e
        cases h
        obtain ⟨l', h2, xs, h3, h4⟩ := paired_at b.ob e
        rw [h1] at h2; cases h2
        exact Dq.dk (ys := xs) (up _ h3) (KQ.toK (h4.mono (hd_take n)))
      · rename_i ds e
        cases h
        obtain ⟨l', h2, xs, h3, h4⟩ := paired_at b.ob e
        rw [h1] at h2; cases h2
        exact ⟨_, xs, rfl, up _ h3, h4.mono (hd_take n)⟩
      · rename_i ds e
        cases h
        obtain ⟨l', h2, xs, h3, h4⟩ := paired_at b.ob e
        rw [h1] at h2; cases h2
        exact ⟨_, xs, rfl, up _ h3, h4.mono (hd_take n)⟩
      · cases h
theorem R.clr (r : R C a L Mo σ H) (fs : List Nat) : R C ⟨QL.clr a.g fs, a.m⟩ L Mo σ H := by
  induction fs with
  | nil => exact r
  | cons v fs ih =>
    refine ⟨r.b, by have := ih.ln; simpa [QL.clr] using this, fun i av e => ?_⟩
    have e' : ((QL.clr a.g fs).set v none)[i]? = some (some av) := e
    by_cases hv : v = i
    · subst hv
      by_cases hl : v < (QL.clr a.g fs).length
      · rw [List.getElem?_set_self hl] at e'; cases e'
      · rw [List.getElem?_eq_none_iff.mpr (by rw [List.length_set]; omega)] at e'; cases e'
    · rw [List.getElem?_set_ne hv] at e'
      exact ih.sl i av e'
theorem R.norm (r : R C a L Mo σ H) (n : Nat) (fs : List Nat) : R C (norm n fs a) L (Mo.take n) σ H := by
  suffices r0 : R C ⟨a.g.map (fzS n a.m), ⟨a.m.s, a.m.o.take n⟩⟩ L (Mo.take n) σ H from r0.clr fs
  refine ⟨r.b.take n, by simp [r.ln], fun i av e => ?_⟩
  have e' : (a.g.map (fzS n a.m))[i]? = some (some av) := e
  rw [List.getElem?_map] at e'
  cases q : a.g[i]? with
  | none => rw [q] at e'; cases e'
  | some o =>
    rw [q] at e'
    have e2 : fzS n a.m o = some av := Option.some.inj e'
    cases o with
    | none => cases e2
    | some x =>
      obtain ⟨v, h1, h2⟩ := r.sl i x q
      exact ⟨v, h1, h2.fz r.b e2⟩
end

/-! ### a context that starts here -/
def Ct.here (C : Ct) (L Mo : List Addr) (H : Hp) : Ct := ⟨C.K, C.Z, L, hid Mo H⟩
section
variable {C : Ct} {m m' : Mm} {a : AS} {L Mo L' Mo' : List Addr} {σ : List (Option V)} {H H' : Hp}
theorem B.here (b : B C m L Mo H) : B (C.here L Mo H) m L Mo H := by
  have nd := b.nd
  refine ⟨b.nd, b.sr, b.ob, fun x u h _ => (hid_some h).2, fun x h => .inl h, fun x hx => ⟨if_pos hx, fun z => ?_⟩, fun z hz => ⟨?_, fun q => ?_⟩, .inr rfl⟩
  · have q := (List.nodup_append.mp nd).2.1
    exact (List.nodup_append.mp q).2.2 x z x hx rfl
  · obtain ⟨u, hu, hnt⟩ := b.thereN (List.mem_append_left _ hz)
    refine ⟨u, ?_, hnt⟩
    show hid Mo H z = some u
    rw [hid_of (fun q => (List.nodup_append.mp nd).2.2 z hz z (List.mem_append_right _ q) rfl)]; exact hu
  · exact (List.nodup_append.mp nd).2.2 z hz z (List.mem_append_left _ q) rfl
theorem B.back (b : B C m L Mo H) (b' : B (C.here L Mo H) m' L' Mo' H') : B C m' L' Mo' H' := by
  refine ⟨b'.nd, b'.sr, b'.ob, fun x u h hl => ?_, fun x hx => ?_, fun x hx => ?_, b.zt, ?_⟩
  · have h1 := b.kp x u h hl
    refine b'.kp x u ?_ fun z => ?_
    · show hid Mo H x = some u
      rw [hid_of (fun z => by rw [(b.no x z).1] at h; cases h)]; exact h1
    · rcases b.nl x z with q | q
      · exact hl q
      · rw [q] at h; cases h
  · rcases b'.nl x hx with z | z
    · exact b.nl x z
    · have z' : hid Mo H x = none := z
      by_cases hm : x ∈ Mo
      · exact .inr (b.no x hm).1
      · rw [hid_of hm] at z'; exact .inr (b.fresh0 z')
  · obtain ⟨z1, z2⟩ := b'.no x hx
    have z' : hid Mo H x = none := z1
    by_cases hm : x ∈ Mo
    · exact b.no x hm
    · rw [hid_of hm] at z'; exact ⟨b.fresh0 z', b.freshL z'⟩
  · rcases b.l0 with q | q
    · exact .inl q
    · rcases b'.l0 with z | z
      · exact .inl (q.symm.trans z)
      · exact .inr (z.trans q)
theorem hereSame (b' : B (C.here L Mo H) m' L' Mo' H') : Same (C.hd L Mo H) ((C.here L Mo H).hd L' Mo' H') := fun x o h => by
  obtain ⟨h1, h2⟩ := hid_some h
  have hx : hid Mo H x = some o := by rw [hid_of (fun z => h1 (by simp [z]))]; exact h2
  have n1 : x ∉ L := fun z => h1 (by simp [z])
  have n2 : x ∉ L' := fun z => by
    rcases b'.nl x z with q | q
    · exact n1 q
    · rw [show (C.here L Mo H).H0 x = some o from hx] at q; cases q
  have n3 : x ∉ Mo' := fun z => by
    have q := (b'.no x z).1
    rw [show (C.here L Mo H).H0 x = some o from hx] at q; cases q
  rw [Ct.hd, hid_of (fun z => by
    simp only [List.mem_append] at z
    rcases z with z | z | z
    · exact h1 (by simp only [List.mem_append]; exact .inl z)
    · exact n2 z
    · exact n3 z)]
  exact b'.kp x o hx n1
theorem AVR.here {av : AV} {v : V} (h : AVR C L Mo H av v) : AVR (C.here L Mo H) L Mo H av v := by
  cases av with
  | d x => exact h
  | o j => exact h
  | src => exact h
  | cells => exact h
  | scr ns => exact h
  | kt ns => exact h
  | dt ns => exact h
  | xt ns => exact h
  | hx ns => exact h
  | ty ns => exact h
  | ad ns => exact h
theorem AVR.unhere {av : AV} {v : V} (h : AVR (C.here L Mo H) L' Mo' H' av v) : AVR C L' Mo' H' av v := by
  cases av with
  | d x => exact h
  | o j => exact h
  | src => exact h
  | cells => exact h
  | scr ns => exact h
  | kt ns => exact h
  | dt ns => exact h
  | xt ns => exact h
  | hx ns => exact h
  | ty ns => exact h
  | ad ns => exact h
theorem R.here (r : R C a L Mo σ H) : R (C.here L Mo H) a L Mo σ H := ⟨r.b.here, r.ln, fun i av e => let ⟨v, h1, h2⟩ := r.sl i av e; ⟨v, h1, h2.here⟩⟩
theorem R.back {a' : AS} {σ' : List (Option V)} (b : B C m L Mo H) (r : R (C.here L Mo H) a' L' Mo' σ' H') : R C a' L' Mo' σ' H' := ⟨b.back r.b, r.ln, fun i av e => let ⟨v, h1, h2⟩ := r.sl i av e; ⟨v, h1, h2.unhere⟩⟩
end
end QL

namespace QL
open PySem PySem.Spec PyProof.Rows L2

/-! ### what is walked -/
def ItemsOk (C : Ct) (J : It) (L Mo : List Addr) (H : Hp) (ds : List D) : Prop := ∀ (C2 : Ct) (L1 Mo1 : List Addr) (H1 : Hp) (m1 : Mm), C2.K = C.K → B C2 m1 L1 Mo1 H1 → Same (C.hd L Mo H) (C2.hd L1 Mo1 H1) →
  (∀ (i : Nat) (d : D), ds[i]? = some d → J.go i H1 ∧ ∀ x H2, J.yld i H1 x H2 → B C2 m1 L1 Mo1 H2 ∧ X2 C2 L1 Mo1 H1 L1 Mo1 H2 ∧ Dq C.K (C2.hd L1 Mo1 H2) x d) ∧ J.stop ds.length H1
abbrev AIt := AS → (List D → Mm → Prop) → Prop
def lftI (C : Ct) (t : AIt) : TI := fun σ H R' => ∃ a L Mo AQ, R C a L Mo σ H ∧ (∀ ds m' L' Mo' H' J, AQ ds m' → B C m' L' Mo' H' → X2 C L Mo H L' Mo' H' → ItemsOk C J L' Mo' H' ds → R' J H') ∧ t a AQ
theorem PI.imp {X : Cx} {tg e : Expr} {t t' : TI} (h : PI X tg e t) (i : ∀ σ H Q, t' σ H Q → t σ H Q) : PI X tg e t' := ⟨fun pins s σ H Q I q => h.run pins s σ H Q I (i σ H Q q)⟩
def QI (X : Cx) (tg e : Expr) (t : AIt) : Prop := ∀ C : Ct, C.K = X.K → PI X tg e (lftI C t)
def rngD (lo : Int) (n : Nat) : List D := (List.range n).map fun k => .int (lo + (k : Nat))
theorem rngD_len (lo : Int) (n : Nat) : (rngD lo n).length = n := by simp [rngD]
theorem rngD_at {lo : Int} {n i : Nat} {d : D} (h : (rngD lo n)[i]? = some d) : i < n ∧ d = .int (lo + i) := by
  unfold rngD at h
  rw [List.getElem?_map] at h
  cases e : (List.range n)[i]? with
  | none => rw [e] at h; cases h
  | some j =>
    rw [e] at h
    have h1 := List.getElem?_eq_some_iff.mp e
    obtain ⟨h2, h3⟩ := h1
    rw [List.getElem_range] at h3
    subst h3
    exact ⟨by simpa using h2, (Option.some.inj h).symm⟩
theorem items_rng {C : Ct} {L Mo : List Addr} {H : Hp} (lo : Int) (n : Nat) : ItemsOk C (Itr lo n) L Mo H (rngD lo n) := fun C2 L1 Mo1 H1 m1 hK b sm =>
  ⟨fun i d h => ⟨(rngD_at h).1, fun x H2 ⟨e1, e2⟩ => by subst e1; rw [e2, (rngD_at h).2]; exact ⟨b, X2.refl, .int _⟩⟩, by show n ≤ _; rw [rngD_len]; exact Nat.le_refl _⟩
theorem items_lst {C : Ct} {L Mo : List Addr} {H : Hp} {a : Addr} {xs : List V} {ds : List D} (h : C.hd L Mo H a = some (.lst xs)) (hx : DqAll C.K (C.hd L Mo H) xs ds) : ItemsOk C (Itl C.K a) L Mo H ds := fun C2 L1 Mo1 H1 m1 hK b sm => by
  have q : SqL C.K H1 a xs := SqL.of (hid_some (sm _ _ h)).2
  refine ⟨fun i d e => ?_, xs, q, by rw [hx.len]; exact Nat.le_refl _⟩
  obtain ⟨v, h1, h2⟩ := hx.at e
  refine ⟨⟨xs, v, q, h1⟩, fun x H2 ⟨e1, e2⟩ => ?_⟩
  subst e1
  have := e2 xs q
  rw [h1] at this; cases this
  exact ⟨b, X2.refl, Dq.mono sm _ _ h2⟩
theorem items_tup {C : Ct} {L Mo : List Addr} {H : Hp} {a : Addr} {xs : List V} {ds : List D} (h : SqT C.K (C.hd L Mo H) a xs) (hx : DqAll C.K (C.hd L Mo H) xs ds) : ItemsOk C (Itt C.K a) L Mo H ds := fun C2 L1 Mo1 H1 m1 hK b sm => by
  have q : SqT C.K H1 a xs := same_tup hid_same (same_tup sm h)
  refine ⟨fun i d e => ?_, xs, q, by rw [hx.len]; exact Nat.le_refl _⟩
  obtain ⟨v, h1, h2⟩ := hx.at e
  refine ⟨⟨xs, v, q, h1⟩, fun x H2 ⟨e1, e2⟩ => ?_⟩
  subst e1
  have := e2 xs q
  rw [h1] at this; cases this
  exact ⟨b, X2.refl, Dq.mono sm _ _ h2⟩
section
variable {X : Cx} {tg e : Expr} {te : ATE}
def Rg (j : Int) : Prop := -(2 ^ 62) ≤ j ∧ j < 2 ^ 62
def aRng1 (t : ATA) : AIt := fun a Q => t a fun avs m => match avs with
  | [.d (.int j)] => Rg j ∧ Q (rngD 0 j.toNat) m
  | _ => False
def aRng2 (t : ATA) : AIt := fun a Q => t a fun avs m => match avs with
  | [.d (.int i), .d (.int j)] => Rg i ∧ Rg j ∧ Q (rngD i (j - i).toNat) m
  | _ => False
theorem qi_range1 {a : Expr} {ta : ATA} {p pos : Pos} (hg : Gl X "range") (hm : X.mg "range" = none) (ha : QA X [a] ta) (hs : starEach [a] X.env = [(false, eval a X.env)] := by rfl) : QI X tg (.Call (.Name "range" p) [a] [] pos) (aRng1 ta) := fun C hK =>
  PI.imp (pi_range1 hg hm (ha C hK) hs) fun σ H R' ⟨a, L, Mo, AQ, r, k, h⟩ => by
    refine ⟨a, L, Mo, _, r, fun xs m1 vs L1 Mo1 H1 h1 b1 v1 e1 => ?_, h⟩
    split at h1
    · obtain ⟨v, rfl, q⟩ := av1 v1
      exact ⟨_, by rw [dq_int q], h1.1.1, h1.1.2, k _ _ _ _ _ _ h1.2 b1 e1 (items_rng _ _)⟩
    · exact h1.elim
theorem qi_range2 {a b : Expr} {ta : ATA} {p pos : Pos} (hg : Gl X "range") (hm : X.mg "range" = none) (ha : QA X [a, b] ta) (hs : starEach [a, b] X.env = [(false, eval a X.env), (false, eval b X.env)] := by rfl) (hs2 : starEach [b] X.env = [(false, eval b X.env)] := by rfl) :
    QI X tg (.Call (.Name "range" p) [a, b] [] pos) (aRng2 ta) := fun C hK =>
  PI.imp (pi_range2 hg hm (ha C hK) hs hs2) fun σ H R' ⟨a, L, Mo, AQ, r, k, h⟩ => by
    refine ⟨a, L, Mo, _, r, fun xs m1 vs L1 Mo1 H1 h1 b1 v1 e1 => ?_, h⟩
    split at h1
    · obtain ⟨v, w, rfl, q, q'⟩ := av2 v1
      exact ⟨_, _, by rw [dq_int q, dq_int q'], ⟨h1.1.1, h1.1.2, h1.2.1.1, h1.2.1.2⟩, k _ _ _ _ _ _ h1.2.2 b1 e1 (items_rng _ _)⟩
    · exact h1.elim
def aItT (te : ATE) : AIt := fun a Q => te a fun x m => match x with
  | .d (.tuple ds) => Q ds m
  | _ => False
def aItL (te : ATE) : AIt := fun a Q => te a fun x m => match x with
  | .d (.list ds) => Q ds m
  | _ => False
theorem qi_tup (h : QE X e te) : QI X tg e (aItT te) := fun C hK => PI.imp (pi_tup (h C hK)) fun σ H R' ⟨a, L, Mo, AQ, r, k, h⟩ => by
  refine ⟨a, L, Mo, _, r, fun x m1 v L1 Mo1 H1 h1 b1 v1 e1 => ?_, h⟩
  split at h1
  · cases v1 with
    | tup q1 _ q2 => exact ⟨_, rfl, ⟨_, hK ▸ same_tup hid_same q1⟩, k _ _ _ _ _ _ h1 b1 e1 (hK ▸ items_tup q1 q2)⟩
  · exact h1.elim
theorem qi_lst (h : QE X e te) : QI X tg e (aItL te) := fun C hK => PI.imp (pi_list (h C hK)) fun σ H R' ⟨a, L, Mo, AQ, r, k, h⟩ => by
  refine ⟨a, L, Mo, _, r, fun x m1 v L1 Mo1 H1 h1 b1 v1 e1 => ?_, h⟩
  split at h1
  · cases v1 with
    | lst q1 q2 => exact ⟨_, rfl, ⟨_, SqL.of (hid_some q1).2⟩, k _ _ _ _ _ _ h1 b1 e1 (hK ▸ items_lst q1 q2)⟩
  · exact h1.elim
end

/-! ### for -/
def aForL (n : Nat) (fs : List Nat) (g : ATG) (tb : ATS) (E : AEnds) : List D → AS → Prop
  | [], a => E.nx a
  | d :: r, a => g (.d d) a.m a.g fun g' => tb { E with nx := fun a2 => aForL n fs g tb E r (norm n fs a2), ct := fun a2 => aForL n fs g tb E r (norm n fs a2), bk := fun a2 => E.nx (norm n fs a2) } ⟨g', a.m⟩
def aFor (fs : List Nat) (ti : AIt) (g : ATG) (tb : ATS) : ATS := fun E a => ti a fun ds m => aForL m.o.length fs g tb E ds ⟨clr a.g fs, m⟩
section
variable {X : Cx} {pos : Pos} {vs : List Nat}
theorem Bel.here {C : Ct} {AD : AEnds} {E : Ends} {m : Mm} {L Mo : List Addr} {H : Hp} (b : Bel C AD E) (bb : B C m L Mo H) : Bel (C.here L Mo H) AD E :=
  ⟨fun a L' Mo' σ' H' q r => b.nx _ _ _ _ _ q (R.back bb r), fun av m' L' Mo' H' v q b' rv => b.rt _ _ _ _ _ _ q (bb.back b') rv.unhere, fun a L' Mo' σ' H' q r => b.bk _ _ _ _ _ q (R.back bb r), fun a L' Mo' σ' H' q r => b.ct _ _ _ _ _ q (R.back bb r)⟩
theorem drop_at {ds : List D} {i : Nat} {d : D} {r : List D} (h : ds.drop i = d :: r) : ds[i]? = some d ∧ ds.drop (i + 1) = r := by
  have h1 : (ds.drop i)[0]? = some d := by rw [h]; rfl
  rw [List.getElem?_drop] at h1
  refine ⟨by simpa using h1, ?_⟩
  have : (ds.drop i).drop 1 = r := by rw [h]; rfl
  rw [List.drop_drop] at this
  exact this
theorem qs_for (fs : List Nat) {tg iter : Expr} {body : List Stmt} {ti : AIt} {g : ATG} {tb : ATS} (hp : PassesOwn (model X.prog X.w) X.A X.env X.xe) (hc : X.calm = true) (hi : QI X tg iter ti) (hg : QG X vs tg g) (hb : QSs X body tb)
    (hs : ∀ x, foldedSetIterable iter X.env x = pure x := by intro _; rfl) : QS X (.For tg iter body [] pos) (aFor fs ti g tb) := fun C hK => by
  -- the body's reading is taken in a context that starts at the loop: one for each start
  refine ⟨fun pins s σ H E I h => ?_⟩
  obtain ⟨a, L, Mo, AD, r, bel, h⟩ := h
  -- the iterable first
  have key : ∀ (L' Mo' : List Addr) (H' : Hp) (m' : Mm), B C m' L' Mo' H' → PSs X body (lftS (C.here L' Mo' H') tb) ∧ PG X tg (lftG (C.here L' Mo' H') vs g) := fun L' Mo' H' m' _ => ⟨hb (C.here L' Mo' H') hK, hg (C.here L' Mo' H') hK⟩
  -- one reading for all: the context is chosen within
  have hb' : PSs X body (fun D σ H => ∃ L' Mo' H', lftS (C.here L' Mo' H') tb D σ H) := ⟨fun pins s σ H Q I ⟨L', Mo', H', q⟩ => (hb (C.here L' Mo' H') hK).run pins s σ H Q I q⟩
  have hg' : PG X tg (fun v σ H Q => ∃ L' Mo' H', lftG (C.here L' Mo' H') vs g v σ H Q) := ⟨fun pins s σ H v u Q I rv ⟨L', Mo', H', q⟩ => (hg (C.here L' Mo' H') hK).run pins s σ H v u Q I rv q⟩
  refine (ps_for hp hc (hi C hK) hg' hb' hs).run pins s σ H E I ?_
  refine ⟨a, L, Mo, _, r, fun ds m' L' Mo' H' J q b' x ok => ?_, h⟩
  have q' : aForL m'.o.length fs g tb AD ds ⟨clr a.g fs, m'⟩ := q
  have bel' := bel.here b'
  refine ⟨fun i k σ1 H1 => ∃ a1 L1 Mo1, R (C.here L' Mo' H') a1 L1 Mo1 σ1 H1 ∧ aForL m'.o.length fs g tb AD (ds.drop i) a1 ∧ i + k = ds.length, ⟨ds.length, ⟨clr a.g fs, m'⟩, L', Mo', (r.next b' x).here.clr fs, by simpa using q', by omega⟩, ?_⟩
  rintro i k σ1 H1 ⟨a1, L1, Mo1, r1, h1, e1⟩
  have okk := ok (C.here L' Mo' H') L1 Mo1 H1 a1.m rfl r1.b (hereSame r1.b)
  cases hd : ds.drop i with
  | nil =>
    have hl : ds.length ≤ i := List.drop_eq_nil_iff.mp hd
    have : i = ds.length := by omega
    rw [hd] at h1
    subst this
    exact .inl ⟨okk.2, bel'.nx _ _ _ _ _ h1 r1⟩
  | cons d rr =>
    rw [hd] at h1
    obtain ⟨hat, hdr⟩ := drop_at hd
    obtain ⟨hgo, hyl⟩ := okk.1 i d hat
    refine .inr ⟨hgo, fun σ2 H2 => ∃ a2 L2 Mo2, R (C.here L' Mo' H') a2 L2 Mo2 σ2 H2 ∧ aForL m'.o.length fs g tb AD rr (norm m'.o.length fs a2), ?_, ?_⟩
    · rintro σ2 H2 ⟨a2, L2, Mo2, r2, h2⟩
      have hlt : i < ds.length := (List.getElem?_eq_some_iff.mp hat).1
      exact ⟨k - 1, by omega, norm m'.o.length fs a2, L2, _, r2.norm _ _, by rw [hdr]; exact h2, by omega⟩
    · intro y H2 hy
      obtain ⟨b2, x2, dq⟩ := hyl y H2 hy
      refine ⟨L', Mo', H', a1, L1, Mo1, .d d, _, r1.next b2 x2, dq, fun g' σ' hg2 r' _ => ⟨L', Mo', H', ⟨g', a1.m⟩, L1, Mo1, _, r', ?_, hg2⟩, h1⟩
      exact ⟨fun a2 L2 Mo2 σ2 H2 q r => ⟨a2, L2, Mo2, r, q⟩, bel'.rt, fun a2 L2 Mo2 σ2 H2 q r => bel'.nx _ _ _ _ _ q (r.norm _ _), fun a2 L2 Mo2 σ2 H2 q r => ⟨a2, L2, Mo2, r, q⟩⟩
/-! ### while -/
def aWhile (fs : List Nat) (c : ATT) (tb : ATS) : ATS := fun E a0 => ∃ (I : AS → Prop) (μ : AS → Nat), I ⟨clr a0.g fs, a0.m⟩ ∧ ∀ a, I a → c a fun b m => if b = true then
  tb { E with nx := fun a2 => I (norm a0.m.o.length fs a2) ∧ μ (norm a0.m.o.length fs a2) < μ a, ct := fun a2 => I (norm a0.m.o.length fs a2) ∧ μ (norm a0.m.o.length fs a2) < μ a, bk := fun a2 => E.nx (norm a0.m.o.length fs a2) } ⟨a.g, m⟩ else E.nx ⟨a.g, m⟩
theorem qs_while (fs : List Nat) {c : Expr} {body : List Stmt} {tc : ATT} {tb : ATS} (hp : PassesOwn (model X.prog X.w) X.A X.env X.xe) (hc : QT X c tc) (hb : QSs X body tb) : QS X (.While c body [] pos) (aWhile fs tc tb) := fun C hK =>
  PS.imp (ps_while hp (hc C hK) (hb C hK)) fun E σ H ⟨a0, L, Mo, AD, r, bel, I, μ, h0, hs⟩ => by
    refine ⟨fun k σ1 H1 => ∃ a L1 Mo1, R C a L1 Mo1 σ1 H1 ∧ I a ∧ μ a = k, ⟨_, ⟨clr a0.g fs, a0.m⟩, L, Mo, r.clr fs, h0, rfl⟩, ?_⟩
    rintro k σ1 H1 ⟨a, L1, Mo1, r1, h1, rfl⟩
    refine ⟨a, L1, Mo1, _, r1, fun b m2 L2 Mo2 H2 h2 b2 x2 => ?_, hs a h1⟩
    cases b with
    | true =>
      rw [if_pos rfl] at h2 ⊢
      refine ⟨fun σ' H' => ∃ a2 L' Mo', R C a2 L' Mo' σ' H' ∧ I (norm a0.m.o.length fs a2) ∧ μ (norm a0.m.o.length fs a2) < μ a, ?_, ?_⟩
      · rintro σ' H' ⟨a2, L', Mo', r', q1, q2⟩
        exact ⟨_, q2, norm a0.m.o.length fs a2, L', _, r'.norm _ _, q1, rfl⟩
      · exact ⟨⟨a.g, m2⟩, L2, Mo2, { AD with nx := fun a2 => I (norm a0.m.o.length fs a2) ∧ μ (norm a0.m.o.length fs a2) < μ a, ct := fun a2 => I (norm a0.m.o.length fs a2) ∧ μ (norm a0.m.o.length fs a2) < μ a, bk := fun a2 => AD.nx (norm a0.m.o.length fs a2) }, r1.next b2 x2, ⟨fun a2 L' Mo' σ' H' q r => ⟨a2, L', Mo', r, q⟩, bel.rt, fun a2 L' Mo' σ' H' q r => bel.nx _ _ _ _ _ q (r.norm _ _), fun a2 L' Mo' σ' H' q r => ⟨a2, L', Mo', r, q⟩⟩, h2⟩
    | false =>
      rw [if_neg Bool.false_ne_true] at h2 ⊢
      exact bel.nx _ _ _ _ _ h2 (r1.next b2 x2)
end
end QL

namespace QL
open PySem PySem.Spec PyProof.Rows L2

/-! ### comprehensions: the new list stands at p, hidden, while it is made -/
def Ct.mk' (C : Ct) (L Mo : List Addr) (H : Hp) (p : Addr) (acc : List V) : Ct := ⟨C.K, C.Z ++ [p], L, upd (hid Mo H) p (.lst acc)⟩
section
variable {C : Ct} {m m' : Mm} {a : AS} {L Mo L' Mo' : List Addr} {σ : List (Option V)} {H H' : Hp} {p : Addr} {acc acc' : List V}
theorem mk_hd0 (hp : H p = none) : (C.mk' L Mo H p acc).hd L Mo (upd H p (.lst acc)) = C.hd L Mo H := by
  funext x
  show hid ((C.Z ++ [p]) ++ (L ++ Mo)) (upd H p (.lst acc)) x = hid (C.Z ++ (L ++ Mo)) H x
  unfold hid
  by_cases h : x = p
  · subst h
    rw [if_pos (by grind)]
    by_cases h2 : x ∈ C.Z ++ (L ++ Mo)
    · rw [if_pos h2]
    · rw [if_neg h2, hp]
  · by_cases h2 : x ∈ C.Z ++ (L ++ Mo)
    · rw [if_pos h2, if_pos (by grind)]
    · rw [if_neg h2, if_neg (by grind), upd_ne h]
theorem AVR.same {C2 : Ct} {av : AV} {v : V} (h : AVR C L Mo H av v) (hK : C2.K = C.K) (e : Same (C.hd L Mo H) (C2.hd L Mo H')) : AVR C2 L Mo H' av v := by
  cases av with
  | d x => rw [AVR, hK]; exact Dq.mono e _ _ h
  | o j => exact h
  | src => exact h
  | cells => exact h
  | scr ns =>
    obtain ⟨a, rfl, q⟩ := h
    exact ⟨a, rfl, by rw [hK]; exact e.seq q⟩
  | kt ns =>
    obtain ⟨a, rfl, q⟩ := h
    exact ⟨a, rfl, e _ _ q⟩
  | dt ns =>
    obtain ⟨a, ys, rfl, q, q2⟩ := h
    exact ⟨a, ys, rfl, e _ _ q, by rw [hK]; exact q2.mono e⟩
  | xt ns =>
    obtain ⟨a, ys, rfl, q, q2⟩ := h
    exact ⟨a, ys, rfl, e _ _ q, by rw [hK]; exact q2.mono e⟩
  | hx ns =>
    obtain ⟨a, rfl, q⟩ := h
    exact ⟨a, rfl, e _ _ q⟩
  | ty n => exact h
  | ad n => exact h
theorem B.mk0 (b : B C m L Mo H) (hp : H p = none) : B (C.mk' L Mo H p []) m L Mo (upd H p (.lst [])) := by
  have hf := b.fresh hp
  have nd := b.nd
  have b' := b.alloc (ho := .lst []) hp
  refine ⟨?_, b'.sr, paired_impM b.ob fun o l hl q => q.mono (by show Same _ ((C.mk' L Mo H p []).hd L Mo _); rw [mk_hd0 hp]; exact Same.refl _) (upd_ne fun e => hf (by grind)), fun x u h _ => ?_, fun x h => .inl h, fun x hx => ⟨?_, ?_⟩, fun z hz => ?_, .inr rfl⟩
  · show ((C.Z ++ [p]) ++ (L ++ Mo)).Nodup
    grind
  · have h' : upd (hid Mo H) p (.lst []) x = some u := h
    by_cases e : x = p
    · subst e; rw [upd_same] at h' ⊢; exact h'
    · rw [upd_ne e] at h' ⊢; exact (hid_some h').2
  · show upd (hid Mo H) p (.lst []) x = none
    rw [upd_ne (fun e => hf (by grind))]; exact if_pos hx
  · show x ∉ L
    intro z
    have q := (List.nodup_append.mp nd).2.1
    exact (List.nodup_append.mp q).2.2 x z x hx rfl
  · have hz' : z ∈ C.Z ++ [p] := hz
    show (∃ u, upd (hid Mo H) p (.lst []) z = some u ∧ NT u) ∧ z ∉ L
    by_cases e : z = p
    · subst e; exact ⟨⟨_, upd_same, fun _ e => nomatch e⟩, fun q => hf (by grind)⟩
    · have hz2 : z ∈ C.Z := by grind
      obtain ⟨u, hu, hnt⟩ := b.thereN (List.mem_append_left _ hz2)
      refine ⟨⟨u, ?_, hnt⟩, fun q => (List.nodup_append.mp nd).2.2 z hz2 z (List.mem_append_left _ q) rfl⟩
      rw [upd_ne e, hid_of (fun q => (List.nodup_append.mp nd).2.2 z hz2 z (List.mem_append_right _ q) rfl)]; exact hu
theorem mk_at (b' : B (C.mk' L Mo H p acc) m' L' Mo' H') (hL : p ∉ L) : H' p = some (.lst acc) := b'.kp p _ (show upd (hid Mo H) p (.lst acc) p = some (.lst acc) from upd_same) hL
theorem mk_sameS (hp : H p = none) (b' : B (C.mk' L Mo H p acc) m' L' Mo' H') : Same (C.hd L Mo H) ((C.mk' L Mo H p acc).hd L' Mo' H') := fun x o h => by
  obtain ⟨h1, h2⟩ := hid_some h
  have ne : x ≠ p := ne_of_none h2 hp
  have hx : (C.mk' L Mo H p acc).H0 x = some o := by
    show upd (hid Mo H) p (.lst acc) x = some o
    rw [upd_ne ne, hid_of (fun z => h1 (by grind))]; exact h2
  have n1 : x ∉ L := fun z => h1 (by grind)
  have n2 : x ∉ L' := fun z => by
    rcases b'.nl x z with q | q
    · exact n1 q
    · rw [hx] at q; cases q
  have n3 : x ∉ Mo' := fun z => by
    have q := (b'.no x z).1
    rw [hx] at q; cases q
  have n4 : x ∉ (C.mk' L Mo H p acc).Z := by
    show x ∉ C.Z ++ [p]
    grind
  rw [Ct.hd, hid_of (by grind)]
  exact b'.kp x o hx n1
theorem B.mkStep (b : B C m L Mo H) (hp : H p = none) (b' : B (C.mk' L Mo H p acc) m' L' Mo' H') : B (C.mk' L Mo H p acc') m' L' Mo' (upd H' p (.lst acc')) := by
  have hf := b.fresh hp
  have hpZ : p ∈ (C.mk' L Mo H p acc).Z := by show p ∈ C.Z ++ [p]; simp
  have nd := b'.nd
  have np : p ∉ L' ++ Mo' := fun z => (List.nodup_append.mp nd).2.2 p hpZ p z rfl
  have e : (C.mk' L Mo H p acc').hd L' Mo' (upd H' p (.lst acc')) = (C.mk' L Mo H p acc).hd L' Mo' H' := by
    have := hd_updIn (C := C.mk' L Mo H p acc) (L := L') (Mo := Mo') (H := H') (ho := .lst acc') (x := p) (List.mem_append_left _ hpZ)
    exact this
  refine ⟨nd, srcAt_upd b'.sr fun z => np (by grind), paired_impM b'.ob fun o l hl q => q.mono (by rw [e]; exact Same.refl _) (upd_ne fun z => np (by grind)), fun x u h hl => ?_, fun x hx => ?_, fun x hx => ?_, fun z hz => ?_, b'.l0⟩
  · have h' : upd (hid Mo H) p (.lst acc') x = some u := h
    by_cases ex : x = p
    · subst ex; rw [upd_same] at h' ⊢; exact h'
    · rw [upd_ne ex] at h' ⊢
      exact b'.kp x u (show upd (hid Mo H) p (.lst acc) x = some u by rw [upd_ne ex]; exact h') hl
  · rcases b'.nl x hx with z | z
    · exact .inl z
    · have z' : upd (hid Mo H) p (.lst acc) x = none := z
      refine .inr (show upd (hid Mo H) p (.lst acc') x = none from ?_)
      have ex : x ≠ p := fun q => by subst q; rw [upd_same] at z'; cases z'
      rw [upd_ne ex] at z' ⊢; exact z'
  · obtain ⟨z, w⟩ := b'.no x hx
    have z' : upd (hid Mo H) p (.lst acc) x = none := z
    refine ⟨show upd (hid Mo H) p (.lst acc') x = none from ?_, w⟩
    have ex : x ≠ p := fun q => by subst q; rw [upd_same] at z'; cases z'
    rw [upd_ne ex] at z' ⊢; exact z'
  · obtain ⟨⟨u, z1, hnt⟩, w⟩ := b'.zt z hz
    refine ⟨?_, w⟩
    by_cases ex : z = p
    · subst ex; exact ⟨_, upd_same, fun _ e => nomatch e⟩
    · have z' : upd (hid Mo H) p (.lst acc) z = some u := z1
      rw [upd_ne ex] at z'
      exact ⟨u, show upd (hid Mo H) p (.lst acc') z = some u by rw [upd_ne ex]; exact z', hnt⟩
theorem B.mkEnd (b : B C m L Mo H) (hp : H p = none) (b' : B (C.mk' L Mo H p acc) m' L' Mo' H') : B C m' L' Mo' H' := by
  have hf := b.fresh hp
  have hm : ∀ x, (C.mk' L Mo H p acc).H0 x = none → x ≠ p ∧ hid Mo H x = none := fun x z => by
    have z' : upd (hid Mo H) p (.lst acc) x = none := z
    have ex : x ≠ p := fun q => by subst q; rw [upd_same] at z'; cases z'
    rw [upd_ne ex] at z'; exact ⟨ex, z'⟩
  have fre : ∀ x, (C.mk' L Mo H p acc).H0 x = none → C.H0 x = none ∧ x ∉ C.L0 := fun x z => by
    obtain ⟨_, z'⟩ := hm x z
    by_cases q : x ∈ Mo
    · exact b.no x q
    · rw [hid_of q] at z'; exact ⟨b.fresh0 z', b.freshL z'⟩
  have hs : Same ((C.mk' L Mo H p acc).hd L' Mo' H') (C.hd L' Mo' H') := fun x o h => by
    obtain ⟨h1, h2⟩ := hid_some h
    have : x ∉ (C.Z ++ [p]) ++ (L' ++ Mo') := h1
    rw [Ct.hd, hid_of (by grind)]; exact h2
  refine ⟨?_, b'.sr, paired_impM b'.ob fun o l hl q => q.mono hs rfl, fun x u h hl => ?_, fun x hx => ?_, fun x hx => fre x (b'.no x hx).1, b.zt, ?_⟩
  · have nd : ((C.Z ++ [p]) ++ (L' ++ Mo')).Nodup := b'.nd
    grind
  · have h1 := b.kp x u h hl
    refine b'.kp x u ?_ fun z => ?_
    · show upd (hid Mo H) p (.lst acc) x = some u
      rw [upd_ne (ne_of_none h1 hp), hid_of (fun z => by rw [(b.no x z).1] at h; cases h)]; exact h1
    · rcases b.nl x z with q | q
      · exact hl q
      · rw [q] at h; cases h
  · rcases b'.nl x hx with z | z
    · exact b.nl x z
    · exact .inr (fre x z).1
  · rcases b.l0 with q | q
    · exact .inl q
    · rcases b'.l0 with z | z
      · exact .inl (q.symm.trans z)
      · exact .inr (z.trans q)
theorem mk_out (b' : B (C.mk' L Mo H p acc) m' L' Mo' H') : Same ((C.mk' L Mo H p acc).hd L' Mo' H') (C.hd L' Mo' H') := fun x o h => by
  obtain ⟨h1, h2⟩ := hid_some h
  have : x ∉ (C.Z ++ [p]) ++ (L' ++ Mo') := h1
  rw [Ct.hd, hid_of (by grind)]; exact h2
theorem R.wiped (r : R C a L Mo σ H) (vs : List Nat) : R C ⟨vs.foldr (fun v g => g.set v none) a.g, a.m⟩ L Mo (wipe σ vs) H := by
  induction vs with
  | nil => exact r
  | cons v vs ih =>
    refine ⟨r.b, by rw [wipe_length]; have := ih.ln; rw [wipe_length] at this; simpa using this, fun i av e => ?_⟩
    have e' : ((vs.foldr (fun v g => g.set v none) a.g).set v none)[i]? = some (some av) := e
    by_cases hv : v = i
    · subst hv
      by_cases hl : v < (vs.foldr (fun v g => g.set v none) a.g).length
      · rw [List.getElem?_set_self hl] at e'; cases e'
      · rw [List.getElem?_eq_none_iff.mpr (by rw [List.length_set]; omega)] at e'; cases e'
    · rw [List.getElem?_set_ne hv] at e'
      obtain ⟨w, h1, h2⟩ := ih.sl i av e'
      exact ⟨w, by show ((wipe σ vs).set v none)[i]? = _; rw [List.getElem?_set_ne hv]; exact h1, h2⟩
end
theorem wipe_wipe {σ : List (Option V)} {vs : List Nat} : wipe (wipe σ vs) vs = wipe σ vs := by
  apply List.ext_getElem?
  intro j
  rw [wipe_get, wipe_length, wipe_get]
  by_cases hj : j ∈ vs
  · rw [if_pos hj, if_pos hj]
  · rw [if_neg hj, if_neg hj]
def awipe (g : List (Option AV)) (vs : List Nat) : List (Option AV) := vs.foldr (fun v g => g.set v none) g
def aYes : ATT := fun a Q => Q true a.m
def QTs (X : Cx) (e : List Expr) (t : ATT) : Prop := ∀ C : Ct, C.K = X.K → PTs X e (lftT C t)
theorem PTs.imp {X : Cx} {e : List Expr} {t t' : TT} (h : PTs X e t) (i : ∀ σ H Q, t' σ H Q → t σ H Q) : PTs X e t' := ⟨fun pins s σ H Q I q => h.run pins s σ H Q I (i σ H Q q)⟩
theorem qts_nil {X : Cx} : QTs X [] aYes := fun C hK => PTs.imp pts_nil fun σ H Q ⟨a, L, Mo, AQ, r, k, h⟩ => k _ _ _ _ _ h r.b X2.refl
theorem qts_one {X : Cx} {c : Expr} {t : ATT} (h : QT X c t) : QTs X [c] t := fun C hK => pts_one (h C hK)
def aLcL (g : ATG) (tt : ATT) (te : ATE) (g0 : List (Option AV)) : List D → List D → Mm → (List D → Mm → Prop) → Prop
  | [], acc, m, Q => Q acc m
  | d :: r, acc, m, Q => g (.d d) m g0 fun g' => tt ⟨g', m⟩ fun b m1 => if b = true then te ⟨g', m1⟩ fun y m2 => (match y with
    | .d e => aLcL g tt te g0 r (acc ++ [e]) m2 Q
    | _ => False) else aLcL g tt te g0 r acc m1 Q
def aLc (ti : AIt) (g : ATG) (tt : ATT) (te : ATE) (vs : List Nat) : ATE := fun a Q => ti a fun ds m => ds.length ≤ 1000000 ∧ aLcL g tt te (awipe a.g vs) ds [] m fun acc m' => Q (.d (.list acc)) m'
section
variable {X : Cx} {elt tg iter : Expr} {ifs : List Expr} {scope : Scope} {own : List (Str × Nat)} {pos : Pos} {ti : AIt} {g : ATG} {tt : ATT} {te : ATE}
/-- the block's readings for any context -/
def exG (K : PySem.W.Frag) (vs : List Nat) (g : ATG) : TG := fun v σ H Q => ∃ C : Ct, C.K = K ∧ lftG C vs g v σ H Q
def exT (K : PySem.W.Frag) (t : ATT) : TT := fun σ H Q => ∃ C : Ct, C.K = K ∧ lftT C t σ H Q
def exE (K : PySem.W.Frag) (t : ATE) : TE := fun σ H Q => ∃ C : Ct, C.K = K ∧ lft C t σ H Q
theorem QG.ex {Y : Cx} {vs : List Nat} {e : Expr} {K : PySem.W.Frag} (h : QG Y vs e g) (hK : Y.K = K) : PG Y e (exG K vs g) := ⟨fun pins s σ H v u Q I rv ⟨C, e1, q⟩ => (h C (e1.trans hK.symm)).run pins s σ H v u Q I rv q⟩
theorem QTs.ex {Y : Cx} {e : List Expr} {K : PySem.W.Frag} (h : QTs Y e tt) (hK : Y.K = K) : PTs Y e (exT K tt) := ⟨fun pins s σ H Q I ⟨C, e1, q⟩ => (h C (e1.trans hK.symm)).run pins s σ H Q I q⟩
theorem QE.ex {Y : Cx} {e : Expr} {K : PySem.W.Frag} (h : QE Y e te) (hK : Y.K = K) : PE Y e (exE K te) := ⟨fun pins s σ H Q I ⟨C, e1, q⟩ => (h C (e1.trans hK.symm)).run pins s σ H Q I q⟩
theorem lc_imp {C : Ct} (hK : C.K = X.K) (σ : List (Option V)) (H : Hp) (Q : VK) (h : lft C (aLc ti g tt te (own.map (·.2))) σ H Q) : tLc (lftI C ti) (exG X.K (own.map (·.2)) g) (exT X.K tt) (exE X.K te) (own.map (·.2)) σ H Q := by
  obtain ⟨a, L, Mo, AQ, r, k, h⟩ := h
  refine ⟨a, L, Mo, _, r, fun ds m1 L1 Mo1 H1 J q b1 x1 ok => ?_, h⟩
  obtain ⟨hsz, q⟩ := q
  intro p hp
  have hL : p ∉ L1 := fun z => b1.fresh hp (by simp [z])
  refine ⟨fun i n H2 => ∃ (acc : List V) (da : List D) (m2 : Mm) (L2 Mo2 : List Addr), R (C.mk' L1 Mo1 H1 p acc) ⟨awipe a.g (own.map (·.2)), m2⟩ L2 Mo2 (wipe σ (own.map (·.2))) H2 ∧ DqAll C.K ((C.mk' L1 Mo1 H1 p acc).hd L2 Mo2 H2) acc da ∧
    (L1 = [] ∨ L2 = L1) ∧ Mo1 <+: Mo2 ∧ aLcL g tt te (awipe a.g (own.map (·.2))) (ds.drop i) da m2 (fun acc m' => AQ (.d (.list acc)) m') ∧ i + n = ds.length ∧ acc.length ≤ i, ⟨ds.length, ?_⟩, ?_⟩
  · have r1 : R C ⟨a.g, m1⟩ L1 Mo1 σ H1 := r.next b1 x1
    have r2 : R (C.mk' L1 Mo1 H1 p []) ⟨a.g, m1⟩ L1 Mo1 σ (upd H1 p (.lst [])) := ⟨b1.mk0 hp, r1.ln, fun i av e => let ⟨v, h1, h2⟩ := r1.sl i av e; ⟨v, h1, h2.same rfl (by rw [mk_hd0 hp]; exact Same.refl _)⟩⟩
    exact ⟨[], [], m1, L1, Mo1, r2.wiped _, .nil, .inr rfl, List.prefix_rfl, by simpa using q, by omega, Nat.le_refl _⟩
  · rintro i n H2 ⟨acc, da, m2, L2, Mo2, r2, dq2, pl, po, q2, e2, hla⟩
    have okk := ok (C.mk' L1 Mo1 H1 p acc) L2 Mo2 H2 m2 rfl r2.b (mk_sameS hp r2.b)
    cases hd : ds.drop i with
    | nil =>
      have hl : ds.length ≤ i := List.drop_eq_nil_iff.mp hd
      have : i = ds.length := by omega
      rw [hd] at q2
      subst this
      refine .inl ⟨okk.2, ?_⟩
      have hat := mk_at r2.b hL
      have bb := b1.mkEnd hp r2.b
      have hnp : p ∉ C.Z ++ (L2 ++ Mo2) := by
        have nd : ((C.Z ++ [p]) ++ (L2 ++ Mo2)).Nodup := r2.b.nd
        grind
      exact k _ _ _ _ _ _ q2 bb (Dq.lst (by rw [Ct.hd, hid_of hnp]; exact hat) (DqAll.mono (mk_out r2.b) _ _ dq2)) (x1.trans ⟨pl, po, (mk_sameS hp r2.b).trans (mk_out r2.b)⟩)
    | cons d rr =>
      rw [hd] at q2
      obtain ⟨hat, hdr⟩ := drop_at hd
      obtain ⟨hgo, hyl⟩ := okk.1 i d hat
      have hlt : i < ds.length := (List.getElem?_eq_some_iff.mp hat).1
      refine .inr ⟨hgo, fun H3 => ∃ (acc : List V) (da : List D) (m3 : Mm) (L3 Mo3 : List Addr), R (C.mk' L1 Mo1 H1 p acc) ⟨awipe a.g (own.map (·.2)), m3⟩ L3 Mo3 (wipe σ (own.map (·.2))) H3 ∧ DqAll C.K ((C.mk' L1 Mo1 H1 p acc).hd L3 Mo3 H3) acc da ∧
        (L1 = [] ∨ L3 = L1) ∧ Mo1 <+: Mo3 ∧ aLcL g tt te (awipe a.g (own.map (·.2))) rr da m3 (fun acc m' => AQ (.d (.list acc)) m') ∧ acc.length ≤ i + 1, ?_, ?_⟩
      · rintro H3 ⟨acc3, da3, m3, L3, Mo3, r3, dq3, pl3, po3, q3, hl3⟩
        exact ⟨n - 1, by omega, acc3, da3, m3, L3, Mo3, r3, dq3, pl3, po3, by rw [hdr]; exact q3, by omega, hl3⟩
      · intro y H3 hy
        obtain ⟨b3, x3, dq3⟩ := hyl y H3 hy
        have r3 := r2.next b3 x3
        have q3 : g (.d d) m2 (awipe a.g (own.map (·.2))) (fun g' => tt ⟨g', m2⟩ fun b m1 => if b = true then te ⟨g', m1⟩ fun y m2 => (match y with
          | .d e => aLcL g tt te (awipe a.g (own.map (·.2))) rr (da ++ [e]) m2 (fun acc m' => AQ (.d (.list acc)) m')
          | _ => False) else aLcL g tt te (awipe a.g (own.map (·.2))) rr da m1 (fun acc m' => AQ (.d (.list acc)) m')) := q2
        refine ⟨C.mk' L1 Mo1 H1 p acc, hK, ⟨awipe a.g (own.map (·.2)), m2⟩, L2, Mo2, .d d, _, r3, dq3, fun g' σ' hg2 r' hw => ⟨by rw [hw]; exact wipe_wipe, ?_⟩, q3⟩
        refine ⟨C.mk' L1 Mo1 H1 p acc, hK, ⟨g', m2⟩, L2, Mo2, _, r', fun b m4 L4 Mo4 H4 h4 b4 x4 => ?_, hg2⟩
        have pl4 : L1 = [] ∨ L4 = L1 := by
          rcases pl with z | z
          · exact .inl z
          · rcases x4.pl with w | w
            · exact .inl (z ▸ w)
            · exact .inr (w.trans z)
        have po4 : Mo1 <+: Mo4 := po.trans x4.po
        have dq4 : DqAll C.K ((C.mk' L1 Mo1 H1 p acc).hd L4 Mo4 H4) acc da := DqAll.mono (x3.sm.trans x4.sm) _ _ dq2
        have r4 := r3.next b4 x4
        show if b = true then _ else _
        cases b with
        | false =>
          rw [if_neg Bool.false_ne_true] at h4 ⊢
          exact ⟨acc, da, m4, L4, Mo4, r4, dq4, pl4, po4, h4, by omega⟩
        | true =>
          rw [if_pos rfl] at h4 ⊢
          refine ⟨C.mk' L1 Mo1 H1 p acc, hK, ⟨g', m4⟩, L4, Mo4, _, r'.next b4 x4, fun y5 m5 v5 L5 Mo5 H5 h5 b5 v5r x5 => ?_, h4⟩
          split at h5
          · rename_i e
            have hL5 := mk_at b5 hL
            have dq5 : DqAll C.K ((C.mk' L1 Mo1 H1 p acc).hd L5 Mo5 H5) acc da := DqAll.mono x5.sm _ _ dq4
            have pz : p ∈ (C.mk' L1 Mo1 H1 p acc).Z := by show p ∈ C.Z ++ [p]; simp
            have ehd : (C.mk' L1 Mo1 H1 p (acc ++ [v5])).hd L5 Mo5 (upd H5 p (.lst (acc ++ [v5]))) = (C.mk' L1 Mo1 H1 p acc).hd L5 Mo5 H5 :=
              hd_updIn (C := C.mk' L1 Mo1 H1 p acc) (L := L5) (Mo := Mo5) (H := H5) (ho := .lst (acc ++ [v5])) (x := p) (List.mem_append_left _ pz)
            have r5 := r4.next b5 x5
            refine ⟨acc, hL5, Nat.lt_of_le_of_lt hla (Nat.lt_of_lt_of_le hlt (Nat.le_trans hsz (by decide))), acc ++ [v5], da ++ [e], m5, L5, Mo5, ?_, ?_, ?_, po4.trans x5.po, h5, by simp; omega⟩
            · exact ⟨B.mkStep b1 hp b5, r5.ln, fun i av e => let ⟨v, h1, h2⟩ := r5.sl i av e; ⟨v, h1, h2.same rfl (by rw [ehd]; exact Same.refl _)⟩⟩
            · rw [ehd]; exact dq5.app (.cons v5r .nil)
            · rcases pl4 with z | z
              · exact .inl z
              · rcases x5.pl with w | w
                · exact .inl (z ▸ w)
                · exact .inr (w.trans z)
          · exact h5.elim
end
end QL

namespace QL
open PySem PySem.Spec PyProof.Rows L2

section
variable {X : Cx} {elt tg iter : Expr} {ifs : List Expr} {scope : Scope} {own : List (Str × Nat)} {pos : Pos} {ti : AIt} {g : ATG} {tt : ATT} {te : ATE}
theorem q_lc (hc : X.calm = true) (hN : X.N.Nodup) (hi : QI X tg iter ti) (ok : BlkOk X.N X.env.scope scope own)
    (hg : ∀ (s : Shared) (H : Hp) (Ca : Addr) (cl : List (Str × Addr)) (fp : List Addr), QG (X.blk s H scope (compEnvC scope cl Ca X.env) fp) (own.map (·.2)) tg g)
    (ht : ∀ (s : Shared) (H : Hp) (Ca : Addr) (cl : List (Str × Addr)) (fp : List Addr), QTs (X.blk s H scope (compEnvC scope cl Ca X.env) fp) ifs tt)
    (he : ∀ (s : Shared) (H : Hp) (Ca : Addr) (cl : List (Str × Addr)) (fp : List Addr), QE (X.blk s H scope (compEnvC scope cl Ca X.env) fp) elt te) (hs : ∀ x, foldedSetIterable iter X.env x = pure x := by intro _; rfl) :
    QE X (.ListComp elt [⟨tg, iter, ifs, 0⟩] scope pos) (aLc ti g tt te (own.map (·.2))) := fun C hK =>
  PE.imp (pe_lc hc hN (hi C hK) ok (fun s H Ca cl fp => (hg s H Ca cl fp).ex rfl) (fun s H Ca cl fp => (ht s H Ca cl fp).ex rfl) (fun s H Ca cl fp => (he s H Ca cl fp).ex rfl) hs) (lc_imp hK)
theorem qs_setLc {i : Nat} {y : Str} {py : Pos} {spos : Pos} (hc : X.calm = true) (hN : X.N.Nodup) (hy : X.N[i]? = some y) (hyl : X.env.scope.names.lookup y = some .local)
    (hsw : swapsWith (.ListComp elt [⟨tg, iter, ifs, 0⟩] scope pos) (some (.Name y py)) spos.line X.env = pure true) (hi : QI X tg iter ti) (ok : BlkOk X.N X.env.scope scope own)
    (hg : ∀ (s : Shared) (H : Hp) (Ca : Addr) (cl : List (Str × Addr)) (fp : List Addr), QG (X.blk s H scope (compEnvC scope cl Ca X.env) fp) (own.map (·.2)) tg g)
    (ht : ∀ (s : Shared) (H : Hp) (Ca : Addr) (cl : List (Str × Addr)) (fp : List Addr), QTs (X.blk s H scope (compEnvC scope cl Ca X.env) fp) ifs tt)
    (he : ∀ (s : Shared) (H : Hp) (Ca : Addr) (cl : List (Str × Addr)) (fp : List Addr), QE (X.blk s H scope (compEnvC scope cl Ca X.env) fp) elt te) (hs : ∀ x, foldedSetIterable iter X.env x = pure x := by intro _; rfl) :
    QS X (.Assign [.Name y py] (.ListComp elt [⟨tg, iter, ifs, 0⟩] scope pos) spos) (aSet i (aLc ti g tt te (own.map (·.2)))) := fun C hK =>
  PS.imp (ps_setLc hc hN hy hyl hsw (hi C hK) ok (fun s H Ca cl fp => (hg s H Ca cl fp).ex rfl) (fun s H Ca cl fp => (ht s H Ca cl fp).ex rfl) (fun s H Ca cl fp => (he s H Ca cl fp).ex rfl) hs) fun E σ H ⟨a, L, Mo, AD, r, b, h⟩ =>
    lc_imp hK σ H _ ⟨a, L, Mo, _, r, fun x m1 v L1 Mo1 H1 h1 b1 v1 e1 => b.nx _ _ _ _ _ h1 ((r.next b1 e1).set i v1), h⟩
end

/-! ### defs, called where no repr is under way -/
structure FnG (P : Program) (w : World) (K : PySem.W.Frag) (mg : Str → Option Value) (base : Heap) (CX : CXT) (k : Nat) (f : Addr) (fd : FuncData) (ps : List Str) (sp : Sp) : Prop where
  len : ∀ vs H Q E, sp vs H Q E → vs.length = ps.length
  run : ∀ (A : Around) (outer : List Env) (s : Shared) (H : Hp) (args : Args) (us : List Value) (vs : List V) (Q : VK) (E : XK),
    Room k A → A.guards = some [] → Env0 P w K mg base A outer s H → BindsTo s fd args (ps.zip us) → Vals vs us → sp vs H Q E →
      codeAny (model P w) A (.call (.ref f) args) (CR CX outer P w H s Q E) s
theorem FnG.of {P : Program} {w : World} {K : PySem.W.Frag} {mg : Str → Option Value} {base : Heap} {CX : CXT} {k : Nat} {f : Addr} {fd : FuncData} {ps : List Str} {sp : Sp} (F : FnOk P w K mg base CX k f fd ps sp) : FnG P w K mg base CX k f fd ps sp :=
  ⟨F.len, fun A outer s H args us vs Q E hr _ e0 hb hv hs => F.run A outer s H args us vs Q E hr e0 hb hv hs⟩
theorem FnG.mono {P : Program} {w : World} {K : PySem.W.Frag} {mg : Str → Option Value} {base : Heap} {CX : CXT} {j k : Nat} {f : Addr} {fd : FuncData} {ps : List Str} {sp : Sp} (F : FnG P w K mg base CX j f fd ps sp) (h : j ≤ k) : FnG P w K mg base CX k f fd ps sp :=
  ⟨F.len, fun A outer s H args us vs Q E hr hg e0 hb hv hs => F.run A outer s H args us vs Q E (hr.mono h) hg e0 hb hv hs⟩
section
variable {P : Program} {w : World} {K : PySem.W.Frag} {mg : Str → Option Value} {base : Heap} {CX : CXT}
theorem Fun.okG {x qual : Str} {st : Stmt} {f : Addr} {fd : FuncData} {N ps : List Str} {k : Nat} {sp : Sp} (F : Fun K x qual st f fd) (S : FnScope N ps (defScope st)) (len : ∀ vs H Q E, sp vs H Q E → vs.length = ps.length)
    (hbody : ∀ (cdv : Value) (A : Around) (outer : List Env) (s : Shared) (H : Hp) (vs : List V) (Q : VK) (E : XK), Room k (A.deeper (envOfC qual (defScope st) s.heap.objs.size f cdv)) → A.guards = some [] → sp vs H Q E →
      ∃ t, PSs (cxOf CX P w K mg base N qual (defScope st) f cdv A outer s H E) (defBody st) t ∧ t { nx := fun _ H' => Q .non H', rt := Q } (start N vs) H) : FnG P w K mg base CX (k + 1) f fd ps sp := by
  obtain ⟨oc, od, kV, doc, pm, an, cdv, ct, osl, rfl, lk, hcd⟩ := F.ex
  constructor
  · exact len
  · intro A outer s H args us vs Q E hr hgd e0 hb r hsp
    have hl := len vs H Q E hsp
    have inS : K.In s.heap := e0.mod.kin.keeps (fun b o e => (e0.bs b o e).1)
    have noLim : s.heap.NoLimit := e0.mod.nolimit.keeps (fun b o e => (e0.bs b o e).1)
    have kinds : ∀ y ∈ ps.zip us, (defScope st).names.lookup y.1 = some .local ∨
        ((defScope st).names.lookup y.1 = some .cell ∧ ((cellsFrom (s.heap.objs.size + 1) (defScope st).names []).lookup y.1).isSome = true) := by
      intro ⟨n, v⟩ hy
      cases S.par n (List.of_mem_zip hy).1 with
      | inl q => exact .inl q
      | inr q => exact .inr ⟨q, PySem.W.cellsFrom_some _ _ _ (.inl q)⟩
    apply codeAny_call_function hr.depth (inS _ _ lk) rfl S.co S.gen rfl (PySem.W.codeRec_of inS hcd)
    apply hb
    apply wpAny_newFunctionEnv_cells S.kind kinds
    intro env he s1 x
    subst he
    refine ⟨noLim.keeps x.toInCall.keep, codeAny_func ?_⟩
    obtain ⟨t, ht, hq⟩ := hbody cdv A outer s H vs Q E (hr.deeper _) hgd hsp
    have I := inv_start (CX := CX) (P := P) (w := w) (K := K) (mg := mg) (base := base) (N := N) (qual := qual) (f := f) (cd := cdv) (E := E) S hr.hd e0 hl r x
    apply wpAny_mono (ht.run [] s1 (start N vs) H _ I hq)
    · intro fl s' hs
      cases fl with
      | ret u =>
        obtain ⟨v, σ', H', J, rv, q⟩ := hs
        exact ⟨v, H', J.os, J.bare, J.base, J.hok, rv, q⟩
      | next =>
        obtain ⟨σ', H', J, q⟩ := hs
        exact ⟨V.non, H', J.os, J.bare, J.base, J.hok, rfl, q⟩
      | brk =>
        obtain ⟨σ', H', J, q⟩ := hs
        exact q.elim
      | cont =>
        obtain ⟨σ', H', J, q⟩ := hs
        exact q.elim
    · intro e s' hs
      exact hs
end
section
variable {X : Cx} {CX : CXT} {k : Nat} {f : Addr} {fd : FuncData} {ps : List Str} {sp : Sp} {E : XK} {x : Str} {p pos : Pos} {e : Expr} {es : List Expr} {t : TA}
theorem run_g {pins : List (Addr × Obj)} {σ : List (Option V)} {H : Hp} {s : Shared} {Q : VK} {us : List Value} {vs : List V} (F : FnG X.prog X.w X.K X.mg X.base CX k f fd ps sp) (hr : Room k X.A) (hgd : X.A.guards = some []) (hb : Binds X.K fd ps []) (hx : Passes CX X E)
    (I : Inv X pins σ H s) (r : Vals vs us) (h : sp vs H Q E) : wpAny (model X.prog X.w) X.A (call (.ref f) us) (EP X pins σ Q) X.xe s := by
  have hl : us.length = ps.length := by rw [← r.length]; exact F.len _ _ _ _ h
  have hbt := hb s us I.kIn (by simpa using hl)
  rw [List.append_nil] at hbt
  apply wpAny_call
  apply codeAny_mono (F.run X.A X.stack s H ⟨us, []⟩ us vs Q E hr hgd I.env0 hbt r h)
  intro res s' hq
  cases res with
  | error e => exact hx pins σ H s e s' I hq
  | ok fl =>
    cases fl with
    | ret u => exact I.after hq
    | next => exact hq.elim
    | brk => exact hq.elim
    | cont => exact hq.elim
theorem pe_g (F : FnG X.prog X.w X.K X.mg X.base CX k f fd ps sp) (hr : Room k X.A) (hgd : X.A.guards = some []) (hg : Gl X x) (hm : X.mg x = some (.ref f)) (hk : PySem.W.keepIn X.K (.ref f) = true) (hb : Binds X.K fd ps []) (hx : Passes CX X E)
    (ha : PA X (e :: es) t) (hdb : (x == ("__debug__" : Str)) = false := by decide) (he : starEach (e :: es) X.env = (false, eval e X.env) :: starEach es X.env := by rfl) (hpl : (backTo pos (starEach es X.env)).any (·.1) = false := by rfl) :
    PE X (.Call (.Name x p) (e :: es) [] pos) (fun σ H Q => t σ H fun vs H1 => sp vs H1 Q E) := by
  constructor
  intro pins s σ H Q I h
  apply wpAny_Call_Name_kw
  refine ld_glob I hg hm ?_ hdb
  refine PySem.W.callWith_K (h₀ := X.base) I.ok.mod.kin hk ?_ he hpl
  apply thn (ha.run pos pins s σ H _ I h)
  intro us s1 ⟨vs, H1, I1, r, q⟩
  exact ⟨I1.kIn, run_g F hr hgd hb hx I1 r q⟩
theorem pe_g0 (F : FnG X.prog X.w X.K X.mg X.base CX k f fd ps sp) (hr : Room k X.A) (hgd : X.A.guards = some []) (hg : Gl X x) (hm : X.mg x = some (.ref f)) (hk : PySem.W.keepIn X.K (.ref f) = true) (hb : Binds X.K fd ps []) (hx : Passes CX X E)
    (hdb : (x == ("__debug__" : Str)) = false := by decide) : PE X (.Call (.Name x p) [] [] pos) (fun σ H Q => sp [] H Q E) := by
  constructor
  intro pins s σ H Q I h
  apply wpAny_Call_Name_kw
  refine ld_glob I hg hm ?_ hdb
  exact PySem.W.callWith_K0 I.kIn hk (run_g (us := []) F hr hgd hb hx I .nil h)
end

/-! ### an abstract def -/
abbrev AFn := List AV → Option Src → (AV → Option Src → Prop) → Prop
structure Entry (K : PySem.W.Frag) (Z L : List Addr) (s : Option Src) (H : Hp) : Prop where
  nd : (Z ++ L).Nodup
  sr : SrcAt H s L
  zt : ∀ z ∈ Z, ∃ u, H z = some u ∧ NT u
theorem Entry.b {K : PySem.W.Frag} {Z L : List Addr} {s : Option Src} {H : Hp} (e : Entry K Z L s H) : B ⟨K, Z, L, H⟩ ⟨s, []⟩ L [] H :=
  ⟨by simpa using e.nd, e.sr, .nil, fun _ _ h _ => h, fun _ h => .inl h, fun _ h => (by cases h), fun z hz => ⟨e.zt z hz, fun q => (List.nodup_append.mp e.nd).2.2 z hz z q rfl⟩, .inr rfl⟩
def spOf (K : PySem.W.Frag) (n : Nat) (fn : AFn) : Sp := fun vs H Q _ => vs.length = n ∧ ∃ (Z L : List Addr) (s : Option Src) (avs : List AV) (AQ : AV → Option Src → Prop), Entry K Z L s H ∧ AVRs ⟨K, Z, L, H⟩ L [] H avs vs ∧
  (∀ av s' v L' H', AQ av s' → B ⟨K, Z, L, H⟩ ⟨s', []⟩ L' [] H' → AVR ⟨K, Z, L, H⟩ L' [] H' av v → Q v H') ∧ fn avs s AQ
/-- what a def's body is to reach -/
def endsA (AQ : AV → Option Src → Prop) : AEnds where
  nx := fun a => AQ (.d .none) a.m.s
  rt := fun av m => match fzV 0 m av with
    | some x => AQ x m.s
    | none => False
def startA (N : List Str) (avs : List AV) : List (Option AV) := avs.map some ++ List.replicate (N.length - avs.length) none
section
variable {P : Program} {w : World} {K : PySem.W.Frag} {mg : Str → Option Value} {base : Heap} {CX : CXT}
theorem start_rel {C : Ct} {L Mo : List Addr} {H : Hp} {N : List Str} {avs : List AV} {vs : List V} (r : AVRs C L Mo H avs vs) (i : Nat) (av : AV) (h : (startA N avs)[i]? = some (some av)) : ∃ v, (L2.start N vs)[i]? = some (some v) ∧ AVR C L Mo H av v := by
  unfold startA at h
  unfold L2.start
  have hl := Paired.length r
  by_cases hi : i < avs.length
  · rw [List.getElem?_append_left (by simpa using hi), List.getElem?_map] at h
    cases e : avs[i]? with
    | none => rw [e] at h; cases h
    | some x =>
      rw [e] at h
      have hx : x = av := Option.some.inj (Option.some.inj h)
      subst hx
      obtain ⟨v, h1, h2⟩ := paired_at r e
      exact ⟨v, by rw [List.getElem?_append_left (by simp; omega), List.getElem?_map, h1]; rfl, h2⟩
  · rw [List.getElem?_append_right (by simpa using hi)] at h
    have := List.mem_of_getElem? h
    simp at this
theorem fn_okA {x qual : Str} {st : Stmt} {f : Addr} {fd : FuncData} {N ps : List Str} {k n : Nat} {fn : AFn} {t : ATS} (F : Fun K x qual st f fd) (S : FnScope N ps (defScope st)) (hn : ps.length = n)
    (hbody : ∀ (cdv : Value) (A : Around) (outer : List Env) (s : Shared) (H : Hp) (E : XK), Room k (A.deeper (envOfC qual (defScope st) s.heap.objs.size f cdv)) → (A.deeper (envOfC qual (defScope st) s.heap.objs.size f cdv)).guards = some [] →
      QSs (cxOf CX P w K mg base N qual (defScope st) f cdv A outer s H E).nox (defBody st) t)
    (hf : ∀ avs s AQ, fn avs s AQ → t (endsA AQ) ⟨startA N avs, ⟨s, []⟩⟩) : FnG P w K mg base CX (k + 1) f fd ps (spOf K n fn) := by
  refine Fun.okG F S (fun vs H Q E h => h.1.trans hn.symm) fun cdv A outer s H vs Q E hr hgd h => ?_
  obtain ⟨hl, Z, L, sr, avs, AQ, en, rv, hQ, hfn⟩ := h
  have hb := hbody cdv A outer s H E hr hgd
  refine ⟨_, (hb ⟨K, Z, L, H⟩ rfl).nox, ⟨startA N avs, ⟨sr, []⟩⟩, L, [], endsA AQ, ⟨en.b, ?_, fun i av e => start_rel rv i av e⟩, ⟨fun a L' Mo' σ' H' q r => ?_, fun av m L' Mo' H' v q b' r => ?_, fun _ _ _ _ _ q _ => q.elim, fun _ _ _ _ _ q _ => q.elim⟩, hf avs sr AQ hfn⟩
  · have := Paired.length rv
    simp [startA, L2.start, this]
  · exact hQ _ _ _ _ _ q (r.b.take 0) .non
  · have q' : (match fzV 0 m av with | some x => AQ x m.s | none => False) := q
    split at q'
    · rename_i x e
      exact hQ _ _ _ _ _ q' (b'.take 0) (r.fz b' e)
    · exact q'.elim
end
/-- no local object among the arguments -/
def argsOk : List AV → Bool
  | [] => true
  | .o _ :: _ => false
  | .cells :: _ => false
  | _ :: r => argsOk r
def aFn (n : Nat) (fn : AFn) (t : ATA) : ATE := fun a Q => t a fun avs m => avs.length = n ∧ argsOk avs = true ∧ fn avs m.s fun av s' => Q av ⟨s', m.o⟩
section
variable {X : Cx} {CX : CXT} {k n : Nat} {f : Addr} {fd : FuncData} {ps : List Str} {fn : AFn} {E : XK} {x : Str} {p pos : Pos} {e : Expr} {es : List Expr} {t : ATA}
theorem hid_congr {Z Z' : List Addr} {H : Hp} (h : ∀ a, a ∈ Z ↔ a ∈ Z') : hid Z H = hid Z' H := by
  funext a
  unfold hid
  by_cases q : a ∈ Z
  · rw [if_pos q, if_pos ((h a).mp q)]
  · rw [if_neg q, if_neg fun z => q ((h a).mpr z)]
theorem fn_imp {C : Ct} {m : Mm} {L Mo : List Addr} {H : Hp} {avs : List AV} {vs : List V} {AQ : AV → Mm → Prop} {Q : VK} (hl : vs.length = n) (b : B C m L Mo H) (r : AVRs C L Mo H avs vs) (k : Cont C L Mo H AQ Q) (ok : argsOk avs = true) (h : fn avs m.s fun av s' => AQ av ⟨s', m.o⟩) : spOf C.K n fn vs H Q E := by
  have hh : ∀ (L' : List Addr) (H' : Hp), hid ((C.Z ++ Mo) ++ (L' ++ [])) H' = C.hd L' Mo H' := fun L' H' => hid_congr fun a => by grind
  have nd := b.nd
  refine ⟨hl, C.Z ++ Mo, L, m.s, avs, _, ⟨by grind, b.sr, fun z hz => b.thereN (by grind)⟩, ?_, fun av s' v L' H' q b' rv => ?_, h⟩
  · have go : ∀ (avs : List AV) (vs : List V), AVRs C L Mo H avs vs → argsOk avs = true → AVRs ⟨C.K, C.Z ++ Mo, L, H⟩ L [] H avs vs := by
      intro avs vs r ok
      induction r with
      | nil => exact .nil
      | cons q t ih =>
        rename_i a v l l'
        cases a with
        | o j => simp [argsOk] at ok
        | d y => exact .cons (by show Dq C.K (hid ((C.Z ++ Mo) ++ (L ++ [])) H) v y; rw [hh]; exact q) (ih (by simpa [argsOk] using ok))
        | src => exact .cons q (ih (by simpa [argsOk] using ok))
        | cells => simp [argsOk] at ok
        | kt ns =>
          obtain ⟨c, e1, e2⟩ := q
          exact .cons ⟨c, e1, by show hid ((C.Z ++ Mo) ++ (L ++ [])) H c = _; rw [hh]; exact e2⟩ (ih (by simpa [argsOk] using ok))
        | dt ns =>
          obtain ⟨c, ys, e1, e2, e3⟩ := q
          exact .cons ⟨c, ys, e1, by show hid ((C.Z ++ Mo) ++ (L ++ [])) H c = _; rw [hh]; exact e2, by show KQ C.K (hid ((C.Z ++ Mo) ++ (L ++ [])) H) ys ns; rw [hh]; exact e3⟩ (ih (by simpa [argsOk] using ok))
        | xt ns =>
          obtain ⟨c, ys, e1, e2, e3⟩ := q
          exact .cons ⟨c, ys, e1, by show hid ((C.Z ++ Mo) ++ (L ++ [])) H c = _; rw [hh]; exact e2, by show XQ C.K (hid ((C.Z ++ Mo) ++ (L ++ [])) H) ys ns; rw [hh]; exact e3⟩ (ih (by simpa [argsOk] using ok))
        | hx ns =>
          obtain ⟨c, e1, e2⟩ := q
          exact .cons ⟨c, e1, by show hid ((C.Z ++ Mo) ++ (L ++ [])) H c = _; rw [hh]; exact e2⟩ (ih (by simpa [argsOk] using ok))
        | ty ns => exact .cons q (ih (by simpa [argsOk] using ok))
        | ad ns => exact .cons q (ih (by simpa [argsOk] using ok))
        | scr ns =>
          obtain ⟨c, e1, e2⟩ := q
          exact .cons ⟨c, e1, by show SqL C.K (hid ((C.Z ++ Mo) ++ (L ++ [])) H) c _; rw [hh]; exact e2⟩ (ih (by simpa [argsOk] using ok))
    exact go avs vs r ok
  · have keep : ∀ a u, H a = some u → a ∉ L → H' a = some u := fun a u h1 h2 => b'.kp a u h1 h2
    have nd' : ((C.Z ++ Mo) ++ (L' ++ [])).Nodup := b'.nd
    have hs : Same (C.hd L Mo H) (C.hd L' Mo H') := fun a u h1 => by
      obtain ⟨h2, h3⟩ := hid_some h1
      have n1 : a ∉ L := fun z => h2 (by simp [z])
      have n2 : a ∉ L' := fun z => by
        rcases b'.nl a z with q | q
        · exact n1 q
        · rw [show H a = none from q] at h3; cases h3
      rw [Ct.hd, hid_of (by grind)]
      exact keep a u h3 n1
    have hL : L = [] ∨ L' = L := b'.l0
    have bb : B C ⟨s', m.o⟩ L' Mo H' := by
      refine ⟨by grind, b'.sr, paired_impM b.ob fun o l hl2 q2 => q2.mono hs ?_, fun a u h1 h2 => ?_, fun a ha => ?_, b.no, b.zt, ?_⟩
      · obtain ⟨u, hu⟩ := q2.there
        rw [hu]
        exact keep l u hu fun z => (List.nodup_append.mp (List.nodup_append.mp nd).2.1).2.2 l z l hl2 rfl
      · have h3 := b.kp a u h1 h2
        refine keep a u h3 fun z => ?_
        rcases b.nl a z with q2 | q2
        · exact h2 q2
        · rw [q2] at h1; cases h1
      · rcases b'.nl a ha with z | z
        · exact b.nl a z
        · exact .inr (b.fresh0 z)
      · rcases b.l0 with z | z
        · exact .inl z
        · rcases hL with z2 | z2
          · exact .inl (z.symm.trans z2)
          · exact .inr (z2.trans z)
    have rv' : AVR C L' Mo H' av v := by
      cases av with
      | d y =>
        have : Dq C.K (hid ((C.Z ++ Mo) ++ (L' ++ [])) H') v y := rv
        rw [hh] at this; exact this
      | o j => obtain ⟨l, h1, _⟩ := rv; simp at h1
      | src => exact rv
      | cells => exact rv
      | scr ns =>
        obtain ⟨c, e1, e2⟩ := rv
        have e3 : SqL C.K (hid ((C.Z ++ Mo) ++ (L' ++ [])) H') c (ns.map V.int) := e2
        rw [hh] at e3
        exact ⟨c, e1, e3⟩
      | kt ns =>
        obtain ⟨c, e1, e2⟩ := rv
        have e3 : hid ((C.Z ++ Mo) ++ (L' ++ [])) H' c = _ := e2
        rw [hh] at e3
        exact ⟨c, e1, e3⟩
      | dt ns =>
        obtain ⟨c, ys, e1, e2, e4⟩ := rv
        have e3 : hid ((C.Z ++ Mo) ++ (L' ++ [])) H' c = _ := e2
        have e5 : KQ C.K (hid ((C.Z ++ Mo) ++ (L' ++ [])) H') ys ns := e4
        rw [hh] at e3 e5
        exact ⟨c, ys, e1, e3, e5⟩
      | xt ns =>
        obtain ⟨c, ys, e1, e2, e4⟩ := rv
        have e3 : hid ((C.Z ++ Mo) ++ (L' ++ [])) H' c = _ := e2
        have e5 : XQ C.K (hid ((C.Z ++ Mo) ++ (L' ++ [])) H') ys ns := e4
        rw [hh] at e3 e5
        exact ⟨c, ys, e1, e3, e5⟩
      | hx ns =>
        obtain ⟨c, e1, e2⟩ := rv
        have e3 : hid ((C.Z ++ Mo) ++ (L' ++ [])) H' c = _ := e2
        rw [hh] at e3
        exact ⟨c, e1, e3⟩
      | ty ns => exact rv
      | ad ns => exact rv
    exact k _ _ _ _ _ _ q bb rv' ⟨hL, List.prefix_rfl, hs⟩
theorem q_fn (F : FnG X.prog X.w X.K X.mg X.base CX k f fd ps (spOf X.K n fn)) (hr : Room k X.A) (hgd : X.A.guards = some []) (hg : Gl X x) (hm : X.mg x = some (.ref f)) (hk : PySem.W.keepIn X.K (.ref f) = true) (hb : Binds X.K fd ps []) (hx : Passes CX X E)
    (ha : QA X (e :: es) t) (hdb : (x == ("__debug__" : Str)) = false := by decide) (he : starEach (e :: es) X.env = (false, eval e X.env) :: starEach es X.env := by rfl) (hpl : (backTo pos (starEach es X.env)).any (·.1) = false := by rfl) :
    QE X (.Call (.Name x p) (e :: es) [] pos) (aFn n fn t) := fun C hK => PE.imp (pe_g F hr hgd hg hm hk hb hx (ha C hK) hdb he hpl) fun σ H Q ⟨a, L, Mo, AQ, r, k, h⟩ =>
  ⟨a, L, Mo, _, r, fun avs m1 vs L1 Mo1 H1 ⟨hl, h1⟩ b1 v1 e1 => by
    have := fn_imp (E := E) (fn := fn) (n := n) ((Paired.length v1).symm.trans hl) b1 v1 (k.aft e1) h1.1 h1.2
    rw [hK] at this
    exact this, h⟩
theorem q_fn0 (F : FnG X.prog X.w X.K X.mg X.base CX k f fd ps (spOf X.K 0 fn)) (hr : Room k X.A) (hgd : X.A.guards = some []) (hg : Gl X x) (hm : X.mg x = some (.ref f)) (hk : PySem.W.keepIn X.K (.ref f) = true) (hb : Binds X.K fd ps []) (hx : Passes CX X E)
    (hdb : (x == ("__debug__" : Str)) = false := by decide) : QE X (.Call (.Name x p) [] [] pos) (aFn 0 fn aNil) := fun C hK => PE.imp (pe_g0 F hr hgd hg hm hk hb hx hdb) fun σ H Q ⟨a, L, Mo, AQ, r, k, h⟩ => by
    have := fn_imp (E := E) (fn := fn) (n := 0) (vs := []) rfl r.b .nil k h.2.1 h.2.2
    rw [hK] at this
    exact this
end
end QL

namespace QL
open PySem PySem.Spec PyProof.Rows L2

/-! ### repr -/
/-- what repr asks of the data: ints that are shown, not too deep, not too long -/
def RepOk (d : D) : Prop := d.hasDict = false ∧ d.showable = true ∧ d.depth ≤ 64 ∧ d.shown.length ≤ sizeLine
section
variable {X : Cx}
theorem cr_repr (hg : X.A.guards = some []) (hu : X.A.units + 100 < cLine) : CallR X (.builtin "repr") (fun xs H Q => ∃ x d, xs = [x] ∧ Dq X.K H x d ∧ RepOk d ∧ Q (.str d.shown) H) := by
  intro pins s σ H xs us Q I r h
  obtain ⟨x, d, rfl, hd, ⟨hnd, hs, hdp, hl⟩, q⟩ := h
  obtain ⟨u, rfl, rx⟩ := vals1 r
  cases hd with
  | non =>
    cases rx
    exact PySem.P.repr_of_none ⟨.str _, H, I.tok _, ⟨_, rfl⟩, q⟩
  | bl b =>
    cases rx
    exact PySem.P.repr_of_bool ⟨.str _, H, I.tok _, ⟨_, rfl⟩, q⟩
  | int i =>
    obtain ⟨t, rfl⟩ := rx
    refine PySem.P.repr_of_int (by simpa [PyData.showable] using hs) ⟨.str _, H, I.tok _, ⟨_, rfl⟩, q⟩
  | str z =>
    obtain ⟨t, rfl⟩ := rx
    exact PySem.P.repr_of_str (h := ⟨.str _, H, I.tok _, ⟨_, rfl⟩, q⟩) (hsz := by simpa [PyData.shown] using hl)
  | lst h1 h2 =>
    cases rx
    obtain ⟨as, rd⟩ := Dp.reads I _ _ _ (Dq.toDp _ _ hnd (Dq.lst h1 h2)) rfl
    exact repr_of_reads' rd hs (PyData.noDict_hsm hnd) hg (by omega) (fun _ _ e => e) (fun h' u tk k => ⟨.str _, H, I.kept k, ⟨_, rfl⟩, q⟩) hl
  | tup h1 hn h2 =>
    cases rx
    obtain ⟨as, rd⟩ := Dp.reads I _ _ _ (Dq.toDp _ _ hnd (Dq.tup h1 hn h2)) rfl
    exact repr_of_reads' rd hs (PyData.noDict_hsm hnd) hg (by omega) (fun _ _ e => e) (fun h' u tk k => ⟨.str _, H, I.kept k, ⟨_, rfl⟩, q⟩) hl
  | dk h1 h2 => simp [PyData.hasDict] at hnd
def bRepr : AC1 := fun avs m Q => match avs with
  | [x] => match datA m x with
    | some d => RepOk d ∧ Q (.d (.str d.shown)) m
    | none => False
  | _ => False
theorem cq_repr (hg : X.A.guards = some []) (hu : X.A.units + 100 < cLine) : CallQ X (.builtin "repr") bRepr := by
  refine ⟨_, cr_repr hg hu, fun C L Mo H m avs vs Q AQ hK b r k hh => ?_⟩
  unfold bRepr at hh
  split at hh
  · split at hh
    · rename_i d e
      obtain ⟨v, rfl, rv⟩ := av1 r
      exact ⟨v, d, rfl, hK ▸ datA_ok b rv e, hh.1, k.ret hh.2 b (.str _)⟩
    · exact hh.elim
  · exact hh.elim

end
end QL

namespace QL
open PySem PySem.Spec PyProof.Rows L2

/-! ### a local object changes -/
section
variable {C : Ct} {m : Mm} {L Mo : List Addr} {H : Hp} {l : Addr} {j : Nat} {ho : HO} {mo : MO}
theorem B.upd (b : B C m L Mo H) (hj : Mo[j]? = some l) (ok : ∀ h, h = C.hd L Mo H → MOk C.K h (L2.upd H l ho) mo l) : B C ⟨m.s, m.o.set j mo⟩ L Mo (L2.upd H l ho) := by
  have hm : l ∈ Mo := List.mem_of_getElem? hj
  have e : C.hd L Mo (L2.upd H l ho) = C.hd L Mo H := hd_updIn (by grind)
  have nd := b.nd
  have nL : l ∉ L := fun z => (List.nodup_append.mp (List.nodup_append.mp nd).2.1).2.2 l z l hm rfl
  have hob : Paired (MOk C.K (C.hd L Mo (L2.upd H l ho)) (L2.upd H l ho)) (m.o.set j mo) Mo := by
    rw [e]
    have nMo : Mo.Nodup := (List.nodup_append.mp (List.nodup_append.mp nd).2.1).2.1
    have go : ∀ (o : List MO) (r : List Addr) (j : Nat), Paired (MOk C.K (C.hd L Mo H) H) o r → r.Nodup → r[j]? = some l → Paired (MOk C.K (C.hd L Mo H) (L2.upd H l ho)) (o.set j mo) r := by
      intro o r j q
      induction q generalizing j with
      | nil => intro _ h; simp at h
      | cons q t ih =>
        rename_i a b l1 l2
        intro nd h
        cases j with
        | zero =>
          simp at h; subst h
          refine .cons (ok _ rfl) (paired_impM t fun o x hx q => q.mono (Same.refl _) (upd_ne fun z => ?_))
          exact (List.nodup_cons.mp nd).1 (z ▸ hx)
        | succ j =>
          simp at h
          refine .cons (q.mono (Same.refl _) (upd_ne fun z => ?_)) (ih j (List.nodup_cons.mp nd).2 h)
          exact (List.nodup_cons.mp nd).1 (z ▸ List.mem_of_getElem? h)
    exact go _ _ _ b.ob nMo hj
  refine ⟨nd, srcAt_upd b.sr nL, hob, fun a u h1 h2 => ?_, b.nl, b.no, b.zt, b.l0⟩
  rw [upd_ne (fun z => by subst z; rw [(b.no _ hm).1] at h1; cases h1)]
  exact b.kp a u h1 h2
theorem X2.upd (hm : l ∈ Mo) : X2 C L Mo H L Mo (L2.upd H l ho) := ⟨.inr rfl, List.prefix_rfl, by
  rw [show C.hd L Mo (L2.upd H l ho) = C.hd L Mo H from hd_updIn (by grind)]; exact Same.refl _⟩
end
abbrev AM := AV → List AV → Mm → (AV → Mm → Prop) → Prop
def MtQ (X : Cx) (id : String) (r : AM) : Prop := ∃ r2, MtR X id r2 ∧ ∀ (C : Ct) L Mo H m x avs v vs Q AQ, C.K = X.K → B C m L Mo H → AVR C L Mo H x v → AVRs C L Mo H avs vs → Cont C L Mo H AQ Q → r x avs m AQ → r2 v vs H Q
/-- o.m(..), o a list -/
def aMt (r : AM) (to : ATE) (t : ATA) : ATE := fun a Q => to a fun x m1 => match lstA m1 x with
  | some _ => t ⟨a.g, m1⟩ fun avs m2 => r x avs m2 Q
  | none => False
def aMt0 (r : AM) (to : ATE) : ATE := fun a Q => to a fun x m1 => match lstA m1 x with
  | some _ => r x [] m1 Q
  | none => False
section
variable {X : Cx} {o e : Expr} {es : List Expr} {to : ATE} {t : ATA} {name : Str} {apos cpos : Pos} {id : String} {r : AM}
theorem q_mt (hm : MtQ X id r) (slot : Slot "list" name id) (hty : typeOf (.builtin id) = pure (.type "method_descriptor")) (ho : QE X o to) (ha : QA X (e :: es) t)
    (hbase : attributeBase o name X.env (eval o X.env) = eval o X.env := by rfl)
    (hfew : ((backTo cpos (starEach (e :: es) X.env)).all (fun x => !x.1) && (backToKw cpos (keywordEach [] X.env)).all (fun x => x.1.isSome)
      && decide ((e :: es).length + ([] : List Keyword).length + (if ([] : List Keyword).isEmpty then 0 else 1) < 30)) = true := by rfl)
    (hline : (apos.endLine == cpos.line) = true := by rfl) (hs : starEach (e :: es) X.env = (false, eval e X.env) :: starEach es X.env := by rfl) (hplain : (backTo cpos (starEach es X.env)).any (·.1) = false := by rfl) :
    QE X (.Call (.Attribute o name apos) (e :: es) [] cpos) (aMt r to t) := fun C hK => by
  obtain ⟨r2, hr, hi⟩ := hm
  refine PE.imp (pe_bm PySem.F.plainAttrs_list slot hty hr (ho C hK) (ha C hK) hbase hfew hline hs hplain) fun σ H Q ⟨a, L, Mo, AQ, rr, k, h⟩ => ?_
  refine ⟨a, L, Mo, _, rr, fun x m1 v L1 Mo1 H1 h1 b1 v1 e1 => ?_, h⟩
  split at h1
  · rename_i ds e
    obtain ⟨l, xs, rfl, h2, _⟩ := lstA_ok b1 v1 e
    exact ⟨.inl ⟨rfl, xs, SqL.of h2⟩, ⟨a.g, m1⟩, L1, Mo1, _, rr.next b1 e1, fun avs m2 vs L2 Mo2 H2 h2 b2 v2 e2 => hi C L2 Mo2 H2 m2 x avs _ vs Q AQ hK b2 (v1.mono e2) v2 (k.aft (e1.trans e2)) h2, h1⟩
  · exact h1.elim
theorem q_mt0 (hm : MtQ X id r) (slot : Slot "list" name id) (hty : typeOf (.builtin id) = pure (.type "method_descriptor")) (ho : QE X o to)
    (hbase : attributeBase o name X.env (eval o X.env) = eval o X.env := by rfl) (hline : (apos.endLine == cpos.line) = true := by rfl) :
    QE X (.Call (.Attribute o name apos) [] [] cpos) (aMt0 r to) := fun C hK => by
  obtain ⟨r2, hr, hi⟩ := hm
  refine PE.imp (pe_bm0 PySem.F.plainAttrs_list slot hty hr (ho C hK) hbase hline) fun σ H Q ⟨a, L, Mo, AQ, rr, k, h⟩ => ?_
  refine ⟨a, L, Mo, _, rr, fun x m1 v L1 Mo1 H1 h1 b1 v1 e1 => ?_, h⟩
  split at h1
  · rename_i ds e
    obtain ⟨l, xs, rfl, h2, _⟩ := lstA_ok b1 v1 e
    exact ⟨.inl ⟨rfl, xs, SqL.of h2⟩, hi C L1 Mo1 H1 m1 x [] _ [] Q AQ hK b1 v1 .nil (k.aft e1) h1⟩
  · exact h1.elim
theorem o_at {C : Ct} {m : Mm} {L Mo : List Addr} {H : Hp} {j : Nat} {v : V} {mo : MO} (b : B C m L Mo H) (r : AVR C L Mo H (.o j) v) (h : m.o[j]? = some mo) : ∃ l, v = .ref l ∧ Mo[j]? = some l ∧ MOk C.K (C.hd L Mo H) H mo l := by
  obtain ⟨l, h1, rfl⟩ := r
  obtain ⟨l', h2, h3⟩ := paired_at b.ob h
  rw [h1] at h2; cases h2
  exact ⟨l, rfl, h1, h3⟩
/-- append -/
def mApp : AM := fun x avs m Q => match x, avs with
  | .o j, [.d d] => match m.o[j]? with
    | some (.l ds) => ds.length ≤ 1000000 ∧ Q (.d .none) ⟨m.s, m.o.set j (.l (ds ++ [d]))⟩
    | _ => False
  | _, _ => False
theorem line6 {n : Nat} (h : n ≤ 1000000) : n < sizeLine := Nat.lt_of_le_of_lt h (by decide)
theorem mq_append : MtQ X "list.append" mApp := by
  refine ⟨_, mt_append, fun C L Mo H m x avs v vs Q AQ hK b r1 r2 k hh => ?_⟩
  unfold mApp at hh
  split at hh
  · split at hh
    · rename_i ds e
      obtain ⟨l, rfl, hl, xs, h3, h4⟩ := o_at b r1 e
      obtain ⟨w, rfl, rw_⟩ := av1 r2
      refine ⟨l, xs, w, rfl, rfl, h3, by rw [h4.len]; exact line6 hh.1, k _ _ _ _ _ _ hh.2 (b.upd hl fun h e => ⟨_, upd_same, by rw [e]; exact h4.app (.cons rw_ .nil)⟩) .non (X2.upd (List.mem_of_getElem? hl))⟩
    · exact hh.elim
  · exact hh.elim
/-- pop, the last -/
def mPop : AM := fun x avs m Q => match x, avs with
  | .o j, [] => match m.o[j]? with
    | some (.l ds) => match ds.getLast? with
      | some d => Q (.d d) ⟨m.s, m.o.set j (.l ds.dropLast)⟩
      | none => False
    | _ => False
  | _, _ => False
theorem mq_pop : MtQ X "list.pop" mPop := by
  refine ⟨_, mt_pop, fun C L Mo H m x avs v vs Q AQ hK b r1 r2 k hh => ?_⟩
  unfold mPop at hh
  split at hh
  · split at hh
    · rename_i ds e
      split at hh
      · rename_i d ed
        obtain ⟨l, rfl, hl, xs, h3, h4⟩ := o_at b r1 e
        cases r2
        rw [List.getLast?_eq_getElem?] at ed
        obtain ⟨y, h5, h6⟩ := h4.at ed
        have hu := X2.upd (C := C) (L := L) (H := H) (ho := .lst xs.dropLast) (List.mem_of_getElem? hl)
        refine ⟨l, xs, y, rfl, rfl, h3, by rw [h4.len]; exact h5, k _ _ _ _ _ _ hh (b.upd hl fun h e => ⟨_, upd_same, by rw [e]; exact h4.pop⟩) (Dq.mono hu.sm _ _ h6) hu⟩
      · exact hh.elim
    · exact hh.elim
  · exact hh.elim
/-- extend by a data list -/
def mExt : AM := fun x avs m Q => match x, avs with
  | .o j, [y] => match m.o[j]?, lstA m y with
    | some (.l ds), some es => ds.length + es.length ≤ 1000000 ∧ Q (.d .none) ⟨m.s, m.o.set j (.l (ds ++ es))⟩
    | _, _ => False
  | _, _ => False
theorem mq_extend : MtQ X "list.extend" mExt := by
  refine ⟨_, mt_extend, fun C L Mo H m x avs v vs Q AQ hK b r1 r2 k hh => ?_⟩
  unfold mExt at hh
  split at hh
  · split at hh
    · rename_i ds es e e2
      obtain ⟨l, rfl, hl, xs, h3, h4⟩ := o_at b r1 e
      obtain ⟨w, rfl, rw_⟩ := av1 r2
      obtain ⟨l2, zs, rfl, h5, h6⟩ := lstA_ok b rw_ e2
      refine ⟨l, l2, xs, zs, rfl, rfl, h3, h5, by rw [h4.len, h6.len]; exact Nat.le_of_lt (line6 hh.1), k _ _ _ _ _ _ hh.2 (b.upd hl fun h e => ⟨_, upd_same, by rw [e]; exact h4.app h6⟩) .non (X2.upd (List.mem_of_getElem? hl))⟩
    · exact hh.elim
  · exact hh.elim
end

/-! ### the law's source -/
section
variable {C : Ct} {m : Mm} {L Mo : List Addr} {H : Hp} {S S' : Src} {d c : Addr}
theorem B.src (b : B C m L Mo H) (hs : m.s = some S) : ∃ d c, L = [d, c] ∧ H d = some (.dK (srcKv S c)) ∧ H c = some (.lst (S.cells.map V.int)) ∧ d ≠ c := by
  have q := b.sr
  rw [hs] at q
  obtain ⟨d, c, e, h1, h2⟩ := q
  exact ⟨d, c, e, h1, h2, ne_of h1 h2 (by intro z; cases z)⟩
/-- the source's dict or list is written -/
theorem B.setS (b : B C m [d, c] Mo H) {x : Addr} {ho : HO} (hx : x = d ∨ x = c) (h : SrcAt (L2.upd H x ho) (some S') [d, c]) : B C ⟨some S', m.o⟩ [d, c] Mo (L2.upd H x ho) := by
  have hm : x ∈ [d, c] := by rcases hx with rfl | rfl <;> simp
  have e : C.hd [d, c] Mo (L2.upd H x ho) = C.hd [d, c] Mo H := hd_updIn (by grind)
  have nd := b.nd
  refine ⟨nd, h, ?_, fun a u h1 h2 => ?_, b.nl, b.no, b.zt, b.l0⟩
  · rw [e]
    refine paired_impM b.ob fun o l hl q => q.mono (Same.refl _) (upd_ne fun z => ?_)
    exact (List.nodup_append.mp (List.nodup_append.mp nd).2.1).2.2 x hm l hl z.symm
  · have h3 := b.kp a u h1 h2
    rw [upd_ne (fun z => ?_)]
    · exact h3
    · subst z
      rcases b.nl _ hm with q | q
      · exact h2 q
      · rw [q] at h1; cases h1
theorem X2.setS {x : Addr} {ho : HO} (hx : x = d ∨ x = c) : X2 C [d, c] Mo H [d, c] Mo (L2.upd H x ho) := ⟨.inr rfl, List.prefix_rfl, by
  rw [show C.hd [d, c] Mo (L2.upd H x ho) = C.hd [d, c] Mo H from hd_updIn (by rcases hx with rfl | rfl <;> simp)]; exact Same.refl _⟩
end
def isSrc : AV → Bool
  | .src => true
  | _ => false
inductive SF where
  | left | mixed | turn
def SF.name : SF → Str
  | .left => "left"
  | .mixed => "mixed"
  | .turn => "turn"
def SF.get : SF → Src → Int
  | .left, S => S.left
  | .mixed, S => S.mixed
  | .turn, S => S.turn
def SF.put : SF → Src → Int → Src
  | .left, S, i => { S with left := i }
  | .mixed, S, i => { S with mixed := i }
  | .turn, S, i => { S with turn := i }

theorem srcKv_get (f : SF) (S : Src) (c : Addr) : valV (srcKv S c) (.inr f.name) = some (.int (f.get S)) := by cases f <;> rfl
theorem srcKv_cells (S : Src) (c : Addr) : valV (srcKv S c) (.inr "cells") = some (.ref c) := rfl
theorem srcKv_put (f : SF) (S : Src) (c : Addr) (i : Int) : putK (srcKv S c) (.inr f.name) (.int i) = srcKv (f.put S i) c := by cases f <;> rfl
theorem src_d {C : Ct} {m : Mm} {L Mo : List Addr} {H : Hp} {x : AV} {v : V} {S : Src} (b : B C m L Mo H) (r : AVR C L Mo H x v) (hx : isSrc x = true) (hs : m.s = some S) :
    ∃ d c, L = [d, c] ∧ v = .ref d ∧ H d = some (.dK (srcKv S c)) ∧ H c = some (.lst (S.cells.map V.int)) ∧ d ≠ c := by
  cases x <;> simp [isSrc] at hx
  obtain ⟨d, c, e1, h1, h2, ne⟩ := b.src hs
  obtain ⟨d', c', e2, rfl⟩ := r
  rw [e1] at e2; cases e2
  exact ⟨d, c, e1, rfl, h1, h2, ne⟩
/-- source['left'] -/
def aSrcF (f : SF) (te : ATE) : ATE := fun a Q => te a fun x m => if isSrc x = true then match m.s with
  | some S => Q (.d (.int (f.get S))) m
  | none => False else False
def aSrcC (te : ATE) : ATE := fun a Q => te a fun x m => if isSrc x = true then match m.s with
  | some _ => Q .cells m
  | none => False else False
section
variable {X : Cx} {e : Expr} {te : ATE} {pos p2 : Pos} {j : Nat}
theorem q_srcF (f : SF) (hu : X.A.units + 1 < cLine) (h : QE X e te) : QE X (.Subscript e (.Constant (.str f.name) j p2) pos) (aSrcF f te) := fun C hK => PE.imp (pe_dget hu (h C hK) (pe_str (x := f.name)) (fun _ _ => rfl)) fun σ H Q ⟨a, L, Mo, AQ, r, k, h⟩ => by
  refine ⟨a, L, Mo, _, r, fun x m1 v L1 Mo1 H1 h1 b1 v1 e1 => ?_, h⟩
  split at h1
  · rename_i hx
    split at h1
    · rename_i S hs
      obtain ⟨d, c, e2, rfl, h2, h3, ne⟩ := src_d b1 v1 hx hs
      exact ⟨d, .int (f.get S), rfl, .inl ⟨_, .inr f.name, .inl h2, rfl, (srcKv_get f S c).symm⟩, (k.aft e1).ret h1 b1 (.int _)⟩
    · exact h1.elim
  · exact h1.elim
theorem q_srcC (hu : X.A.units + 1 < cLine) (h : QE X e te) : QE X (.Subscript e (.Constant (.str "cells") j p2) pos) (aSrcC te) := fun C hK => PE.imp (pe_dget hu (h C hK) (pe_str (x := "cells")) (fun _ _ => rfl)) fun σ H Q ⟨a, L, Mo, AQ, r, k, h⟩ => by
  refine ⟨a, L, Mo, _, r, fun x m1 v L1 Mo1 H1 h1 b1 v1 e1 => ?_, h⟩
  split at h1
  · rename_i hx
    split at h1
    · rename_i S hs
      obtain ⟨d, c, e2, rfl, h2, h3, ne⟩ := src_d b1 v1 hx hs
      exact ⟨d, .ref c, rfl, .inl ⟨_, .inr "cells", .inl h2, rfl, (srcKv_cells S c).symm⟩, (k.aft e1).ret h1 b1 ⟨d, c, e2, rfl⟩⟩
    · exact h1.elim
  · exact h1.elim
/-- source['left'] = e -/
def aSrcPut (f : SF) (te tv : ATE) : ATS := fun E a => tv a fun y m1 => te ⟨a.g, m1⟩ fun x m2 => if isSrc x = true then match m2.s, y with
  | some S, .d (.int i) => E.nx ⟨a.g, ⟨some (f.put S i), m2.o⟩⟩
  | _, _ => False else False
theorem qs_srcPut {value : Expr} {tv : ATE} {pos' : Pos} (f : SF) (hu : X.A.units + 1 < cLine) (h : QE X e te) (hv : QE X value tv) (hs : swapsWith value (some (.Subscript e (.Constant (.str f.name) j p2) pos')) pos.line X.env = pure false := by rfl) :
    QS X (.Assign [.Subscript e (.Constant (.str f.name) j p2) pos'] value pos) (aSrcPut f te tv) := fun C hK => PS.imp (ps_dput hu (h C hK) (pe_str (x := f.name)) (hv C hK) hs) fun D σ H ⟨a, L, Mo, AD, r, b, h⟩ => by
  refine ⟨a, L, Mo, _, r, fun y m1 w L1 Mo1 H1 h1 b1 w1 e1 => ⟨⟨a.g, m1⟩, L1, Mo1, _, r.next b1 e1, fun x m2 v L2 Mo2 H2 h2 b2 v2 e2 => ?_, h1⟩, h⟩
  split at h2
  · rename_i hx
    split at h2
    · rename_i S i hs
      obtain ⟨d, c, e3, rfl, h3, h4, ne⟩ := src_d b2 v2 hx hs
      subst e3
      have hw := dq_int w1
      subst hw
      have hsr : SrcAt (upd H2 d (.dK (srcKv (f.put S i) c))) (some (f.put S i)) [d, c] := ⟨d, c, rfl, upd_same, by rw [upd_ne ne.symm]; cases f <;> exact h4⟩
      refine ⟨d, _, rfl, .inl ⟨_, .inr f.name, h3, rfl, (show 4 < sizeLine by decide), rfl⟩, ?_⟩
      rw [srcKv_put]
      exact b.nx _ _ _ _ _ h2 ((r.next b1 e1).next b2 e2 |>.next (b2.setS (.inl rfl) hsr) (X2.setS (.inl rfl)))
    · exact h2.elim
  · exact h2.elim
/-- source['cells'].pop() -/
def mPopC : AM := fun x avs m Q => match x, avs with
  | .cells, [] => match m.s with
    | some S => match S.cells.getLast? with
      | some i => Q (.d (.int i)) ⟨some { S with cells := S.cells.dropLast }, m.o⟩
      | none => False
    | none => False
  | _, _ => False
theorem mq_popC : MtQ X "list.pop" mPopC := by
  refine ⟨_, mt_pop, fun C L Mo H m x avs v vs Q AQ hK b r1 r2 k hh => ?_⟩
  unfold mPopC at hh
  split at hh
  · split at hh
    · rename_i S hs
      split at hh
      · rename_i i ei
        cases r2
        obtain ⟨d, c, e1, h1, h2, ne⟩ := b.src hs
        obtain ⟨d', c', e2, rfl⟩ := r1
        rw [e1] at e2; cases e2
        subst e1
        rw [List.getLast?_eq_getElem?] at ei
        have hsr : SrcAt (upd H c (.lst (S.cells.map V.int).dropLast)) (some { S with cells := S.cells.dropLast }) [d, c] := ⟨d, c, rfl, by rw [upd_ne ne]; exact h1, by rw [upd_same, List.map_dropLast]⟩
        refine ⟨c, _, .int i, rfl, rfl, h2, by rw [List.length_map, List.getElem?_map, ei]; rfl, k _ _ _ _ _ _ hh (b.setS (.inr rfl) hsr) (.int _) (X2.setS (.inr rfl))⟩
      · exact hh.elim
    · exact hh.elim
  · exact hh.elim
/-- a list backwards, a new local object -/
def aRevM (te : ATE) : ATE := fun a Q => te a fun x m => match lstA m x with
  | some ds => Q (.o m.o.length) ⟨m.s, m.o ++ [.l ds.reverse]⟩
  | none => False
theorem q_revM {k : Nat} {p1 p2 p3 pos : Pos} (h : QE X e te) : QE X (.Subscript e (.Slice none none (some (.UnaryOp .USub (.Constant (.int 1) k p1) p2)) p3) pos) (aRevM te) := fun C hK => PE.imp (pe_revL (h C hK)) fun σ H Q ⟨a, L, Mo, AQ, r, k, h⟩ => by
  refine ⟨a, L, Mo, _, r, fun x m1 v L1 Mo1 H1 h1 b1 v1 e1 => ?_, h⟩
  split at h1
  · rename_i ds e
    obtain ⟨l, xs, rfl, h2, h3⟩ := lstA_ok b1 v1 e
    exact ⟨l, xs, rfl, SqL.of h2, fun p hp => (k.aft e1).lstM b1 hp h3.rev h1⟩
  · exact h1.elim
def aRev (te : ATE) : ATE := fun a Q => te a fun x m => match lstA m x with
  | some ds => Q (.d (.list ds.reverse)) m
  | none => False
theorem q_rev {k : Nat} {p1 p2 p3 pos : Pos} (h : QE X e te) : QE X (.Subscript e (.Slice none none (some (.UnaryOp .USub (.Constant (.int 1) k p1) p2)) p3) pos) (aRev te) := fun C hK => PE.imp (pe_revL (h C hK)) fun σ H Q ⟨a, L, Mo, AQ, r, k, h⟩ => by
  refine ⟨a, L, Mo, _, r, fun x m1 v L1 Mo1 H1 h1 b1 v1 e1 => ?_, h⟩
  split at h1
  · rename_i ds e
    obtain ⟨l, xs, rfl, h2, h3⟩ := lstA_ok b1 v1 e
    exact ⟨l, xs, rfl, SqL.of h2, fun p hp => (k.aft e1).lst b1 hp h3.rev h1⟩
  · exact h1.elim
/-- {'cells': .., 'left': .., 'mixed': .., 'turn': ..} -/
def aSrcNew (tc tl tm tt : ATE) : ATE := fun a Q => a.m.s = none ∧ tc ⟨a.g, ⟨none, a.m.o ++ [.kd []]⟩⟩ fun x1 m1 => tl ⟨a.g, m1⟩ fun x2 m2 => tm ⟨a.g, m2⟩ fun x3 m3 => tt ⟨a.g, m3⟩ fun x4 m4 => match x1, x2, x3, x4 with
  | .o j, .d (.int l), .d (.int mi), .d (.int tu) => m4.s = none ∧ j = a.m.o.length + 1 ∧ ∃ ns : List Int, m4.o = a.m.o ++ [.kd [], .l (ns.map PyData.int)] ∧ Q .src ⟨some ⟨ns, l, mi, tu⟩, a.m.o⟩
  | _, _, _, _ => False
theorem q_srcNew {e1 e2 e3 e4 : Expr} {t1 t2 t3 t4 : ATE} {p1 p2 p3 p4 : Pos} {j1 j2 j3 j4 : Nat} (h1 : QE X e1 t1) (h2 : QE X e2 t2) (h3 : QE X e3 t3) (h4 : QE X e4 t4) :
    QE X (.Dict [some (.Constant (.str "cells") j1 p1), some (.Constant (.str "left") j2 p2), some (.Constant (.str "mixed") j3 p3), some (.Constant (.str "turn") j4 p4)] [e1, e2, e3, e4] pos) (aSrcNew t1 t2 t3 t4) := fun C hK =>
  PE.imp (pe_disp (pps_cons pe_str (h1 C hK) (pps_cons pe_str (h2 C hK) (pps_cons pe_str (h3 C hK) (pps_cons pe_str (h4 C hK) pps_nil)))) (by rfl) (by rfl) (fun z => by cases z) (show 4 ≤ 15 by decide)) fun σ H Q ⟨a, L, Mo, AQ, r, k, hs, h⟩ => by
    intro p hp
    have hL : L = [] := by
      have q := r.b.sr
      rw [hs] at q; exact q
    subst hL
    have bA : B C ⟨none, a.m.o ++ [.kd []]⟩ [] (Mo ++ [p]) (upd H p (.dK [])) := by
      have := r.b.allocO (o := .kd []) (ho := .dK []) hp fun h' e => ⟨[], upd_same, .nil⟩
      rw [hs] at this; exact this
    have xA : X2 C [] Mo H [] (Mo ++ [p]) (upd H p (.dK [])) := X2.allocO hp
    have rA : R C ⟨a.g, ⟨none, a.m.o ++ [.kd []]⟩⟩ [] (Mo ++ [p]) σ (upd H p (.dK [])) := r.next bA xA
    refine ⟨⟨a.g, ⟨none, a.m.o ++ [.kd []]⟩⟩, [], Mo ++ [p], _, rA, fun x1 m1 v1 L1 Mo1 H1 q1 b1 r1 y1 => ?_, h⟩
    refine ⟨⟨a.g, m1⟩, L1, Mo1, _, rA.next b1 y1, fun x2 m2 v2 L2 Mo2 H2 q2 b2 r2 y2 => ?_, q1⟩
    refine ⟨⟨a.g, m2⟩, L2, Mo2, _, (rA.next b1 y1).next b2 y2, fun x3 m3 v3 L3 Mo3 H3 q3 b3 r3 y3 => ?_, q2⟩
    refine ⟨⟨a.g, m3⟩, L3, Mo3, _, ((rA.next b1 y1).next b2 y2).next b3 y3, fun x4 m4 v4 L4 Mo4 H4 q4 b4 r4 y4 => ?_, q3⟩
    split at q4
    · rename_i l mi tu
      rename_i j
      obtain ⟨es4, rfl, ns, eo, q⟩ := q4
      have hL4 : L4 = [] := by
        have z := b4.sr
        rw [es4] at z; exact z
      subst hL4
      have y14 : X2 C [] (Mo ++ [p]) (upd H p (.dK [])) [] Mo4 H4 := y1.trans (y2.trans (y3.trans y4))
      have hlen : Mo4.length = Mo.length + 2 := by
        have z := Paired.length b4.ob
        rw [eo] at z
        have z2 := Paired.length r.b.ob
        simp at z
        omega
      obtain ⟨tl, htl⟩ := y14.po
      have htl1 : tl.length = 1 := by
        have z := congrArg List.length htl
        simp at z
        omega
      obtain ⟨c, rfl⟩ := List.length_eq_one_iff.mp htl1
      subst htl
      have z2 := Paired.length r.b.ob
      -- the list
      have r1' := ((r1.mono y2).mono y3).mono y4
      obtain ⟨c', hc, rfl⟩ := r1'
      have : c' = c := by
        rw [z2, List.getElem?_append_right (by simp)] at hc
        simp at hc; exact hc.symm
      subst this
      obtain ⟨_, hc2, xs, hx1, hx2⟩ := paired_at (i := a.m.o.length + 1) (a := MO.l (ns.map PyData.int)) b4.ob (by rw [eo]; simp)
      rw [hc] at hc2; cases hc2
      obtain rfl := hx2.ints
      obtain ⟨p', hp1, ys, hp2, hp3⟩ := paired_at (i := a.m.o.length) (a := MO.kd []) b4.ob (by rw [eo]; simp)
      have : p' = p := by
        rw [z2, List.append_assoc, List.getElem?_append_right (by simp)] at hp1
        simp at hp1; exact hp1.symm
      subst this
      cases hp3
      have hv2 := dq_int (r2.mono (y3.trans y4)); have hv3 := dq_int (r3.mono y4); have hv4 := dq_int r4
      subst hv2; subst hv3; subst hv4
      have nd4 := b4.nd
      have ne : p' ≠ c' := by
        intro z; subst z
        have nd5 : (C.Z ++ ([] ++ (Mo ++ [p'] ++ [p']))).Nodup := nd4
        simp [List.nodup_append] at nd5
      refine ⟨hp2, srcKv ⟨ns, l, mi, tu⟩ c', rfl, (show 4 ≤ 15 by decide), ?_⟩
      show Q (.ref p') (upd H4 p' (.dK (srcKv ⟨ns, l, mi, tu⟩ c')))
      have e5 : C.hd [] (Mo ++ [p'] ++ [c']) (upd H4 p' (.dK (srcKv ⟨ns, l, mi, tu⟩ c'))) = C.hd [] (Mo ++ [p'] ++ [c']) H4 := hd_updIn (by simp)
      have e6 : ∀ Hh, C.hd [p', c'] Mo Hh = C.hd [] (Mo ++ [p'] ++ [c']) Hh := fun Hh => hid_congr fun x => by simp only [List.mem_append, List.mem_cons, List.not_mem_nil]; grind
      have hob : Paired (MOk C.K (C.hd [] (Mo ++ [p'] ++ [c']) H4) H4) a.m.o Mo := by
        have z := paired_take a.m.o.length b4.ob
        rw [eo, List.take_left, z2] at z
        have z3 : (Mo ++ [p'] ++ [c']).take Mo.length = Mo := by rw [List.append_assoc, List.take_left]
        rw [z3] at z
        exact z
      have nM : ∀ x ∈ Mo, x ≠ p' := fun x hx z => by
        subst z
        have nd5 : (C.Z ++ ([] ++ (Mo ++ [x] ++ [c']))).Nodup := nd4
        simp [List.nodup_append] at nd5
        grind
      have bN : B C ⟨some ⟨ns, l, mi, tu⟩, a.m.o⟩ [p', c'] Mo (upd H4 p' (.dK (srcKv ⟨ns, l, mi, tu⟩ c'))) := by
        refine ⟨?_, ⟨p', c', rfl, upd_same, by rw [upd_ne ne.symm]; exact hx1⟩, ?_, fun x u g1 g2 => ?_, fun x hx => .inr (b4.no x (by simp at hx; grind)).1, fun x hx => b4.no x (by simp [hx]), b4.zt, ?_⟩
        · have nd5 : (C.Z ++ ([] ++ (Mo ++ [p'] ++ [c']))).Nodup := nd4
          show (C.Z ++ ([p', c'] ++ Mo)).Nodup
          simp only [List.nil_append, List.append_assoc] at nd5 ⊢
          rw [List.nodup_append] at nd5 ⊢
          refine ⟨nd5.1, ?_, fun x hx y hy => nd5.2.2 x hx y (by simp at hy ⊢; grind)⟩
          have n6 := nd5.2.1
          simp [List.nodup_append] at n6 ⊢
          grind
        · rw [e6, e5]
          exact paired_impM hob fun o x hx w => w.mono (Same.refl _) (upd_ne (nM x hx))
        · have g3 := b4.kp x u g1 g2
          rw [upd_ne (fun z => by subst z; rw [(b4.no x (by simp)).1] at g1; cases g1)]
          exact g3
        · rcases b4.l0 with z | z
          · exact .inl z
          · exact .inl z.symm
      refine k _ _ _ _ _ _ q bN ⟨p', c', rfl, rfl⟩ ⟨.inl rfl, List.prefix_rfl, fun x u g => ?_⟩
      have g2 := y14.sm _ _ (xA.sm _ _ g)
      rw [e6, e5]
      exact g2
    · exact q4.elim
end
end QL

namespace QL
open PySem PySem.Spec PyProof.Rows L2

/-- the law: of any script of at most 63 ints it hands back True -/
def lawFn : AFn := fun avs s Q => ∃ ns : List Int, avs = [.scr ns] ∧ s = none ∧ ns.length ≤ 63 ∧ ∀ s', Q (.d (.bool true)) s'
theorem law_runG {P : Program} {w : World} {K : PySem.W.Frag} {mg mb : Str → Option Value} {k : Nat} {fa a : Addr} {fd : FuncData} {x : Str} {s₁ : Shared} {vs : List Value} {ns : List Int}
    (KX : K.In s₁.heap) (hns : s₁.heap.Ns mainGlobals mg) (hb : s₁.heap.Ns builtinsNs mb) (hbb : ∀ x : Str, x ≠ "__name__" → mb x = bootBuiltins x) (hlim : s₁.heap.NoLimit) (hg : s₁.gens = #[])
    (ha : s₁.heap.get? a = some { cls := .type "list", data := .seq vs.toArray }) (hi : IntsAre vs ns) (hl : ns.length ≤ 63) (hr : Room k callerA)
    (F : ∀ base : Heap, K.In base → base.Ns mainGlobals mg → FnG P w K mg base CX0 k fa fd [x] (spOf K 1 lawFn)) (hbind : ∀ (s : Shared) (u : Value), BindsTo s fd ⟨[u], []⟩ [(x, u)]) :
    codeAny (model P w) callerA (.call (.ref fa) ⟨[.ref a], []⟩) (fun r s' => r = .ok (.ret (.bool true)) ∧ OldK s₁.heap s'.heap ∧ s'.os = s₁.os ∧ AllBare s'.gens) s₁ := by
  have hvals := vals_of_ints hi
  have hlen : vs.length = ns.length := hi.length
  have main : ∀ H : Hp, Only H → SqL K H a (ns.map V.int) → HOk P w H s₁.heap → (∀ b, H b ≠ none → b = a) → (H a ≠ none → K.lookup a = none) →
      codeAny (model P w) callerA (.call (.ref fa) ⟨[.ref a], []⟩) (fun r s' => r = .ok (.ret (.bool true)) ∧ OldK s₁.heap s'.heap ∧ s'.os = s₁.os ∧ AllBare s'.gens) s₁ := by
    intro H hO hS hok hA hK
    have baseK : ∀ {b : Addr} {o : Obj}, s₁.heap.get? b = some o → H b = none → (hidT s₁.heap H).get? b = some o := fun e n => hidT_get e n
    have notDict : ∀ {b : Addr} {o : Obj} {es : Array DictEntry} {ep : Nat}, s₁.heap.get? b = some o → o.data = .dict es ep → H b = none := by
      intro b o es ep e d
      cases q : H b with
      | none => rfl
      | some u =>
        have hba := hA b (by simp [q])
        subst hba
        rw [ha] at e
        cases e
        exact nomatch (show Data.seq vs.toArray _ = Data.dict es ep from d)
    have nsB : ∀ {b : Addr} {m : Str → Option Value}, s₁.heap.Ns b m → (hidT s₁.heap H).Ns b m := by
      intro b m ⟨o, es, ep, e, d, r⟩
      exact ⟨o, es, ep, baseK e (notDict e d), d, r⟩
    have kBase : K.In (hidT s₁.heap H) := by
      intro b o e
      apply baseK (KX b o e)
      cases q : H b with
      | none => rfl
      | some u =>
        have hba := hA b (by simp [q])
        subst hba
        rw [hK (by simp [q])] at e
        cases e
    obtain ⟨mc, lim1, lim2⟩ := hlim
    have hM : Mod K mg (hidT s₁.heap H) := ⟨kBase, nsB hns, ⟨mb, nsB hb, hbb⟩, ⟨mc, nsB lim1, lim2⟩⟩
    have env : Env0 P w K mg (hidT s₁.heap H) callerA [] s₁ H :=
      { frames := rfl, mod := hM, bs := fun b o e => of_hidT e, bsz := Nat.le_of_eq (hidT_size _ _), funs := trivial, frf := fun b hb => absurd (show b ∈ ([] : List Addr) from hb) (by simp), hok := hok, bare := .of_eq hg }
    have want : spOf K 1 lawFn [.ref a] H (fun v _ => v = .bl true) (fun _ _ _ => False) := by
      refine ⟨rfl, [], [], none, [.scr ns], fun av _ => av = .d (.bool true), ⟨List.nodup_nil, rfl, fun z hz => by cases hz⟩, .cons ⟨a, rfl, ?_⟩ .nil, ?_, ns, rfl, rfl, hl, fun _ => rfl⟩
      · have e : hid ([] ++ ([] ++ [])) H = H := by funext b; simp [hid]
        show SqL K (hid ([] ++ ([] ++ [])) H) a _
        rw [e]; exact hS
      · rintro av s' v L' H' rfl b r
        exact dq_bl r
    apply codeAny_mono ((F _ kBase (nsB hns)).run callerA [] s₁ H ⟨[.ref a], []⟩ [.ref a] [.ref a] _ _ hr rfl env (hbind s₁ (.ref a)) (.cons rfl .nil) want)
    intro r s' h
    cases r with
    | error e => exact False.elim h
    | ok fl =>
      cases fl with
      | next => exact h.elim
      | brk => exact h.elim
      | cont => exact h.elim
      | ret u =>
        obtain ⟨v, H', os, bare, un, hok', rel, q⟩ := h
        have q' : v = .bl true := q
        subst q'
        have hu : u = Value.bool true := rel
        subst hu
        refine ⟨rfl, OldK.of_keep ?_, os, bare⟩
        intro b o e
        cases q : H b with
        | none => exact un.keep b o e q (fun z => absurd (show b ∈ ([] : List Addr) from z) (by simp)) (by simp)
        | some u =>
          cases hO b with
          | inl z => rw [q] at z; cases z
          | inr z =>
            obtain ⟨ob, xs, z⟩ := z
            have z2 := un.frzs b ob _ z
            have e1 := (hok b _ z).1
            have e2 := (hok' b _ z2).1
            rw [e] at e1
            cases e1
            exact e2
  have hsz : ns.length ≤ sizeLine := Nat.le_trans hl (by decide)
  cases hk : K.lookup a with
  | some o =>
    have e := KX a o hk
    rw [ha] at e
    cases e
    exact main (fun _ => none) (fun _ => .inl rfl) (.inr ⟨_, vs.toArray, _, hk, rfl, rfl, rfl, by rw [List.size_toArray, hlen]; exact hsz, by simpa using hvals⟩)
      (fun b u z => nomatch (show (none : Option HO) = some u from z)) (fun b z => absurd rfl z) (fun z => absurd rfl z)
  | none =>
    have hat : (fun b => if b = a then some (HO.frz { cls := .type "list", data := .seq vs.toArray } (.lst (ns.map V.int))) else none : Hp) a = some (HO.frz { cls := .type "list", data := .seq vs.toArray } (.lst (ns.map V.int))) := if_pos rfl
    apply main (fun b => if b = a then some (.frz { cls := .type "list", data := .seq vs.toArray } (.lst (ns.map V.int))) else none)
    · intro b
      by_cases hb : b = a
      · exact .inr ⟨_, _, if_pos hb⟩
      · exact .inl (if_neg hb)
    · exact .inl (.inr ⟨_, hat⟩)
    · intro b u z
      by_cases hb : b = a
      · have z' := (if_pos hb).symm.trans z
        cases z'
        subst hb
        exact ⟨ha, by simpa using hsz, vs, _, hvals, ha⟩
      · exact nomatch ((if_neg hb).symm.trans z)
    · intro b z
      by_cases hb : b = a
      · exact hb
      · exact absurd (if_neg hb) z
    · intro _
      exact hk
theorem walkG {l : PySem.W.OpenLaw} {k : Nat} {q : Program} {loose : List Str} {XP : (Str → Option Value) → Heap → Prop} {YP : World → Heap → Prop} {d : DefRec} {K : Params → PySem.W.Frag} {x : Str}
    (hn : l.most = some 63) (hdf : d.params.defaults = []) (hr : Room k callerA)
    (hY : ∀ (w : World) (h : Heap), YP w h → (K w.params).In h)
    (F : ∀ (w : World) (mg : Str → Option Value) (fa : Addr) (h : Heap), (K w.params).In h → h.Ns mainGlobals mg → mg d.name = some (.ref fa) →
      ∃ fd : FuncData, (∀ (s : Shared) (u : Value), BindsTo s fd ⟨[u], []⟩ [(x, u)]) ∧
        ∀ base : Heap, (K w.params).In base → base.Ns mainGlobals mg → FnG l.prog w (K w.params) mg base CX0 k fa fd [x] (spOf (K w.params) 1 lawFn)) :
    PySem.W.WalkO q loose XP YP l.row.toRowW d [] (fun f vs => PySem.call f vs) := by
  apply Att.attach_call hn hdf
  intro w s₀ s₁ mg mb fa o pm cd doc a vs ns G Y ho hd hcd hmg hobj hints hlen hg
  have kIn := hY w _ Y
  obtain ⟨fd, hb, hF⟩ := F w mg fa _ kIn G.T.g hmg
  exact law_runG kIn G.T.g G.T.b G.T.builtins G.T.nolimit hg hobj hints hlen hr hF hb
end QL

namespace QL
open PySem PySem.Spec PyProof.Rows L2

/-! ### short words for printed terms -/
abbrev allv : List Nat := List.range 40
theorem qv {X : Cx} (i : Nat) {x : Str} {pos : Pos} (hN : X.N[i]? = some x := by rfl) (hv : Vis X.env.scope x := by first | exact Or.inl rfl | exact Or.inr (Or.inl rfl) | exact Or.inr (Or.inr rfl)) (hd : (x == ("__debug__" : Str)) = false := by decide)
    (hcd : (x == ("__classdict__" : Str)) = false := by decide) : QE X (.Name x pos) (aVar i) := q_var hN hv hd hcd
/-- a module's constant -/
def ConstAt (K : PySem.W.Frag) (mg : Str → Option Value) (x : Str) (d : D) : Prop := ∃ (v : V) (u : Value), mg x = some u ∧ RelV v u ∧ ∀ H, Dq K H v d
theorem q_const {X : Cx} {x : Str} {d : D} {pos : Pos} (h : ConstAt X.K X.mg x d) (hg : Gl X x := by rfl) (hdb : (x == ("__debug__" : Str)) = false := by decide) : QE X (.Name x pos) (aC d) := by
  obtain ⟨v, u, h1, h2, h3⟩ := h
  exact q_glob hg h1 h2 h3 hdb
/-- a def of the text -/
def DefAt (K : PySem.W.Frag) (mg : Str → Option Value) (x : Str) (st : Stmt) (ps : List Str) : Prop := ∃ (f : Addr) (fd : FuncData), mg x = some (.ref f) ∧ Fun K x x st f fd ∧ Binds K fd ps []
/-- a def that keeps its promise -/
def Callee (P : Program) (w : World) (K : PySem.W.Frag) (mg : Str → Option Value) (base : Heap) (x : Str) (k n : Nat) (fn : AFn) : Prop :=
  ∃ (f : Addr) (fd : FuncData) (ps : List Str), mg x = some (.ref f) ∧ PySem.W.keepIn K (.ref f) = true ∧ Binds K fd ps [] ∧ FnG P w K mg base CX0 k f fd ps (spOf K n fn)
section
variable {P : Program} {w : World} {K : PySem.W.Frag} {mg : Str → Option Value} {base : Heap}
theorem DefAt.callee {x : Str} {st : Stmt} {ps N : List Str} {k n : Nat} {fn : AFn} {t : ATS} (Df : DefAt K mg x st ps) (S : FnScope N ps (defScope st)) (hn : ps.length = n)
    (hbody : ∀ (f : Addr) (cdv : Value) (A : Around) (outer : List Env) (s : Shared) (H : Hp) (E : XK), Room k (A.deeper (envOfC x (defScope st) s.heap.objs.size f cdv)) → (A.deeper (envOfC x (defScope st) s.heap.objs.size f cdv)).guards = some [] →
      QSs (cxOf CX0 P w K mg base N x (defScope st) f cdv A outer s H E).nox (defBody st) t)
    (hf : ∀ avs s AQ, fn avs s AQ → t (endsA AQ) ⟨startA N avs, ⟨s, []⟩⟩) : Callee P w K mg base x (k + 1) n fn := by
  obtain ⟨f, fd, h1, h2, h3⟩ := Df
  exact ⟨f, fd, ps, h1, h2.kp, h3, fn_okA h2 S hn (hbody f) hf⟩
theorem Callee.imp {x : Str} {k n : Nat} {fn fn' : AFn} (c : Callee P w K mg base x k n fn) (h : ∀ avs s Q, fn' avs s Q → fn avs s Q) : Callee P w K mg base x k n fn' := by
  obtain ⟨f, fd, ps, h1, h2, h3, F⟩ := c
  exact ⟨f, fd, ps, h1, h2, h3, ⟨fun vs H Q E ⟨e, Z, L, s, avs, AQ, q1, q2, q3, q4⟩ => F.len vs H Q E ⟨e, Z, L, s, avs, AQ, q1, q2, q3, h _ _ _ q4⟩,
    fun A outer s H args us vs Q E hr hg e0 hb hv ⟨e, Z, L, s', avs, AQ, q1, q2, q3, q4⟩ => F.run A outer s H args us vs Q E hr hg e0 hb hv ⟨e, Z, L, s', avs, AQ, q1, q2, q3, h _ _ _ q4⟩⟩⟩
end
section
variable {X : Cx} {k n : Nat} {fn : AFn} {x : Str} {p pos : Pos} {e : Expr} {es : List Expr} {t : ATA}
theorem q_call (c : Callee X.prog X.w X.K X.mg X.base x k n fn) (hr : Room k X.A) (hgd : X.A.guards = some []) (ha : QA X (e :: es) t) (hg : Gl X x := by rfl) (hdb : (x == ("__debug__" : Str)) = false := by decide)
    (he : starEach (e :: es) X.env = (false, eval e X.env) :: starEach es X.env := by rfl) (hpl : (backTo pos (starEach es X.env)).any (·.1) = false := by rfl) : QE X (.Call (.Name x p) (e :: es) [] pos) (aFn n fn t) := by
  obtain ⟨f, fd, ps, h1, h2, h3, F⟩ := c
  exact q_fn F hr hgd hg h1 h2 h3 pass0 ha hdb he hpl
theorem q_call0 (c : Callee X.prog X.w X.K X.mg X.base x k 0 fn) (hr : Room k X.A) (hgd : X.A.guards = some []) (hg : Gl X x := by rfl) (hdb : (x == ("__debug__" : Str)) = false := by decide) : QE X (.Call (.Name x p) [] [] pos) (aFn 0 fn aNil) := by
  obtain ⟨f, fd, ps, h1, h2, h3, F⟩ := c
  exact q_fn0 F hr hgd hg h1 h2 h3 pass0 hdb
/-- the script, walked -/
def aItS (te : ATE) : AIt := fun a Q => te a fun x m => match x with
  | .scr ns => Q (ns.map PyData.int) m
  | _ => False
theorem items_scr {C : Ct} {L Mo : List Addr} {H : Hp} {a : Addr} {ns : List Int} (h : SqL C.K (C.hd L Mo H) a (ns.map V.int)) : ItemsOk C (Itl C.K a) L Mo H (ns.map PyData.int) := fun C2 L1 Mo1 H1 m1 hK b sm => by
  have q : SqL C.K H1 a (ns.map V.int) := hid_same.seq (sm.seq h)
  refine ⟨fun i d e => ?_, _, q, by simp⟩
  obtain ⟨v, h1, h2⟩ := (DqAll.ofInts (K := C.K) (H := H) ns).at e
  refine ⟨⟨_, v, q, h1⟩, fun x H2 ⟨e1, e2⟩ => ?_⟩
  subst e1
  have := e2 _ q
  rw [h1] at this; cases this
  rw [List.getElem?_map] at e
  cases e3 : ns[i]? with
  | none => rw [e3] at e; cases e
  | some z =>
    rw [e3] at e
    cases e
    cases h2
    exact ⟨b, X2.refl, .int _⟩
theorem qi_scr {tg e : Expr} {te : ATE} (h : QE X e te) : QI X tg e (aItS te) := fun C hK => PI.imp (pi_list (h C hK)) fun σ H R' ⟨a, L, Mo, AQ, r, k, h⟩ => by
  refine ⟨a, L, Mo, _, r, fun x m1 v L1 Mo1 H1 h1 b1 v1 e1 => ?_, h⟩
  split at h1
  · obtain ⟨l, rfl, q⟩ := v1
    exact ⟨_, rfl, ⟨_, hK ▸ hid_same.seq q⟩, k _ _ _ _ _ _ h1 b1 e1 (hK ▸ items_scr q)⟩
  · exact h1.elim
end
theorem bt_len : bootBuiltins "len" = some (.builtin "len") := by decide +kernel
theorem bt_abs : bootBuiltins "abs" = some (.builtin "abs") := by decide +kernel
theorem bt_int : bootBuiltins "int" = some (.type "int") := by decide +kernel
theorem bt_tuple : bootBuiltins "tuple" = some (.type "tuple") := by decide +kernel
theorem bt_list : bootBuiltins "list" = some (.type "list") := by decide +kernel
theorem bt_dict : bootBuiltins "dict" = some (.type "dict") := by decide +kernel
theorem bt_str : bootBuiltins "str" = some (.type "str") := by decide +kernel
theorem bt_max : bootBuiltins "max" = some (.builtin "max") := by decide +kernel
theorem bt_min : bootBuiltins "min" = some (.builtin "min") := by decide +kernel
theorem bt_sum : bootBuiltins "sum" = some (.builtin "sum") := by decide +kernel
theorem bt_repr : bootBuiltins "repr" = some (.builtin "repr") := by decide +kernel
theorem bt_sorted : bootBuiltins "sorted" = some (.builtin "sorted") := by decide +kernel
theorem bt_all : bootBuiltins "all" = some (.builtin "all") := by decide +kernel
theorem bt_any : bootBuiltins "any" = some (.builtin "any") := by decide +kernel
theorem bt_isinstance : bootBuiltins "isinstance" = some (.builtin "isinstance") := by decide +kernel
end QL

namespace QL
open PySem PySem.Spec PyProof.Rows L2

/-! ### slices -/
abbrev ATO := AS → (Option Int → Mm → Prop) → Prop
def lftO (C : Ct) (t : ATO) : TO := fun σ H Q => ∃ a L Mo AQ, R C a L Mo σ H ∧ (∀ i m' L' Mo' H', AQ i m' → B C m' L' Mo' H' → X2 C L Mo H L' Mo' H' → Q i H') ∧ t a AQ
theorem PO.imp {X : Cx} {e : Option Expr} {t t' : TO} (h : PO X e t) (i : ∀ σ H Q, t' σ H Q → t σ H Q) : PO X e t' := ⟨fun pins s σ H Q I q => h.run pins s σ H Q I (i σ H Q q)⟩
def QO (X : Cx) (e : Option Expr) (t : ATO) : Prop := ∀ C : Ct, C.K = X.K → PO X e (lftO C t)
def aNoPart : ATO := fun a Q => Q none a.m
def aPart (t : ATE) : ATO := fun a Q => t a fun x m => match x with
  | .d (.int i) => Q (some i) m
  | _ => False
def cutD (ds : List D) (lo hi : Option Int) : List D := (ds.drop (HT.sIx ds.length 0 lo)).take (HT.sIx ds.length ds.length hi - HT.sIx ds.length 0 lo)
def aSlice (te : ATE) (tl th : ATO) : ATE := fun a Q => te a fun x m1 => tl ⟨a.g, m1⟩ fun lo m2 => th ⟨a.g, m2⟩ fun hi m3 => match tupA x with
  | some ds => Q (.d (.tuple (cutD ds lo hi))) m3
  | none => match lstA m3 x with
    | some ds => Q (.d (.list (cutD ds lo hi))) m3
    | none => False
section
variable {X : Cx} {e : Expr} {te : ATE} {lo hi : Option Expr} {tl th : ATO} {pos p2 : Pos}
theorem qo_none : QO X none aNoPart := fun C hK => PO.imp po_none fun σ H Q ⟨a, L, Mo, AQ, r, k, h⟩ => k _ _ _ _ _ h r.b X2.refl
theorem qo_some {e : Expr} (h : QE X e te) : QO X (some e) (aPart te) := fun C hK => PO.imp (po_some (h C hK)) fun σ H Q ⟨a, L, Mo, AQ, r, k, h⟩ => by
  refine ⟨a, L, Mo, _, r, fun x m1 v L1 Mo1 H1 h1 b1 v1 e1 => ?_, h⟩
  split at h1
  · exact ⟨_, dq_int v1, k _ _ _ _ _ h1 b1 e1⟩
  · exact h1.elim
theorem tupA_eq {x : AV} {ds : List D} (h : tupA x = some ds) : x = .d (.tuple ds) := by
  cases x with
  | d y => cases y <;> simp [tupA] at h; subst h; rfl
  | o j => simp [tupA] at h
  | src => simp [tupA] at h
  | cells => simp [tupA] at h
  | scr ns => simp [tupA] at h
  | kt ns => simp [tupA] at h
  | dt ns => simp [tupA] at h
  | xt ns => simp [tupA] at h
  | hx ns => simp [tupA] at h
  | ty ns => simp [tupA] at h
  | ad ns => simp [tupA] at h
theorem cut_ok {K : PySem.W.Frag} {H : Hp} {xs : List V} {ds : List D} {lo hi : Option Int} (h : DqAll K H xs ds) : DqAll K H (cutV xs lo hi) (cutD ds lo hi) := by
  unfold cutV cutD
  rw [h.len]
  exact (h.drop _).take _
theorem q_slice (h : QE X e te) (hl : QO X lo tl) (hu : QO X hi th) : QE X (.Subscript e (.Slice lo hi none p2) pos) (aSlice te tl th) := fun C hK =>
  PE.imp (pe_slice (SlR.or sl_tupF sl_list) (h C hK) (hl C hK) (hu C hK)) fun σ H Q ⟨a, L, Mo, AQ, r, k, h⟩ => by
  refine ⟨a, L, Mo, _, r, fun x m1 v L1 Mo1 H1 h1 b1 v1 e1 => ⟨⟨a.g, m1⟩, L1, Mo1, _, r.next b1 e1, fun l m2 L2 Mo2 H2 h2 b2 e2 => ⟨⟨a.g, m2⟩, L2, Mo2, _, (r.next b1 e1).next b2 e2, fun u m3 L3 Mo3 H3 h3 b3 e3 => ?_, h2⟩, h1⟩, h⟩
  have v3 := (v1.mono e2).mono e3
  have kk := k.aft (e1.trans (e2.trans e3))
  split at h3
  · rename_i ds e
    obtain ⟨l', xs, rfl, q1, q2⟩ := tupA_ok v3 e
    refine .inl ⟨l', xs, rfl, hK ▸ q1, fun hw => ?_, fun _ p hp => kk.tup b3 hp (cut_ok q2) h3⟩
    have : cutD ds l u = ds := by
      unfold cutD
      rw [← q2.len, hw.1, hw.2]
      simp [q2.len]
    rw [this] at h3
    rw [tupA_eq e] at v3
    exact kk.ret h3 b3 v3
  · split at h3
    · rename_i ds e
      obtain ⟨l', xs, rfl, q1, q2⟩ := lstA_ok b3 v3 e
      exact .inr ⟨l', xs, rfl, SqL.of q1, fun p hp => kk.lst b3 hp (cut_ok q2) h3⟩
    · exact h3.elim
end

/-! ### dicts by ints and texts, as local objects -/
def putD {κ : Type} [DecidableEq κ] (kvs : List (κ × D)) (k : κ) (v : D) : List (κ × D) :=
  if (kvs.any fun kv => decide (kv.1 = k)) = true then kvs.map (fun kv => if kv.1 = k then (kv.1, v) else kv) else kvs ++ [(k, v)]
def valD {κ : Type} [DecidableEq κ] (kvs : List (κ × D)) (k : κ) : Option D := (kvs.find? fun kv => decide (kv.1 = k)).map (·.2)
section
variable {κ : Type} [DecidableEq κ] {K : PySem.W.Frag} {h : Hp}
theorem KQ.any {ys : List (κ × V)} {kvs : List (κ × D)} (q : KQ K h ys kvs) (k : κ) : (ys.any fun kv => decide (kv.1 = k)) = (kvs.any fun kv => decide (kv.1 = k)) := by
  induction q with
  | nil => rfl
  | cons a b ih => rw [List.any_cons, List.any_cons, ih, a.1]
theorem KQ.mapPut {k : κ} {v : V} {d : D} (r : Dq K h v d) {l : List (κ × V)} {l' : List (κ × D)} (q : KQ K h l l') : KQ K h (l.map fun kv => if kv.1 = k then (kv.1, v) else kv) (l'.map fun kv => if kv.1 = k then (kv.1, d) else kv) := by
  induction q with
  | nil => exact .nil
  | cons a b ih =>
    rename_i p p' l l'
    obtain ⟨e, f⟩ := a
    rw [List.map_cons, List.map_cons]
    refine .cons ?_ ih
    by_cases hk : p.1 = k
    · simp only [if_pos hk, if_pos (e ▸ hk : p'.1 = k)]; exact ⟨e, r⟩
    · simp only [if_neg hk, if_neg (fun z => hk (e.trans z) : ¬ p'.1 = k)]; exact ⟨e, f⟩
theorem KQ.put {ys : List (κ × V)} {kvs : List (κ × D)} {k : κ} {v : V} {d : D} (q : KQ K h ys kvs) (r : Dq K h v d) : KQ K h (putK ys k v) (putD kvs k d) := by
  unfold putK putD
  rw [q.any k]
  split
  · exact q.mapPut r
  · exact paired_app q (.cons ⟨rfl, r⟩ .nil)
theorem KQ.val {ys : List (κ × V)} {kvs : List (κ × D)} (q : KQ K h ys kvs) (k : κ) : (valV ys k = none ∧ valD kvs k = none) ∨ ∃ v d, valV ys k = some v ∧ valD kvs k = some d ∧ Dq K h v d := by
  induction q with
  | nil => exact .inl ⟨rfl, rfl⟩
  | cons a b ih =>
    rename_i p p' l l'
    obtain ⟨e, f⟩ := a
    by_cases hk : p.1 = k
    · have hk' : p'.1 = k := e ▸ hk
      exact .inr ⟨p.2, p'.2, by simp [valV, List.find?_cons, hk], by simp [valD, List.find?_cons, hk'], f⟩
    · have hk' : ¬ p'.1 = k := fun z => hk (e.trans z)
      have e1 : valV (p :: l) k = valV l k := by simp [valV, List.find?_cons, hk]
      have e2 : valD (p' :: l') k = valD l' k := by simp [valD, List.find?_cons, hk']
      rw [e1, e2]; exact ih
theorem KQ.keys {ys : List (κ × V)} {kvs : List (κ × D)} (q : KQ K h ys kvs) : ys.map (·.1) = kvs.map (·.1) := by
  induction q with
  | nil => rfl
  | cons a b ih => simp [ih, a.1]
theorem KQ.length {ys : List (κ × V)} {kvs : List (κ × D)} (q : KQ K h ys kvs) : ys.length = kvs.length := Paired.length q
end
def mergeD (kvs more : List (Key × D)) : List (Key × D) := more.foldl (fun acc kv => putD acc kv.1 kv.2) kvs
theorem KQ.merge {K : PySem.W.Frag} {h : Hp} : ∀ {more : List (Key × V)} {md : List (Key × D)} {ys : List (Key × V)} {kvs : List (Key × D)}, KQ K h more md → KQ K h ys kvs → KQ K h (mergeK ys more) (mergeD kvs md)
  | _, _, _, _, .nil, q => q
  | _, _, _, _, .cons a t, q => by
    rename_i p p' l l'
    have := KQ.merge t (q.put (k := p.1) a.2)
    show KQ K h (mergeK (putK _ p.1 p.2) l) (mergeD (putD _ p'.1 p'.2) l')
    rw [← a.1]; exact this
def keyD : D → Option Key
  | .int i => some (.inl i)
  | .str x => some (.inr x)
  | _ => none
def pairsD : List D → Option (List (Key × D))
  | [] => some []
  | .tuple [k, v] :: r => match keyD k, pairsD r with
    | some k, some l => some ((k, v) :: l)
    | _, _ => none
  | _ => none
theorem keyD_ok {K : PySem.W.Frag} {h : Hp} {v : V} {d : D} {k : Key} (r : Dq K h v d) (e : keyD d = some k) : v = kV k := by
  cases d <;> simp [keyD] at e
  · subst e; exact dq_int r
  · subst e; exact dq_str r
theorem pairsD_ok {K : PySem.W.Frag} {h : Hp} : ∀ {ds : List D} {xs : List V} {kvs : List (Key × D)}, DqAll K h xs ds → pairsD ds = some kvs → ∃ (ps : List Addr) (ys : List (Key × V)), xs = ps.map V.ref ∧ Paired (fun p kv => SqT K h p [kV kv.1, kv.2]) ps ys ∧ KQ K h ys kvs
  | [], _, _, r, e => by cases e; cases r; exact ⟨[], [], rfl, .nil, .nil⟩
  | d :: ds, _, _, r, e => by
    cases r with
    | cons r1 r2 =>
      unfold pairsD at e
      split at e
      · rename_i h1; cases h1
      · rename_i k v rr h1
        cases h1
        split at e
        · rename_i k' l e1 e2
          cases e
          obtain ⟨ps, ys, rfl, h2, h3⟩ := pairsD_ok r2 e2
          cases r1 with
          | tup q1 _ q2 =>
            cases q2 with
            | cons q3 q4 =>
              cases q4 with
              | cons q5 q6 =>
                cases q6
                have hk := keyD_ok q3 e1
                subst hk
                exact ⟨_ :: ps, (k', _) :: ys, rfl, .cons q1 h2, .cons ⟨rfl, q5⟩ h3⟩
        · cases e
      · cases e
section
variable {X : Cx}
/-- dict(pairs) -/
def bDict : AC1 := fun avs m Q => match avs with
  | [x] => match lstA m x with
    | some ds => match pairsD ds with
      | some kvs => Q (.o m.o.length) ⟨m.s, m.o ++ [.kd (mergeD [] kvs)]⟩
      | none => False
    | none => False
  | _ => False
theorem cq_dict (hc : X.calm = true) : CallQ X (.type "dict") bDict := by
  refine ⟨_, call_dictP hc, fun C L Mo H m avs vs Q AQ hK b r k hh => ?_⟩
  unfold bDict at hh
  split at hh
  · split at hh
    · rename_i ds e
      split at hh
      · rename_i kvs e2
        obtain ⟨v, rfl, rv⟩ := av1 r
        obtain ⟨l, xs, rfl, h1, h2⟩ := lstA_ok b rv e
        obtain ⟨ps, ys, rfl, h3, h4⟩ := pairsD_ok h2 e2
        refine ⟨l, ps, ys, rfl, SqL.of h1, hK ▸ Paired.mapP h3 fun a c q => same_tup hid_same q, fun p hp => ?_⟩
        exact k _ _ _ _ _ _ hh (b.allocO (o := .kd (mergeD [] kvs)) hp fun h' e => ⟨_, upd_same, (KQ.merge h4 .nil).mono e⟩) ⟨p, by rw [Paired.length b.ob]; simp, rfl⟩ (X2.allocO hp)
      · exact hh.elim
    · exact hh.elim
  · exact hh.elim
/-- sorted(d), the keys ints -/
def intKeys : List (Key × D) → Option (List Int)
  | [] => some []
  | (.inl i, _) :: r => match intKeys r with
    | some l => some (i :: l)
    | none => none
  | _ => none
theorem intKeys_ok : ∀ {kvs : List (Key × D)} {ks : List Int}, intKeys kvs = some ks → kvs.map (·.1) = ks.map Sum.inl
  | [], _, e => by cases e; rfl
  | (.inl i, _) :: r, _, e => by
    simp only [intKeys] at e
    split at e
    · rename_i l e2; cases e; simp [intKeys_ok e2]
    · cases e
  | (.inr x, _) :: r, _, e => by simp [intKeys] at e
def bSortD : AC1 := fun avs m Q => match avs with
  | [.o j] => match m.o[j]? with
    | some (.kd kvs) => match intKeys kvs with
      | some ks => ks.length < 64 ∧ ∀ ns : List Int, ns.Perm ks → ns.Pairwise (· ≤ ·) → Q (.d (.list (ns.map PyData.int))) m
      | none => False
    | _ => False
  | _ => False
theorem cq_sortD (hc : X.calm = true) : CallQ X (.builtin "sorted") bSortD := by
  refine ⟨_, call_sortedDI hc, fun C L Mo H m avs vs Q AQ hK b r k hh => ?_⟩
  unfold bSortD at hh
  split at hh
  · split at hh
    · rename_i kvs e
      split at hh
      · rename_i ks e2
        obtain ⟨v, rfl, rv⟩ := av1 r
        obtain ⟨l, rfl, hl, ys, h3, h4⟩ := o_at b rv e
        exact ⟨l, ys, ks, rfl, .inl h3, h4.keys.trans (intKeys_ok e2), hh.1, fun ns p h5 h6 hp => k.lst b hp (DqAll.ofInts ns) (hh.2 ns h5 h6)⟩
      · exact hh.elim
    · exact hh.elim
  · exact hh.elim
end

/-! ### for the pure side -/
theorem endsA_nx (AQ : AV → Option Src → Prop) (a : AS) : (endsA AQ).nx a = AQ (.d .none) a.m.s := rfl
theorem endsA_rt_d (AQ : AV → Option Src → Prop) (x : D) (m : Mm) : (endsA AQ).rt (.d x) m = AQ (.d x) m.s := rfl
theorem endsA_rt_src (AQ : AV → Option Src → Prop) (m : Mm) : (endsA AQ).rt .src m = AQ .src m.s := rfl
theorem endsA_rt_o (AQ : AV → Option Src → Prop) (j : Nat) (s : Option Src) (o : List MO) (ds : List D) (h : o[j]? = some (.l ds)) : (endsA AQ).rt (.o j) ⟨s, o⟩ = AQ (.d (.list ds)) s := by
  simp [endsA, fzV, h]
theorem endsA_rt_kd (AQ : AV → Option Src → Prop) (j : Nat) (s : Option Src) (o : List MO) (ds : List (Key × D)) (h : o[j]? = some (.kd ds)) : (endsA AQ).rt (.o j) ⟨s, o⟩ = AQ (.d (.dict (kvD ds))) s := by
  simp [endsA, fzV, h]
theorem endsA_rt_td (AQ : AV → Option Src → Prop) (j : Nat) (s : Option Src) (o : List MO) (ds : List (List Key × D)) (h : o[j]? = some (.td ds)) : (endsA AQ).rt (.o j) ⟨s, o⟩ = AQ (.dt ds) s := by
  simp [endsA, fzV, h]
/-- one turn of a comprehension -/
def stepC (g : ATG) (tt : ATT) (te : ATE) (g0 : List (Option AV)) (d : D) (m : Mm) (K : Option D → Mm → Prop) : Prop := g (.d d) m g0 fun g' => tt ⟨g', m⟩ fun b m1 => if b = true then te ⟨g', m1⟩ fun y m2 => (match y with
  | .d e => K (some e) m2
  | _ => False) else K none m1
theorem aLcL_step {g : ATG} {tt : ATT} {te : ATE} {g0 : List (Option AV)} {d : D} {r acc : List D} {m : Mm} {Q : List D → Mm → Prop}
    (h : stepC g tt te g0 d m fun o m2 => match o with | some e => aLcL g tt te g0 r (acc ++ [e]) m2 Q | none => aLcL g tt te g0 r acc m2 Q) : aLcL g tt te g0 (d :: r) acc m Q := h
theorem aLcL_pure0 {g : ATG} {tt : ATT} {te : ATE} {g0 : List (Option AV)} {m : Mm} {Q : List D → Mm → Prop} (f : D → Option D) : ∀ (ds acc : List D), (∀ d ∈ ds, ∀ K, K (f d) m → stepC g tt te g0 d m K) → Q (acc ++ ds.filterMap f) m → aLcL g tt te g0 ds acc m Q
  | [], acc, _, h => by simpa [aLcL] using h
  | d :: r, acc, hs, h => by
    refine aLcL_step (hs d List.mem_cons_self _ ?_)
    cases e : f d with
    | none => exact aLcL_pure0 f r acc (fun d' hd => hs d' (List.mem_cons_of_mem _ hd)) (by simpa [List.filterMap_cons, e] using h)
    | some y => exact aLcL_pure0 f r (acc ++ [y]) (fun d' hd => hs d' (List.mem_cons_of_mem _ hd)) (by simpa [List.filterMap_cons, e] using h)
/-- a comprehension that reckons -/
theorem aLcL_pure {g : ATG} {tt : ATT} {te : ATE} {g0 : List (Option AV)} {m : Mm} {Q : List D → Mm → Prop} {ds : List D} (f : D → Option D) (hs : ∀ d ∈ ds, ∀ K, K (f d) m → stepC g tt te g0 d m K) (h : Q (ds.filterMap f) m) : aLcL g tt te g0 ds [] m Q :=
  aLcL_pure0 f ds [] hs h
/-- a comprehension with an invariant -/
theorem aLcL_inv0 {g : ATG} {tt : ATT} {te : ATE} {g0 : List (Option AV)} {Q : List D → Mm → Prop} (I : Nat → List D → Mm → Prop) : ∀ (ds : List D) (i : Nat) (acc : List D) (m : Mm), I i acc m → (∀ (j : Nat) (d : D) acc m K, d ∈ ds → I j acc m → (∀ e m', I (j + 1) (acc ++ [e]) m' → K (some e) m') → (∀ m', I (j + 1) acc m' → K none m') → stepC g tt te g0 d m K) →
    (∀ acc m, I (i + ds.length) acc m → Q acc m) → aLcL g tt te g0 ds acc m Q
  | [], i, acc, m, h, _, hq => hq acc m (by simpa using h)
  | d :: r, i, acc, m, h, hs, hq => aLcL_step (hs i d acc m _ List.mem_cons_self h
      (fun e m' h' => aLcL_inv0 I r (i + 1) _ m' h' (fun j d' acc m K hd => hs j d' acc m K (List.mem_cons_of_mem _ hd)) fun acc m q => hq acc m (by rw [List.length_cons, show i + (r.length + 1) = i + 1 + r.length by omega]; exact q))
      (fun m' h' => aLcL_inv0 I r (i + 1) _ m' h' (fun j d' acc m K hd => hs j d' acc m K (List.mem_cons_of_mem _ hd)) fun acc m q => hq acc m (by rw [List.length_cons, show i + (r.length + 1) = i + 1 + r.length by omega]; exact q)))
theorem aLcL_inv {g : ATG} {tt : ATT} {te : ATE} {g0 : List (Option AV)} {Q : List D → Mm → Prop} {ds : List D} {m : Mm} (I : Nat → List D → Mm → Prop) (h0 : I 0 [] m) (hs : ∀ (j : Nat) (d : D) acc m K, d ∈ ds → I j acc m → (∀ e m', I (j + 1) (acc ++ [e]) m' → K (some e) m') → (∀ m', I (j + 1) acc m' → K none m') → stepC g tt te g0 d m K)
    (hq : ∀ acc m, I ds.length acc m → Q acc m) : aLcL g tt te g0 ds [] m Q := aLcL_inv0 I ds 0 [] m h0 hs fun acc m q => hq acc m (by simpa using q)
theorem aForL_nil {n : Nat} {fs : List Nat} {g : ATG} {tb : ATS} {E : AEnds} {a : AS} (h : E.nx a) : aForL n fs g tb E [] a := h
end QL

namespace QL
open PySem PySem.Spec PyProof.Rows L2
/-! ### lists of anything told as data -/
def intR (lo : Int) (n : Nat) : List Int := (List.range n).map fun k : Nat => lo + (k : Int)
theorem rngD_eq (lo : Int) (n : Nat) : rngD lo n = (intR lo n).map PyData.int := by
  unfold rngD intR
  rw [List.map_map]
  rfl
theorem mem_intR {lo : Int} {n : Nat} {i : Int} (h : i ∈ intR lo n) : lo ≤ i ∧ i < lo + n := by
  obtain ⟨k, h1, rfl⟩ := List.mem_map.mp h
  have := List.mem_range.mp h1
  omega
theorem intR_len (lo : Int) (n : Nat) : (intR lo n).length = n := by simp [intR]
theorem aLcL_map {β : Type} {g : ATG} {tt : ATT} {te : ATE} {g0 : List (Option AV)} {m : Mm} {Q : List D → Mm → Prop} {xs : List β} (e : β → D) (c : β → Bool) (v : β → D)
    (hs : ∀ x ∈ xs, ∀ K, K (if c x = true then some (v x) else none) m → stepC g tt te g0 (e x) m K) (h : Q ((xs.filter c).map v) m) : aLcL g tt te g0 (xs.map e) [] m Q := by
  have go : ∀ (xs : List β) (acc : List D), (∀ x ∈ xs, ∀ K, K (if c x = true then some (v x) else none) m → stepC g tt te g0 (e x) m K) → Q (acc ++ (xs.filter c).map v) m → aLcL g tt te g0 (xs.map e) acc m Q := by
    intro xs
    induction xs with
    | nil => intro acc _ h; simpa [aLcL] using h
    | cons x xs ih =>
      intro acc hs h
      rw [List.map_cons]
      refine aLcL_step (hs x List.mem_cons_self _ ?_)
      by_cases hc : c x = true
      · simp only [hc, if_true]
        exact ih _ (fun y hy => hs y (List.mem_cons_of_mem _ hy)) (by simpa [List.filter_cons, hc] using h)
      · simp only [hc, if_false]
        exact ih _ (fun y hy => hs y (List.mem_cons_of_mem _ hy)) (by simpa [List.filter_cons, hc] using h)
  exact go xs [] hs (by simpa using h)
/-- .. without a test -/
theorem aLcL_all {β : Type} {g : ATG} {tt : ATT} {te : ATE} {g0 : List (Option AV)} {m : Mm} {Q : List D → Mm → Prop} {xs : List β} (e : β → D) (v : β → D)
    (hs : ∀ x ∈ xs, ∀ K, K (some (v x)) m → stepC g tt te g0 (e x) m K) (h : Q (xs.map v) m) : aLcL g tt te g0 (xs.map e) [] m Q :=
  by
    have e1 : xs.filter (fun _ => true) = xs := List.filter_eq_self.mpr (by simp)
    exact aLcL_map e (fun _ => true) v (fun x hx K hK => hs x hx K (by simpa using hK)) (by rw [e1]; exact h)
/-- a for that keeps an invariant and does not leave: behind i items I i holds -/
theorem sub64 : (9223372036854775808 : Int) = 2 ^ 63 := by decide
theorem Rg.of {j : Int} (h1 : -4611686018427387904 ≤ j) (h2 : j < 4611686018427387904) : Rg j := ⟨by simpa using h1, by simpa using h2⟩
theorem MulOk.l {i j : Int} (h1 : -18446744073709551616 < i) (h2 : i < 18446744073709551616) : MulOk i j := .inl (.inl ⟨by simpa using h1, by simpa using h2⟩)
theorem MulOk.r {i j : Int} (h1 : -18446744073709551616 < j) (h2 : j < 18446744073709551616) : MulOk i j := .inl (.inr ⟨by simpa using h1, by simpa using h2⟩)
/-! data of plain things -/
theorem shaped_int (i : Int) : SeqAt.shaped (.int i) = true := rfl
end QL

namespace QL
open PySem PySem.Spec PyProof.Rows L2
/-! ### what repr asks, made easy -/
mutual
def IntsB : D → Prop
  | .none => True
  | .bool _ => True
  | .int i => i.natAbs.log2 < 1900
  | .str x => ∀ c ∈ x.cps.toList, c < 16 ^ 8
  | .list xs => IntsBs xs
  | .tuple xs => IntsBs xs
  | .dict _ => False
def IntsBs : List D → Prop
  | [] => True
  | x :: xs => IntsB x ∧ IntsBs xs
end
mutual
theorem IntsB.show_ : ∀ d : D, IntsB d → d.showable = true ∧ d.leavesShort 2000 = true
  | .none, _ => ⟨rfl, rfl⟩
  | .bool _, _ => ⟨rfl, rfl⟩
  | .int i, h => by
    have h' : i.natAbs.log2 < 1900 := h
    refine ⟨by simp [PyData.showable]; omega, ?_⟩
    have e := int_text_length_le (k := 1900) (by decide) h'
    simp only [PyData.leavesShort, decide_eq_true_eq]
    show (Str.ofString (toString i)).length ≤ 2000
    rw [PySem.ofString_length]; omega
  | .str x, h => by
    refine ⟨rfl, ?_⟩
    simp only [PyData.leavesShort, List.all_eq_true, decide_eq_true_eq]
    exact h
  | .list xs, h => by
    obtain ⟨h1, h2⟩ := IntsBs.show_ xs h
    exact ⟨by simpa [PyData.showable] using h1, by simpa [PyData.leavesShort] using h2⟩
  | .tuple xs, h => by
    obtain ⟨h1, h2⟩ := IntsBs.show_ xs h
    exact ⟨by simpa [PyData.showable] using h1, by simpa [PyData.leavesShort] using h2⟩
  | .dict _, h => h.elim
theorem IntsBs.show_ : ∀ ds : List D, IntsBs ds → PyData.showableAll ds = true ∧ PyData.leavesShortAll 2000 ds = true
  | [], _ => ⟨rfl, rfl⟩
  | d :: ds, h => by
    obtain ⟨h1, h2⟩ := IntsB.show_ d h.1
    obtain ⟨h3, h4⟩ := IntsBs.show_ ds h.2
    exact ⟨by simp [PyData.showableAll, h1, h3], by simp [PyData.leavesShortAll, h2, h4]⟩
end
mutual
theorem IntsB.noDict : ∀ d : D, IntsB d → d.hasDict = false
  | .none, _ => by simp [PyData.hasDict]
  | .bool _, _ => by simp [PyData.hasDict]
  | .int _, _ => by simp [PyData.hasDict]
  | .str _, _ => by simp [PyData.hasDict]
  | .list xs, h => by simp only [PyData.hasDict]; exact IntsBs.noDict xs h
  | .tuple xs, h => by simp only [PyData.hasDict]; exact IntsBs.noDict xs h
  | .dict _, h => h.elim
theorem IntsBs.noDict : ∀ ds : List D, IntsBs ds → PyData.hasDictAll ds = false
  | [], _ => by simp [PyData.hasDictAll]
  | d :: ds, h => by simp [PyData.hasDictAll, IntsB.noDict d h.1, IntsBs.noDict ds h.2]
end
theorem RepOk.of {d : D} (h : IntsB d) (hd : d.depth ≤ 64) (hb : d.bulk ≤ 8000) : RepOk d := by
  obtain ⟨h1, h2⟩ := h.show_
  refine ⟨h.noDict, h1, hd, ?_⟩
  have e := PyData.shown_le_bulk 2000 (by decide) d h2
  rw [sizeLine_eq]
  omega
/-- an int of up to 1899 bits -/
theorem log_small {i : Int} (h : i.natAbs < 2 ^ 1899) : i.natAbs.log2 < 1900 := by
  by_cases h0 : i.natAbs = 0
  · rw [h0]; decide
  · have := (Nat.log2_lt h0).mpr h
    omega
theorem log_64 {i : Int} (h1 : -18446744073709551616 < i) (h2 : i < 18446744073709551616) : i.natAbs.log2 < 1900 := by
  have e : (2 : Nat) ^ 64 = 18446744073709551616 := by decide
  have h : i.natAbs < 2 ^ 64 := by omega
  exact log_small (Nat.lt_of_lt_of_le h (Nat.pow_le_pow_right (by decide) (by decide)))
end QL

namespace QL
open PySem PySem.Spec PyProof.Rows L2

/-! ### dicts as data and as local objects -/
def unK : List (D × D) → List (Key × D)
  | [] => []
  | (k, d) :: r => match keyD k with
    | some k => (k, d) :: unK r
    | none => unK r
theorem keyD_kD (k : Key) : keyD (kD k) = some k := by cases k <;> rfl
theorem unK_kvD : ∀ kvs : List (Key × D), unK (kvD kvs) = kvs
  | [] => rfl
  | (k, d) :: r => by
    show unK ((kD k, d) :: kvD r) = _
    unfold unK
    rw [keyD_kD, unK_kvD r]
theorem DqK.un {K : PySem.W.Frag} {h : Hp} : ∀ {kvs : List (D × D)} {ys : List (Key × V)}, DqK K h ys kvs → KQ K h ys (unK kvs)
  | [], _, q => by cases q; exact .nil
  | (k, d) :: r, _, q => by
    cases q with
    | cons q1 q2 =>
      unfold unK
      rw [keyD_kD]
      exact .cons ⟨rfl, q1⟩ (DqK.un q2)
/-- a dict by ints and texts -/
def dkA (m : Mm) : AV → Option (List (Key × D))
  | .d (.dict kvs) => some (unK kvs)
  | .o j => match m.o[j]? with
    | some (.kd kvs) => some kvs
    | _ => none
  | _ => none
/-- a dict by tuples -/
def dtA (m : Mm) : AV → Option (List (List Key × D))
  | .dt kvs => some kvs
  | .o j => match m.o[j]? with
    | some (.td kvs) => some kvs
    | _ => none
  | _ => none
def keyA : AV → Option Key
  | .d d => keyD d
  | _ => none
section
variable {C : Ct} {m : Mm} {L Mo : List Addr} {H : Hp} {x : AV} {v : V}
theorem dkA_ok {kvs : List (Key × D)} (b : B C m L Mo H) (r : AVR C L Mo H x v) (h : dkA m x = some kvs) : ∃ l ys, v = .ref l ∧ H l = some (.dK ys) ∧ KQ C.K (C.hd L Mo H) ys kvs := by
  cases x with
  | d y =>
    cases y <;> simp [dkA] at h
    subst h
    cases r with
    | dk h1 h2 => exact ⟨_, _, rfl, (hid_some h1).2, DqK.un h2⟩
  | o j =>
    simp only [dkA] at h
    split at h
    · rename_i kvs' e
      cases h
      obtain ⟨l, rfl, _, ys, h3, h4⟩ := o_at b r e
      exact ⟨l, ys, rfl, h3, h4⟩
    · cases h
  | src => simp [dkA] at h
  | cells => simp [dkA] at h
  | scr ns => simp [dkA] at h
  | kt ns => simp [dkA] at h
  | dt ns => simp [dkA] at h
  | xt ns => simp [dkA] at h
  | hx ns => simp [dkA] at h
  | ty ns => simp [dkA] at h
  | ad ns => simp [dkA] at h
theorem dtA_ok {kvs : List (List Key × D)} (b : B C m L Mo H) (r : AVR C L Mo H x v) (h : dtA m x = some kvs) : ∃ l ys, v = .ref l ∧ H l = some (.dT ys) ∧ KQ C.K (C.hd L Mo H) ys kvs := by
  cases x with
  | d y => simp [dtA] at h
  | o j =>
    simp only [dtA] at h
    split at h
    · rename_i kvs' e
      cases h
      obtain ⟨l, rfl, _, ys, h3, h4⟩ := o_at b r e
      exact ⟨l, ys, rfl, h3, h4⟩
    · cases h
  | src => simp [dtA] at h
  | cells => simp [dtA] at h
  | scr ns => simp [dtA] at h
  | kt ns => simp [dtA] at h
  | xt ns => simp [dtA] at h
  | hx ns => simp [dtA] at h
  | ty ns => simp [dtA] at h
  | ad ns => simp [dtA] at h
  | dt ns =>
    simp [dtA] at h
    subst h
    obtain ⟨a, ys, rfl, h1, h2⟩ := r
    exact ⟨a, ys, rfl, (hid_some h1).2, h2⟩
theorem keyA_ok {k : Key} (r : AVR C L Mo H x v) (h : keyA x = some k) : v = kV k := by
  cases x with
  | d y => exact keyD_ok r h
  | o j => simp [keyA] at h
  | src => simp [keyA] at h
  | cells => simp [keyA] at h
  | scr ns => simp [keyA] at h
  | kt ns => simp [keyA] at h
  | dt ns => simp [keyA] at h
  | xt ns => simp [keyA] at h
  | hx ns => simp [keyA] at h
  | ty ns => simp [keyA] at h
  | ad ns => simp [keyA] at h
def OptQ (K : PySem.W.Frag) (h : Hp) : Option V → Option D → Prop
  | some v, some d => Dq K h v d
  | none, none => True
  | _, _ => False
theorem KQ.opt {κ : Type} [DecidableEq κ] {K : PySem.W.Frag} {h : Hp} {ys : List (κ × V)} {kvs : List (κ × D)} (q : KQ K h ys kvs) (k : κ) : OptQ K h (valV ys k) (valD kvs k) := by
  rcases q.val k with ⟨q1, q2⟩ | ⟨z, d, q1, q2, q3⟩
  · rw [q1, q2]; trivial
  · rw [q1, q2]; exact q3
theorem OptQ.some_ {K : PySem.W.Frag} {h : Hp} {o : Option V} {d : D} (q : OptQ K h o (some d)) : ∃ z, o = some z ∧ Dq K h z d := by
  cases o with
  | none => exact q.elim
  | some z => exact ⟨z, rfl, q⟩
theorem OptQ.none_ {K : PySem.W.Frag} {h : Hp} {o : Option V} (q : OptQ K h o none) : o = none := by
  cases o with
  | none => rfl
  | some z => exact q.elim
theorem OptQ.isSome {K : PySem.W.Frag} {h : Hp} {o : Option V} {d : Option D} (q : OptQ K h o d) : o.isSome = d.isSome := by
  cases d with
  | none => rw [q.none_]; rfl
  | some d => obtain ⟨z, rfl, _⟩ := q.some_; rfl
/-- what a look at a key finds -/
def lookA (m : Mm) (x y : AV) : Option (Option D) := match dkA m x with
  | some kvs => match keyA y with
    | some k => some (valD kvs k)
    | none => none
  | none => match dtA m x with
    | some kvs => match y with
      | .kt ks => some (valD kvs ks)
      | _ => none
    | none => none
theorem lookA_ok {y : AV} {w : V} {o : Option D} (b : B C m L Mo H) (r1 : AVR C L Mo H x v) (r2 : AVR C L Mo H y w) (h : lookA m x y = some o) :
    ∃ a o', v = .ref a ∧ DGet H a w o' ∧ OptQ C.K (C.hd L Mo H) o' o := by
  unfold lookA at h
  split at h
  · rename_i kvs e
    split at h
    · rename_i k ek
      cases h
      obtain ⟨l, ys, rfl, h3, h4⟩ := dkA_ok b r1 e
      have hk := keyA_ok r2 ek
      subst hk
      exact ⟨l, _, rfl, DGet.k h3, h4.opt k⟩
    · cases h
  · split at h
    · rename_i kvs e
      split at h
      · rename_i ks
        cases h
        obtain ⟨l, ys, rfl, h3, h4⟩ := dtA_ok b r1 e
        obtain ⟨b', rfl, h5⟩ := r2
        exact ⟨l, _, rfl, DGet.t h3 (hid_some h5).2, h4.opt ks⟩
      · cases h
    · cases h
end
section
variable {X : Cx} {o i e f value : Expr} {pos pos' apos cpos : Pos} {td ty tv tx : ATE}
/-- d[y] -/
def aDix : AR2 := fun x y m Q => match lookA m x y with
  | some (some d) => Q (.d d) m
  | _ => False
theorem q_dix (hu : X.A.units + 1 < cLine) (ho : QE X o td) (hi : QE X i ty) (hs : NoSl i := by intro _ _; rfl) : QE X (.Subscript o i pos) (aBin aDix td ty) := fun C hK => PE.imp (pe_dget hu (ho C hK) (hi C hK) hs) fun σ H Q ⟨a, L, Mo, AQ, r, k, h⟩ => by
  refine ⟨a, L, Mo, _, r, fun x m1 v L1 Mo1 H1 h1 b1 v1 e1 => ⟨⟨a.g, m1⟩, L1, Mo1, _, r.next b1 e1, fun y m2 w L2 Mo2 H2 h2 b2 w2 e2 => ?_, h1⟩, h⟩
  have h2' : (match lookA m2 x y with | some (some d) => AQ (.d d) m2 | _ => False) := h2
  split at h2'
  · rename_i d e
    obtain ⟨l, o', rfl, g, q⟩ := lookA_ok b2 (v1.mono e2) w2 e
    obtain ⟨z, rfl, q⟩ := q.some_
    exact ⟨l, z, rfl, g, ((k.aft e1).aft e2).ret h2' b2 q⟩
  · exact h2'.elim
/-- y in d -/
def aDin : AR2 := fun y x m Q => match lookA m x y with
  | some o => Q (.d (.bool o.isSome)) m
  | none => False
def aDnin : AR2 := fun y x m Q => match lookA m x y with
  | some o => Q (.d (.bool (!o.isSome))) m
  | none => False
theorem op_din (hu : X.A.units + 1 < cLine) : OpR X (compareOp .In) (fun y x H Q => ∃ a o, x = .ref a ∧ DGet H a y o ∧ Q (.bl o.isSome) H) := by
  intro pins s σ H y x v u Q I ry rx h
  obtain ⟨a, ov, ex, g, q2⟩ := h
  subst ex
  obtain rfl : u = Value.ref a := rx
  exact d_in hu I g ry fun s3 I3 => ⟨.bl ov.isSome, H, I3, rfl, q2⟩
theorem op_dnin (hu : X.A.units + 1 < cLine) : OpR X (compareOp .NotIn) (fun y x H Q => ∃ a o, x = .ref a ∧ DGet H a y o ∧ Q (.bl (!o.isSome)) H) := by
  intro pins s σ H y x v u Q I ry rx h
  obtain ⟨a, ov, ex, g, q2⟩ := h
  subst ex
  obtain rfl : u = Value.ref a := rx
  exact d_notIn hu I g ry fun s3 I3 => ⟨.bl (!ov.isSome), H, I3, rfl, q2⟩
theorem oq_din (hu : X.A.units + 1 < cLine) : OpQ X (compareOp .In) aDin := by
  refine ⟨_, op_din hu, fun C L Mo H m y x w v Q AQ hK b r2 r1 k hh => ?_⟩
  unfold aDin at hh
  split at hh
  · rename_i o e
    obtain ⟨l, o', rfl, g, q⟩ := lookA_ok b r1 r2 e
    refine ⟨l, o', rfl, g, ?_⟩
    rw [q.isSome]
    exact k.ret hh b (.bl _)
  · exact hh.elim
theorem oq_dnin (hu : X.A.units + 1 < cLine) : OpQ X (compareOp .NotIn) aDnin := by
  refine ⟨_, op_dnin hu, fun C L Mo H m y x w v Q AQ hK b r2 r1 k hh => ?_⟩
  unfold aDnin at hh
  split at hh
  · rename_i o e
    obtain ⟨l, o', rfl, g, q⟩ := lookA_ok b r1 r2 e
    refine ⟨l, o', rfl, g, ?_⟩
    rw [q.isSome]
    exact k.ret hh b (.bl _)
  · exact hh.elim
/-- d.get(y, z) -/
def isDictA (m : Mm) (x : AV) : Bool := (dkA m x).isSome || (dtA m x).isSome
theorem isDictA_ok {C : Ct} {m : Mm} {L Mo : List Addr} {H : Hp} {x : AV} {v : V} (b : B C m L Mo H) (r : AVR C L Mo H x v) (h : isDictA m x = true) : ∃ a, v = .ref a ∧ IsD H a := by
  unfold isDictA at h
  cases e : dkA m x with
  | some kvs =>
    obtain ⟨l, ys, rfl, h3, _⟩ := dkA_ok b r e
    exact ⟨l, rfl, .inl ⟨ys, .inl h3⟩⟩
  | none =>
    cases e2 : dtA m x with
    | some kvs =>
      obtain ⟨l, ys, rfl, h3, _⟩ := dtA_ok b r e2
      exact ⟨l, rfl, .inr ⟨ys, .inl h3⟩⟩
    | none => rw [e, e2] at h; simp at h
def aDget (td ty tx : ATE) : ATE := fun a Q => td a fun x m1 => isDictA m1 x = true ∧ ty ⟨a.g, m1⟩ fun y m2 => tx ⟨a.g, m2⟩ fun z m3 => match lookA m3 x y with
  | some (some d) => Q (.d d) m3
  | some none => Q z m3
  | none => False
theorem q_dget (hu : X.A.units + 1 < cLine) (ho : QE X o td) (he : QE X e ty) (hf : QE X f tx) (m : M2 X o "get" apos e f cpos := by exact ⟨rfl, rfl, rfl, rfl⟩) : QE X (.Call (.Attribute o "get" apos) [e, f] [] cpos) (aDget td ty tx) := fun C hK =>
  PE.imp (pe_dget2 hu (ho C hK) (he C hK) (hf C hK) m) fun σ H Q ⟨a, L, Mo, AQ, r, k, h⟩ => by
    refine ⟨a, L, Mo, _, r, fun x m1 v L1 Mo1 H1 ⟨h0, h1⟩ b1 v1 e1 => ?_, h⟩
    obtain ⟨l, rfl, hd⟩ := isDictA_ok b1 v1 h0
    refine ⟨l, rfl, hd, ⟨a.g, m1⟩, L1, Mo1, _, r.next b1 e1, fun y m2 w L2 Mo2 H2 h2 b2 w2 e2 => ⟨⟨a.g, m2⟩, L2, Mo2, _, (r.next b1 e1).next b2 e2, fun z m3 w' L3 Mo3 H3 h3 b3 w3 e3 => ?_, h2⟩, h1⟩
    have h3' : (match lookA m3 x y with | some (some d) => AQ (.d d) m3 | some none => AQ z m3 | none => False) := h3
    split at h3'
    · rename_i d e
      obtain ⟨l', o', hl, g, q⟩ := lookA_ok b3 ((v1.mono e2).mono e3) (w2.mono e3) e
      obtain ⟨z', rfl, q⟩ := q.some_
      cases hl
      exact ⟨_, g, (((k.aft e1).aft e2).aft e3).ret h3' b3 q⟩
    · rename_i e
      obtain ⟨l', o', hl, g, q⟩ := lookA_ok b3 ((v1.mono e2).mono e3) (w2.mono e3) e
      cases hl
      have q' : o' = none := q.none_
      subst q'
      exact ⟨_, g, (((k.aft e1).aft e2).aft e3).ret h3' b3 w3⟩
    · exact h3'.elim
/-- d[y] = v, d a local object -/
def aDput (td ty tv : ATE) : ATS := fun E a => tv a fun v m1 => td ⟨a.g, m1⟩ fun x m2 => ty ⟨a.g, m2⟩ fun y m3 => match x, v with
  | .o j, .d d => match m3.o[j]? with
    | some (.kd kvs) => match keyA y with
      | some k => kvs.length ≤ 1000000 ∧ E.nx ⟨a.g, ⟨m3.s, m3.o.set j (.kd (putD kvs k d))⟩⟩
      | none => False
    | some (.td kvs) => match y with
      | .kt ks => kvs.length ≤ 1000000 ∧ E.nx ⟨a.g, ⟨m3.s, m3.o.set j (.td (putD kvs ks d))⟩⟩
      | _ => False
    | _ => False
  | _, _ => False
theorem qs_dput (hu : X.A.units + 1 < cLine) (ho : QE X o td) (hi : QE X i ty) (hv : QE X value tv) (hs : swapsWith value (some (.Subscript o i pos')) pos.line X.env = pure false := by rfl) :
    QS X (.Assign [.Subscript o i pos'] value pos) (aDput td ty tv) := fun C hK => PS.imp (ps_dput hu (ho C hK) (hi C hK) (hv C hK) hs) fun D σ H ⟨a, L, Mo, AD, r, b, h⟩ => by
  refine ⟨a, L, Mo, _, r, fun v m1 w L1 Mo1 H1 h1 b1 w1 e1 => ⟨⟨a.g, m1⟩, L1, Mo1, _, r.next b1 e1, fun x m2 u L2 Mo2 H2 h2 b2 v2 e2 => ⟨⟨a.g, m2⟩, L2, Mo2, _, (r.next b1 e1).next b2 e2, fun y m3 z L3 Mo3 H3 h3 b3 z3 e3 => ?_, h2⟩, h1⟩, h⟩
  have r3 := ((r.next b1 e1).next b2 e2).next b3 e3
  split at h3
  · rename_i j d
    have hw : Dq C.K (C.hd L3 Mo3 H3) w d := (w1.mono e2).mono e3
    split at h3
    · rename_i kvs e
      split at h3
      · rename_i k ek
        obtain ⟨l, rfl, hl, ys, h4, h5⟩ := o_at b3 (v2.mono e3) e
        have hk := keyA_ok z3 ek
        subst hk
        refine ⟨l, _, rfl, DPut.k h4 (by rw [h5.length]; exact line6 h3.1), b.nx _ _ _ _ _ h3.2 (r3.next (b3.upd hl fun h e => ⟨_, upd_same, by rw [e]; exact h5.put hw⟩) (X2.upd (List.mem_of_getElem? hl)))⟩
      · exact h3.elim
    · rename_i kvs e
      split at h3
      · rename_i ks
        obtain ⟨l, rfl, hl, ys, h4, h5⟩ := o_at b3 (v2.mono e3) e
        obtain ⟨b', rfl, h6⟩ := z3
        refine ⟨l, _, rfl, DPut.t h4 (hid_some h6).2 (by rw [h5.length]; exact line6 h3.1), b.nx _ _ _ _ _ h3.2 (r3.next (b3.upd hl fun h e => ⟨_, upd_same, by rw [e]; exact h5.put hw⟩) (X2.upd (List.mem_of_getElem? hl)))⟩
      · exact h3.elim
    · exact h3.elim
  · exact h3.elim
/-- {} -/
def aDnewK : ATE := fun a Q => Q (.o a.m.o.length) ⟨a.m.s, a.m.o ++ [.kd []]⟩
def aDnewT : ATE := fun a Q => Q (.o a.m.o.length) ⟨a.m.s, a.m.o ++ [.td []]⟩
theorem q_dnewK : QE X (.Dict [] [] pos) aDnewK := fun C hK => PE.imp pe_dnewK fun σ H Q ⟨a, L, Mo, AQ, r, k, h⟩ p hp =>
  k _ _ _ _ _ _ h (r.b.allocO (o := .kd []) hp fun h' e => ⟨[], upd_same, .nil⟩) ⟨p, by rw [Paired.length r.b.ob]; simp, rfl⟩ (X2.allocO hp)
theorem q_dnewT : QE X (.Dict [] [] pos) aDnewT := fun C hK => PE.imp pe_dnewT fun σ H Q ⟨a, L, Mo, AQ, r, k, h⟩ p hp =>
  k _ _ _ _ _ _ h (r.b.allocO (o := .td []) hp fun h' e => ⟨[], upd_same, .nil⟩) ⟨p, by rw [Paired.length r.b.ob]; simp, rfl⟩ (X2.allocO hp)
/-- a tuple that is to be a key -/
def keysD : List D → Option (List Key)
  | [] => some []
  | d :: r => match keyD d, keysD r with
    | some k, some l => some (k :: l)
    | _, _ => none
theorem keysD_ok {K : PySem.W.Frag} {h : Hp} : ∀ {ds : List D} {vs : List V} {ks : List Key}, DqAll K h vs ds → keysD ds = some ks → vs = ks.map kV
  | [], _, _, q, e => by cases q; cases e; rfl
  | d :: r, _, _, q, e => by
    cases q with
    | cons q1 q2 =>
      simp only [keysD] at e
      split at e
      · rename_i k l e1 e2
        cases e
        rw [List.map_cons, keyD_ok q1 e1, keysD_ok q2 e2]
      · cases e
theorem keysD_kD : ∀ ks : List Key, keysD (ks.map kD) = some ks
  | [] => rfl
  | k :: r => by
    rw [List.map_cons]
    unfold keysD
    rw [keyD_kD, keysD_kD r]
def bTupleK : AC1 := fun avs m Q => match avs with
  | [x] => match lstA m x with
    | some ds => match keysD ds with
      | some ks => Q (.kt ks) m
      | none => False
    | none => False
  | _ => False
theorem cq_tupleK : CallQ X (.type "tuple") bTupleK := by
  refine ⟨_, call_tuple_of, fun C L Mo H m avs vs Q AQ hK b r k hh => ?_⟩
  unfold bTupleK at hh
  split at hh
  · split at hh
    · rename_i ds e
      split at hh
      · rename_i ks ek
        obtain ⟨v, rfl, rv⟩ := av1 r
        obtain ⟨l, xs, rfl, h1, h2⟩ := lstA_ok b rv e
        have := keysD_ok h2 ek
        subst this
        exact ⟨l, _, rfl, .inl ⟨SqL.of h1, fun p hp => k _ _ _ _ _ _ hh (b.alloc hp) ⟨p, rfl, hd_new b hp⟩ (X2.alloc hp)⟩⟩
      · exact hh.elim
    · exact hh.elim
  · exact hh.elim
variable {es : List Expr} {tr : ATA}
def aTupK (t : ATA) : ATE := fun a Q => t a fun avs m => match datas avs with
  | some ds => match keysD ds with
    | some ks => ds.length ≤ 1000 ∧ Q (.kt ks) m
    | none => False
  | none => False
theorem q_tupK {x1} (h : QA X es tr) : QE X (.Tuple es x1 pos) (aTupK tr) := fun C hK => PE.imp (pe_tup (h C hK)) fun σ H Q ⟨a, L, Mo, AQ, r, k, h⟩ => by
  refine ⟨a, L, Mo, _, r, fun xs m1 vs L1 Mo1 H1 h1 b1 v1 e1 => ?_, h⟩
  have h1' : (match datas xs with | some ds => (match keysD ds with | some ks => ds.length ≤ 1000 ∧ AQ (.kt ks) m1 | none => False) | none => False) := h1
  split at h1'
  · rename_i ds e
    split at h1'
    · rename_i ks ek
      have q := datas_ok v1 e
      have := keysD_ok q ek
      subst this
      exact ⟨line1000 (by rw [q.len]; exact h1'.1), fun p hp => (k.aft e1) _ _ _ _ _ _ h1'.2 (b1.alloc hp) ⟨p, rfl, hd_new b1 hp⟩ (X2.alloc hp)⟩
    · exact h1'.elim
  · exact h1'.elim
end
end QL

namespace QL
open PySem PySem.Spec PyProof.Rows L2 RZ

/-! ### zip, enumerate -/
def zipD (xs ys : List D) : List D := (xs.zip ys).map fun p => .tuple [p.1, p.2]
theorem zipD_at {xs ys : List D} {i : Nat} {d : D} (h : (zipD xs ys)[i]? = some d) : ∃ x y, xs[i]? = some x ∧ ys[i]? = some y ∧ d = .tuple [x, y] := by
  unfold zipD at h
  rw [List.getElem?_map] at h
  cases e : (xs.zip ys)[i]? with
  | none => rw [e] at h; cases h
  | some p =>
    rw [e] at h
    obtain ⟨h1, h2⟩ := List.getElem?_zip_eq_some.mp e
    exact ⟨p.1, p.2, h1, h2, (Option.some.inj h).symm⟩
theorem zipD_len (xs ys : List D) : (zipD xs ys).length = min xs.length ys.length := by simp [zipD]
theorem ndNeed_cons (x : D) (ds : List D) : NdNeed (x :: ds) = NdNeed [x] := by
  unfold NdNeed
  split <;> simp_all
/-- no term stands in the row -/
def zok (xs : List D) : Bool := xs.all fun x => !NdNeed [x]
theorem zok_at {xs : List D} {i : Nat} {x : D} {ds : List D} (h : zok xs = true) (e : xs[i]? = some x) : ¬ (NdNeed (x :: ds) = true) := by
  have := List.all_eq_true.mp h x (List.mem_of_getElem? e)
  rw [ndNeed_cons]
  revert this
  cases NdNeed [x] <;> simp
theorem zok_of {α : Type} {f : α → D} (h : ∀ a, NdNeed [f a] = false) (l : List α) : zok (l.map f) = true := by
  refine List.all_eq_true.mpr fun x hx => ?_
  obtain ⟨a, _, rfl⟩ := List.mem_map.mp hx
  rw [h]; rfl
theorem zok_nil : zok [] = true := rfl
theorem zok_cons (x : D) (r : List D) : zok (x :: r) = (!NdNeed [x] && zok r) := rfl
theorem nd_int (i : Int) : NdNeed [.int i] = false := rfl
theorem nd_str (i : Str) : NdNeed [.str i] = false := rfl
theorem nd_bool (i : Bool) : NdNeed [.bool i] = false := rfl
theorem nd_list (i : List D) : NdNeed [.list i] = false := rfl
theorem nd_ti (i : Int) (r : List D) : NdNeed [.tuple (.int i :: r)] = false := by cases r with | nil => rfl | cons _ r => cases r <;> rfl
theorem nd_ts (i : Str) (r : List D) : NdNeed [.tuple (.str i :: r)] = false := by cases r with | nil => rfl | cons _ r => cases r <;> rfl
theorem nd_t0 : NdNeed [.tuple []] = false := rfl
theorem nd_t1 (x : D) : NdNeed [.tuple [x]] = false := by cases x <;> rfl
theorem nd_t3 (x y z : D) (r : List D) : NdNeed [.tuple (x :: y :: z :: r)] = false := by cases x <;> cases y <;> rfl
theorem items_zipL {C : Ct} {L Mo : List Addr} {H : Hp} {a b : Addr} {xs ys : List V} {ds es : List D} (h : C.hd L Mo H a = some (.lst xs)) (hx : DqAll C.K (C.hd L Mo H) xs ds) (g : C.hd L Mo H b = some (.lst ys)) (hy : DqAll C.K (C.hd L Mo H) ys es) (hz : zok ds = true) :
    ItemsOk C (Itz C.K a b) L Mo H (zipD ds es) := fun C2 L1 Mo1 H1 m1 hK bb sm => by
  have q : SqL C.K H1 a xs := SqL.of (hid_some (sm _ _ h)).2
  have q' : SqL C.K H1 b ys := SqL.of (hid_some (sm _ _ g)).2
  refine ⟨fun i d e => ?_, xs, ys, q, q', by rw [zipD_len, hx.len, hy.len]; omega⟩
  obtain ⟨x, y, e1, e2, rfl⟩ := zipD_at e
  obtain ⟨v, h1, h2⟩ := hx.at e1
  obtain ⟨w, h3, h4⟩ := hy.at e2
  refine ⟨⟨xs, ys, v, w, q, q', h1, h3⟩, fun z H2 ⟨T, v', w', e3, hT, e4, f1, f2⟩ => ?_⟩
  subst e3; subst e4
  have f1 := f1 xs q
  have f2 := f2 ys q'
  rw [h1] at f1; cases f1
  rw [h3] at f2; cases f2
  refine ⟨bb.alloc hT, X2.alloc hT, .tup (SqT.of (hd_new bb hT)) (fun c => absurd c (zok_at hz e1)) (.cons (Dq.mono (hd_upd hT) _ _ (Dq.mono sm _ _ h2)) (.cons (Dq.mono (hd_upd hT) _ _ (Dq.mono sm _ _ h4)) .nil))⟩
theorem items_zipT {C : Ct} {L Mo : List Addr} {H : Hp} {a b : Addr} {xs ys : List V} {ds es : List D} (h : SqT C.K (C.hd L Mo H) a xs) (hx : DqAll C.K (C.hd L Mo H) xs ds) (g : SqT C.K (C.hd L Mo H) b ys) (hy : DqAll C.K (C.hd L Mo H) ys es) (hz : zok ds = true) :
    ItemsOk C (ItzT C.K a b) L Mo H (zipD ds es) := fun C2 L1 Mo1 H1 m1 hK bb sm => by
  have q : SqT C.K H1 a xs := same_tup hid_same (same_tup sm h)
  have q' : SqT C.K H1 b ys := same_tup hid_same (same_tup sm g)
  refine ⟨fun i d e => ?_, xs, ys, q, q', by rw [zipD_len, hx.len, hy.len]; omega⟩
  obtain ⟨x, y, e1, e2, rfl⟩ := zipD_at e
  obtain ⟨v, h1, h2⟩ := hx.at e1
  obtain ⟨w, h3, h4⟩ := hy.at e2
  refine ⟨⟨xs, ys, v, w, q, q', h1, h3⟩, fun z H2 ⟨T, v', w', e3, hT, e4, f1, f2⟩ => ?_⟩
  subst e3; subst e4
  have f1 := f1 xs q
  have f2 := f2 ys q'
  rw [h1] at f1; cases f1
  rw [h3] at f2; cases f2
  refine ⟨bb.alloc hT, X2.alloc hT, .tup (SqT.of (hd_new bb hT)) (fun c => absurd c (zok_at hz e1)) (.cons (Dq.mono (hd_upd hT) _ _ (Dq.mono sm _ _ h2)) (.cons (Dq.mono (hd_upd hT) _ _ (Dq.mono sm _ _ h4)) .nil))⟩
def enumD (xs : List D) : List D := (List.range xs.length).zipWith (fun i x => .tuple [.int (i : Nat), x]) xs
theorem enumD_at {xs : List D} {i : Nat} {d : D} (h : (enumD xs)[i]? = some d) : ∃ x, xs[i]? = some x ∧ d = .tuple [.int (i : Nat), x] := by
  unfold enumD at h
  rw [List.getElem?_zipWith] at h
  cases e : xs[i]? with
  | none => rw [e] at h; revert h; cases (List.range xs.length)[i]? <;> simp
  | some x =>
    have hi := (List.getElem?_eq_some_iff.mp e).1
    rw [e, List.getElem?_range hi] at h
    exact ⟨x, rfl, (Option.some.inj h).symm⟩
theorem enumD_len (xs : List D) : (enumD xs).length = xs.length := by simp [enumD]
theorem items_enum {C : Ct} {L Mo : List Addr} {H : Hp} {a : Addr} {xs : List V} {ds : List D} (h : C.hd L Mo H a = some (.lst xs)) (hx : DqAll C.K (C.hd L Mo H) xs ds) : ItemsOk C (Ite C.K a) L Mo H (enumD ds) := fun C2 L1 Mo1 H1 m1 hK bb sm => by
  have q : SqL C.K H1 a xs := SqL.of (hid_some (sm _ _ h)).2
  refine ⟨fun i d e => ?_, xs, q, by rw [enumD_len, hx.len]; exact Nat.le_refl _⟩
  obtain ⟨x, e1, rfl⟩ := enumD_at e
  obtain ⟨v, h1, h2⟩ := hx.at e1
  refine ⟨⟨xs, v, q, h1⟩, fun z H2 ⟨T, v', e3, hT, e4, f1⟩ => ?_⟩
  subst e3; subst e4
  have f1 := f1 xs q
  rw [h1] at f1; cases f1
  refine ⟨bb.alloc hT, X2.alloc hT, .tup (SqT.of (hd_new bb hT)) (fun c => by cases c) (.cons (.int _) (.cons (Dq.mono (hd_upd hT) _ _ (Dq.mono sm _ _ h2)) .nil))⟩
section
variable {X : Cx} {e e2 : Expr} {ta : ATA} {p pos tpos : Pos} {elts : List Expr} {kk : Nat}
def aZip (t : ATA) : AIt := fun a Q => t a fun avs m => match avs with
  | [.d (.list xs), .d (.list ys)] => zok xs = true ∧ Q (zipD xs ys) m
  | [.d (.tuple xs), .d (.tuple ys)] => zok xs = true ∧ Q (zipD xs ys) m
  | _ => False
theorem qi_zip (hg : Gl X "zip") (hm : X.mg "zip" = none) (ha : QA X [e, e2] ta) (hs : starEach [e, e2] X.env = (false, eval e X.env) :: starEach [e2] X.env := by rfl) (hpl : (backTo pos (starEach [e2] X.env)).any (·.1) = false := by rfl) :
    QI X (.Tuple elts kk tpos) (.Call (.Name "zip" p) [e, e2] [] pos) (aZip ta) := fun C hK => PI.imp (pi_zipA hg hm (ha C hK) hs hpl) fun σ H R' ⟨a, L, Mo, AQ, r, k, h⟩ => by
  refine ⟨a, L, Mo, _, r, fun xs m1 vs L1 Mo1 H1 h1 b1 v1 e1 => ?_, h⟩
  split at h1
  · obtain ⟨v, w, rfl, q, q'⟩ := av2 v1
    cases q with
    | lst c1 c2 =>
      cases q' with
      | lst c3 c4 => exact ⟨_, _, _, _, rfl, .inl ⟨SqL.of (hid_some c1).2, SqL.of (hid_some c3).2, k _ _ _ _ _ _ h1.2 b1 e1 (hK ▸ items_zipL c1 c2 c3 c4 h1.1)⟩⟩
  · obtain ⟨v, w, rfl, q, q'⟩ := av2 v1
    cases q with
    | tup c1 _ c2 =>
      cases q' with
      | tup c3 _ c4 => exact ⟨_, _, _, _, rfl, .inr ⟨hK ▸ same_tup hid_same c1, hK ▸ same_tup hid_same c3, k _ _ _ _ _ _ h1.2 b1 e1 (hK ▸ items_zipT c1 c2 c3 c4 h1.1)⟩⟩
  · exact h1.elim
def aEnum (t : ATA) : AIt := fun a Q => t a fun avs m => match avs with
  | [.d (.list xs)] => Q (enumD xs) m
  | _ => False
theorem qi_enum (hg : Gl X "enumerate") (hm : X.mg "enumerate" = none) (ha : QA X [e] ta) (hs : starEach [e] X.env = [(false, eval e X.env)] := by rfl) :
    QI X (.Tuple elts kk tpos) (.Call (.Name "enumerate" p) [e] [] pos) (aEnum ta) := fun C hK => PI.imp (pi_enum hg hm (ha C hK) hs) fun σ H R' ⟨a, L, Mo, AQ, r, k, h⟩ => by
  refine ⟨a, L, Mo, _, r, fun xs m1 vs L1 Mo1 H1 h1 b1 v1 e1 => ?_, h⟩
  split at h1
  · obtain ⟨v, rfl, q⟩ := av1 v1
    cases q with
    | lst c1 c2 => exact ⟨_, _, rfl, SqL.of (hid_some c1).2, k _ _ _ _ _ _ h1 b1 e1 (hK ▸ items_enum c1 c2)⟩
  · exact h1.elim
end
/-! ### x in a row -/
section
variable {X : Cx}
theorem DqAll.list {K : PySem.W.Frag} {H : Hp} {l : Addr} {xs : List V} {ds : List D} (h1 : H l = some (.lst xs)) (h : DqAll K H xs ds) (n : PyData.hasDictAll ds = false) : Dp K H (.ref l) (.list ds) := .lst (SqL.of h1) (DqAll.toDp _ _ n h)
def aInL : AR2 := fun x y m Q => match datA m x, lstA m y with
  | some d, some ds => SeqAt.shaped d = true ∧ SeqAt.shaped (.list ds) = true ∧ Q (.d (.bool (ds.any fun z => PyData.eqv z d))) m
  | _, _ => False
theorem oq_inL (hu : X.A.units + 65 < cLine) : OpQ X (compareOp .In) aInL := by
  refine ⟨_, op_inD hu, fun C L Mo H m x y v w Q AQ hK b r1 r2 k hh => ?_⟩
  unfold aInL at hh
  split at hh
  · rename_i d ds e1 e2
    obtain ⟨l, xs, rfl, h1, h2⟩ := lstA_ok b r2 e2
    have nd : (PyData.list ds).hasDict = false := shaped_noDict hh.2.1
    refine ⟨d, ds, Dq.toDp _ _ (shaped_noDict hh.1) (hK ▸ datA_ok b r1 e1), hK ▸ Dq.toDp _ _ nd (.lst h1 (DqAll.mono hid_same _ _ h2)), hh.1, hh.2.1, k.ret hh.2.2 b (.bl _)⟩
  · exact hh.elim
def aNinL : AR2 := fun x y m Q => match datA m x, lstA m y with
  | some d, some ds => SeqAt.shaped d = true ∧ SeqAt.shaped (.list ds) = true ∧ Q (.d (.bool (!ds.any fun z => PyData.eqv z d))) m
  | _, _ => False
theorem oq_ninL (hu : X.A.units + 65 < cLine) : OpQ X (compareOp .NotIn) aNinL := by
  refine ⟨_, op_notInD hu, fun C L Mo H m x y v w Q AQ hK b r1 r2 k hh => ?_⟩
  unfold aNinL at hh
  split at hh
  · rename_i d ds e1 e2
    obtain ⟨l, xs, rfl, h1, h2⟩ := lstA_ok b r2 e2
    have nd : (PyData.list ds).hasDict = false := shaped_noDict hh.2.1
    refine ⟨d, ds, Dq.toDp _ _ (shaped_noDict hh.1) (hK ▸ datA_ok b r1 e1), hK ▸ Dq.toDp _ _ nd (.lst h1 (DqAll.mono hid_same _ _ h2)), hh.1, hh.2.1, k.ret hh.2.2 b (.bl _)⟩
  · exact hh.elim
theorem op_inTD (hu : X.A.units + 65 < cLine) : OpR X (compareOp .In) (fun x y H Q => ∃ d ds, Dp X.K H x d ∧ Dp X.K H y (.tuple ds) ∧ SeqAt.shaped d = true ∧ SeqAt.shaped (.tuple ds) = true ∧ Q (.bl (ds.any fun z => PyData.eqv z d)) H) := by
  intro pins s σ H x y v u Q I rx ry h
  obtain ⟨d, ds, hd, he, sd, se, q⟩ := h
  obtain ⟨as, r1⟩ := Dp.reads I d x v hd rx
  obtain ⟨bs, r2⟩ := Dp.reads I (.tuple ds) y u he ry
  exact SeqAt.in_tuple_reads r2 r1 (SeqAt.canLay_of_shaped se) (SeqAt.canLay_of_shaped sd) (room_in_shaped sd hu) ⟨.bl _, H, I, rfl, q⟩
theorem op_notInTD (hu : X.A.units + 65 < cLine) : OpR X (compareOp .NotIn) (fun x y H Q => ∃ d ds, Dp X.K H x d ∧ Dp X.K H y (.tuple ds) ∧ SeqAt.shaped d = true ∧ SeqAt.shaped (.tuple ds) = true ∧ Q (.bl (!ds.any fun z => PyData.eqv z d)) H) := by
  intro pins s σ H x y v u Q I rx ry h
  obtain ⟨d, ds, hd, he, sd, se, q⟩ := h
  obtain ⟨as, r1⟩ := Dp.reads I d x v hd rx
  obtain ⟨bs, r2⟩ := Dp.reads I (.tuple ds) y u he ry
  exact SeqAt.notIn_tuple_reads r2 r1 (SeqAt.canLay_of_shaped se) (SeqAt.canLay_of_shaped sd) (room_in_shaped sd hu) ⟨.bl _, H, I, rfl, q⟩
def aInT : AR2 := fun x y m Q => match datA m x, tupA y with
  | some d, some ds => SeqAt.shaped d = true ∧ SeqAt.shaped (.tuple ds) = true ∧ Q (.d (.bool (ds.any fun z => PyData.eqv z d))) m
  | _, _ => False
def aNinT : AR2 := fun x y m Q => match datA m x, tupA y with
  | some d, some ds => SeqAt.shaped d = true ∧ SeqAt.shaped (.tuple ds) = true ∧ Q (.d (.bool (!ds.any fun z => PyData.eqv z d))) m
  | _, _ => False
theorem oq_inT (hu : X.A.units + 65 < cLine) : OpQ X (compareOp .In) aInT := by
  refine ⟨_, op_inTD hu, fun C L Mo H m x y v w Q AQ hK b r1 r2 k hh => ?_⟩
  unfold aInT at hh
  split at hh
  · rename_i d ds e1 e2
    have e3 := tupA_eq e2
    subst e3
    have nd : (PyData.tuple ds).hasDict = false := shaped_noDict hh.2.1
    refine ⟨d, ds, Dq.toDp _ _ (shaped_noDict hh.1) (hK ▸ datA_ok b r1 e1), hK ▸ Dq.toDp _ _ nd (Dq.mono hid_same _ _ r2), hh.1, hh.2.1, k.ret hh.2.2 b (.bl _)⟩
  · exact hh.elim
theorem oq_ninT (hu : X.A.units + 65 < cLine) : OpQ X (compareOp .NotIn) aNinT := by
  refine ⟨_, op_notInTD hu, fun C L Mo H m x y v w Q AQ hK b r1 r2 k hh => ?_⟩
  unfold aNinT at hh
  split at hh
  · rename_i d ds e1 e2
    have e3 := tupA_eq e2
    subst e3
    have nd : (PyData.tuple ds).hasDict = false := shaped_noDict hh.2.1
    refine ⟨d, ds, Dq.toDp _ _ (shaped_noDict hh.1) (hK ▸ datA_ok b r1 e1), hK ▸ Dq.toDp _ _ nd (Dq.mono hid_same _ _ r2), hh.1, hh.2.1, k.ret hh.2.2 b (.bl _)⟩
  · exact hh.elim
end
/-! ### sizes of great numbers -/
def Bd (k : Nat) (i : Int) : Prop := i.natAbs < 2 ^ k
theorem Bd.le {a b : Nat} {i : Int} (h : Bd a i) (hab : a ≤ b) : Bd b i := Nat.lt_of_lt_of_le h (Nat.pow_le_pow_right (by decide) hab)
theorem Bd.mul {a b : Nat} {i j : Int} (h : Bd a i) (g : Bd b j) : Bd (a + b) (i * j) := by
  unfold Bd at *
  rw [Int.natAbs_mul, Nat.pow_add]
  exact Nat.mul_lt_mul'' h g
theorem Bd.add {a : Nat} {i j : Int} (h : Bd a i) (g : Bd a j) : Bd (a + 1) (i + j) := by
  unfold Bd at *
  rw [Nat.pow_succ]
  omega
theorem Bd.sub {a : Nat} {i j : Int} (h : Bd a i) (g : Bd a j) : Bd (a + 1) (i - j) := by
  unfold Bd at *
  rw [Nat.pow_succ]
  omega
theorem Bd.neg {a : Nat} {i : Int} (h : Bd a i) : Bd a (-i) := by
  unfold Bd at *
  omega
theorem Bd.of64 {i : Int} (h1 : -18446744073709551616 < i) (h2 : i < 18446744073709551616) : Bd 64 i := by
  unfold Bd
  have e : (2 : Nat) ^ 64 = 18446744073709551616 := by decide
  omega
theorem Bd.log {k : Nat} {i : Int} (h : Bd k i) : i.natAbs.log2 ≤ k := by
  by_cases h0 : i.natAbs = 0
  · rw [h0]; exact Nat.zero_le _
  · exact Nat.le_of_lt ((Nat.log2_lt h0).mpr h)
theorem Bd.log_lt {k n : Nat} {i : Int} (h : Bd k i) (hk : k < n) : i.natAbs.log2 < n := Nat.lt_of_le_of_lt h.log hk
theorem MulOk.bd {a b : Nat} {i j : Int} (h : Bd a i) (g : Bd b j) (hs : a + b < 1000000) : MulOk i j := by
  have h1 := h.log
  have h2 := g.log
  exact .inr (show i.natAbs.log2 + j.natAbs.log2 < 1000000 by omega)
/-! ### a look behind a put -/
theorem valD_nil {κ : Type} [DecidableEq κ] (k : κ) : valD ([] : List (κ × D)) k = none := rfl
theorem valD_cons {κ : Type} [DecidableEq κ] (p : κ × D) (r : List (κ × D)) (k : κ) : valD (p :: r) k = if p.1 = k then some p.2 else valD r k := by
  unfold valD
  rw [List.find?_cons]
  by_cases h : p.1 = k <;> simp [h]
theorem valD_append {κ : Type} [DecidableEq κ] (l r : List (κ × D)) (k : κ) : valD (l ++ r) k = (valD l k).or (valD r k) := by
  induction l with
  | nil => rfl
  | cons p l ih =>
    rw [List.cons_append, valD_cons, valD_cons, ih]
    by_cases h : p.1 = k <;> simp [h]
theorem valD_none {κ : Type} [DecidableEq κ] {l : List (κ × D)} {k : κ} (h : ¬ (l.any fun kv => decide (kv.1 = k)) = true) : valD l k = none := by
  induction l with
  | nil => rfl
  | cons p l ih =>
    rw [List.any_cons, Bool.or_eq_true, not_or] at h
    rw [valD_cons, if_neg (fun e => h.1 (decide_eq_true e))]
    exact ih h.2
theorem valD_map {κ : Type} [DecidableEq κ] (l : List (κ × D)) (k k' : κ) (v : D) : valD (l.map fun kv => if kv.1 = k then (kv.1, v) else kv) k' = if k = k' then (if (l.any fun kv => decide (kv.1 = k)) = true then some v else none) else valD l k' := by
  induction l with
  | nil => by_cases h : k = k' <;> simp [h, valD_nil]
  | cons p l ih =>
    rw [List.map_cons, valD_cons, ih, List.any_cons, valD_cons]
    by_cases h1 : p.1 = k
    · simp only [h1, if_true, decide_true, Bool.true_or]
      by_cases h2 : k = k' <;> simp [h2]
    · simp only [h1, if_false, decide_false, Bool.false_or]
      by_cases h2 : k = k'
      · subst h2
        simp [h1]
      · by_cases h3 : p.1 = k' <;> simp [h2, h3]
theorem valD_putD {κ : Type} [DecidableEq κ] (l : List (κ × D)) (k k' : κ) (v : D) : valD (putD l k v) k' = if k = k' then some v else valD l k' := by
  unfold putD
  by_cases h : (l.any fun kv => decide (kv.1 = k)) = true
  · rw [if_pos h, valD_map, if_pos h]
  · rw [if_neg h, valD_append, valD_cons, valD_nil]
    by_cases e : k = k'
    · subst e
      rw [valD_none h, if_pos rfl]; rfl
    · rw [if_neg e, if_neg e]
      cases valD l k' <;> rfl
theorem putD_len {κ : Type} [DecidableEq κ] (l : List (κ × D)) (k : κ) (v : D) : (putD l k v).length ≤ l.length + 1 := by
  unfold putD
  split
  · rw [List.length_map]; omega
  · rw [List.length_append]; exact Nat.le_refl _
/-! ### places that are told -/
theorem atD_0 (a0 : D) (l : List D) : atD (a0 :: l) 0 = some a0 := rfl
theorem atD_1 (a0 a1 : D) (l : List D) : atD (a0 :: a1 :: l) 1 = some a1 := rfl
theorem atD_2 (a0 a1 a2 : D) (l : List D) : atD (a0 :: a1 :: a2 :: l) 2 = some a2 := rfl
theorem atD_3 (a0 a1 a2 a3 : D) (l : List D) : atD (a0 :: a1 :: a2 :: a3 :: l) 3 = some a3 := rfl
theorem atD_4 (a0 a1 a2 a3 a4 : D) (l : List D) : atD (a0 :: a1 :: a2 :: a3 :: a4 :: l) 4 = some a4 := rfl
theorem atD_5 (a0 a1 a2 a3 a4 a5 : D) (l : List D) : atD (a0 :: a1 :: a2 :: a3 :: a4 :: a5 :: l) 5 = some a5 := rfl
theorem atD_6 (a0 a1 a2 a3 a4 a5 a6 : D) (l : List D) : atD (a0 :: a1 :: a2 :: a3 :: a4 :: a5 :: a6 :: l) 6 = some a6 := rfl
theorem atD_7 (a0 a1 a2 a3 a4 a5 a6 a7 : D) (l : List D) : atD (a0 :: a1 :: a2 :: a3 :: a4 :: a5 :: a6 :: a7 :: l) 7 = some a7 := rfl
theorem atD_8 (a0 a1 a2 a3 a4 a5 a6 a7 a8 : D) (l : List D) : atD (a0 :: a1 :: a2 :: a3 :: a4 :: a5 :: a6 :: a7 :: a8 :: l) 8 = some a8 := rfl
theorem atD_9 (a0 a1 a2 a3 a4 a5 a6 a7 a8 a9 : D) (l : List D) : atD (a0 :: a1 :: a2 :: a3 :: a4 :: a5 :: a6 :: a7 :: a8 :: a9 :: l) 9 = some a9 := rfl
theorem atD_10 (a0 a1 a2 a3 a4 a5 a6 a7 a8 a9 a10 : D) (l : List D) : atD (a0 :: a1 :: a2 :: a3 :: a4 :: a5 :: a6 :: a7 :: a8 :: a9 :: a10 :: l) 10 = some a10 := rfl
theorem atD_11 (a0 a1 a2 a3 a4 a5 a6 a7 a8 a9 a10 a11 : D) (l : List D) : atD (a0 :: a1 :: a2 :: a3 :: a4 :: a5 :: a6 :: a7 :: a8 :: a9 :: a10 :: a11 :: l) 11 = some a11 := rfl
theorem atD_12 (a0 a1 a2 a3 a4 a5 a6 a7 a8 a9 a10 a11 a12 : D) (l : List D) : atD (a0 :: a1 :: a2 :: a3 :: a4 :: a5 :: a6 :: a7 :: a8 :: a9 :: a10 :: a11 :: a12 :: l) 12 = some a12 := rfl
theorem atD_neg1 (ds : List D) : atD ds (-1) = ds.getLast? := by
  unfold atD
  rw [if_neg (by decide), List.getLast?_eq_getElem?]
  by_cases h : -(ds.length : Int) ≤ -1
  · rw [if_pos h]
    congr 1
    omega
  · rw [if_neg h]
    have : ds.length = 0 := by omega
    rw [List.length_eq_zero_iff.mp this]; rfl
end QL

namespace QL
open PySem PySem.Spec PyProof.Rows L2 RZ

section
variable {X : Cx}
/-! ### names of built-in types; isinstance -/
def aTy (T : String) : ATE := fun a Q => Q (.ty T) a.m
theorem q_ty {x : Str} {T : String} {pos : Pos} (hg : Gl X x) (hm : X.mg x = none) (hv : bootBuiltins x = some (.type T)) (hn : x ≠ "__name__" := by decide) (hd : (x == ("__debug__" : Str)) = false := by decide) : QE X (.Name x pos) (aTy T) := fun C hK =>
  PE.imp (pe_bltn (v := .ty T) hg hm hv rfl hn hd) fun σ H Q ⟨a, L, Mo, AQ, r, k, h⟩ => k.ret h r.b rfl
def tyD : D → String
  | .none => "NoneType"
  | .bool _ => "bool"
  | .int _ => "int"
  | .str _ => "str"
  | .list _ => "list"
  | .tuple _ => "tuple"
  | .dict _ => "dict"
def tyA (m : Mm) : AV → Option String
  | .d x => some (tyD x)
  | .o j => match m.o[j]? with
    | some (.l _) => some "list"
    | some (.xd _) => none
    | some _ => some "dict"
    | none => none
  | .kt _ => some "tuple"
  | .dt _ => some "dict"
  | _ => none
theorem tyX_tup {K : PySem.W.Frag} {H : Hp} {a : Addr} {xs : List V} (h : SqT K H a xs) : TyX K H (.ref a) (.type "tuple") := by
  rcases h with (h | ⟨o, h⟩) | ⟨o, its, n, h, hc, _⟩
  · exact .base (.tup h)
  · exact .fTuple h
  · exact .kTuple h hc
theorem tyA_ok {C : Ct} {m : Mm} {L Mo : List Addr} {H : Hp} {x : AV} {v : V} {T : String} (b : B C m L Mo H) (r : AVR C L Mo H x v) (h : tyA m x = some T) : TyX C.K H v (.type T) := by
  cases x with
  | d y =>
    cases h
    cases r with
    | non => exact .base .non
    | bl b => exact .base (.bl b)
    | int i => exact .base (.int i)
    | str x => exact .base (.str x)
    | lst h1 h2 => exact .base (.lst (hid_some h1).2)
    | tup h1 _ h2 => exact tyX_tup (same_tup hid_same h1)
    | dk h1 h2 => exact .base (.dK (hid_some h1).2)
  | o j =>
    simp only [tyA] at h
    split at h
    · rename_i ds e
      cases h
      obtain ⟨l, rfl, _, ys, h3, h4⟩ := o_at b r e
      exact .base (.lst h3)
    · cases h
    · rename_i o ho hx e
      cases h
      obtain ⟨l, rfl, _, h3⟩ := o_at b r e
      cases o with
      | l ds => exact (ho ds rfl).elim
      | kd kvs => obtain ⟨ys, h3, _⟩ := h3; exact .base (.dK h3)
      | td kvs => obtain ⟨ys, h3, _⟩ := h3; exact .base (.dT h3)
      | xd kvs => exact (hx kvs rfl).elim
    · cases h
  | src => simp [tyA] at h
  | cells => simp [tyA] at h
  | scr ns => simp [tyA] at h
  | kt ks => cases h; obtain ⟨a, rfl, q⟩ := r; exact .base (.tup (hid_some q).2)
  | dt kvs => cases h; obtain ⟨a, ys, rfl, q, _⟩ := r; exact .base (.dT (hid_some q).2)
  | xt n => simp [tyA] at h
  | hx n => simp [tyA] at h
  | ty n => simp [tyA] at h
  | ad n => simp [tyA] at h
def isiT (t T : String) : Bool := t == T || (t == "bool" && T == "int")
def tysOk : List String := ["NoneType", "bool", "int", "str", "list", "tuple", "dict"]
theorem kit_isi {K : PySem.W.Frag} : ∀ t ∈ tysOk, ∀ T ∈ tysOk, PySem.W.kitOne K (.type t) (.type T) = some (isiT t T) := by
  intro t ht T hT
  simp only [tysOk, List.mem_cons, List.not_mem_nil, or_false] at ht hT
  rcases ht with rfl | rfl | rfl | rfl | rfl | rfl | rfl <;> rcases hT with rfl | rfl | rfl | rfl | rfl | rfl | rfl <;> rfl
theorem tyA_mem {m : Mm} {x : AV} {T : String} (h : tyA m x = some T) : T ∈ tysOk := by
  cases x with
  | d y => cases h; cases y <;> simp [tyD, tysOk]
  | o j =>
    simp only [tyA] at h
    split at h
    · cases h; decide
    · cases h
    · cases h; decide
    · cases h
  | src => simp [tyA] at h
  | cells => simp [tyA] at h
  | scr ns => simp [tyA] at h
  | kt ks => cases h; decide
  | dt kvs => cases h; decide
  | xt n => simp [tyA] at h
  | hx n => simp [tyA] at h
  | ty n => simp [tyA] at h
  | ad n => simp [tyA] at h
def bIsi : AC1 := fun avs m Q => match avs with
  | [x, .ty T] => match tyA m x with
    | some t => T ∈ tysOk ∧ Q (.d (.bool (isiT t T))) m
    | none => False
  | _ => False
theorem cq_isi : CallQ X (.builtin "isinstance") bIsi := by
  refine ⟨_, call_isi, fun C L Mo H m avs vs Q AQ hK b r k hh => ?_⟩
  unfold bIsi at hh
  split at hh
  · rename_i x T
    split at hh
    · rename_i t e
      obtain ⟨v, w, rfl, rv, rw_⟩ := av2 r
      have hw : w = .ty T := rw_
      subst hw
      exact ⟨v, .ty T, .type t, .type T, _, rfl, .ty T, hK ▸ tyA_ok b rv e, kit_isi t (tyA_mem e) T hh.1, k.ret hh.2 b (.bl _)⟩
    · exact hh.elim
  · exact hh.elim
/-! ### all, any, sorted, max, min, str -/
def boolsD : List D → Option (List Bool)
  | [] => some []
  | .bool b :: r => match boolsD r with
    | some l => some (b :: l)
    | none => none
  | _ => none
theorem boolsD_ok : ∀ {ds : List D} {bs : List Bool}, boolsD ds = some bs → ds = bs.map PyData.bool
  | [], _, e => by cases e; rfl
  | .bool b :: r, _, e => by
    simp only [boolsD] at e
    split at e
    · rename_i l e2; cases e; rw [boolsD_ok e2]; rfl
    · cases e
  | .none :: r, _, e => by simp [boolsD] at e
  | .int _ :: r, _, e => by simp [boolsD] at e
  | .str _ :: r, _, e => by simp [boolsD] at e
  | .list _ :: r, _, e => by simp [boolsD] at e
  | .tuple _ :: r, _, e => by simp [boolsD] at e
  | .dict _ :: r, _, e => by simp [boolsD] at e
theorem boolsD_map : ∀ bs : List Bool, boolsD (bs.map PyData.bool) = some bs
  | [] => rfl
  | b :: r => by rw [List.map_cons]; unfold boolsD; rw [boolsD_map r]
def bAll : AC1 := fun avs m Q => match avs with
  | [x] => match lstA m x with
    | some ds => match boolsD ds with
      | some bs => Q (.d (.bool (bs.all id))) m
      | none => False
    | none => False
  | _ => False
theorem cq_all (hc : X.calm = true) : CallQ X (.builtin "all") bAll := by
  refine ⟨_, cr_all hc, fun C L Mo H m avs vs Q AQ hK b r k hh => ?_⟩
  unfold bAll at hh
  split at hh
  · split at hh
    · rename_i ds e
      split at hh
      · rename_i bs e2
        obtain ⟨v, rfl, rv⟩ := av1 r
        obtain ⟨l, xs, rfl, h1, h2⟩ := lstA_ok b rv e
        have e3 := boolsD_ok e2
        subst e3
        have := DqAll.bls h2
        subst this
        exact ⟨l, bs, rfl, SqL.of h1, k.ret hh b (.bl _)⟩
      · exact hh.elim
    · exact hh.elim
  · exact hh.elim
def bAny : AC1 := fun avs m Q => match avs with
  | [x] => match lstA m x with
    | some ds => match boolsD ds with
      | some bs => Q (.d (.bool (bs.any id))) m
      | none => False
    | none => False
  | _ => False
theorem cq_any (hc : X.calm = true) : CallQ X (.builtin "any") bAny := by
  refine ⟨_, cr_any hc, fun C L Mo H m avs vs Q AQ hK b r k hh => ?_⟩
  unfold bAny at hh
  split at hh
  · split at hh
    · rename_i ds e
      split at hh
      · rename_i bs e2
        obtain ⟨v, rfl, rv⟩ := av1 r
        obtain ⟨l, xs, rfl, h1, h2⟩ := lstA_ok b rv e
        have e3 := boolsD_ok e2
        subst e3
        have := DqAll.bls h2
        subst this
        exact ⟨l, bs, rfl, SqL.of h1, k.ret hh b (.bl _)⟩
      · exact hh.elim
    · exact hh.elim
  · exact hh.elim
def intsL (m : Mm) (x : AV) : Option (List Int) := match lstA m x with
  | some ds => intsD ds
  | none => none
theorem intsL_ok {C : Ct} {m : Mm} {L Mo : List Addr} {H : Hp} {x : AV} {v : V} {ns : List Int} (b : B C m L Mo H) (r : AVR C L Mo H x v) (h : intsL m x = some ns) : ∃ l, v = .ref l ∧ H l = some (.lst (ns.map V.int)) := by
  unfold intsL at h
  split at h
  · rename_i ds e
    obtain ⟨l, xs, rfl, h1, h2⟩ := lstA_ok b r e
    have e3 := intsD_ok h2 h
    subst e3
    exact ⟨l, rfl, h1⟩
  · cases h
def bSorted : AC1 := fun avs m Q => match avs with
  | [x] => match intsL m x with
    | some ns => ∀ ns' : List Int, ns'.Perm ns → ns'.Pairwise (· ≤ ·) → Q (.d (.list (ns'.map PyData.int))) m
    | none => False
  | _ => False
theorem cq_sorted : CallQ X (.builtin "sorted") bSorted := by
  refine ⟨_, cr_sortedI, fun C L Mo H m avs vs Q AQ hK b r k hh => ?_⟩
  unfold bSorted at hh
  split at hh
  · split at hh
    · rename_i ns e
      obtain ⟨v, rfl, rv⟩ := av1 r
      obtain ⟨l, rfl, h1⟩ := intsL_ok b rv e
      exact ⟨l, ns, rfl, SqL.of h1, fun ns' p h2 h3 hp => k.lst b hp (DqAll.ofInts ns') (hh ns' h2 h3)⟩
    · exact hh.elim
  · exact hh.elim
def bMaxL : AC1 := fun avs m Q => match avs with
  | [x] => match intsL m x with
    | some ns => 0 < ns.length ∧ ∀ k, k ∈ ns → (∀ y, y ∈ ns → y ≤ k) → Q (.d (.int k)) m
    | none => False
  | _ => False
theorem cq_maxL (hc : X.calm = true) : CallQ X (.builtin "max") bMaxL := by
  refine ⟨_, cr_max hc, fun C L Mo H m avs vs Q AQ hK b r k hh => ?_⟩
  unfold bMaxL at hh
  split at hh
  · split at hh
    · rename_i ns e
      obtain ⟨v, rfl, rv⟩ := av1 r
      obtain ⟨l, rfl, h1⟩ := intsL_ok b rv e
      exact ⟨l, ns, rfl, SqL.of h1, hh.1, fun j h2 h3 => k.ret (hh.2 j h2 h3) b (.int _)⟩
    · exact hh.elim
  · exact hh.elim
def bMinL : AC1 := fun avs m Q => match avs with
  | [x] => match intsL m x with
    | some ns => 0 < ns.length ∧ ∀ k, k ∈ ns → (∀ y, y ∈ ns → k ≤ y) → Q (.d (.int k)) m
    | none => False
  | _ => False
theorem cq_minL (hc : X.calm = true) : CallQ X (.builtin "min") bMinL := by
  refine ⟨_, cr_min hc, fun C L Mo H m avs vs Q AQ hK b r k hh => ?_⟩
  unfold bMinL at hh
  split at hh
  · split at hh
    · rename_i ns e
      obtain ⟨v, rfl, rv⟩ := av1 r
      obtain ⟨l, rfl, h1⟩ := intsL_ok b rv e
      exact ⟨l, ns, rfl, SqL.of h1, hh.1, fun j h2 h3 => k.ret (hh.2 j h2 h3) b (.int _)⟩
    · exact hh.elim
  · exact hh.elim
def bStr : AC1 := fun avs m Q => match avs with
  | [.d (.int i)] => i.natAbs.log2 < 1920 ∧ Q (.d (.str (toString i))) m
  | _ => False
theorem cq_str : CallQ X (.type "str") bStr := by
  refine ⟨_, call_str_int, fun C L Mo H m avs vs Q AQ hK b r k hh => ?_⟩
  unfold bStr at hh
  split at hh
  · obtain ⟨v, rfl, rv⟩ := av1 r
    exact ⟨_, by rw [dq_int rv], hh.1, k.ret hh.2 b (.str _)⟩
  · exact hh.elim
/-! ### is, is not -/
def noneA : AV → Option Bool
  | .d .none => some true
  | .d _ => some false
  | .o _ => some false
  | .kt _ => some false
  | .dt _ => some false
  | .xt _ => some false
  | _ => none
theorem noneA_ok {C : Ct} {L Mo : List Addr} {H : Hp} {x : AV} {v : V} {k : Bool} (r : AVR C L Mo H x v) (h : noneA x = some k) : decide (v = .non) = k := by
  cases x with
  | d y =>
    cases r <;> (simp only [noneA] at h; cases h) <;> rfl
  | o j => cases h; obtain ⟨l, _, rfl⟩ := r; rfl
  | src => simp [noneA] at h
  | cells => simp [noneA] at h
  | scr ns => simp [noneA] at h
  | kt ks => cases h; obtain ⟨a, rfl, q⟩ := r; rfl
  | dt kvs => cases h; obtain ⟨a, ys, rfl, q, _⟩ := r; rfl
  | xt kvs => cases h; obtain ⟨a, ys, rfl, q, _⟩ := r; rfl
  | hx kvs => simp [noneA] at h
  | ty n => simp [noneA] at h
  | ad n => simp [noneA] at h
def aIsN : AR2 := fun x y m Q => match y, noneA x with
  | .d .none, some b => Q (.d (.bool b)) m
  | _, _ => False
theorem oq_isN : OpQ X (compareOp .Is) aIsN := by
  refine ⟨_, op_isN, fun C L Mo H m x y v w Q AQ hK b r1 r2 k hh => ?_⟩
  unfold aIsN at hh
  split at hh
  · rename_i c e
    cases r2
    exact ⟨rfl, by rw [noneA_ok r1 e]; exact k.ret hh b (.bl _)⟩
  · exact hh.elim
def aNotN : AR2 := fun x y m Q => match y, noneA x with
  | .d .none, some b => Q (.d (.bool (!b))) m
  | _, _ => False
theorem oq_notN : OpQ X (compareOp .IsNot) aNotN := by
  refine ⟨_, op_notN, fun C L Mo H m x y v w Q AQ hK b r1 r2 k hh => ?_⟩
  unfold aNotN at hh
  split at hh
  · rename_i c e
    cases r2
    exact ⟨rfl, by rw [noneA_ok r1 e]; exact k.ret hh b (.bl _)⟩
  · exact hh.elim
def aIsB : AR2 := fun x y m Q => match x, y with
  | .d (.bool a), .d (.bool b) => Q (.d (.bool (decide (a = b)))) m
  | _, _ => False
theorem oq_isB : OpQ X (compareOp .Is) aIsB := by
  refine ⟨_, op_isBl, fun C L Mo H m x y v w Q AQ hK b r1 r2 k hh => ?_⟩
  unfold aIsB at hh
  split at hh
  · cases r1; cases r2
    exact ⟨_, _, rfl, rfl, k.ret hh b (.bl _)⟩
  · exact hh.elim
def aNotB : AR2 := fun x y m Q => match x, y with
  | .d (.bool a), .d (.bool b) => Q (.d (.bool (!decide (a = b)))) m
  | _, _ => False
theorem oq_notB : OpQ X (compareOp .IsNot) aNotB := by
  refine ⟨_, op_notBl, fun C L Mo H m x y v w Q AQ hK b r1 r2 k hh => ?_⟩
  unfold aNotB at hh
  split at hh
  · cases r1; cases r2
    exact ⟨_, _, rfl, rfl, k.ret hh b (.bl _)⟩
  · exact hh.elim
/-! ### bit_length -/
variable {o e : Expr} {to te : ATE} {apos pos : Pos}
def aBits (to : ATE) : ATE := fun a Q => to a fun x m => match x with
  | .d (.int i) => Q (.d (.int (Builtin.Int.intBits i : Nat))) m
  | _ => False
theorem q_bits (ho : QE X o to) (hbase : attributeBase o "bit_length" X.env (eval o X.env) = eval o X.env := by rfl) (hline : (apos.endLine == pos.line) = true := by rfl) : QE X (.Call (.Attribute o "bit_length" apos) [] [] pos) (aBits to) := fun C hK =>
  PE.imp (pe_bits (ho C hK) hbase hline) fun σ H Q ⟨a, L, Mo, AQ, r, k, h⟩ => by
    refine ⟨a, L, Mo, _, r, fun x m1 v L1 Mo1 H1 h1 b1 v1 e1 => ?_, h⟩
    split at h1
    · exact ⟨_, dq_int v1, (k.aft e1).ret h1 b1 (.int _)⟩
    · exact h1.elim
/-! ### tuple * n -/
theorem Cont.tupW {C : Ct} {m : Mm} {L Mo : List Addr} {H : Hp} {AQ : AV → Mm → Prop} {Q : VK} {p : Addr} {xs : List V} {ds : List D} (k : Cont C L Mo H AQ Q) (b : B C m L Mo H) (hp : H p = none) (r : DqAll C.K (C.hd L Mo H) xs ds) (hn : NdNeed ds = false) (h : AQ (.d (.tuple ds)) m) : Q (.ref p) (upd H p (.tup xs)) :=
  k _ _ _ _ _ _ h (b.alloc hp) (Dq.tup (SqT.of (hd_new b hp)) (fun c => by rw [hn] at c; cases c) (DqAll.mono (hd_upd hp) _ _ r)) (X2.alloc hp)
theorem nd_rep {ds : List D} {k : Int} (h : NdNeed ds = false) (hk : 2 ≤ k) : NdNeed (List.replicate k.toNat ds).flatten = false := by
  cases ds with
  | nil => cases h
  | cons x r =>
    obtain ⟨n, hn⟩ : ∃ n, k.toNat = n + 1 := ⟨k.toNat - 1, by omega⟩
    rw [hn, List.replicate_succ, List.flatten_cons, List.cons_append, ndNeed_cons, ← ndNeed_cons x r, h]
def aRep : AR2 := fun x y m Q => match x, y with
  | .d (.tuple ds), .d (.int k) => NdNeed ds = false ∧ 2 ≤ k ∧ k ≤ 1000 ∧ ds.length ≤ 1000 ∧ Q (.d (.tuple (List.replicate k.toNat ds).flatten)) m
  | _, _ => False
theorem oq_rep : OpQ X (binaryOp .Mult) aRep := by
  refine ⟨_, op_repT, fun C L Mo H m x y v w Q AQ hK b r1 r2 k hh => ?_⟩
  unfold aRep at hh
  split at hh
  · rename_i ds i
    obtain ⟨l1, vs, rfl, h1, h2⟩ := tupA_ok (ds := ds) r1 rfl
    have hw := dq_int r2
    subst hw
    have hl := h2.len
    refine ⟨l1, i, vs, rfl, rfl, hK ▸ h1, fun e => ?_, hh.2.1, hh.2.2.1, by rw [hl]; exact hh.2.2.2.1, fun p hp => k.tupW b hp (h2.rep i.toNat) (nd_rep hh.1 hh.2.1) hh.2.2.2.2⟩
    rw [e] at hl
    have hn := hh.1
    rw [List.length_eq_zero_iff.mp hl.symm] at hn
    cases hn
  · exact hh.elim
/-! ### xs[i] = v -/
variable {i value : Expr} {ti tv : ATE} {tpos : Pos}
def aLput (to ti tv : ATE) : ATS := fun E a => tv a fun v m1 => to ⟨a.g, m1⟩ fun x m2 => ti ⟨a.g, m2⟩ fun y m3 => match x, y, v with
  | .o j, .d (.int k), .d d => match m3.o[j]? with
    | some (.l ds) => match ixN ds.length k with
      | some p => E.nx ⟨a.g, ⟨m3.s, m3.o.set j (.l (ds.set p d))⟩⟩
      | none => False
    | _ => False
  | _, _, _ => False
theorem qs_lput (ho : QE X o to) (hi : QE X i ti) (hv : QE X value tv) (hs : swapsWithSole [.Subscript o i tpos] value pos.line X.env = pure false := by rfl) (hw : swappedStores [.Subscript o i tpos] value X.env = pure none := by rfl)
    (h1 : (assignEach [.Subscript o i tpos] X.env).map (·.2) = [assign (.Subscript o i tpos) X.env] := by rfl)
    (ha : ∀ v, assign (.Subscript o i tpos) X.env v = (do
      let ov ← holding [v] (eval o X.env)
      let iv ← holding [v, ov] (eval i X.env)
      standAt tpos
      holding [v, ov, iv] (setItem ov iv v)
      release [v, ov, iv] []) := by intro _; rfl) :
    QS X (.Assign [.Subscript o i tpos] value pos) (aLput to ti tv) := fun C hK => PS.imp (ps_asg (hv C hK) (pg_sub (ho C hK) (hi C hK) set_list ha) hs hw h1) fun D σ H ⟨a, L, Mo, AD, r, b, h⟩ => by
  refine ⟨a, L, Mo, _, r, fun v m1 w L1 Mo1 H1 h1 b1 w1 e1 => ⟨⟨a.g, m1⟩, L1, Mo1, _, r.next b1 e1, fun x m2 u L2 Mo2 H2 h2 b2 v2 e2 => ⟨⟨a.g, m2⟩, L2, Mo2, _, (r.next b1 e1).next b2 e2, fun y m3 z L3 Mo3 H3 h3 b3 z3 e3 => ?_, h2⟩, h1⟩, h⟩
  have r3 := ((r.next b1 e1).next b2 e2).next b3 e3
  split at h3
  · rename_i j kk d
    have hw : Dq C.K (C.hd L3 Mo3 H3) w d := (w1.mono e2).mono e3
    split at h3
    · rename_i ds e
      split at h3
      · rename_i p ep
        obtain ⟨l, rfl, hl, ys, h4, h5⟩ := o_at b3 (v2.mono e3) e
        have hz := dq_int z3
        subst hz
        refine ⟨l, ys, kk, p, rfl, rfl, h4, by rw [h5.len]; exact ep, b.nx _ _ _ _ _ h3 (r3.next (b3.upd hl fun h e => ⟨_, upd_same, by rw [e]; exact h5.setAt p hw⟩) (X2.upd (List.mem_of_getElem? hl)))⟩
      · exact h3.elim
    · exact h3.elim
  · exact h3.elim
end
end QL

namespace QL
open PySem PySem.Spec PyProof.Rows L2 RZ

/-! ### t[::-1], t a tuple -/
section
variable {prog : Program} {w : World} {A : Around} {E : Value → Shared → Prop} {s : Shared}
theorem applied_rev {sl : Addr} {vs : Value} {n : Nat} {Q : Int × Int × Nat → Shared → Prop} (hs : s.heap.IsSliceOf sl .none .none vs) (ps : IsPart vs (some (-1))) (h : Q ((n : Int) - 1, -1, n) s) :
    wpAny (model prog w) A (Builtin.Slice.sliceApplied (.ref sl) (pure (n : Int))) Q E s := by
  obtain ⟨os, hos, hcs, hds⟩ := id hs
  unfold Builtin.Slice.sliceApplied Builtin.Slice.sliceFields
  refine wpAny_bind (wpAny_bind (wpAny_field hos hds (x := .none) rfl (wpAny_bind (wpAny_field hos hds (x := .none) rfl (wpAny_bind (wpAny_field hos hds (x := vs) rfl (wpAny_pure ?_)))))))
  refine wpAny_bind (HT.slicePart_ ps ?_)
  show wpAny _ _ (if ((-1 : Int) == 0) = true then _ else _) _ _ s
  rw [if_neg (by decide)]
  refine wpAny_bind (HT.slicePart_ .none (wpAny_bind (HT.slicePart_ .none (wpAny_bind (wpAny_pure ?_)))))
  show wpAny _ _ (match Builtin.Slice.sliceAdjust none none (-1) (n : Int) with | (lo, hi) => pure (lo, (-1 : Int), Builtin.Slice.slicePlaces lo hi (-1))) _ _ s
  have e : Builtin.Slice.sliceAdjust none none (-1) (n : Int) = ((n : Int) - 1, -1) := rfl
  rw [e]
  have e2 : Builtin.Slice.slicePlaces ((n : Int) - 1) (-1) (-1) = n := by
    unfold Builtin.Slice.slicePlaces
    rw [if_neg (by decide)]
    by_cases h0 : n = 0
    · subst h0; rfl
    · rw [if_pos (by omega)]
      have : ((n : Int) - 1 - -1 - 1) / (- -1) + 1 = n := by
        rw [show (- -1 : Int) = 1 from rfl, Int.ediv_one]; omega
      rw [this]; exact Int.toNat_natCast n
  show wpAny _ _ (pure ((n : Int) - 1, (-1 : Int), Builtin.Slice.slicePlaces ((n : Int) - 1) (-1) (-1))) _ _ s
  rw [e2]
  exact wpAny_pure h
theorem pick_rev (l : List Value) : ((List.range l.length).filterMap fun (k : Nat) => l.toArray[((l.length : Int) - 1 + (k : Int) * -1).toNat]?) = l.reverse := by
  apply List.ext_getElem?
  intro i
  have e : ∀ k ∈ List.range l.length, l.toArray[((l.length : Int) - 1 + (k : Int) * -1).toNat]? = some ((fun k => l.getD (l.length - 1 - k) .none) k) := by
    intro k hk
    have hk' : k < l.length := List.mem_range.mp hk
    have : ((l.length : Int) - 1 + (k : Int) * -1).toNat = l.length - 1 - k := by omega
    rw [this]
    simp [List.getD, List.getElem?_eq_getElem (show l.length - 1 - k < l.length by omega)]
  have e2 : (List.range l.length).filterMap (fun (k : Nat) => l.toArray[((l.length : Int) - 1 + (k : Int) * -1).toNat]?) = (List.range l.length).map fun k => l.getD (l.length - 1 - k) .none := by
    have go : ∀ (r : List Nat), (∀ k ∈ r, k ∈ List.range l.length) → r.filterMap (fun (k : Nat) => l.toArray[((l.length : Int) - 1 + (k : Int) * -1).toNat]?) = r.map fun k => l.getD (l.length - 1 - k) .none := by
      intro r
      induction r with
      | nil => intro _; rfl
      | cons k r ih =>
        intro h
        rw [List.filterMap_cons, e k (h k List.mem_cons_self), List.map_cons, ih fun j hj => h j (List.mem_cons_of_mem _ hj)]
    exact go _ fun _ h => h
  rw [e2, List.getElem?_map]
  by_cases hi : i < l.length
  · rw [List.getElem?_range hi, List.getElem?_reverse hi]
    simp [List.getD, List.getElem?_eq_getElem (show l.length - 1 - i < l.length by omega)]
  · rw [List.getElem?_eq_none (by simpa using hi), List.getElem?_eq_none (by simpa using hi)]; rfl
theorem getItem_tuple_rev {t sl : Addr} {l : List Value} {vs : Value} {Q : Value → Shared → Prop} (ht : IsTup s.heap t l.toArray) (hs : s.heap.IsSliceOf sl .none .none vs) (ps : IsPart vs (some (-1)))
    (h : Q (.ref s.heap.objs.size) { s with heap := s.heap.push { cls := .type "tuple", data := .seq l.reverse.toArray } }) (hsz : l.length ≤ sizeLine) : wpAny (model prog w) A (getItem (.ref t) (.ref sl)) Q E s := by
  have htake : sizeOk (.seq l.reverse.toArray) := by
    show l.reverse.toArray.size ≤ sizeLine
    simpa using hsz
  obtain ⟨os, hos, hcs, hds⟩ := id hs
  have hTs : s.TypeIs (.ref sl) "slice" := ⟨os, hos, hcs⟩
  unfold getItem
  try with_reducible refine wpAny_holding ?_
  first | refine wpAny_bind (wpAny_pure ?_) | skip
  refine wpAny_bind (wpAny_sequenceKey ht.typeIs (by decide) ?_)
  refine wpAny_bind (wpAny_callSpecial?_slot (name := Str.ofString "__getitem__") ht.typeIs PyProof.Rows.slot_tuple_getitem
    (wpAny_call_entry PyProof.Rows.slot_tuple_getitem ht.typeIs entry_tuple_getitem ?_ (args_tuple_getitem _ _)))
  show wpAny _ _ (Builtin.Tuple.tupleItemsOf (.ref t) >>= _) _ _ s
  refine wpAny_bind (PyProof.Rows.tupleItemsOf_ ht ?_)
  refine wpAny_bind (wpAny_typeOf hTs ?_)
  rw [if_pos (by decide)]
  refine wpAny_bind ?_
  have e0 : (pure ((l.toArray.size : Nat) : Int) : Sem Int) = pure (l.length : Int) := by simp
  rw [e0]
  refine applied_rev hs ps ?_
  have hno : ¬ (((l.length : Int) - 1 == 0 && (-1 : Int) == 1 && l.length == l.toArray.size) = true) := by
    intro q
    rw [Bool.and_eq_true, Bool.and_eq_true] at q
    exact absurd (eq_of_beq q.1.2) (by decide)
  show wpAny _ _ (if ((l.length : Int) - 1 == 0 && (-1 : Int) == 1 && l.length == l.toArray.size) = true then _ else _) _ _ s
  rw [if_neg hno, pick_rev]
  first
    | exact wpAny_bind (m := Builtin.Tuple.tupleExact _) (wpAny_newObj_type (wpAny_pure ⟨_, rfl, wpAny_pure h⟩) htake)
    | exact wpAny_bind (m := Builtin.Tuple.tupleExact _) (wpAny_newObj_type (wpAny_bind (wpAny_pure (wpAny_pure ⟨_, rfl, wpAny_pure h⟩))) htake)
    | exact wpAny_bind (wpAny_bind (m := Builtin.Tuple.tupleExact _) (wpAny_newObj_type (wpAny_pure (wpAny_pure ⟨_, rfl, wpAny_pure h⟩)) htake))
    | exact wpAny_bind (wpAny_bind (m := Builtin.Tuple.tupleExact _) (wpAny_newObj_type (wpAny_pure ⟨_, rfl, wpAny_pure h⟩) htake))
end
section
variable {X : Cx} {e : Expr} {te : ATE}
theorem pe_revT {te : TE} {k : Nat} {p1 p2 p3 pos : Pos} (he : PE X e te) : PE X (.Subscript e (.Slice none none (some (.UnaryOp .USub (.Constant (.int 1) k p1) p2)) p3) pos)
    (fun σ H Q => te σ H fun x H1 => ∃ a xs, x = .ref a ∧ SqT X.K H1 a xs ∧ ∀ p, H1 p = none → newT H1 p xs.reverse Q) := by
  refine ⟨fun pins s σ H Q I h => ?_⟩
  refine Subscript_ (thn (he.run pins s σ H _ I h) fun v s1 ⟨x, H1, I1, r1, q1⟩ => ?_)
  obtain ⟨a, xs, ex, hx, q⟩ := q1
  subst ex
  cases r1
  have hst : PO X (some (.UnaryOp .USub (.Constant (.int 1) k p1) p2)) (tPart (tUn (rU fun i => .int (-i)) (tC (.int 1)))) := po_some (pe_un un_neg pe_int)
  refine wpAny_Slice (thn (po_none.run pins s1 σ H1 (fun o H2 => o = none ∧ H2 = H1) I1 ⟨rfl, rfl⟩) fun vl s2 ⟨l, H2, I2, pl, el, e2⟩ => ?_)
  subst el e2
  refine thn (po_none.run pins s2 σ H2 (fun o H3 => o = none ∧ H3 = H2) I2 ⟨rfl, rfl⟩) fun vu s3 ⟨u, H3, I3, pu, eu, e3⟩ => ?_
  subst eu e3
  refine thn (hst.run pins s3 σ H3 (fun o H4 => o = some (-1) ∧ H4 = H3) I3 ⟨1, rfl, -1, rfl, rfl, rfl⟩) fun vs s4 ⟨o, H4, I4, ps, eo, e4⟩ => ?_
  subst eo e4
  cases pl
  cases pu
  have I5 : Inv X pins σ H4 { s4 with heap := s4.heap.push { cls := .type "slice", data := .fields #[.none, .none, vs] } } := I4.kept (t' := s4.toks) fun b ob q => Heap.get?_push_of_some _ q
  obtain ⟨its, r, ht, hz⟩ := I5.tuple hx
  have hlen := r.length
  show wpAny (model X.prog X.w) X.A (subscriptTail e (.Slice none none (some (.UnaryOp .USub (.Constant (.int 1) k p1) p2)) p3) (.ref a) (.ref s4.heap.objs.size)) (EP X pins σ Q) X.xe { s4 with heap := s4.heap.push { cls := .type "slice", data := .fields #[.none, .none, vs] } }
  refine tail_any (ops := [.ref a, .ref s4.heap.objs.size]) ht.typeIs (PyProof.Rows.slot_tuple_getitem.lookup) ?_ (by with_unfolding_all rfl)
  refine getItem_tuple_rev (l := its) ht (Heap.IsSliceOf.new _ .none .none vs) ps ?_ (by omega)
  exact ep_newT I5 r.reverse (by rw [List.length_reverse]; exact hz) q
def aRevT (te : ATE) : ATE := fun a Q => te a fun x m => match tupA x with
  | some ds => Q (.d (.tuple ds.reverse)) m
  | none => False
theorem q_revT {k : Nat} {p1 p2 p3 pos : Pos} (h : QE X e te) : QE X (.Subscript e (.Slice none none (some (.UnaryOp .USub (.Constant (.int 1) k p1) p2)) p3) pos) (aRevT te) := fun C hK => PE.imp (pe_revT (h C hK)) fun σ H Q ⟨a, L, Mo, AQ, r, k, h⟩ => by
  refine ⟨a, L, Mo, _, r, fun x m1 v L1 Mo1 H1 h1 b1 v1 e1 => ?_, h⟩
  split at h1
  · rename_i ds e
    obtain ⟨l, xs, rfl, h2, h3⟩ := tupA_ok v1 e
    exact ⟨l, xs, rfl, hK ▸ h2, fun p hp => (k.aft e1).tup b1 hp h3.rev h1⟩
  · exact h1.elim
end

/-! ### a dict of the module -/
def DictAt (K : PySem.W.Frag) (w : World) (mg : Str → Option Value) (x : Str) (tab : List (Str × Option D)) : Prop := ∃ (d : Addr) (es : Array DictEntry) (n : Nat), mg x = some (.ref d) ∧ KDict K w d es n ∧
  ∀ p ∈ tab, match p.2 with
    | none => PySem.W.nsIn K d p.1 = some none
    | some dd => ∃ (u : Value) (v : V), PySem.W.nsIn K d p.1 = some (some u) ∧ RelV v u ∧ ∀ H, Dq K H v dd
theorem tab_mem {tab : List (Str × Option D)} {z : Str} {r : Option D} (h : tab.lookup z = some r) : (z, r) ∈ tab := by
  induction tab with
  | nil => cases h
  | cons p l ih =>
    obtain ⟨k, v⟩ := p
    rw [List.lookup_cons] at h
    by_cases c : z = k
    · subst c
      rw [show (z == z) = true from beq_self_eq_true z] at h
      cases h; exact List.mem_cons_self
    · rw [show (z == k) = false from beq_eq_false_iff_ne.mpr c] at h
      exact List.mem_cons_of_mem _ (ih h)
section
variable {X : Cx} {e : Expr} {te : ATE} {x : Str} {p pos : Pos} {tab : List (Str × Option D)}
def aKin (tab : List (Str × Option D)) (te : ATE) : ATE := fun a Q => te a fun y m => match y with
  | .d (.str z) => match tab.lookup z with
    | some r => Q (.d (.bool r.isSome)) m
    | none => False
  | _ => False
def aKix (tab : List (Str × Option D)) (te : ATE) : ATE := fun a Q => te a fun y m => match y with
  | .d (.str z) => match tab.lookup z with
    | some (some d) => Q (.d d) m
    | _ => False
  | _ => False
theorem kin_imp {C : Ct} {d : Addr} {K : PySem.W.Frag} (hp : ∀ p ∈ tab, match p.2 with
    | none => PySem.W.nsIn K d p.1 = some none
    | some dd => ∃ (u : Value) (v : V), PySem.W.nsIn K d p.1 = some (some u) ∧ RelV v u ∧ ∀ H, Dq K H v dd) (σ : List (Option V)) (H : Hp) (Q : VK) (h : lft C (aKin tab te) σ H Q) :
    tOp (fun x y H Q => ∃ (z : Str) (r : Option Value), x = .str z ∧ y = .ref d ∧ PySem.W.nsIn K d z = some r ∧ Q (.bl r.isSome) H) (lft C te) (tC (.ref d)) σ H Q := by
  obtain ⟨a, L, Mo, AQ, rr, k, h⟩ := h
  refine ⟨a, L, Mo, _, rr, fun y m1 v L1 Mo1 H1 h1 b1 v1 e1 => ?_, h⟩
  split at h1
  · rename_i z
    split at h1
    · rename_i r e
      have q := hp _ (tab_mem e)
      cases r with
      | none => exact ⟨z, none, dq_str v1, rfl, q, (k.aft e1).ret h1 b1 (.bl _)⟩
      | some dd =>
        obtain ⟨u, v0, q1, q2, q3⟩ := q
        exact ⟨z, some u, dq_str v1, rfl, q1, (k.aft e1).ret h1 b1 (.bl _)⟩
    · exact h1.elim
  · exact h1.elim
theorem q_kin (D : DictAt X.K X.w X.mg x tab) (ha : QE X e te) (hg : Gl X x := by rfl) (hdb : (x == ("__debug__" : Str)) = false := by decide) (hm : behindInMarks .In (.Name x p) = false := by rfl) : QE X (.Compare e [.In] [.Name x p] pos) (aKin tab te) := fun C hK => by
  obtain ⟨d, es, n, h1, h2, h3⟩ := D
  exact PE.imp (pe_cmpR (op_in_kd h2) (ha C hK) (pe_glob (v := .ref d) hg h1 rfl hdb) hm) (kin_imp h3)
theorem qt_kin (D : DictAt X.K X.w X.mg x tab) (ha : QE X e te) (hg : Gl X x := by rfl) (hdb : (x == ("__debug__" : Str)) = false := by decide) (hm : behindInMarks .In (.Name x p) = false := by rfl) : QT X (.Compare e [.In] [.Name x p] pos) (aTest (aKin tab te)) := fun C hK => by
  obtain ⟨d, es, n, h1, h2, h3⟩ := D
  refine PT.imp (pt_cmpR (op_in_kd h2) (ha C hK) (pe_glob (v := .ref d) hg h1 rfl hdb) hm) fun σ H Q h => ?_
  have := test_imp σ H Q h
  obtain ⟨a, L, Mo, AQ, rr, k, h⟩ := this
  exact kin_imp h3 σ H _ ⟨a, L, Mo, AQ, rr, k, h⟩
theorem q_kix (D : DictAt X.K X.w X.mg x tab) (hi : QE X e te) (hg : Gl X x := by rfl) (hdb : (x == ("__debug__" : Str)) = false := by decide) (hs : NoSl e := by intro _ _; rfl) : QE X (.Subscript (.Name x p) e pos) (aKix tab te) := fun C hK => by
  obtain ⟨d, es, n, h1, h2, h3⟩ := D
  refine ⟨fun pins s σ H Q I h => ?_⟩
  refine subD_of PySem.F.slot_dict_getitem.lookup hs (thn ((pe_glob (v := .ref d) hg h1 rfl hdb).run pins s σ H (fun v H1 => v = .ref d ∧ H1 = H) I ⟨rfl, rfl⟩) fun u s1 ⟨x1, H1, I1, rx, e1, e2⟩ => ?_)
  subst e1; subst e2
  cases rx
  obtain ⟨a, L, Mo, AQ, rr, k, h⟩ := h
  refine thn ((hi C hK).run pins s1 σ H1 (fun y H2 => ∃ z dd u v, y = .str z ∧ PySem.W.nsIn X.K d z = some (some u) ∧ RelV v u ∧ (∀ H, Dq X.K H v dd) ∧ Q v H2) I1 ⟨a, L, Mo, _, rr, fun y m1 v L1 Mo1 H2 h1 b1 v1 e1 => ?_, h⟩) fun iv s2 ⟨y, H2, I2, ry, z, dd, u, v, ey, q1, q2, q3, q4⟩ => ?_
  · split at h1
    · rename_i z
      split at h1
      · rename_i dd e
        obtain ⟨u, v0, q1, q2, q3⟩ := h3 _ (tab_mem e)
        exact ⟨z, dd, u, v0, dq_str v1, q1, q2, q3, (k.aft e1).ret h1 b1 (by show Dq C.K _ _ _; rw [hK]; exact q3 _)⟩
      · exact h1.elim
    · exact h1.elim
  · subst ey
    exact ⟨kd_type h2 I2, op_item_kd h2 pins s2 σ H2 (.ref d) (.str z) _ _ _ I2 rfl ry ⟨z, u, v, rfl, rfl, q1, q2, q4⟩⟩
end
/-! ### xs[i], ys[j] = pair -/
section
variable {X : Cx} {e o i u j : Expr} {te to ti uo ui : ATE} {pos tp1 tp2 tp : Pos} {kk : Nat}
def lputK (to ti : ATE) (d : D) (a : AS) (K : Mm → Prop) : Prop := to a fun x m1 => ti ⟨a.g, m1⟩ fun y m2 => match x, y with
  | .o j, .d (.int k) => match m2.o[j]? with
    | some (.l ds) => match ixN ds.length k with
      | some p => K ⟨m2.s, m2.o.set j (.l (ds.set p d))⟩
      | none => False
    | _ => False
  | _, _ => False
def aLput2 (te to ti uo ui : ATE) : ATS := fun E a => te a fun x m => match x with
  | .d (.tuple [d, e]) => lputK to ti d ⟨a.g, m⟩ fun m' => lputK uo ui e ⟨a.g, m'⟩ fun m'' => E.nx ⟨a.g, m''⟩
  | _ => False
theorem lput_imp {C : Ct} {a : AS} {L Mo : List Addr} {σ : List (Option V)} {H : Hp} {d : D} {v : V} {K : Mm → Prop} {Q : L2.St → Hp → Prop} (r : R C a L Mo σ H) (hv : Dq C.K (C.hd L Mo H) v d) (h : lputK to ti d a K)
    (hq : ∀ m' L' Mo' H', K m' → R C ⟨a.g, m'⟩ L' Mo' σ H' → X2 C L Mo H L' Mo' H' → Q σ H') : gSub (lft C to) (lft C ti) rSetL v σ H Q := by
  refine ⟨a, L, Mo, _, r, fun x m1 ov L1 Mo1 H1 h1 b1 v1 e1 => ⟨⟨a.g, m1⟩, L1, Mo1, _, r.next b1 e1, fun y m2 iv L2 Mo2 H2 h2 b2 v2 e2 => ?_, h1⟩, h⟩
  split at h2
  · rename_i j kk
    split at h2
    · rename_i ds e
      split at h2
      · rename_i p ep
        obtain ⟨l, rfl, hl, ys, h4, h5⟩ := o_at b2 (v1.mono e2) e
        have hz := dq_int v2
        subst hz
        have hw := Dq.mono e2.sm _ _ (Dq.mono e1.sm _ _ hv)
        refine ⟨l, ys, kk, p, rfl, rfl, h4, by rw [h5.len]; exact ep, hq _ _ _ _ h2 (((r.next b1 e1).next b2 e2).next (b2.upd hl fun h e => ⟨_, upd_same, by rw [e]; exact h5.setAt p hw⟩) (X2.upd (List.mem_of_getElem? hl))) ((e1.trans e2).trans (X2.upd (List.mem_of_getElem? hl)))⟩
      · exact h2.elim
    · exact h2.elim
  · exact h2.elim
theorem qs_lput2 (hc : X.calm = true) (he : QE X e te) (ho : QE X o to) (hi : QE X i ti) (hu : QE X u uo) (hj : QE X j ui)
    (hs : swapsWithSole [.Tuple [.Subscript o i tp1, .Subscript u j tp2] kk tp] e pos.line X.env = pure false := by rfl) (hw : swappedStores [.Tuple [.Subscript o i tp1, .Subscript u j tp2] kk tp] e X.env = pure none := by rfl)
    (h1 : (assignEach [.Tuple [.Subscript o i tp1, .Subscript u j tp2] kk tp] X.env).map (·.2) = [assign (.Tuple [.Subscript o i tp1, .Subscript u j tp2] kk tp) X.env] := by rfl)
    (ha1 : ∀ v, assign (.Subscript o i tp1) X.env v = (do
      let ov ← holding [v] (eval o X.env)
      let iv ← holding [v, ov] (eval i X.env)
      standAt tp1
      holding [v, ov, iv] (setItem ov iv v)
      release [v, ov, iv] []) := by intro _; rfl)
    (ha2 : ∀ v, assign (.Subscript u j tp2) X.env v = (do
      let ov ← holding [v] (eval u X.env)
      let iv ← holding [v, ov] (eval j X.env)
      standAt tp2
      holding [v, ov, iv] (setItem ov iv v)
      release [v, ov, iv] []) := by intro _; rfl)
    (hc1 : (assignEach [.Subscript o i tp1, .Subscript u j tp2] X.env).map (·.2) = assign (.Subscript o i tp1) X.env :: (assignEach [.Subscript u j tp2] X.env).map (·.2) := by rfl)
    (hc2 : (assignEach [.Subscript u j tp2] X.env).map (·.2) = assign (.Subscript u j tp2) X.env :: (assignEach [] X.env).map (·.2) := by rfl)
    (hn : (assignEach [.Subscript o i tp1, .Subscript u j tp2] X.env).length = 2 := by rfl) (hst : (assignEach [.Subscript o i tp1, .Subscript u j tp2] X.env).findIdx? (·.1) = none := by rfl) :
    QS X (.Assign [.Tuple [.Subscript o i tp1, .Subscript u j tp2] kk tp] e pos) (aLput2 te to ti uo ui) := fun C hK =>
  PS.imp (ps_asg (he C hK) (pg_tup hc (pgs_cons (pg_sub (ho C hK) (hi C hK) set_list ha1) (pgs_cons (pg_sub (hu C hK) (hj C hK) set_list ha2) pgs_nil hc2) hc1) hn hst) hs hw h1) fun D σ H ⟨a, L, Mo, AD, r, b, h⟩ => by
    refine ⟨a, L, Mo, _, r, fun x m1 v L1 Mo1 H1 h1 b1 v1 e1 => ?_, h⟩
    split at h1
    · rename_i d f
      cases v1 with
      | tup q1 _ q2 =>
        cases q2 with
        | cons q3 q4 =>
          cases q4 with
          | cons q5 q6 =>
            cases q6
            refine ⟨_, _, rfl, hK ▸ same_tup hid_same q1, rfl, _, _, rfl, ?_⟩
            refine lput_imp (r.next b1 e1) q3 h1 fun m' L' Mo' H' k1 r1 x1 => ⟨_, _, rfl, ?_⟩
            refine lput_imp r1 (Dq.mono x1.sm _ _ q5) k1 fun m'' L'' Mo'' H'' k2 r2 x2 => ⟨rfl, ?_⟩
            exact b.nx _ _ _ _ _ k2 r2
    · exact h1.elim
/-! ### list.index -/
def mIndex : AM := fun x avs m Q => match lstA m x, avs with
  | some ds, [.d d] => SeqAt.shaped (.list ds) = true ∧ SeqAt.shaped d = true ∧ ∃ (j : Nat) (z : D), ds[j]? = some z ∧ PyData.eqv z d = true ∧ (∀ (k : Nat) (z' : D), k < j → ds[k]? = some z' → PyData.eqv z' d = false) ∧ Q (.d (.int (j : Nat))) m
  | _, _ => False
theorem mq_index (hu : X.A.units + 65 < cLine) : MtQ X "list.index" mIndex := by
  refine ⟨_, mt_indexD hu, fun C L Mo H m x avs v vs Q AQ hK b r1 r2 k hh => ?_⟩
  unfold mIndex at hh
  split at hh
  · rename_i ds d e
    obtain ⟨l, xs, rfl, h1, h2⟩ := lstA_ok b r1 e
    obtain ⟨w, rfl, rw_⟩ := av1 r2
    obtain ⟨s1, s2, j, z, hz, he, hn, hq⟩ := hh
    have nd : (PyData.list ds).hasDict = false := shaped_noDict s1
    exact ⟨l, w, d, ds, j, z, rfl, rfl, hK ▸ Dq.toDp _ _ nd (.lst h1 (DqAll.mono hid_same _ _ h2)), hK ▸ Dq.toDp _ _ (shaped_noDict s2) (Dq.mono hid_same _ _ rw_), s1, s2, hz, he, hn, k.ret hq b (.int _)⟩
  · exact hh.elim
/-! ### local objects let go -/
def aNorm (n : Nat) (fs : List Nat) (t : ATS) : ATS := fun E a => t E (norm n fs a)
theorem qs_norm {st : Stmt} {t : ATS} (n : Nat) (fs : List Nat) (h : QS X st t) : QS X st (aNorm n fs t) := fun C hK => PS.imp (h C hK) fun D σ H ⟨a, L, Mo, AD, r, b, h⟩ =>
  ⟨_, _, _, AD, r.norm n fs, b, h⟩
end
end QL

namespace QL
open PySem PySem.Spec PyProof.Rows L2 RZ
/-! ### a op1 b op2 c op3 d -/
section
variable {X : Cx} {a b c d : Expr} {pos : Pos}
def tChain3 (r r' r'' : R2) (ta tb tc td : TE) : TE := fun σ H Q => ta σ H fun x H1 => tb σ H1 fun y H2 => r x y H2 fun z H3 => ∃ k, z = .bl k ∧
  (if k = true then tc σ H3 fun w' H4 => r' y w' H4 fun z2 H5 => ∃ k2, z2 = .bl k2 ∧ (if k2 = true then td σ H5 fun w2 H6 => r'' w' w2 H6 Q else Q (.bl false) H5) else Q (.bl false) H3)
theorem pe_chain3 {op op' op'' : CmpOp} {r r' r'' : R2} {ta tb tc td : TE} (ho : OpR X (compareOp op) r) (ho' : OpR X (compareOp op') r') (ho'' : OpR X (compareOp op'') r'') (ha : PE X a ta) (hb : PE X b tb) (hc : PE X c tc) (hd : PE X d td)
    (hm : lastMarks [op, op', op''] [b, c, d] = false) : PE X (.Compare a [op, op', op''] [b, c, d] pos) (tChain3 r r' r'' ta tb tc td) := by
  refine ⟨fun pins s σ H Q I h => ?_⟩
  refine Compare_chain (thn (ha.run pins s σ H _ I h) fun v s1 ⟨x, H1, I1, r1, q1⟩ => chain_link (thn (hb.run pins s1 σ H1 _ I1 q1) fun u s2 ⟨y, H2, I2, r2, q2⟩ =>
    thn (ho pins s2 σ H2 x y v u _ I2 r1 r2 q2) fun d s3 ⟨z, H3, I3, r3, k, e, q3⟩ => ?_)) hm
  subst e
  cases r3
  refine wpAny_truthy_bool ?_
  cases k with
  | false => exact ite_ff ⟨.bl false, H3, I3, rfl, q3⟩
  | true =>
    refine ite_tt (chain_link (thn (hc.run pins s3 σ H3 _ I3 q3) fun w' s4 ⟨z', H4, I4, r4, q4⟩ => thn (ho' pins s4 σ H4 y z' u w' _ I4 r2 r4 q4) fun d s5 ⟨z2, H5, I5, r5, k2, e2, q5⟩ => ?_))
    subst e2
    cases r5
    refine wpAny_truthy_bool ?_
    cases k2 with
    | false => exact ite_ff ⟨.bl false, H5, I5, rfl, q5⟩
    | true => exact ite_tt (chain_last (thn (hd.run pins s5 σ H5 _ I5 q5) fun w2 s6 ⟨z3, H6, I6, r6, q6⟩ => ho'' pins s6 σ H6 z' z3 w' w2 Q I6 r4 r6 q6))
theorem pt_chain3 {op op' op'' : CmpOp} {r r' r'' : R2} {ta tb tc td : TE} (ho : OpR X (compareOp op) r) (ho' : OpR X (compareOp op') r') (ho'' : OpR X (compareOp op'') r'') (ha : PE X a ta) (hb : PE X b tb) (hc : PE X c tc) (hd : PE X d td)
    (hm : lastMarks [op, op', op''] [b, c, d] = false) : PT X (.Compare a [op, op', op''] [b, c, d] pos) (tTest (tChain3 r r' r'' ta tb tc td)) := by
  refine ⟨fun pins s σ H Q I h => ?_⟩
  refine isTrue_chain (thn (ha.run pins s σ H _ I h) fun v s1 ⟨x, H1, I1, r1, q1⟩ => test_link (thn (hb.run pins s1 σ H1 _ I1 q1) fun u s2 ⟨y, H2, I2, r2, q2⟩ =>
    thn (ho pins s2 σ H2 x y v u _ I2 r1 r2 q2) fun d s3 ⟨z, H3, I3, r3, k, e, q3⟩ => ?_)) hm
  subst e
  cases r3
  refine wpAny_truthy_bool ?_
  cases k with
  | false =>
    obtain ⟨k', e', q'⟩ := q3
    cases e'
    exact ite_ff ⟨H3, I3, q'⟩
  | true =>
    refine ite_tt (test_link (thn (hc.run pins s3 σ H3 _ I3 q3) fun w' s4 ⟨z', H4, I4, r4, q4⟩ => thn (ho' pins s4 σ H4 y z' u w' _ I4 r2 r4 q4) fun d s5 ⟨z2, H5, I5, r5, k2, e2, q5⟩ => ?_))
    subst e2
    cases r5
    refine wpAny_truthy_bool ?_
    cases k2 with
    | false =>
      obtain ⟨k', e', q'⟩ := q5
      cases e'
      exact ite_ff ⟨H5, I5, q'⟩
    | true =>
      refine ite_tt (test_last (thn (hd.run pins s5 σ H5 _ I5 q5) fun w2 s6 ⟨z3, H6, I6, r6, q6⟩ => thn (ho'' pins s6 σ H6 z' z3 w' w2 _ I6 r4 r6 q6) fun d' s7 ⟨z4, H7, I7, r7, k3, e3, q7⟩ => ?_))
      subst e3
      cases r7
      exact wpAny_truthy_bool ⟨H7, I7, q7⟩
def aChain3 (r r' r'' : AR2) (ta tb tc td : ATE) : ATE := fun a Q => ta a fun x m1 => tb ⟨a.g, m1⟩ fun y m2 => r x y m2 fun z m3 => match isB z with
  | some k => if k = true then tc ⟨a.g, m3⟩ fun w m4 => r' y w m4 fun z2 m5 => match isB z2 with
      | some k2 => if k2 = true then td ⟨a.g, m5⟩ fun w2 m6 => r'' w w2 m6 Q else Q (.d (.bool false)) m5
      | none => False
    else Q (.d (.bool false)) m3
  | none => False
variable {ta tb tc td : ATE}
theorem chain3_imp {C : Ct} {r r' r'' : AR2} {r2 r2' r2'' : R2} (hK : C.K = X.K) (ho : ∀ (C : Ct) L Mo H m x y v w Q AQ, C.K = X.K → B C m L Mo H → AVR C L Mo H x v → AVR C L Mo H y w → Cont C L Mo H AQ Q → r x y m AQ → r2 v w H Q)
    (ho' : ∀ (C : Ct) L Mo H m x y v w Q AQ, C.K = X.K → B C m L Mo H → AVR C L Mo H x v → AVR C L Mo H y w → Cont C L Mo H AQ Q → r' x y m AQ → r2' v w H Q)
    (ho'' : ∀ (C : Ct) L Mo H m x y v w Q AQ, C.K = X.K → B C m L Mo H → AVR C L Mo H x v → AVR C L Mo H y w → Cont C L Mo H AQ Q → r'' x y m AQ → r2'' v w H Q) (σ : List (Option V)) (H : Hp) (Q : VK)
    (h : lft C (aChain3 r r' r'' ta tb tc td) σ H Q) : tChain3 r2 r2' r2'' (lft C ta) (lft C tb) (lft C tc) (lft C td) σ H Q := by
  obtain ⟨a, L, Mo, AQ, rr, k, h⟩ := h
  refine ⟨a, L, Mo, _, rr, fun x m1 v L1 Mo1 H1 h1 b1 v1 e1 => ⟨⟨a.g, m1⟩, L1, Mo1, _, rr.next b1 e1, fun y m2 w L2 Mo2 H2 h2 b2 w2 e2 => ?_, h1⟩, h⟩
  refine ho C L2 Mo2 H2 m2 x y v w _ _ hK b2 (v1.mono e2) w2 (fun z m3 vz L3 Mo3 H3 h3 b3 v3 e3 => ?_) h2
  have k3 := k.aft (e1.trans (e2.trans e3))
  have rr3 := (rr.next b1 e1).next b3 (e2.trans e3)
  split at h3
  · rename_i kk ek
    refine ⟨kk, isB_rel ek v3, ?_⟩
    cases kk with
    | true =>
      rw [if_pos rfl] at h3 ⊢
      refine ⟨⟨a.g, m3⟩, L3, Mo3, _, rr3, fun u m4 vu L4 Mo4 H4 h4 b4 v4 e4 => ?_, h3⟩
      refine ho' C L4 Mo4 H4 m4 y u w vu _ _ hK b4 (w2.mono (e3.trans e4)) v4 (fun z2 m5 vz2 L5 Mo5 H5 h5 b5 v5 e5 => ?_) h4
      split at h5
      · rename_i kk2 ek2
        refine ⟨kk2, isB_rel ek2 v5, ?_⟩
        cases kk2 with
        | true =>
          rw [if_pos rfl] at h5 ⊢
          exact ⟨⟨a.g, m5⟩, L5, Mo5, _, rr3.next b5 (e4.trans e5), fun u2 m6 vu2 L6 Mo6 H6 h6 b6 v6 e6 => ho'' C L6 Mo6 H6 m6 u u2 vu vu2 Q AQ hK b6 (v4.mono (e5.trans e6)) v6 (k3.aft (e4.trans (e5.trans e6))) h6, h5⟩
        | false =>
          rw [if_neg Bool.false_ne_true] at h5 ⊢
          exact (k3.aft (e4.trans e5)).ret h5 b5 (.bl false)
      · exact h5.elim
    | false =>
      rw [if_neg Bool.false_ne_true] at h3 ⊢
      exact k3.ret h3 b3 (.bl false)
  · exact h3.elim
theorem q_chain3 {op op' op'' : CmpOp} {r r' r'' : AR2} (o : OpQ X (compareOp op) r) (o' : OpQ X (compareOp op') r') (o'' : OpQ X (compareOp op'') r'') (ha : QE X a ta) (hb : QE X b tb) (hc : QE X c tc) (hd : QE X d td) (hm : lastMarks [op, op', op''] [b, c, d] = false) :
    QE X (.Compare a [op, op', op''] [b, c, d] pos) (aChain3 r r' r'' ta tb tc td) := fun C hK => by
  obtain ⟨r2, ho, hi⟩ := o
  obtain ⟨r3, ho', hi'⟩ := o'
  obtain ⟨r4, ho'', hi''⟩ := o''
  exact PE.imp (pe_chain3 ho ho' ho'' (ha C hK) (hb C hK) (hc C hK) (hd C hK) hm) (chain3_imp hK hi hi' hi'')
theorem qt_chain3 {op op' op'' : CmpOp} {r r' r'' : AR2} (o : OpQ X (compareOp op) r) (o' : OpQ X (compareOp op') r') (o'' : OpQ X (compareOp op'') r'') (ha : QE X a ta) (hb : QE X b tb) (hc : QE X c tc) (hd : QE X d td) (hm : lastMarks [op, op', op''] [b, c, d] = false) :
    QT X (.Compare a [op, op', op''] [b, c, d] pos) (aTest (aChain3 r r' r'' ta tb tc td)) := fun C hK => by
  obtain ⟨r2, ho, hi⟩ := o
  obtain ⟨r3, ho', hi'⟩ := o'
  obtain ⟨r4, ho'', hi''⟩ := o''
  refine PT.imp (pt_chain3 ho ho' ho'' (ha C hK) (hb C hK) (hc C hK) (hd C hK) hm) fun σ H Q h => ?_
  obtain ⟨a, L, Mo, AQ, rr, k, h⟩ := test_imp σ H Q h
  exact chain3_imp hK hi hi' hi'' σ H _ ⟨a, L, Mo, AQ, rr, k, h⟩
end
/-! ### xs + ys, to be changed afterwards -/
section
variable {X : Cx}
def aCatM : AR2 := fun x y m Q => match lstA m x, lstA m y with
  | some xs, some ys => xs.length + ys.length ≤ sizeLine ∧ Q (.o m.o.length) ⟨m.s, m.o ++ [.l (xs ++ ys)]⟩
  | _, _ => False
theorem oq_catM : OpQ X (binaryOp .Add) aCatM := by
  refine ⟨_, op_cat, fun C L Mo H m x y v w Q AQ hK b r1 r2 k hh => ?_⟩
  unfold aCatM at hh
  split at hh
  · rename_i xs ys e1 e2
    obtain ⟨l1, vs, rfl, h1, h2⟩ := lstA_ok b r1 e1
    obtain ⟨l2, ws, rfl, h3, h4⟩ := lstA_ok b r2 e2
    exact ⟨l1, l2, vs, ws, rfl, rfl, h1, h3, by rw [h2.len, h4.len]; exact hh.1, fun p hp => k.lstM b hp (h2.app h4) hh.2⟩
  · exact hh.elim
end
theorem bt_bool : bootBuiltins "bool" = some (.type "bool") := by decide +kernel
end QL

namespace QL
open PySem PySem.Spec PyProof.Rows L2 RZ
/-! ### functions that a module brought in: gcd -/
section
variable {X : Cx} {e : Expr} {es : List Expr} {pos p : Pos} {x : Str} {id : String} {tr : ATA}
theorem q_callF {r : AC1} (o : CallQ X (.builtin id) r) (hg : Gl X x) (hm : X.mg x = some (.builtin id)) (ha : QA X (e :: es) tr) (hdb : (x == ("__debug__" : Str)) = false := by decide)
    (he : starEach (e :: es) X.env = (false, eval e X.env) :: starEach es X.env := by rfl) (hpl : (backTo pos (starEach es X.env)).any (·.1) = false := by rfl) : QE X (.Call (.Name x p) (e :: es) [] pos) (aCall r tr) := fun C hK => by
  obtain ⟨r2, ho, hi⟩ := o
  exact PE.imp (pe_callBfun ho hg hm (ha C hK) hdb he hpl) (call_imp hK hi)
theorem gcd_ex : ∃ f : Int → Int → Int, ∀ i j, f i j = ((Nat.gcd i.natAbs j.natAbs : Nat) : Int) := ⟨fun i j => ((Nat.gcd i.natAbs j.natAbs : Nat) : Int), fun _ _ => rfl⟩
/-- the greatest common part; no reduction looks into it -/
noncomputable def gcdI : Int → Int → Int := Classical.choose gcd_ex
theorem gcdI_eq (i j : Int) : gcdI i j = ((Nat.gcd i.natAbs j.natAbs : Nat) : Int) := Classical.choose_spec gcd_ex i j
def bGcd : AC1 := fun avs m Q => match avs with
  | [.d (.int i), .d (.int j)] => Q (.d (.int (gcdI i j))) m
  | _ => False
theorem cq_gcd : CallQ X (.builtin "math.gcd") bGcd := by
  refine ⟨_, cr_gcd, fun C L Mo H m avs vs Q AQ hK b r k hh => ?_⟩
  unfold bGcd at hh
  split at hh
  · obtain ⟨v, w, rfl, rv, rw_⟩ := av2 r
    rw [gcdI_eq] at hh
    exact ⟨_, _, by rw [dq_int rv, dq_int rw_], k.ret hh b (.int _)⟩
  · exact hh.elim
/-! ### // by any number but 0 -/
def DivN (_ j : Int) : Prop := j ≠ 0 ∧ j.natAbs.log2 < 9000
theorem op_fdivNW : OpR X (binaryOp .FloorDiv) (rI DivN fun i j => .int (i.fdiv j)) := opI fun _ _ _ _ _ _ _ hc q => floordiv_int hc.1 q (.inl (PyProof.noPylong_of_log2 hc.2))
def aFdivN : AR2 := intsR DivN fun i j => .int (i.fdiv j)
theorem oq_fdivN : OpQ X (binaryOp .FloorDiv) aFdivN := opq_ints op_fdivNW fun _ _ _ _ => .int _
/-! ### list * n -/
def aRepL : AR2 := fun x y m Q => match y with
  | .d (.int k) => match lstA m x with
    | some ds => -(2 ^ 63) ≤ k ∧ k < 2 ^ 63 ∧ ds.length * k.toNat ≤ sizeLine ∧ Q (.d (.list (List.replicate k.toNat ds).flatten)) m
    | none => False
  | _ => False
theorem oq_repL : OpQ X (binaryOp .Mult) aRepL := by
  refine ⟨_, op_rep, fun C L Mo H m x y v w Q AQ hK b r1 r2 k hh => ?_⟩
  unfold aRepL at hh
  split at hh
  · rename_i i
    have hw := dq_int r2
    subst hw
    split at hh
    · rename_i ds e
      obtain ⟨l, xs, rfl, h1, h2⟩ := lstA_ok b r1 e
      exact ⟨l, i, xs, rfl, rfl, h1, hh.1, hh.2.1, by rw [h2.len]; exact hh.2.2.1, fun p hp => k.lst b hp (h2.rep i.toNat) hh.2.2.2⟩
    · exact hh.elim
  · exact hh.elim
end
/-! ### the readings of statements, where they are given all they need -/
section
variable (D : AEnds) (a : AS)
theorem aNext_ap : aNext D a = D.nx a := rfl
theorem aSeq_ap (t u : ATS) : aSeq t u D a = t { D with nx := u D } a := rfl
theorem aBreak_ap : aBreak D a = D.bk a := rfl
theorem aCont_ap : aCont D a = D.ct a := rfl
theorem aDrop_ap (te : ATE) : aDrop te D a = te a fun _ m => D.nx ⟨a.g, m⟩ := rfl
theorem aRet_ap (te : ATE) : aRet te D a = te a D.rt := rfl
theorem aRetN_ap : aRetN D a = D.rt (.d .none) a.m := rfl
theorem aIfS_ap (c : ATT) (t u : ATS) : aIfS c t u D a = c a fun b m => if b = true then t D ⟨a.g, m⟩ else u D ⟨a.g, m⟩ := rfl
theorem aAsg_ap (te : ATE) (g : ATG) : aAsg te g D a = te a fun x m => g x m a.g fun g' => D.nx ⟨g', m⟩ := rfl
theorem aSet_ap (i : Nat) (te : ATE) : aSet i te D a = te a fun x m => D.nx ⟨a.g.set i (some x), m⟩ := rfl
theorem aPar_ap (i j : Nat) (ta : ATA) : aPar i j ta D a = ta a fun xs m => match xs with
  | [x, y] => D.nx ⟨(a.g.set i (some x)).set j (some y), m⟩
  | _ => False := rfl
theorem aFor_ap (fs : List Nat) (ti : AIt) (g : ATG) (tb : ATS) : aFor fs ti g tb D a = ti a fun ds m => aForL m.o.length fs g tb D ds ⟨clr a.g fs, m⟩ := rfl
theorem aWhile_ap (fs : List Nat) (c : ATT) (tb : ATS) : aWhile fs c tb D a = ∃ (I : AS → Prop) (μ : AS → Nat), I ⟨clr a.g fs, a.m⟩ ∧ ∀ a1, I a1 → c a1 fun b m => if b = true then
  tb { D with nx := fun a2 => I (norm a.m.o.length fs a2) ∧ μ (norm a.m.o.length fs a2) < μ a1, ct := fun a2 => I (norm a.m.o.length fs a2) ∧ μ (norm a.m.o.length fs a2) < μ a1, bk := fun a2 => D.nx (norm a.m.o.length fs a2) } ⟨a1.g, m⟩ else D.nx ⟨a1.g, m⟩ := rfl
end
end QL

namespace QL
open PySem PySem.Spec PyProof.Rows L2 RZ
/-! ### three ints, by the first, the second, the third -/
def lexT (p q : Int × Int × Int) : Bool := if p.1 = q.1 then (if p.2.1 = q.2.1 then decide (p.2.2 < q.2.2) else decide (p.2.1 < q.2.1)) else decide (p.1 < q.1)
theorem lexT_iff {p q : Int × Int × Int} : lexT p q = true ↔ p.1 < q.1 ∨ (p.1 = q.1 ∧ (p.2.1 < q.2.1 ∨ (p.2.1 = q.2.1 ∧ p.2.2 < q.2.2))) := by
  unfold lexT
  by_cases e : p.1 = q.1
  · rw [if_pos e]
    by_cases e2 : p.2.1 = q.2.1
    · rw [if_pos e2, decide_eq_true_eq]; omega
    · rw [if_neg e2, decide_eq_true_eq]; omega
  · rw [if_neg e, decide_eq_true_eq]; omega
theorem lexT_no {p q : Int × Int × Int} : lexT p q = false ↔ ¬ (p.1 < q.1 ∨ (p.1 = q.1 ∧ (p.2.1 < q.2.1 ∨ (p.2.1 = q.2.1 ∧ p.2.2 < q.2.2)))) := by
  rw [← lexT_iff]
  cases lexT p q <;> simp
theorem swo_lexT {α : Type} (k : α → Int × Int × Int) : SrtO.Swo fun v u => lexT (k v) (k u) := by
  refine ⟨fun x y h => ?_, fun x y z h1 h2 => ?_⟩
  · have a := lexT_iff.mp h
    refine lexT_no.mpr ?_
    omega
  · have a := lexT_no.mp h1
    have b := lexT_no.mp h2
    refine lexT_no.mpr ?_
    omega
def IsTrip (h : Heap) (v : Value) (p : Int × Int × Int) : Prop := ∃ a o t u z n, v = .ref a ∧ h.get? a = some o ∧ o.cls = .type "tuple" ∧ o.data = .seq #[.int p.1 t, .int p.2.1 u, .int p.2.2 z] n
theorem IsTrip.keeps {h h' : Heap} {v : Value} {p : Int × Int × Int} (x : IsTrip h v p) (k : ∀ b o, h.get? b = some o → o.cls = .type "tuple" → h'.get? b = some o) : IsTrip h' v p := by
  obtain ⟨a, o, t, u, z, n, e, ho, hc, hd⟩ := x
  exact ⟨a, o, t, u, z, n, e, k _ _ ho hc, hc, hd⟩
section
open SrtO Srt
variable {prog : Program} {w : World} {A : Around} {E : Value → Shared → Prop} {s : Shared}
theorem trip_cmp {vs : List Value} {k : Value → Int × Int × Int} (hp : ∀ v ∈ vs, IsTrip s.heap v (k v)) : Cmp prog w A s (tuples' true) (fun p => p.1 ∈ vs) (lt2 fun v u => lexT (k v) (k u)) := by
  intro p q hm hm'
  have h1 := hp _ hm
  have h2 := hp _ hm'
  show wpAny (model prog w) A (keyLt' (tuples' true) p.1 q.1) (fun r s' => s' = s ∧ r = lexT (k p.1) (k q.1)) (fun _ _ => False) s
  generalize (k p.1) = x at h1 ⊢
  generalize (k q.1) = y at h2 ⊢
  obtain ⟨x1, x2, x3⟩ := x
  obtain ⟨y1, y2, y3⟩ := y
  obtain ⟨a, o, t, u, z, n, e, ho, hc, hd⟩ := h1
  obtain ⟨a', o', t', u', z', n', e', ho', hc', hd'⟩ := h2
  rw [e, e']
  refine PySem.W.kat_lt ho hd ho' hd' ?_
  show PySem.W.KatLex prog w A true (decide (3 < 3)) _ [(.int x1 t, .int y1 t'), (.int x2 u, .int y2 u'), (.int x3 z, .int y3 z')] 0 s
  refine PySem.W.kat_cons (SeqAt.EqAt.int_int x1 t y1 t' prog w _ _ ?_)
  refine PySem.W.kat_go (fun e1 => ?_) (fun e1 => ?_)
  · have ex : x1 = y1 := by simpa using e1
    refine PySem.W.kat_yes (PySem.W.kat_cons (SeqAt.EqAt.int_int x2 u y2 u' prog w _ _ ?_))
    refine PySem.W.kat_go (fun e2 => ?_) (fun e2 => ?_)
    · have ey : x2 = y2 := by simpa using e2
      refine PySem.W.kat_yes (PySem.W.kat_cons (SeqAt.EqAt.int_int x3 z y3 z' prog w _ _ ?_))
      refine PySem.W.kat_go (fun e3 => ?_) (fun e3 => ?_)
      · have ez : x3 = y3 := by simpa using e3
        have e3 : lexT (x1, x2, x3) (y1, y2, y3) = false := lexT_no.mpr (by simp only []; omega)
        exact PySem.W.kat_yes (PySem.W.kat_nil ⟨rfl, e3.symm⟩)
      · have e4 : lexT (x1, x2, x3) (y1, y2, y3) = decide (x3 < y3) := by
          unfold lexT
          simp only []
          rw [if_pos ex, if_pos ey]
        refine PySem.W.kat_no (PySem.W.kat_one _ _ (PyProof.Rows.lt_int ?_))
        exact (show s = s ∧ decide (x3 < y3) = lexT (x1, x2, x3) (y1, y2, y3) from ⟨rfl, e4.symm⟩)
    · have ey : ¬ x2 = y2 := by simpa using e2
      have e3 : lexT (x1, x2, x3) (y1, y2, y3) = decide (x2 < y2) := by
        unfold lexT
        simp only []
        rw [if_pos ex, if_neg ey]
      refine PySem.W.kat_no (PySem.W.kat_one _ _ (PyProof.Rows.lt_int ?_))
      exact (show s = s ∧ decide (x2 < y2) = lexT (x1, x2, x3) (y1, y2, y3) from ⟨rfl, e3.symm⟩)
  · have ex : ¬ x1 = y1 := by simpa using e1
    have e3 : lexT (x1, x2, x3) (y1, y2, y3) = decide (x1 < y1) := by
      unfold lexT
      simp only []
      rw [if_neg ex]
    exact PySem.W.kat_no (oneLt_int ⟨rfl, e3.symm⟩)
theorem trips_first {h : Heap} {k : Value → Int × Int × Int} : ∀ {vs : List Value}, (∀ v ∈ vs, IsTrip h v (k v)) → ∃ fs : List Value, PySem.W.KatTups h vs fs ∧ fs.length = vs.length ∧ ∀ f ∈ fs, ∃ x t, f = Value.int x t
  | [], _ => ⟨[], PySem.W.KatTups.nil, rfl, fun _ hm => by simp at hm⟩
  | v :: vs, hp => by
    obtain ⟨fs, h1, h2, h3⟩ := trips_first (k := k) (vs := vs) fun v' hm => hp v' (List.mem_cons_of_mem _ hm)
    obtain ⟨a, o, t, u, z, n, e, ho, hc, hd⟩ := hp v (List.mem_cons_self ..)
    generalize k v = p at hd
    subst e
    refine ⟨.int p.1 t :: fs, PySem.W.KatTups.cons ho hc hd rfl h1, by rw [List.length_cons, List.length_cons, h2], fun f hm => ?_⟩
    rcases List.mem_cons.mp hm with rfl | hm
    · exact ⟨_, t, rfl⟩
    · exact h3 f hm
theorem trips_sortableO {a : Addr} {vs : List Value} {k : Value → Int × Int × Int} (h0 : 0 < vs.length) (hp : ∀ v ∈ vs, IsTrip s.heap v (k v)) (ha : ∀ o, s.heap.get? a = some o → o.cls ≠ .type "tuple") : SortableO prog w A s a vs fun v u => lexT (k v) (k u) := by
  intro h' keep
  have hp' : ∀ v ∈ vs, IsTrip h' v (k v) := fun v hm => (hp v hm).keeps fun b o e c => keep b o (fun z => by subst z; exact ha o e c) e
  obtain ⟨fs, h1, h2, h3⟩ := trips_first hp'
  refine ⟨tuples' true, fun Q E hq => ?_, trip_cmp hp'⟩
  refine PySem.W.kat_kind (T := .type "int") h1 (by omega) (fun f hm => ?_) (by rfl) ?_
  · obtain ⟨x, t, rfl⟩ := h3 f hm
    exact PySem.W.Looks.now
  · have e : (Value.type "int" != Value.type "tuple") = true := by first | decide +kernel | rfl | decide
    rw [e]
    exact hq
end

def TripAt (K : PySem.W.Frag) (H : Hp) (x : V) (p : Int × Int × Int) : Prop := ∃ t, x = .ref t ∧ SqT K H t [.int p.1, .int p.2.1, .int p.2.2]
open Classical in
noncomputable def kOf (K : PySem.W.Frag) (H : Hp) (x : V) : Int × Int × Int := if h : ∃ p, TripAt K H x p then Classical.choose h else (0, 0, 0)
section
variable {X : Cx} {pins : List (Addr × Obj)} {σ : L2.St} {H : Hp} {s : Shared}
theorem tripAt_inj (I : Inv X pins σ H s) {x : V} {p q : Int × Int × Int} (h1 : TripAt X.K H x p) (h2 : TripAt X.K H x q) : p = q := by
  obtain ⟨t, rfl, a⟩ := h1
  obtain ⟨t', e, b⟩ := h2
  cases e
  have := I.tuple_inj a b
  obtain ⟨p1, p2, p3⟩ := p
  obtain ⟨q1, q2, q3⟩ := q
  simp only [List.cons.injEq, V.int.injEq, and_true] at this
  obtain ⟨rfl, rfl, rfl⟩ := this
  rfl
theorem kOf_eq (I : Inv X pins σ H s) {x : V} {p : Int × Int × Int} (h : TripAt X.K H x p) : kOf X.K H x = p := by
  have hx : ∃ p, TripAt X.K H x p := ⟨p, h⟩
  unfold kOf
  rw [dif_pos hx]
  exact tripAt_inj I (Classical.choose_spec hx) h
theorem isTrip_of (I : Inv X pins σ H s) {u : Value} {x : V} {p : Int × Int × Int} (r : RelV x u) (h : TripAt X.K H x p) : IsTrip s.heap u p := by
  obtain ⟨t, rfl, a⟩ := h
  obtain rfl : u = Value.ref t := r
  obtain ⟨its, r, ⟨o, ho, hc, n, hd⟩, _⟩ := I.tuple a
  cases r with
  | cons r1 r => cases r with
    | cons r2 r => cases r with
      | cons r3 r =>
        cases r
        obtain ⟨t1, rfl⟩ := r1
        obtain ⟨t2, rfl⟩ := r2
        obtain ⟨t3, rfl⟩ := r3
        exact ⟨t, o, t1, t2, t3, n, rfl, ho, hc, hd⟩
theorem paired_k {K : PySem.W.Frag} {xs : List V} {ts : List (Int × Int × Int)} (k : V → Int × Int × Int) (hk : ∀ x p, TripAt K H x p → k x = p) (h : Paired (TripAt K H) xs ts) : ts = xs.map k := by
  induction h with
  | nil => rfl
  | cons h t ih => rw [List.map_cons, hk _ _ h, ← ih]
theorem paired_all {K : PySem.W.Frag} {xs : List V} {ts : List (Int × Int × Int)} (h : Paired (TripAt K H) xs ts) : ∀ x ∈ xs, ∃ p, TripAt K H x p := by
  induction h with
  | nil => intro x hx; cases hx
  | cons h t ih =>
    intro x hx
    rcases List.mem_cons.mp hx with rfl | hx
    · exact ⟨_, h⟩
    · exact ih x hx
theorem paired_map {K : PySem.W.Frag} (k : V → Int × Int × Int) : ∀ {ys : List V}, (∀ y ∈ ys, TripAt K H y (k y)) → Paired (TripAt K H) ys (ys.map k)
  | [], _ => .nil
  | y :: ys, h => .cons (h y (List.mem_cons_self ..)) (paired_map k fun z hz => h z (List.mem_cons_of_mem _ hz))
/-- the triples, sorted -/
def SrtT (ts' ts : List (Int × Int × Int)) : Prop := ts'.Perm ts ∧ ts'.Pairwise fun x y => lexT y x = false
/-- what comes out of the sort of the values -/
theorem sort_out (I : Inv X pins σ H s) {us out : List Value} {xs : List V} {ts : List (Int × Int × Int)} (rv : Vals xs us) (hx : Paired (TripAt X.K H) xs ts)
    (h1 : SrtO.Srtd (fun v u => lexT (kOf X.K H (backV v)) (kOf X.K H (backV u))) out) (h2 : SrtO.Stb (fun v u => lexT (kOf X.K H (backV v)) (kOf X.K H (backV u))) out us) :
    ∃ (ys : List V) (ts' : List (Int × Int × Int)), Vals ys out ∧ Paired (TripAt X.K H) ys ts' ∧ SrtT ts' ts ∧ ys.length = xs.length ∧ ys.Perm xs ∧ (ys.zip ts').Perm (xs.zip ts) := by
  have hk : ∀ x p, TripAt X.K H x p → kOf X.K H x = p := fun x p h => kOf_eq I h
  have hall := paired_all hx
  obtain ⟨e1, e2⟩ := refs_back rv fun x m => by
    obtain ⟨p, t, e, _⟩ := hall x m
    exact ⟨t, e⟩
  have h3 : ∀ u ∈ out, ∃ a, u = Value.ref a := fun u hu => e2 u (h2.perm.mem_iff.mp hu)
  have hperm : (out.map backV).Perm xs := by rw [e1]; exact h2.perm.map backV
  refine ⟨out.map backV, (out.map backV).map (kOf X.K H), vals_back h3, paired_map _ fun y hy => ?_, ⟨?_, ?_⟩, hperm.length_eq, hperm, ?_⟩
  · obtain ⟨p, hp⟩ := hall y (hperm.mem_iff.mp hy)
    rw [hk y p hp]; exact hp
  · rw [paired_k _ hk hx]
    exact hperm.map _
  · rw [List.map_map]
    exact List.pairwise_map.mpr h1
  · have z : ∀ l : List V, l.zip (l.map (kOf X.K H)) = l.map fun y => (y, kOf X.K H y) := by
      intro l
      induction l with
      | nil => rfl
      | cons a l ih => rw [List.map_cons, List.zip_cons_cons, ih, List.map_cons]
    rw [paired_k _ hk hx, z, z]
    exact hperm.map _
theorem cr_sortT3 : CallR X (.builtin "sorted") (fun vs H Q => ∃ (a : Addr) (xs : List V) (ts : List (Int × Int × Int)), vs = [V.ref a] ∧ SqL X.K H a xs ∧ Paired (TripAt X.K H) xs ts ∧
    ∀ ys ts' p, ys.length = ts'.length → (ys.zip ts').Perm (xs.zip ts) → SrtT ts' ts → H p = none → Q (.ref p) (upd H p (.lst ys))) := by
  intro pins s σ H vs us Q I r h
  obtain ⟨a, xs, ts, rfl, hs, hx, q⟩ := h
  obtain ⟨its, rv, hl, hz⟩ := I.list hs
  obtain ⟨u, rfl, ru⟩ := vals1 r
  obtain rfl : u = Value.ref a := ru
  have hall := paired_all hx
  have tr : ∀ v ∈ its, IsTrip s.heap v (kOf X.K H (backV v)) := by
    intro v hv
    obtain ⟨e1, e2⟩ := refs_back rv fun x m => by
      obtain ⟨p, t, e, _⟩ := hall x m
      exact ⟨t, e⟩
    obtain ⟨b, rfl⟩ := e2 v hv
    have hm : backV (.ref b) ∈ xs := by rw [e1]; exact List.mem_map.mpr ⟨_, hv, rfl⟩
    obtain ⟨p, hp⟩ := hall _ hm
    rw [kOf_eq I hp]
    exact isTrip_of I (x := .ref b) rfl hp
  refine SrtO.sorted_ord (swo_lexT fun v => kOf X.K H (backV v)) hl.isList (by rw [← rv.length]; exact hz) (fun h2 h₁ a ha kk => ?_) fun out hs' hb => ?_
  · refine trips_sortableO (s := { s with heap := h₁ }) (by omega) (fun v hm => (tr v hm).keeps fun b o e _ => (kk b o e).2) fun o e => ?_
    have e' : some o = some (seqObj "list" its.toArray 0) := e.symm.trans ha
    cases e'
    intro c
    exact absurd (Value.type.inj c) (by decide)
  · obtain ⟨ys, ts', r1, r2, r3, r4, r5, r6⟩ := sort_out I rv hx hs' hb
    obtain ⟨n, hn⟩ := PyProof.Rows.sortedAll_at s.heap its out.toArray
    refine ⟨.ref _, upd H _ (.lst ys), I.laid (t' := s.toks) (fun b o e => PyProof.Rows.sortedAll_old e) (Nat.le_succ _) ⟨by rw [r4]; exact hz, out, n, r1, hn⟩, rfl, q ys ts' _ (Paired.length r2) r6 r3 (I.hok.fresh (Nat.le_succ _))⟩

def TripH (H : Hp) (x : V) (p : Int × Int × Int) : Prop := ∃ b, x = .ref b ∧ H b = some (.tup [.int p.1, .int p.2.1, .int p.2.2])
theorem paired_memR {α β : Type} {F : α → β → Prop} : ∀ {l : List α} {r : List β} {b : β}, Paired F l r → b ∈ r → ∃ a ∈ l, F a b
  | _, _, _, .nil, h => by cases h
  | _, _, b, .cons (a := a) q t, h => by
    rcases List.mem_cons.mp h with rfl | h
    · exact ⟨_, List.mem_cons_self .., q⟩
    · obtain ⟨a', h1, h2⟩ := paired_memR t h
      exact ⟨a', List.mem_cons_of_mem _ h1, h2⟩
theorem paired_up {α β : Type} {F G : α → β → Prop} : ∀ {l : List α} {r : List β}, Paired F l r → (∀ a b, a ∈ l → F a b → G a b) → Paired G l r
  | _, _, .nil, _ => .nil
  | _, _, .cons q t, h => .cons (h _ _ (List.mem_cons_self ..) q) (paired_up t fun a b ha => h a b (List.mem_cons_of_mem _ ha))
/-- the key tuple of a triple -/
def key3 (t : Int × Int × Int) : List Key := [.inl t.1, .inl t.2.1, .inl t.2.2]
theorem trips_keys {K : PySem.W.Frag} : ∀ {kvs : List (List Key × V)} {bs : List Addr} {ts : List (Int × Int × Int)}, IsKeys H kvs bs → kvs.map (·.1) = ts.map key3 → Paired (TripAt K H) (bs.map V.ref) ts
  | [], _, [], .nil, _ => .nil
  | [], _, t :: ts, _, e => by cases e
  | kv :: kvs, _, [], _, e => by cases e
  | kv :: kvs, _, t :: ts, .cons h r, e => by
    simp only [List.map_cons, List.cons.injEq] at e
    refine .cons ⟨_, rfl, ?_⟩ (trips_keys r e.2)
    rw [e.1] at h
    exact .inl (.inl h)
theorem cr_sortDT (hc : X.calm = true) : CallR X (.builtin "sorted") (fun vs H Q => ∃ (a : Addr) (kvs : List (List Key × V)) (ts : List (Int × Int × Int)), vs = [V.ref a] ∧ Rd H a (.dT kvs) ∧ kvs.map (·.1) = ts.map key3 ∧
    ∀ ys ts' p, Paired (TripH H) ys ts' → SrtT ts' ts → H p = none → Q (.ref p) (upd H p (.lst ys))) := by
  intro pins s σ H vs us Q I r h
  obtain ⟨d, kvs, ts, rfl, hd, hkey, q⟩ := h
  obtain ⟨u, rfl, rx⟩ := r.one
  cases rx
  obtain ⟨z, hs, ks, pr, o, es, ep, ho, hx, hdt, he, hn⟩ := (show ObjOk X.prog X.w H s.heap d (.dT kvs) from hd.ok I.hok)
  have l1 : es.size = ks.length := size_of_entries he
  have l2 : kvs.length = ks.length := Paired.length pr
  have hT : Paired (TripAt X.K H) ((ks.map fun x => x.2.1).map V.ref) ts := trips_keys (isKeys_of pr) hkey
  refine Calls.call_function_entry PyProof.Rows.kind_sorted PyProof.Rows.plain_sorted PyProof.Rows.entry_sorted (PyProof.Rows.args_sorted1 _) ?_
  unfold Builtin.«sorted»
  refine wpAny_bind (m := checkCount "sorted" 1 1 _) (wpAny_pure ?_)
  refine wpAny_bind (PySem.W.kdu_collect (A := X.A.in1) (kdl_raw hs hx hdt) (I.ok.hd hc) ho (by omega) fun h' tk acc' kp it => ?_)
  have ea : acc'.toList = ks.map fun x => Value.ref x.2.1 := by
    have hl : acc'.toList.length = ks.length := by rw [Array.length_toList, it.1]; exact l1
    apply List.ext_getElem?
    intro j
    rw [List.getElem?_map]
    cases hj : acc'.toList[j]? with
    | none =>
      have h1 := List.getElem?_eq_none_iff.mp hj
      rw [List.getElem?_eq_none (by omega)]
      all_goals rfl
    | some v =>
      obtain ⟨en, hen, hv⟩ := it.2 j v (by rw [← Array.getElem?_toList]; exact hj)
      have qe := entry_at he j
      rw [hen] at qe
      cases hb : ks[j]? with
      | none =>
        rw [hb] at qe
        exact nomatch (show some en = none from qe)
      | some b =>
        rw [hb] at qe
        have e2 : en = entryOfKey (tupleKind (mixKind X.prog X.w)) b := Option.some.inj qe
        rw [hv, e2]
        all_goals rfl
  have eb : acc'.toList = (ks.map fun x => x.2.1).map Value.ref := by rw [ea, List.map_map]; all_goals rfl
  have rv : Vals ((ks.map fun x => x.2.1).map V.ref) acc'.toList := by rw [eb]; exact vals_refs _
  generalize hxs : ((ks.map fun x => x.2.1).map V.ref) = xs at rv hT
  have hz : xs.length ≤ sizeLine := by rw [← hxs, List.length_map, List.length_map]; omega
  have hlen : acc'.toList.length = xs.length := rv.length.symm
  have I1 : Inv X pins σ H { s with heap := h', toks := tk } := I.kept kp
  have hall := paired_all hT
  have tr : ∀ v ∈ acc'.toList, IsTrip h' v (kOf X.K H (backV v)) := by
    intro v hv
    obtain ⟨e1, e2⟩ := refs_back rv fun x m => by
      obtain ⟨p, t, e, _⟩ := hall x m
      exact ⟨t, e⟩
    obtain ⟨b, rfl⟩ := e2 v hv
    have hm : backV (.ref b) ∈ xs := by rw [e1]; exact List.mem_map.mpr ⟨_, hv, rfl⟩
    obtain ⟨p, hp⟩ := hall _ hm
    rw [kOf_eq I1 hp]
    exact isTrip_of I1 (x := .ref b) rfl hp
  refine wpAny_bind (wpAny_newList ?_ (by rw [hlen]; exact hz))
  have hoL : (h'.push (seqObj "list" acc'.toList.toArray 0)).get? h'.objs.size = some (seqObj "list" acc'.toList.toArray 0) := Heap.get?_push_size _ rfl
  have old : ∀ b o, h'.get? b = some o → (h'.push (seqObj "list" acc'.toList.toArray 0)).get? b = some o := fun b o e => Heap.get?_push_of_some _ e
  show wpAny _ _ _ _ _ { s with heap := h'.push (seqObj "list" acc'.toList.toArray 0), toks := tk }
  refine wpAny_bind (wpAny_holding (wpAny_call_entry PyProof.Rows.slot_list_sort ⟨_, hoL, rfl⟩ PyProof.Rows.entry_list_sort
    (SrtO.list_sort_ord (s := { s with heap := h'.push (seqObj "list" acc'.toList.toArray 0), toks := tk }) (swo_lexT fun v => kOf X.K H (backV v)) hoL (by rw [hlen]; exact hz) (fun h2 => ?_) fun out hs' hb => ⟨_, rfl, ?_⟩) (PyProof.Rows.args_list_sort _)))
  · refine trips_sortableO (by omega) (fun v hm => (tr v hm).keeps fun b o e _ => old b o e) fun o e => ?_
    have e' : some o = some (seqObj "list" acc'.toList.toArray 0) := e.symm.trans hoL
    cases e'
    intro c
    exact absurd (Value.type.inj c) (by decide)
  · obtain ⟨ys, ts', r1, r2, r3, r4, r5, _⟩ := sort_out I1 rv hT hs' hb
    have hH : ∀ y ∈ ys, ∃ b zs, y = V.ref b ∧ H b = some (.tup zs) := by
      intro y hy
      have hy' := r5.mem_iff.mp hy
      rw [← hxs] at hy'
      obtain ⟨b, hb1, rfl⟩ := List.mem_map.mp hy'
      obtain ⟨x, hx1, rfl⟩ := List.mem_map.mp hb1
      obtain ⟨kv, _, k2⟩ := paired_memR pr hx1
      exact ⟨_, _, rfl, k2.2.1⟩
    have r2 : Paired (TripH H) ys ts' := paired_up r2 fun y p hy hp => by
      obtain ⟨b, zs, rfl, h1⟩ := hH y hy
      obtain ⟨t, e, h2⟩ := hp
      cases e
      have := I1.tuple_inj (.inl (.inl h1)) h2
      subst this
      exact ⟨b, rfl, h1⟩
    obtain ⟨e', he'⟩ := PyProof.Rows.sortedHeap_at (vs := acc'.toList) (out := out.toArray) hoL
    refine wpAny_pure ⟨_, rfl, .ref h'.objs.size, upd H h'.objs.size (.lst ys), I1.laid (t' := tk) (fun b u e => ?_) (Nat.le_refl _)
      (show ObjOk X.prog X.w _ _ _ (.lst ys) from ⟨by rw [r4]; exact hz, out, e', r1, he'⟩), rfl, q ys ts' _ r2 r3 (I1.hok.fresh (Nat.le_refl _))⟩
    have hb' : b < h'.objs.size := Heap.lt_size e
    rw [PyProof.Rows.sortedHeap_old (Nat.ne_of_lt hb') (by rw [size_push']; exact Nat.lt_succ_of_lt hb')]
    exact Heap.get?_push_of_some _ e
end
/-! ### the rules over plain data -/
def trD (t : Int × Int × Int) : D := .tuple [.int t.1, .int t.2.1, .int t.2.2]
theorem dq_trip {K : PySem.W.Frag} {h : Hp} {v : V} {t : Int × Int × Int} (q : Dq K h v (trD t)) : TripAt K h v t := by
  cases q with
  | tup h1 _ h2 =>
    cases h2 with
    | cons a h2 => cases h2 with
      | cons b h2 => cases h2 with
        | cons c h2 =>
          cases h2; cases a; cases b; cases c
          exact ⟨_, rfl, h1⟩
theorem trip_dq {K : PySem.W.Frag} {h : Hp} {v : V} {t : Int × Int × Int} (q : TripAt K h v t) : Dq K h v (trD t) := by
  obtain ⟨b, rfl, q⟩ := q
  exact .tup q (fun e => by cases e) (.cons (.int _) (.cons (.int _) (.cons (.int _) .nil)))
theorem trips_pair {K : PySem.W.Frag} {h : Hp} : ∀ {xs : List V} {ts : List (Int × Int × Int)}, DqAll K h xs (ts.map trD) → Paired (TripAt K h) xs ts
  | [], [], _ => .nil
  | [], t :: ts, q => nomatch q
  | x :: xs, [], q => nomatch q
  | x :: xs, t :: ts, .cons a q => .cons (dq_trip a) (trips_pair q)
theorem pair_trips {K : PySem.W.Frag} {h : Hp} : ∀ {xs : List V} {ts : List (Int × Int × Int)}, Paired (TripAt K h) xs ts → DqAll K h xs (ts.map trD)
  | _, _, .nil => .nil
  | _, _, .cons a q => .cons (trip_dq a) (pair_trips q)
theorem zip_paired {α β : Type} {F : α → β → Prop} : ∀ {l : List α} {r : List β}, l.length = r.length → (∀ p ∈ l.zip r, F p.1 p.2) → Paired F l r
  | [], [], _, _ => .nil
  | a :: l, b :: r, e, h => .cons (h (a, b) (List.mem_cons_self ..)) (zip_paired (by simpa using e) fun p hp => h p (List.mem_cons_of_mem _ hp))
theorem paired_zip {α β : Type} {F : α → β → Prop} : ∀ {l : List α} {r : List β}, Paired F l r → ∀ p ∈ l.zip r, F p.1 p.2
  | _, _, .nil => fun p hp => by cases hp
  | _, _, .cons q t => fun p hp => by
    rcases List.mem_cons.mp hp with rfl | hp
    · exact q
    · exact paired_zip t p hp
/-- sorted of a list of triples of ints; of a dict by such -/
def bSortT : AC1 := fun avs m Q => match avs with
  | [x] => match dtA m x with
    | some kvs => ∃ ts, kvs.map (·.1) = ts.map key3 ∧ ∀ ts', SrtT ts' ts → Q (.d (.list (ts'.map trD))) m
    | none => match lstA m x with
      | some ds => ∃ ts, ds = ts.map trD ∧ ∀ ts', SrtT ts' ts → Q (.d (.list (ts'.map trD))) m
      | none => False
  | _ => False
section
variable {X : Cx}
theorem cq_sortT (hc : X.calm = true) : CallQ X (.builtin "sorted") bSortT := by
  refine ⟨_, CallR.or (cr_sortDT hc) cr_sortT3, fun C L Mo H m avs vs Q AQ hK b r k hh => ?_⟩
  have lst : ∀ (l : Addr) (xs : List V) (ts : List (Int × Int × Int)), SqL X.K H l xs → DqAll C.K (C.hd L Mo H) xs (ts.map trD) → (∀ ts', SrtT ts' ts → AQ (.d (.list (ts'.map trD))) m) →
      ∀ ys ts' p, ys.length = ts'.length → (ys.zip ts').Perm (xs.zip ts) → SrtT ts' ts → H p = none → Q (.ref p) (upd H p (.lst ys)) := by
    intro l xs ts h1 h2 h3 ys ts' p hl hz hs hp
    refine k.lst b hp (pair_trips (zip_paired hl fun p hp => ?_)) (h3 ts' hs)
    exact paired_zip (trips_pair h2) p (hz.mem_iff.mp hp)
  unfold bSortT at hh
  split at hh
  · rename_i x
    obtain ⟨v, rfl, rv⟩ := av1 r
    split at hh
    · rename_i kvs e
      obtain ⟨ts, h1, h2⟩ := hh
      obtain ⟨l, ys, rfl, h4, h5⟩ := dtA_ok b rv e
      refine .inl ⟨l, ys, ts, rfl, .inl h4, h5.keys.trans h1, fun ys ts' p h6 h7 hp => k.lst b hp (pair_trips (paired_up h6 fun y t _ q => ?_)) (h2 ts' h7)⟩
      obtain ⟨c, rfl, q⟩ := q
      exact ⟨c, rfl, .inl (.inl (b.tup_hd q))⟩
    · split at hh
      · rename_i ds e
        obtain ⟨ts, rfl, h2⟩ := hh
        obtain ⟨l, xs, rfl, h1, h3⟩ := lstA_ok b rv e
        exact .inr ⟨l, xs, ts, rfl, SqL.of h1, hK ▸ (L2.Paired.mapP (trips_pair h3) fun _ _ q => by obtain ⟨t, e, q⟩ := q; exact ⟨t, e, same_tup hid_same q⟩), lst l xs ts (SqL.of h1) h3 h2⟩
      · exact hh.elim
  · exact hh.elim
end
/-! ### d[key], the key a tuple of data -/
section
variable {X : Cx} {o i : Expr} {pos : Pos} {td ty : TE} {ta tb : ATE}
def tDGetT (K : PySem.W.Frag) (td ty : TE) : TE := fun σ H Q => td σ H fun x H1 => ty σ H1 fun y H2 => ∃ a v kvs ks b, x = .ref a ∧ H2 a = some (.dT kvs) ∧ y = .ref b ∧ SqT K H2 b (ks.map kV) ∧ valV kvs ks = some v ∧ Q v H2
theorem pe_dgetT (hu : X.A.units + 1 < cLine) (ho : PE X o td) (hi : PE X i ty) (hs : NoSl i) : PE X (.Subscript o i pos) (tDGetT X.K td ty) := by
  refine ⟨fun pins s σ H Q I h => ?_⟩
  refine subD_of PySem.F.slot_dict_getitem.lookup hs (thn (ho.run pins s σ H _ I h) fun u s1 ⟨x, H1, I1, rx, q1⟩ => thn (hi.run pins s1 σ H1 _ I1 q1) fun iv s2 ⟨y, H2, I2, ry, a, v, kvs, ks, b, ex, e, ey, eb, l, q2⟩ => ?_)
  subst ex
  obtain rfl : u = Value.ref a := rx
  obtain ⟨z, hd, xs, rel, dd⟩ := dt_of I2.hok e
  refine ⟨?_, ?_⟩
  · obtain ⟨o', es, ep, h1, h2, h3⟩ := dd
    exact ⟨_, h1, h2.1⟩
  · subst ey
    cases (show iv = Value.ref b from ry)
    obtain ⟨w', hw, rw'⟩ := RelO.some_of (v := v) (o := (atKey xs ks).map (·.2)) (by rw [← l]; exact rel.val ks)
    obtain ⟨p, hp, hp2⟩ := Option.map_eq_some_iff.mp hw
    have key : (tupleKind (mixKind X.prog X.w)).is s2.heap ks b := by
      obtain ⟨its, r, ⟨o', h1, h2, n, h3⟩, _⟩ := I2.tuple eb
      exact ⟨o', its.toArray, n, h1, h2, h3, by simpa using items_are r⟩
    refine wpAny_getItem_heap (tupleKind_room_in1 hu) key dd hp ?_
    rw [hp2]
    exact ⟨v, H2, I2.tok _, rw', q2⟩
def aDixT (td ty : ATE) : ATE := fun a Q => td a fun x m1 => ty ⟨a.g, m1⟩ fun y m2 => match dtA m2 x, y with
  | some kvs, .d (.tuple ds) => match keysD ds with
    | some ks => match valD kvs ks with
      | some d => Q (.d d) m2
      | none => False
    | none => False
  | _, _ => False
theorem q_dixT (hu : X.A.units + 1 < cLine) (ho : QE X o ta) (hi : QE X i tb) (hs : NoSl i := by intro _ _; rfl) : QE X (.Subscript o i pos) (aDixT ta tb) := fun C hK => PE.imp (pe_dgetT hu (ho C hK) (hi C hK) hs) fun σ H Q ⟨a, L, Mo, AQ, r, k, h⟩ => by
  refine ⟨a, L, Mo, _, r, fun x m1 v L1 Mo1 H1 h1 b1 v1 e1 => ⟨⟨a.g, m1⟩, L1, Mo1, _, r.next b1 e1, fun y m2 w L2 Mo2 H2 h2 b2 w2 e2 => ?_, h1⟩, h⟩
  split at h2
  · rename_i kvs ds e
    split at h2
    · rename_i ks ek
      split at h2
      · rename_i d ed
        obtain ⟨l, ys, rfl, h4, h5⟩ := dtA_ok b2 (v1.mono e2) e
        obtain ⟨t, xs, rfl, g1, g2⟩ := tupA_ok (ds := ds) w2 rfl
        have hx := keysD_ok g2 ek
        subst hx
        have q := h5.opt ks
        rw [ed] at q
        obtain ⟨z, hz, q⟩ := q.some_
        exact ⟨l, z, ys, ks, t, rfl, h4, rfl, hK ▸ g1, hz, ((k.aft e1).aft e2).ret h2 b2 q⟩
      · exact h2.elim
    · exact h2.elim
  · exact h2.elim
end
/-- a def of the text under another name -/
def DefAt2 (K : PySem.W.Frag) (mg : Str → Option Value) (x y : Str) (st : Stmt) (ps : List Str) : Prop := ∃ (f : Addr) (fd : FuncData), mg x = some (.ref f) ∧ Fun K y y st f fd ∧ Binds K fd ps []
section
variable {P : Program} {w : World} {K : PySem.W.Frag} {mg : Str → Option Value} {base : Heap}
theorem DefAt2.callee {x y : Str} {st : Stmt} {ps N : List Str} {k n : Nat} {fn : AFn} {t : ATS} (Df : DefAt2 K mg x y st ps) (S : FnScope N ps (defScope st)) (hn : ps.length = n)
    (hbody : ∀ (f : Addr) (cdv : Value) (A : Around) (outer : List Env) (s : Shared) (H : Hp) (E : XK), Room k (A.deeper (envOfC y (defScope st) s.heap.objs.size f cdv)) → (A.deeper (envOfC y (defScope st) s.heap.objs.size f cdv)).guards = some [] →
      QSs (cxOf CX0 P w K mg base N y (defScope st) f cdv A outer s H E).nox (defBody st) t)
    (hf : ∀ avs s AQ, fn avs s AQ → t (endsA AQ) ⟨startA N avs, ⟨s, []⟩⟩) : Callee P w K mg base x (k + 1) n fn := by
  obtain ⟨f, fd, h1, h2, h3⟩ := Df
  exact ⟨f, fd, ps, h1, h2.kp, h3, fn_okA h2 S hn (hbody f) hf⟩
theorem Callee.none {x : Str} {st : Stmt} {ps : List Str} {k n : Nat} (Df : DefAt K mg x st ps) : Callee P w K mg base x k n (fun _ _ _ => False) := by
  obtain ⟨f, fd, h1, h2, h3⟩ := Df
  exact ⟨f, fd, ps, h1, h2.kp, h3, ⟨fun vs H Q E ⟨_, _, _, _, _, _, _, _, _, h⟩ => h.elim, fun A outer s H args us vs Q E _ _ _ _ _ ⟨_, _, _, _, _, _, _, _, _, h⟩ => h.elim⟩⟩
end
end QL

namespace QL
open PySem RZ
open PySem.Sem (wp)
/-! ### zip of two tuples, strict=True -/
abbrev ZipS (h : Heap) (z TI TO : Addr) (f0 : Value) : Prop :=
  h.get? z = some { cls := .type "zip", dict := none, data := .fields #[f0, .bool false, .bool true, .ref TI, .ref TO], slots := #[] }
section
variable {prog : Program} {w : World} {A : Around} {E : Value → Shared → Prop} {s : Shared}
theorem orEnd_item {it l : Addr} {i : Nat} {items} {x : Value} {Q : Option Value → Shared → Prop} (hit : s.heap.IsTupleIter it l i) (hl : s.heap.IsTuple l items) (hx : items[i]? = some x)
    (hQ : ∀ h', h'.IsTupleIter it l (i + 1) → Heap.SameBut it s.heap h' → Q (some x) { s with heap := h' }) : wpAny (model prog w) A (Builtin.SmallTypes.nextOrEnd (.ref it)) Q E s := by
  unfold Builtin.SmallTypes.nextOrEnd
  exact wpAny_bind (wpAny_attempt (nextOf_tuple_item hit hl hx fun h' a b => wpAny_pure (hQ h' a b)))
theorem orEnd_end {it l : Addr} {i : Nat} {items} {Q : Option Value → Shared → Prop} (hh : A.handled = none) (hit : s.heap.IsTupleIter it l i) (hl : s.heap.IsTuple l items) (hx : items[i]? = none)
    (hQ : ∀ h', Heap.ExtBut it s.heap h' → Q none { s with heap := h' }) : wpAny (model prog w) A (Builtin.SmallTypes.nextOrEnd (.ref it)) Q E s := by
  unfold Builtin.SmallTypes.nextOrEnd
  refine wpAny_bind (wpAny_attempt (nextOf_tuple_end hh hit hl hx fun h' e hb he => ?_))
  obtain ⟨o, ho, hc⟩ := he
  refine wpAny_bind (wpAny_isInstance (T := "StopIteration") (b := true) ⟨o, ho, hc⟩ isSubtype_stop ?_)
  exact wpAny_pure (hQ h' hb)
/-- the pair that a turn gives is new; all but the zip's own cells stays -/
structure TurnS (h h' : Heap) (z TI TO i1 i2 l1 l2 : Addr) (k : Nat) (x y : Value) : Prop where
  zip : ZipS h' z TI TO (rawInt h.objs.size)
  kept : IsPair h' TO x y
  one : h'.IsTupleIter i1 l1 (k + 1)
  two : h'.IsTupleIter i2 l2 (k + 1)
  made : IsPair h' h.objs.size x y
  size : h'.objs.size = h.objs.size + 1
  rest : ∀ c o, c ≠ z → c ≠ TO → c ≠ i1 → c ≠ i2 → h.get? c = some o → h'.get? c = some o
variable {z TI TO i1 i2 l1 l2 : Addr} {k : Nat} {xs ys : Array Value} {x y a b : Value}
theorem zipS_item {Q : Value → Shared → Prop} (D : ZipApart z TI TO i1 i2 l1 l2) (hz : ZipS s.heap z TI TO .none) (hTI : IsPair s.heap TI (.ref i1) (.ref i2)) (hTO : IsPair s.heap TO a b)
    (h1 : s.heap.IsTupleIter i1 l1 k) (h2 : s.heap.IsTupleIter i2 l2 k) (hl1 : s.heap.IsTuple l1 xs) (hl2 : s.heap.IsTuple l2 ys) (hx : xs[k]? = some x) (hy : ys[k]? = some y)
    (hQ : ∀ h', TurnS s.heap h' z TI TO i1 i2 l1 l2 k x y → Q (.ref s.heap.objs.size) { s with heap := h' }) :
    wpAny (model prog w) A (Builtin.«zip.__next__» ⟨[.ref z], []⟩) (fun fin s' => ∃ v, fin = .done (.ret v) ∧ Q v s') E s := by
  show wpAny _ _ (field (.ref z) 2 >>= _) _ _ _
  refine wpAny_bind (wpAny_field hz rfl (x := .bool true) rfl ?_)
  show wpAny _ _ (field (.ref z) 3 >>= _) _ _ _
  refine wpAny_bind (wpAny_field hz rfl (x := .ref TI) rfl ?_)
  refine wpAny_bind (wpAny_seqItems hTI rfl ?_)
  show wpAny _ _ (Builtin.SmallTypes.ownedTupleIsFree (.ref z) >>= _) _ _ _
  refine wpAny_bind ?_
  unfold Builtin.SmallTypes.ownedTupleIsFree
  refine wpAny_bind (wpAny_field hz rfl (x := .none) rfl (wpAny_pure ?_))
  simp only [if_true]
  refine wpAny_bind (wpAny_rule (wpAny_bind (wpAny_field hz rfl (x := .ref TO) rfl (wpAny_bind (wpAny_setField_rec hz (by simp) fun h₁ z1 b1 => ?_)))))
  replace z1 : ZipS h₁ z TI TO .ellipsis := z1
  refine wpAny_bind ?_
  simp only [List.zipIdx_cons, List.zipIdx_nil, List.forIn_cons, List.forIn_nil]
  -- the first draw
  refine wpAny_bind (wpAny_bind (wpAny_onRaise ?_))
  show wpAny _ _ (Builtin.SmallTypes.nextOrEnd (.ref i1)) _ _ _
  refine orEnd_item (h1.extBut b1.extBut D.i1z) (hl1.extBut b1.extBut D.l1z) hx fun h₂ it2 b2 => ?_
  have o2 : IsPair h₂ TO a b := (b2.2 _ D.TOi1).trans ((b1.2 _ D.TOz).trans hTO)
  refine wpAny_bind (wpAny_seqItems o2 rfl (wpAny_bind (wpAny_updateSeq_pair o2 fun h₃ o3 b3 => wpAny_bind (wpAny_letGo (wpAny_pure ?_)))))
  replace o3 : IsPair h₃ TO x b := o3
  -- the second draw
  refine wpAny_bind (wpAny_bind (wpAny_onRaise ?_))
  show wpAny _ _ (Builtin.SmallTypes.nextOrEnd (.ref i2)) _ _ _
  refine orEnd_item (((h2.extBut b1.extBut D.i2z).extBut b2.extBut D.i12.symm).extBut b3.extBut D.TOi2.symm)
    (((hl2.extBut b1.extBut D.l2z).extBut b2.extBut D.l2i1).extBut b3.extBut D.l2TO) hy fun h₄ it4 b4 => ?_
  have o4 : IsPair h₄ TO x b := (b4.2 _ D.TOi2).trans o3
  refine wpAny_bind (wpAny_seqItems o4 rfl (wpAny_bind (wpAny_updateSeq_pair o4 fun h₅ o5 b5 => wpAny_bind (wpAny_letGo (wpAny_pure (wpAny_pure ?_))))))
  replace o5 : IsPair h₅ TO x y := o5
  have far : ∀ c o, c ≠ z → c ≠ TO → c ≠ i1 → c ≠ i2 → s.heap.get? c = some o → h₅.get? c = some o := fun c o c1 c2 c3 c4 e =>
    (b5.2 _ c2).trans ((b4.2 _ c4).trans ((b3.2 _ c2).trans ((b2.2 _ c3).trans ((b1.2 _ c1).trans e))))
  have z5 : ZipS h₅ z TI TO .ellipsis := (b5.2 _ D.TOz.symm).trans ((b4.2 _ D.i2z.symm).trans ((b3.2 _ D.TOz.symm).trans ((b2.2 _ D.i1z.symm).trans z1)))
  have sz : h₅.objs.size = s.heap.objs.size := by rw [b5.1, b4.1, b3.1, b2.1, b1.1]
  have i5 : h₅.IsTupleIter i1 l1 (k + 1) := ((it2.extBut b3.extBut D.TOi1.symm).extBut b4.extBut D.i12).extBut b5.extBut D.TOi1.symm
  have j5 : h₅.IsTupleIter i2 l2 (k + 1) := it4.extBut b5.extBut D.TOi2.symm
  refine wpAny_bind (wpAny_seqItems o5 rfl (wpAny_bind (wpAny_newTuple ?_)))
  show wpAny _ _ (Builtin.SmallTypes.ownedTupleHandOut (.ref z) (.ref h₅.objs.size) >>= _) _ _ _
  refine wpAny_bind ?_
  unfold Builtin.SmallTypes.ownedTupleHandOut
  have zlt : z < h₅.objs.size := Heap.lt_size z5
  have z6 : ZipS (h₅.push { cls := .type "tuple", data := .seq #[x, y] }) z TI TO .ellipsis := Heap.get?_push_of_some _ z5
  refine wpAny_bind (wpAny_setField_rec z6 (by simp) fun h₇ z7 b7 => ?_)
  replace z7 : ZipS h₇ z TI TO (rawInt h₅.objs.size) := z7
  refine wpAny_setField_rec z7 (by simp) fun h₈ z8 b8 => ?_
  replace z8 : ZipS h₈ z TI TO (rawInt h₅.objs.size) := z8
  have up : ∀ c o, c ≠ z → h₅.get? c = some o → h₈.get? c = some o := fun c o c1 e => (b8.2 _ c1).trans ((b7.2 _ c1).trans (Heap.get?_push_of_some _ e))
  have m8 : IsPair h₈ h₅.objs.size x y := (b8.2 _ (Nat.ne_of_gt zlt)).trans ((b7.2 _ (Nat.ne_of_gt zlt)).trans (Heap.get?_push_size _ rfl))
  have s8 : h₈.objs.size = h₅.objs.size + 1 := by rw [b8.1, b7.1, Heap.size_push]
  rw [sz] at z8 m8 s8
  refine wpAny_pure ⟨_, rfl, ?_⟩
  show Q (.ref h₅.objs.size) _
  rw [sz]
  exact hQ h₈ ⟨z8, up _ _ D.TOz o5, i5.at fun o e => up _ o D.i1z e, j5.at fun o e => up _ o D.i2z e, m8, s8, fun c o c1 c2 c3 c4 e => up c o c1 (far c o c1 c2 c3 c4 e)⟩
theorem zipS_end {Q : Fin → Shared → Prop} (hh : A.handled = none) (D : ZipApart z TI TO i1 i2 l1 l2) (hz : ZipS s.heap z TI TO .none) (hTI : IsPair s.heap TI (.ref i1) (.ref i2)) (hTO : IsPair s.heap TO a b)
    (h1 : s.heap.IsTupleIter i1 l1 k) (h2 : s.heap.IsTupleIter i2 l2 k) (hl1 : s.heap.IsTuple l1 xs) (hl2 : s.heap.IsTuple l2 ys) (hx : xs[k]? = none) (hy : ys[k]? = none)
    (hE : ∀ h' e, (∀ c o, c ≠ z → c ≠ TO → c ≠ i1 → c ≠ i2 → s.heap.get? c = some o → h'.get? c = some o) → (∃ o, h'.get? e = some o ∧ o.cls = .type "StopIteration") → E (.ref e) { s with heap := h' }) :
    wpAny (model prog w) A (Builtin.«zip.__next__» ⟨[.ref z], []⟩) Q E s := by
  show wpAny _ _ (field (.ref z) 2 >>= _) _ _ _
  refine wpAny_bind (wpAny_field hz rfl (x := .bool true) rfl ?_)
  show wpAny _ _ (field (.ref z) 3 >>= _) _ _ _
  refine wpAny_bind (wpAny_field hz rfl (x := .ref TI) rfl ?_)
  refine wpAny_bind (wpAny_seqItems hTI rfl ?_)
  show wpAny _ _ (Builtin.SmallTypes.ownedTupleIsFree (.ref z) >>= _) _ _ _
  refine wpAny_bind ?_
  unfold Builtin.SmallTypes.ownedTupleIsFree
  refine wpAny_bind (wpAny_field hz rfl (x := .none) rfl (wpAny_pure ?_))
  simp only [if_true]
  refine wpAny_bind (wpAny_rule (wpAny_bind (wpAny_field hz rfl (x := .ref TO) rfl (wpAny_bind (wpAny_setField_rec hz (by simp) fun h₁ z1 b1 => ?_)))))
  replace z1 : ZipS h₁ z TI TO .ellipsis := z1
  refine wpAny_bind ?_
  simp only [List.zipIdx_cons, List.zipIdx_nil, List.forIn_cons, List.forIn_nil]
  refine wpAny_bind (wpAny_bind (wpAny_onRaise ?_))
  show wpAny _ _ (Builtin.SmallTypes.nextOrEnd (.ref i1)) _ _ _
  refine orEnd_end hh (h1.extBut b1.extBut D.i1z) (hl1.extBut b1.extBut D.l1z) hx fun h₂ b2 => ?_
  have z2 : ZipS h₂ z TI TO .ellipsis := b2 _ _ D.i1z.symm z1
  refine wpAny_bind (wpAny_setField_rec z2 (by simp) fun h₃ z3 b3 => ?_)
  have far : ∀ c o, c ≠ z → c ≠ TO → c ≠ i1 → c ≠ i2 → s.heap.get? c = some o → h₃.get? c = some o := fun c o c1 c2 c3 c4 e => (b3.2 _ c1).trans (b2 _ _ c3 ((b1.2 _ c1).trans e))
  refine wpAny_bind ?_
  refine wpAny_bind ?_
  simp only [List.drop_succ_cons, List.drop_zero, List.zipIdx_cons, List.zipIdx_nil, List.forIn_cons, List.forIn_nil]
  refine wpAny_bind (wpAny_bind ?_)
  have g2 : h₃.IsTupleIter i2 l2 k := h2.at fun o e => (b3.2 _ D.i2z).trans (b2 _ _ D.i12.symm ((b1.2 _ D.i2z).trans e))
  have t2 : h₃.IsTuple l2 ys := by
    obtain ⟨o, ho, hc, hd⟩ := hl2
    exact ⟨o, (b3.2 _ D.l2z).trans (b2 _ _ D.l2i1 ((b1.2 _ D.l2z).trans ho)), hc, hd⟩
  refine orEnd_end hh g2 t2 hy fun h₄ b4 => ?_
  rw [if_neg (by decide)]
  refine wpAny_pure (wpAny_pure ?_)
  refine wpAny_bind (wpAny_rule ?_)
  unfold Builtin.SmallTypes.stopIteration
  refine wpAny_bind ?_
  simp only [newExc, newTuple]
  refine wpAny_bind (wpAny_newObj_type ?_ (by size_fits))
  refine wpAny_bind (m := firstArgMember _ _) (wpAny_of_eq (a := Value.none) (by first | rfl | (simp only [firstArgMember]; rfl)) ?_)
  refine wpAny_newObj_type ?_ (by size_fits)
  simp only [raiseNew]
  refine wpAny_bind (wpAny_handled ?_)
  first | rw [show A.in1.handled = none from hh] | rw [hh]
  refine wpAny_bind (wpAny_pure (wpAny_throw ?_))
  exact hE _ _ (fun c o c1 c2 c3 c4 e => Heap.get?_push_of_some _ (Heap.get?_push_of_some _ (b4 _ _ c4 (far c o c1 c2 c3 c4 e)))) ⟨_, Heap.get?_push_size _ rfl, rfl⟩
theorem nextS_item {Q : Option Value → Shared → Prop} (D : ZipApart z TI TO i1 i2 l1 l2) (hz : ZipS s.heap z TI TO .none) (hTI : IsPair s.heap TI (.ref i1) (.ref i2)) (hTO : IsPair s.heap TO a b)
    (h1 : s.heap.IsTupleIter i1 l1 k) (h2 : s.heap.IsTupleIter i2 l2 k) (hl1 : s.heap.IsTuple l1 xs) (hl2 : s.heap.IsTuple l2 ys) (hx : xs[k]? = some x) (hy : ys[k]? = some y)
    (hQ : ∀ h', TurnS s.heap h' z TI TO i1 i2 l1 l2 k x y → Q (some (.ref s.heap.objs.size)) { s with heap := h' }) : wpAny (model prog w) A (pyNext (.ref z)) Q E s := by
  have hT : s.TypeIs (.ref z) "zip" := ⟨_, hz, rfl⟩
  unfold pyNext
  exact wpAny_bind (wpAny_attempt (wpAny_callSpecial?_slot (name := Str.ofString "__next__") hT F.slot_zip_next
    (wpAny_call_entry F.slot_zip_next hT F.entry_zip_next (zipS_item D hz hTI hTO h1 h2 hl1 hl2 hx hy fun h' t => wpAny_pure (hQ h' t)) (F.args_zip_next_1 _))))
theorem nextS_end {Q : Option Value → Shared → Prop} (hh : A.handled = none) (D : ZipApart z TI TO i1 i2 l1 l2) (hz : ZipS s.heap z TI TO .none) (hTI : IsPair s.heap TI (.ref i1) (.ref i2)) (hTO : IsPair s.heap TO a b)
    (h1 : s.heap.IsTupleIter i1 l1 k) (h2 : s.heap.IsTupleIter i2 l2 k) (hl1 : s.heap.IsTuple l1 xs) (hl2 : s.heap.IsTuple l2 ys) (hx : xs[k]? = none) (hy : ys[k]? = none)
    (hQ : ∀ h', (∀ c o, c ≠ z → c ≠ TO → c ≠ i1 → c ≠ i2 → s.heap.get? c = some o → h'.get? c = some o) → Q none { s with heap := h' }) : wpAny (model prog w) A (pyNext (.ref z)) Q E s := by
  have hT : s.TypeIs (.ref z) "zip" := ⟨_, hz, rfl⟩
  unfold pyNext
  refine wpAny_bind (wpAny_attempt (wpAny_callSpecial?_slot (name := Str.ofString "__next__") hT F.slot_zip_next
    (wpAny_call_entry F.slot_zip_next hT F.entry_zip_next (zipS_end hh D hz hTI hTO h1 h2 hl1 hl2 hx hy fun h' e hk he => ?_) (F.args_zip_next_1 _))))
  obtain ⟨o, ho, hc⟩ := he
  refine wpAny_bind (wpAny_isInstance (T := "StopIteration") (b := true) ⟨o, ho, hc⟩ isSubtype_stop ?_)
  exact wpAny_pure (hQ _ hk)
theorem letGoS {elts : List Expr} {x1} {pos : Pos} {T : Addr} {Q : Unit → Shared → Prop} (hz : ZipS s.heap z TI TO (rawInt T)) (hQ : ∀ h', ZipS h' z TI TO .none → Heap.SameBut z s.heap h' → Q () { s with heap := h' }) :
    wpAny (model prog w) A (letOwnedTupleGo (.Tuple elts x1 pos) (.ref z) (.ref T)) Q E s := by
  unfold letOwnedTupleGo
  refine wpAny_bind (wpAny_load hz ?_)
  show wpAny _ _ (if _ then _ else _) Q E s
  rw [if_pos (by simp)]
  refine wpAny_bind (wpAny_rule ?_)
  show wpAny _ _ (setField (.ref z) 0 .none) Q E s
  exact wpAny_setField_rec hz (by simp) fun h' hz' hs' => hQ h' hz' hs'
theorem iterS {f0 : Value} {Q : Value → Shared → Prop} (hz : ZipS s.heap z TI TO f0) (h : Q (.ref z) s) : wpAny (model prog w) A (pyIter (.ref z)) Q E s := by
  have hT : s.TypeIs (.ref z) "zip" := ⟨_, hz, rfl⟩
  refine wpAny_pyIter_slot hT F.slot_zip_iter (wpAny_call_entry F.slot_zip_iter hT F.entry_zip_iter ?_ (F.args_zip_iter_1 _))
  show wpAny _ _ (ret (.ref z)) _ _ s
  exact wpAny_pure ⟨_, rfl, "zip", _, hT, F.slot_zip_next.lookup, h⟩
theorem callWith_typeKw {M : Model} {pos : Pos} {T : String} {first : List Value} {args : List (Bool × Sem Value)} {kws : List (Option Str × Sem Value)} {Q : Value → Shared → Prop} (hplain : args.any (·.1) = false) (hkw : kws.any (·.1.isNone) = false)
    (h : wpAny M A (evalArgs (.type T) true args kws) (fun a s₁ => wpAny M A (call (.type T) (first ++ a.pos) a.kw) Q E s₁) E s) : wpAny M A (callWith pos (.type T) first args kws) Q E s := by
  unfold callWith
  refine wpAny_bind (wpAny_holding (wpAny_mono h (fun a s₁ h₁ => wpAny_bind (wpAny_standAt ?_)) fun _ _ x => x))
  simp only [hplain, hkw, Bool.or_false]
  refine wpAny_bind (wpAny_pure ?_)
  exact wpAny_bind (wpAny_mono h₁ (fun r s₂ hr => wpAny_bind (wpAny_holding (wpAny_point (wpAny_pure hr)))) fun _ _ x => x)
end
theorem typeCall_zipS (a b c : Value) : checkTypeCall "zip" ⟨[a, b], [(Str.ofString "strict", c)]⟩ = pure () := by kernel_rfl
theorem newCall_zipS (a b c : Value) : checkBuiltinCall "zip.__new__" ⟨[.type "zip", a, b], [(Str.ofString "strict", c)]⟩ = pure () := by kernel_rfl
theorem initArgs_zipS (o a b c : Value) : PySem.argsOk "object.__init__" ⟨[o, a, b], [(Str.ofString "strict", c)]⟩ := by unfold PySem.argsOk; kernel_rfl
abbrev zs1 (h : Heap) (l1 : Addr) : Heap := h.push { cls := .type "tuple_iterator", data := .fields #[.ref l1, .int 0 0] }
abbrev zs2 (h : Heap) (l1 l2 : Addr) : Heap := (zs1 h l1).push { cls := .type "tuple_iterator", data := .fields #[.ref l2, .int 0 0] }
abbrev zs3 (h : Heap) (l1 l2 : Addr) : Heap := (zs2 h l1 l2).push { cls := .type "tuple", data := .seq #[.ref h.objs.size, .ref (zs1 h l1).objs.size] }
abbrev zs4 (h : Heap) (l1 l2 : Addr) : Heap := (zs3 h l1 l2).push { cls := .type "tuple", data := .seq #[.none, .none] }
abbrev zs5 (h : Heap) (l1 l2 : Addr) : Heap := (zs4 h l1 l2).push { cls := .type "zip", data := .fields #[.none, .bool false, .bool true, .ref (zs2 h l1 l2).objs.size, .ref (zs3 h l1 l2).objs.size] }
theorem meets_zipS (l1 l2 : Addr) (xs ys : Array Value) :
    Meets (Builtin.«zip.__new__» ⟨[.type "zip", .ref l1, .ref l2], [(Str.ofString "strict", .bool true)]⟩) (fun _ R s => s.heap.IsTuple l1 xs ∧ s.heap.IsTuple l2 ys ∧
      R (.ok (.ret (.ref (zs4 s.heap l1 l2).objs.size))) { s with heap := zs5 s.heap l1 l2 }) :=
  .of_wp fun prog w A R s h => by
    obtain ⟨hp, g, d, tk, os⟩ := s; obtain ⟨hl1, hl2, h⟩ := h
    have hsub := sub_zip
    have hL1 : Heap.IsTuple (Shared.heap ⟨hp, g, d, tk, os⟩) l1 xs := hl1
    have hL2 : Heap.IsTuple (Shared.heap ⟨hp.push { cls := .type "tuple_iterator", data := .fields #[.ref l1, .int 0 0] }, g, d, tk, os⟩) l2 ys := Heap.IsTuple.push hl2 _
    have e2 : (Str.ofString "strict" != ("strict" : Str)) = false := by decide +kernel
    wp_walk using wpAny_pyIter_tuple hL1, wpAny_pyIter_tuple hL2
    exact ⟨_, rfl, h⟩
section
variable {prog : Program} {w : World} {A : Around} {E : Value → Shared → Prop} {s : Shared}
theorem call_zipS {l1 l2 : Addr} {xs ys : Array Value} {Q : Value → Shared → Prop} (hl1 : s.heap.IsTuple l1 xs) (hl2 : s.heap.IsTuple l2 ys)
    (h : ∀ h', ZipS h' (s.heap.objs.size + 4) (s.heap.objs.size + 2) (s.heap.objs.size + 3) .none → IsPair h' (s.heap.objs.size + 2) (.ref s.heap.objs.size) (.ref (s.heap.objs.size + 1)) →
      IsPair h' (s.heap.objs.size + 3) .none .none → h'.IsTupleIter s.heap.objs.size l1 0 → h'.IsTupleIter (s.heap.objs.size + 1) l2 0 →
      (∀ c o, s.heap.get? c = some o → h'.get? c = some o) → Q (.ref (s.heap.objs.size + 4)) { s with heap := h' }) :
    wpAny (model prog w) A (call (.type "zip") [.ref l1, .ref l2] [(Str.ofString "strict", .bool true)]) Q E s := by
  refine callType_newKw F.called_zip (by decide) (typeCall_zipS _ _ _) (newCall_zipS _ _ _) (fun obj => initArgs_zipS obj _ _ _) F.entry_zip_new (meets_zipS l1 l2 xs ys) ⟨hl1, hl2, ?_⟩
  have z1 : (zs1 s.heap l1).objs.size = s.heap.objs.size + 1 := Heap.size_push ..
  have z2 : (zs2 s.heap l1 l2).objs.size = s.heap.objs.size + 2 := by rw [Heap.size_push, z1]
  have z3 : (zs3 s.heap l1 l2).objs.size = s.heap.objs.size + 3 := by rw [Heap.size_push, z2]
  have z4 : (zs4 s.heap l1 l2).objs.size = s.heap.objs.size + 4 := by rw [Heap.size_push, z3]
  have p1 : ∀ {h : Heap} {o : Obj} {c : Addr} {u : Obj}, h.get? c = some u → (h.push o).get? c = some u := fun e => Heap.get?_push_of_some _ e
  have g5 : (zs5 s.heap l1 l2).get? (zs4 s.heap l1 l2).objs.size = some _ := Heap.get?_push_size _ rfl
  have g4 : (zs5 s.heap l1 l2).get? (zs3 s.heap l1 l2).objs.size = some _ := p1 (Heap.get?_push_size _ rfl)
  have g3 : (zs5 s.heap l1 l2).get? (zs2 s.heap l1 l2).objs.size = some _ := p1 (p1 (Heap.get?_push_size _ rfl))
  have g2 : (zs5 s.heap l1 l2).get? (zs1 s.heap l1).objs.size = some _ := p1 (p1 (p1 (Heap.get?_push_size _ rfl)))
  have g1 : (zs5 s.heap l1 l2).get? s.heap.objs.size = some _ := p1 (p1 (p1 (p1 (Heap.get?_push_size _ rfl))))
  show _ ∧ _
  rw [z2, z3, z4] at g5
  rw [z1, z2] at g3
  rw [z3] at g4
  rw [z1] at g2
  rw [z4]
  exact ⟨⟨_, g5, rfl⟩, h _ g5 g3 g4 ⟨_, g1, rfl, rfl⟩ ⟨_, g2, rfl, rfl⟩ fun c o x => p1 (p1 (p1 (p1 (p1 x))))⟩
end
section
open PySem.Spec PyProof.Rows L2
/-- as ItzT, ended where both tuples are -/
def ItzS (K : PySem.W.Frag) (a b : Addr) : It :=
  ⟨(ItzT K a b).go, (ItzT K a b).yld, fun i H => ∃ xs ys : List V, SqT K H a xs ∧ SqT K H b ys ∧ xs.length ≤ i ∧ ys.length ≤ i⟩
theorem turn_zipS {P : Program} {w : World} {K : PySem.W.Frag} {elts : List Expr} {kk : Nat} {tpos : Pos} {a b z TI TO i1 i2 : Addr} (D : ZipApart z TI TO i1 i2 a b) :
    Turn P w K (.Tuple elts kk tpos) (ItzS K a b) [z, TI, TO, i1, i2] z (fun i h => ZipS h z TI TO .none ∧ IsPair h TI (.ref i1) (.ref i2) ∧ (∃ x y, IsPair h TO x y) ∧ h.IsTupleIter i1 a i ∧ h.IsTupleIter i2 b i) where
  mem := by simp
  obj := fun i h st c hc => by
    obtain ⟨hz, hTI, ⟨x, y, hTO⟩, ⟨o1, e1, _, d1⟩, ⟨o2, e2, _, d2⟩⟩ := st
    simp only [List.mem_cons, List.not_mem_nil, or_false] at hc
    rcases hc with q | q | q | q | q
    · rw [q]; exact ⟨_, hz, fun v q => nomatch q⟩
    · rw [q]; exact ⟨_, hTI, fun v q => nomatch q⟩
    · rw [q]; exact ⟨_, hTO, fun v q => nomatch q⟩
    · rw [q]; exact ⟨o1, e1, fun v q => by rw [d1] at q; cases q⟩
    · rw [q]; exact ⟨o2, e2, fun v q => by rw [d2] at q; cases q⟩
  keep := fun i h h' st k => by
    obtain ⟨hz, hTI, ⟨x, y, hTO⟩, h1, h2⟩ := st
    exact ⟨k z (by simp) _ hz, k TI (by simp) _ hTI, ⟨x, y, k TO (by simp) _ hTO⟩, h1.at fun o q => k i1 (by simp) o q, h2.at fun o q => k i2 (by simp) o q⟩
  item := by
    intro X hP hw hK hc i pins s σ H E I hf st hg
    subst hP hw hK
    obtain ⟨hz, hTI, ⟨x0, y0, hTO⟩, h1, h2⟩ := st
    obtain ⟨xs, ys, x, y, hqx, hqy, hx, hy⟩ := hg
    obtain ⟨its, rv, p, _⟩ := I.tuple hqx
    obtain ⟨its2, rv2, p2, _⟩ := I.tuple hqy
    obtain ⟨u, hu, ru⟩ := rv.get hx
    obtain ⟨u2, hu2, ru2⟩ := rv2.get hy
    have zlt : z < s.heap.objs.size := Heap.lt_size hz
    refine nextS_item D hz hTI hTO h1 h2 p p2 (x := u) (y := u2) (by simpa using hu) (by simpa using hu2) fun h' t => ?_
    refine ⟨_, rfl, letGoS (s := { s with heap := h' }) t.zip fun h'' z'' sb => ?_⟩
    have made2 : h''.get? s.heap.objs.size = some { cls := .type "tuple", data := .seq #[u, u2] } := (sb.2 _ (Nat.ne_of_gt zlt)).trans t.made
    have new : ObjOk X.prog X.w (upd H s.heap.objs.size (.tup [x, y])) h'' s.heap.objs.size (.tup [x, y]) :=
      ⟨by show 2 ≤ sizeLine; decide, [u, u2], .cons ru (.cons ru2 .nil), ⟨_, made2, rfl, _, rfl⟩⟩
    have out : ∀ {c : Addr}, c ∉ [z, TI, TO, i1, i2] → c ≠ z ∧ c ≠ TO ∧ c ≠ i1 ∧ c ≠ i2 := fun {c} hb => by
      simp only [List.mem_cons, List.not_mem_nil, or_false, not_or] at hb
      exact ⟨hb.1, hb.2.2.1, hb.2.2.2.1, hb.2.2.2.2⟩
    have I1 : Inv X pins σ (upd H s.heap.objs.size (.tup [x, y])) { s with heap := h'' } :=
      I.turnedNew (t' := s.toks) (ch := [z, TI, TO, i1, i2]) (fun c o hb q => by
        obtain ⟨n1, n2, n3, n4⟩ := out hb
        exact (sb.2 c n1).trans (t.rest c o n1 n2 n3 n4 q)) hf (Nat.le_refl _) new
    refine ⟨.ref s.heap.objs.size, _, I1, rfl, ⟨_, x, y, rfl, I.hok.fresh (Nat.le_refl _), rfl, fun l hl => by rw [I.tuple_inj hl hqx]; exact hx, fun l hl => by rw [I.tuple_inj hl hqy]; exact hy⟩, ⟨z'', ?_, ⟨u, u2, ?_⟩, ?_, ?_⟩, fun c hcm => ?_⟩
    · exact (sb.2 _ D.TIz).trans (t.rest _ _ D.TIz D.TITO D.TIi1 D.TIi2 hTI)
    · exact (sb.2 _ D.TOz).trans t.kept
    · exact t.one.at fun o q => (sb.2 _ D.i1z).trans q
    · exact t.two.at fun o q => (sb.2 _ D.i2z).trans q
    · have hlt : c < s.heap.objs.size := by
        have hc' := hcm
        simp only [List.mem_cons, List.not_mem_nil, or_false] at hc'
        rcases hc' with q | q | q | q | q
        · rw [q]; exact zlt
        · rw [q]; exact Heap.lt_size hTI
        · rw [q]; exact Heap.lt_size hTO
        · rw [q]; obtain ⟨_, e1, _⟩ := h1; exact Heap.lt_size e1
        · rw [q]; obtain ⟨_, e2, _⟩ := h2; exact Heap.lt_size e2
      rw [upd_ne (Nat.ne_of_lt hlt)]
      exact (hf c hcm).1
  done := by
    intro X hP hw hK hc i pins s σ H E I hf st hg
    subst hP hw hK
    obtain ⟨hz, hTI, ⟨x0, y0, hTO⟩, h1, h2⟩ := st
    obtain ⟨xs, ys, hqx, hqy, hend1, hend2⟩ := hg
    obtain ⟨its, rv, p, _⟩ := I.tuple hqx
    obtain ⟨its2, rv2, p2, _⟩ := I.tuple hqy
    have e1 := rv.length
    have e2 := rv2.length
    refine nextS_end (I.ok.hd hc) D hz hTI hTO h1 h2 p p2 (by simp; omega) (by simp; omega) fun h' hk => ⟨rfl, I.turnedL (t' := s.toks) (ch := [z, TI, TO, i1, i2]) (fun c o hb q => ?_) hf⟩
    simp only [List.mem_cons, List.not_mem_nil, or_false, not_or] at hb
    exact hk c o hb.1 hb.2.2.1 hb.2.2.2.1 hb.2.2.2.2 q
  self := fun A i s Q E st h => iterS st.1 h
/-- zip(e, e2, strict=True) of two tuples of one length -/
def iZipS (K : PySem.W.Frag) (ta : TA) : TI := fun σ H R => ta σ H fun vs H1 => ∃ a b xs ys, vs = [.ref a, .ref b] ∧ SqT K H1 a xs ∧ SqT K H1 b ys ∧ R (ItzS K a b) H1
theorem evalArgs_kwE {M : Model} {A : Around} {E : Value → Shared → Prop} {s : Shared} {env : Env} {f : Value} {e : Expr} {rest : List Expr} {pos : Pos} {kws : List (Option Str × Sem Value)} {Q : Args → Shared → Prop}
    (he : backTo pos (starEach (e :: rest) env) = (false, eval e env) :: backTo pos (starEach rest env)) (hall : kws.all (·.1.isSome) = true)
    (h : wpAny M A (spliced (backTo pos (starEach (e :: rest) env))) (fun vs s₁ => wpAny M A (evalAll (kws.map (·.2))) (fun kvs s₂ => Q ⟨vs, (kws.filterMap (·.1)).zip kvs⟩ s₂) E s₁) E s) :
    wpAny M A (evalArgs f true (backTo pos (starEach (e :: rest) env)) kws) Q E s := by
  rw [he] at h ⊢
  exact evalArgs_kwB hall h
theorem pi_zipS {X : Cx} {e e2 eb : Expr} {ta : TA} {p pos tpos kp : Pos} {elts : List Expr} {kk : Nat} (hg : Gl X "zip") (hm : X.mg "zip" = none) (ha : PA X [e, e2] ta) (hk : PK X [⟨some "strict", eb, kp⟩] (tCons (fun _ H Q => Q (.bl true) H) tNil))
    (he : backTo pos (starEach [e, e2] X.env) = (false, eval e X.env) :: backTo pos (starEach [e2] X.env) := by rfl) (hpl : (backTo pos (starEach [e, e2] X.env)).any (·.1) = false := by rfl)
    (hall : (backToKw pos (keywordEach [⟨some "strict", eb, kp⟩] X.env)).all (·.1.isSome) = true := by rfl) (hkw : (backToKw pos (keywordEach [⟨some "strict", eb, kp⟩] X.env)).any (·.1.isNone) = false := by rfl)
    (hks : (backToKw pos (keywordEach [⟨some "strict", eb, kp⟩] X.env)).filterMap (·.1) = [("strict" : Str)] := by rfl) :
    PI X (.Tuple elts kk tpos) (.Call (.Name "zip" p) [e, e2] [⟨some "strict", eb, kp⟩] pos) (iZipS X.K ta) := by
  refine ⟨fun pins s σ H R I h => ?_⟩
  refine wpAny_Call_Name_kw (ld_blt I hg hm PyProof.Rows.boot_zip (callWith_typeKw hpl hkw ?_))
  refine evalArgs_kwE he hall (thn (ha.run pos pins s σ H _ I h) fun us s1 ⟨vs, H1, I1, r1, q1⟩ => thn (hk.run pos pins s1 σ H1 (fun zs H2 => zs = [.bl true] ∧ H2 = H1) I1 ⟨rfl, rfl⟩) fun ws s2 ⟨zs, H2, I2, r2, q2⟩ => ?_)
  obtain ⟨rfl, rfl⟩ := q2
  obtain ⟨a, b, xs, ys, rfl, hqx, hqy, q⟩ := q1
  rw [hks]
  cases r2 with
  | cons rb rr =>
    cases rr
    cases rb
    cases r1 with
    | cons r rr =>
      cases rr with
      | cons r' rr =>
        cases rr
        cases r
        cases r'
        obtain ⟨its, rv, p1, _⟩ := I2.tuple hqx
        obtain ⟨its2, rv2, p2, _⟩ := I2.tuple hqy
        obtain ⟨o1, ho1, _⟩ := id p1
        obtain ⟨o2, ho2, _⟩ := id p2
        refine call_zipS (show s2.heap.IsTuple a its.toArray from p1) (show s2.heap.IsTuple b its2.toArray from p2) fun h' hz hTI hTO h1 h2 hk => iterS hz ?_
        have I3 : Inv X pins σ H2 { s2 with heap := h' } := I2.kept (t' := s2.toks) hk
        refine ⟨s2.heap.objs.size + 4, [s2.heap.objs.size + 4, s2.heap.objs.size + 2, s2.heap.objs.size + 3, s2.heap.objs.size, s2.heap.objs.size + 1], _, _, H2, rfl, I3, turn_zipS (PySem.W.ktu_apart s2.heap.objs.size a b (Heap.lt_size ho1) (Heap.lt_size ho2)), ⟨hz, hTI, ⟨_, _, hTO⟩, h1, h2⟩, fun c hcm => ?_, q⟩
        have hle : s2.heap.objs.size ≤ c := by
          simp only [List.mem_cons, List.not_mem_nil, or_false] at hcm
          rcases hcm with z | z | z | z | z <;> rw [z] <;> first | exact Nat.le_add_right _ _ | exact Nat.le_refl _
        exact I2.fpOk hle (I2.hok.fresh hle)
variable {X : Cx} {e e2 eb : Expr} {ta : ATA} {p pos tpos kp : Pos} {elts : List Expr} {kk : Nat}
theorem items_zipS {C : Ct} {L Mo : List Addr} {H : Hp} {a b : Addr} {xs ys : List V} {ds es : List D} (h : SqT C.K (C.hd L Mo H) a xs) (hx : DqAll C.K (C.hd L Mo H) xs ds) (g : SqT C.K (C.hd L Mo H) b ys) (hy : DqAll C.K (C.hd L Mo H) ys es) (hl : ds.length = es.length) (hz : zok ds = true) :
    ItemsOk C (ItzS C.K a b) L Mo H (zipD ds es) := fun C2 L1 Mo1 H1 m1 hK bb sm => by
  obtain ⟨i1, _⟩ := items_zipT h hx g hy hz C2 L1 Mo1 H1 m1 hK bb sm
  exact ⟨i1, xs, ys, same_tup hid_same (same_tup sm h), same_tup hid_same (same_tup sm g), by have := hx.len; rw [zipD_len]; omega, by have := hy.len; rw [zipD_len]; omega⟩
def aZipS (t : ATA) : AIt := fun a Q => t a fun avs m => match avs with
  | [.d (.tuple xs), .d (.tuple ys)] => xs.length = ys.length ∧ zok xs = true ∧ Q (zipD xs ys) m
  | _ => False
theorem qi_zipS {j : Nat} {tp : Pos} (hg : Gl X "zip") (hm : X.mg "zip" = none) (ha : QA X [e, e2] ta) (he : backTo pos (starEach [e, e2] X.env) = (false, eval e X.env) :: backTo pos (starEach [e2] X.env) := by rfl) (hpl : (backTo pos (starEach [e, e2] X.env)).any (·.1) = false := by rfl)
    (hall : (backToKw pos (keywordEach [⟨some "strict", .Constant (.bool true) j tp, kp⟩] X.env)).all (·.1.isSome) = true := by rfl) (hkw : (backToKw pos (keywordEach [⟨some "strict", .Constant (.bool true) j tp, kp⟩] X.env)).any (·.1.isNone) = false := by rfl)
    (hks : (backToKw pos (keywordEach [⟨some "strict", .Constant (.bool true) j tp, kp⟩] X.env)).filterMap (·.1) = [("strict" : Str)] := by rfl) :
    QI X (.Tuple elts kk tpos) (.Call (.Name "zip" p) [e, e2] [⟨some "strict", .Constant (.bool true) j tp, kp⟩] pos) (aZipS ta) := fun C hK =>
  PI.imp (pi_zipS hg hm (ha C hK) (pk_cons pe_bl pk_nil) he hpl hall hkw hks) fun σ H R' ⟨a, L, Mo, AQ, r, k, h⟩ => by
  refine ⟨a, L, Mo, _, r, fun xs m1 vs L1 Mo1 H1 h1 b1 v1 e1 => ?_, h⟩
  split at h1
  · obtain ⟨v, w, rfl, q, q'⟩ := av2 v1
    cases q with
    | tup c1 _ c2 =>
      cases q' with
      | tup c3 _ c4 => exact ⟨_, _, _, _, rfl, hK ▸ same_tup hid_same c1, hK ▸ same_tup hid_same c3, k _ _ _ _ _ _ h1.2.2 b1 e1 (hK ▸ items_zipS c1 c2 c3 c4 h1.1 h1.2.1)⟩
  · exact h1.elim
end
theorem keysD3 {a b c : Int} : keysD [.int a, .int b, .int c] = some (key3 (a, b, c)) := rfl
end QL

namespace QL
open PySem RZ
open PySem.Sem (wp)
/-! ### zip of a list or tuple and a list or tuple -/
def AnyIt (b : Bool) (h : Heap) (it l : Addr) (i : Nat) : Prop := match b with
  | true => h.IsTupleIter it l i
  | false => h.IsListIter it l i
def AnySq (b : Bool) (h : Heap) (l : Addr) (xs : Array Value) : Prop := match b with
  | true => h.IsTuple l xs
  | false => h.IsList l xs
def anyN : Bool → String
  | true => "tuple_iterator"
  | false => "list_iterator"
theorem AnyIt.ext {b : Bool} {h h' : Heap} {it l c : Addr} {i : Nat} (k : AnyIt b h it l i) (e : Heap.ExtBut c h h') (n : it ≠ c) : AnyIt b h' it l i := by
  cases b
  · exact Heap.IsListIter.extBut k e n
  · exact Heap.IsTupleIter.extBut k e n
theorem AnySq.ext {b : Bool} {h h' : Heap} {l c : Addr} {xs : Array Value} (k : AnySq b h l xs) (e : Heap.ExtBut c h h') (n : l ≠ c) : AnySq b h' l xs := by
  cases b
  · exact Heap.IsList.extBut k e n
  · exact Heap.IsTuple.extBut k e n
theorem AnyIt.at {b : Bool} {h h' : Heap} {it l : Addr} {i : Nat} (k : AnyIt b h it l i) (e : ∀ o, h.get? it = some o → h'.get? it = some o) : AnyIt b h' it l i := by
  cases b
  · exact Heap.IsListIter.at k e
  · exact Heap.IsTupleIter.at k e
theorem AnyIt.has {b : Bool} {h : Heap} {it l : Addr} {i : Nat} (k : AnyIt b h it l i) : ∃ o, h.get? it = some o ∧ o.data = .fields #[.ref l, .int i 0] := by
  cases b
  · obtain ⟨o, ho, _, hd⟩ := k; exact ⟨o, ho, hd⟩
  · obtain ⟨o, ho, _, hd⟩ := k; exact ⟨o, ho, hd⟩
section
variable {prog : Program} {w : World} {A : Around} {E : Value → Shared → Prop} {s : Shared} {b b2 : Bool}
theorem any_item {it l : Addr} {i : Nat} {items : Array Value} {x : Value} {Q : Value → Shared → Prop} (hit : AnyIt b s.heap it l i) (hl : AnySq b s.heap l items) (hx : items[i]? = some x)
    (hQ : ∀ h', AnyIt b h' it l (i + 1) → Heap.SameBut it s.heap h' → Q x { s with heap := h' }) : wpAny (model prog w) A (Builtin.SmallTypes.nextOf (.ref it)) Q E s := by
  cases b
  · exact wpAny_nextOf_list_item hit hl hx hQ
  · exact nextOf_tuple_item hit hl hx hQ
theorem any_end {it l : Addr} {i : Nat} {items : Array Value} {Q : Value → Shared → Prop} (hh : A.handled = none) (hit : AnyIt b s.heap it l i) (hl : AnySq b s.heap l items) (hx : items[i]? = none)
    (hE : ∀ h' e, Heap.ExtBut it s.heap h' → (∃ o, h'.get? e = some o ∧ o.cls = .type "StopIteration") → E (.ref e) { s with heap := h' }) : wpAny (model prog w) A (Builtin.SmallTypes.nextOf (.ref it)) Q E s := by
  cases b
  · exact wpAny_nextOf_list_end hh hit hl hx hE
  · exact nextOf_tuple_end hh hit hl hx hE
variable {z TI TO i1 i2 l1 l2 : Addr} {k : Nat} {xs ys : Array Value} {x y u v : Value}
structure TurnM (b b2 : Bool) (h h' : Heap) (z TI TO i1 i2 l1 l2 : Addr) (k : Nat) (x y : Value) : Prop where
  zip : IsZip h' z TI TO (rawInt h.objs.size)
  kept : IsPair h' TO x y
  one : AnyIt b h' i1 l1 (k + 1)
  two : AnyIt b2 h' i2 l2 (k + 1)
  made : IsPair h' h.objs.size x y
  size : h'.objs.size = h.objs.size + 1
  rest : ∀ c o, c ≠ z → c ≠ TO → c ≠ i1 → c ≠ i2 → h.get? c = some o → h'.get? c = some o
theorem zipM_item {Q : Value → Shared → Prop} (D : ZipApart z TI TO i1 i2 l1 l2) (hz : IsZip s.heap z TI TO .none) (hTI : IsPair s.heap TI (.ref i1) (.ref i2)) (hTO : IsPair s.heap TO u v)
    (h1 : AnyIt b s.heap i1 l1 k) (h2 : AnyIt b2 s.heap i2 l2 k) (hl1 : AnySq b s.heap l1 xs) (hl2 : AnySq b2 s.heap l2 ys) (hx : xs[k]? = some x) (hy : ys[k]? = some y)
    (hQ : ∀ h', TurnM b b2 s.heap h' z TI TO i1 i2 l1 l2 k x y → Q (.ref s.heap.objs.size) { s with heap := h' }) :
    wpAny (model prog w) A (Builtin.«zip.__next__» ⟨[.ref z], []⟩) (fun fin s' => ∃ v, fin = .done (.ret v) ∧ Q v s') E s := by
  show wpAny _ _ (field (.ref z) 2 >>= _) _ _ _
  refine wpAny_bind (wpAny_field hz rfl (x := .bool false) rfl ?_)
  show wpAny _ _ (field (.ref z) 3 >>= _) _ _ _
  refine wpAny_bind (wpAny_field hz rfl (x := .ref TI) rfl ?_)
  refine wpAny_bind (wpAny_seqItems hTI rfl ?_)
  show wpAny _ _ (Builtin.SmallTypes.ownedTupleIsFree (.ref z) >>= _) _ _ _
  refine wpAny_bind ?_
  unfold Builtin.SmallTypes.ownedTupleIsFree
  refine wpAny_bind (wpAny_field hz rfl (x := .none) rfl (wpAny_pure ?_))
  simp only [if_true]
  refine wpAny_bind (wpAny_rule (wpAny_bind (wpAny_field hz rfl (x := .ref TO) rfl (wpAny_bind (wpAny_setField_rec hz (by simp) fun h₁ z1 b1 => ?_)))))
  replace z1 : IsZip h₁ z TI TO .ellipsis := z1
  refine wpAny_bind ?_
  simp only [List.zipIdx_cons, List.zipIdx_nil, List.forIn_cons, List.forIn_nil]
  refine wpAny_bind (wpAny_bind (wpAny_onRaise ?_))
  show wpAny _ _ (Builtin.SmallTypes.nextOf (.ref i1) >>= _) _ _ _
  refine wpAny_bind (any_item (h1.ext b1.extBut D.i1z) (hl1.ext b1.extBut D.l1z) hx fun h₂ it2 b2' => wpAny_pure ?_)
  have o2 : IsPair h₂ TO u v := (b2'.2 _ D.TOi1).trans ((b1.2 _ D.TOz).trans hTO)
  refine wpAny_bind (wpAny_seqItems o2 rfl (wpAny_bind (wpAny_updateSeq_pair o2 fun h₃ o3 b3 => wpAny_bind (wpAny_letGo (wpAny_pure ?_)))))
  replace o3 : IsPair h₃ TO x v := o3
  refine wpAny_bind (wpAny_bind (wpAny_onRaise ?_))
  show wpAny _ _ (Builtin.SmallTypes.nextOf (.ref i2) >>= _) _ _ _
  refine wpAny_bind (any_item (((h2.ext b1.extBut D.i2z).ext b2'.extBut D.i12.symm).ext b3.extBut D.TOi2.symm)
    (((hl2.ext b1.extBut D.l2z).ext b2'.extBut D.l2i1).ext b3.extBut D.l2TO) hy fun h₄ it4 b4 => wpAny_pure ?_)
  have o4 : IsPair h₄ TO x v := (b4.2 _ D.TOi2).trans o3
  refine wpAny_bind (wpAny_seqItems o4 rfl (wpAny_bind (wpAny_updateSeq_pair o4 fun h₅ o5 b5 => wpAny_bind (wpAny_letGo (wpAny_pure (wpAny_pure ?_))))))
  replace o5 : IsPair h₅ TO x y := o5
  have far : ∀ c o, c ≠ z → c ≠ TO → c ≠ i1 → c ≠ i2 → s.heap.get? c = some o → h₅.get? c = some o := fun c o c1 c2 c3 c4 e =>
    (b5.2 _ c2).trans ((b4.2 _ c4).trans ((b3.2 _ c2).trans ((b2'.2 _ c3).trans ((b1.2 _ c1).trans e))))
  have z5 : IsZip h₅ z TI TO .ellipsis := (b5.2 _ D.TOz.symm).trans ((b4.2 _ D.i2z.symm).trans ((b3.2 _ D.TOz.symm).trans ((b2'.2 _ D.i1z.symm).trans z1)))
  have sz : h₅.objs.size = s.heap.objs.size := by rw [b5.1, b4.1, b3.1, b2'.1, b1.1]
  have i5 : AnyIt b h₅ i1 l1 (k + 1) := ((it2.ext b3.extBut D.TOi1.symm).ext b4.extBut D.i12).ext b5.extBut D.TOi1.symm
  have j5 : AnyIt b2 h₅ i2 l2 (k + 1) := it4.ext b5.extBut D.TOi2.symm
  refine wpAny_bind (wpAny_seqItems o5 rfl (wpAny_bind (wpAny_newTuple ?_)))
  show wpAny _ _ (Builtin.SmallTypes.ownedTupleHandOut (.ref z) (.ref h₅.objs.size) >>= _) _ _ _
  refine wpAny_bind ?_
  unfold Builtin.SmallTypes.ownedTupleHandOut
  have zlt : z < h₅.objs.size := Heap.lt_size z5
  have z6 : IsZip (h₅.push { cls := .type "tuple", data := .seq #[x, y] }) z TI TO .ellipsis := Heap.get?_push_of_some _ z5
  refine wpAny_bind (wpAny_setField_rec z6 (by simp) fun h₇ z7 b7 => ?_)
  replace z7 : IsZip h₇ z TI TO (rawInt h₅.objs.size) := z7
  refine wpAny_setField_rec z7 (by simp) fun h₈ z8 b8 => ?_
  replace z8 : IsZip h₈ z TI TO (rawInt h₅.objs.size) := z8
  have up : ∀ c o, c ≠ z → h₅.get? c = some o → h₈.get? c = some o := fun c o c1 e => (b8.2 _ c1).trans ((b7.2 _ c1).trans (Heap.get?_push_of_some _ e))
  have m8 : IsPair h₈ h₅.objs.size x y := (b8.2 _ (Nat.ne_of_gt zlt)).trans ((b7.2 _ (Nat.ne_of_gt zlt)).trans (Heap.get?_push_size _ rfl))
  have s8 : h₈.objs.size = h₅.objs.size + 1 := by rw [b8.1, b7.1, Heap.size_push]
  rw [sz] at z8 m8 s8
  refine wpAny_pure ⟨_, rfl, ?_⟩
  show Q (.ref h₅.objs.size) _
  rw [sz]
  exact hQ h₈ ⟨z8, up _ _ D.TOz o5, i5.at fun o e => up _ o D.i1z e, j5.at fun o e => up _ o D.i2z e, m8, s8, fun c o c1 c2 c3 c4 e => up c o c1 (far c o c1 c2 c3 c4 e)⟩
theorem zipM_end {Q : Fin → Shared → Prop} (hh : A.handled = none) (D : ZipApart z TI TO i1 i2 l1 l2) (hz : IsZip s.heap z TI TO .none) (hTI : IsPair s.heap TI (.ref i1) (.ref i2)) (hTO : IsPair s.heap TO u v)
    (h1 : AnyIt b s.heap i1 l1 k) (h2 : AnyIt b2 s.heap i2 l2 k) (hl1 : AnySq b s.heap l1 xs) (hl2 : AnySq b2 s.heap l2 ys) (hend : xs[k]? = none ∨ ys[k]? = none)
    (hE : ∀ h' e, (∀ c o, c ≠ z → c ≠ TO → c ≠ i1 → c ≠ i2 → s.heap.get? c = some o → h'.get? c = some o) → (∃ o, h'.get? e = some o ∧ o.cls = .type "StopIteration") → E (.ref e) { s with heap := h' }) :
    wpAny (model prog w) A (Builtin.«zip.__next__» ⟨[.ref z], []⟩) Q E s := by
  show wpAny _ _ (field (.ref z) 2 >>= _) _ _ _
  refine wpAny_bind (wpAny_field hz rfl (x := .bool false) rfl ?_)
  show wpAny _ _ (field (.ref z) 3 >>= _) _ _ _
  refine wpAny_bind (wpAny_field hz rfl (x := .ref TI) rfl ?_)
  refine wpAny_bind (wpAny_seqItems hTI rfl ?_)
  show wpAny _ _ (Builtin.SmallTypes.ownedTupleIsFree (.ref z) >>= _) _ _ _
  refine wpAny_bind ?_
  unfold Builtin.SmallTypes.ownedTupleIsFree
  refine wpAny_bind (wpAny_field hz rfl (x := .none) rfl (wpAny_pure ?_))
  simp only [if_true]
  refine wpAny_bind (wpAny_rule (wpAny_bind (wpAny_field hz rfl (x := .ref TO) rfl (wpAny_bind (wpAny_setField_rec hz (by simp) fun h₁ z1 b1 => ?_)))))
  replace z1 : IsZip h₁ z TI TO .ellipsis := z1
  refine wpAny_bind ?_
  simp only [List.zipIdx_cons, List.zipIdx_nil, List.forIn_cons, List.forIn_nil]
  refine wpAny_bind (wpAny_bind (wpAny_onRaise ?_))
  show wpAny _ _ (Builtin.SmallTypes.nextOf (.ref i1) >>= _) _ _ _
  cases hx : xs[k]? with
  | none =>
    refine wpAny_bind (any_end hh (h1.ext b1.extBut D.i1z) (hl1.ext b1.extBut D.l1z) hx fun h₂ e b2' he => ?_)
    obtain ⟨oe, hoe, hce⟩ := he
    have z2 : IsZip h₂ z TI TO .ellipsis := b2' _ _ D.i1z.symm z1
    have ez : e ≠ z := fun q => by
      subst q
      have : oe = _ := Option.some.inj (hoe.symm.trans z2)
      subst this
      simp at hce
    exact wpAny_setField_rec z2 (by simp) fun h₃ _ b3 => hE h₃ e (fun c o c1 _ c3 _ q => (b3.2 _ c1).trans (b2' _ _ c3 ((b1.2 _ c1).trans q))) ⟨oe, (b3.2 _ ez).trans hoe, hce⟩
  | some x =>
    have hy : ys[k]? = none := hend.resolve_left (by rw [hx]; exact fun q => nomatch q)
    refine wpAny_bind (any_item (h1.ext b1.extBut D.i1z) (hl1.ext b1.extBut D.l1z) hx fun h₂ it2 b2' => wpAny_pure ?_)
    have o2 : IsPair h₂ TO u v := (b2'.2 _ D.TOi1).trans ((b1.2 _ D.TOz).trans hTO)
    refine wpAny_bind (wpAny_seqItems o2 rfl (wpAny_bind (wpAny_updateSeq_pair o2 fun h₃ o3 b3 => wpAny_bind (wpAny_letGo (wpAny_pure ?_)))))
    refine wpAny_bind (wpAny_bind (wpAny_onRaise ?_))
    show wpAny _ _ (Builtin.SmallTypes.nextOf (.ref i2) >>= _) _ _ _
    refine wpAny_bind (any_end hh (((h2.ext b1.extBut D.i2z).ext b2'.extBut D.i12.symm).ext b3.extBut D.TOi2.symm)
      (((hl2.ext b1.extBut D.l2z).ext b2'.extBut D.l2i1).ext b3.extBut D.l2TO) hy fun h₄ e b4 he => ?_)
    obtain ⟨oe, hoe, hce⟩ := he
    have z4 : IsZip h₄ z TI TO .ellipsis := b4 _ _ D.i2z.symm ((b3.2 _ D.TOz.symm).trans ((b2'.2 _ D.i1z.symm).trans z1))
    have ez : e ≠ z := fun q => by
      subst q
      have : oe = _ := Option.some.inj (hoe.symm.trans z4)
      subst this
      simp at hce
    exact wpAny_setField_rec z4 (by simp) fun h₅ _ b5 => hE h₅ e (fun c o c1 c2 c3 c4 q => (b5.2 _ c1).trans (b4 _ _ c4 ((b3.2 _ c2).trans ((b2'.2 _ c3).trans ((b1.2 _ c1).trans q))))) ⟨oe, (b5.2 _ ez).trans hoe, hce⟩
theorem nextM_item {Q : Option Value → Shared → Prop} (D : ZipApart z TI TO i1 i2 l1 l2) (hz : IsZip s.heap z TI TO .none) (hTI : IsPair s.heap TI (.ref i1) (.ref i2)) (hTO : IsPair s.heap TO u v)
    (h1 : AnyIt b s.heap i1 l1 k) (h2 : AnyIt b2 s.heap i2 l2 k) (hl1 : AnySq b s.heap l1 xs) (hl2 : AnySq b2 s.heap l2 ys) (hx : xs[k]? = some x) (hy : ys[k]? = some y)
    (hQ : ∀ h', TurnM b b2 s.heap h' z TI TO i1 i2 l1 l2 k x y → Q (some (.ref s.heap.objs.size)) { s with heap := h' }) : wpAny (model prog w) A (pyNext (.ref z)) Q E s := by
  have hT : s.TypeIs (.ref z) "zip" := ⟨_, hz, rfl⟩
  unfold pyNext
  exact wpAny_bind (wpAny_attempt (wpAny_callSpecial?_slot (name := Str.ofString "__next__") hT F.slot_zip_next
    (wpAny_call_entry F.slot_zip_next hT F.entry_zip_next (zipM_item D hz hTI hTO h1 h2 hl1 hl2 hx hy fun h' t => wpAny_pure (hQ h' t)) (F.args_zip_next_1 _))))
theorem nextM_end {Q : Option Value → Shared → Prop} (hh : A.handled = none) (D : ZipApart z TI TO i1 i2 l1 l2) (hz : IsZip s.heap z TI TO .none) (hTI : IsPair s.heap TI (.ref i1) (.ref i2)) (hTO : IsPair s.heap TO u v)
    (h1 : AnyIt b s.heap i1 l1 k) (h2 : AnyIt b2 s.heap i2 l2 k) (hl1 : AnySq b s.heap l1 xs) (hl2 : AnySq b2 s.heap l2 ys) (hend : xs[k]? = none ∨ ys[k]? = none)
    (hQ : ∀ h', (∀ c o, c ≠ z → c ≠ TO → c ≠ i1 → c ≠ i2 → s.heap.get? c = some o → h'.get? c = some o) → Q none { s with heap := h' }) : wpAny (model prog w) A (pyNext (.ref z)) Q E s := by
  have hT : s.TypeIs (.ref z) "zip" := ⟨_, hz, rfl⟩
  unfold pyNext
  refine wpAny_bind (wpAny_attempt (wpAny_callSpecial?_slot (name := Str.ofString "__next__") hT F.slot_zip_next
    (wpAny_call_entry F.slot_zip_next hT F.entry_zip_next (zipM_end hh D hz hTI hTO h1 h2 hl1 hl2 hend fun h' e hk he => ?_) (F.args_zip_next_1 _))))
  obtain ⟨o, ho, hc⟩ := he
  refine wpAny_bind (wpAny_isInstance (T := "StopIteration") (b := true) ⟨o, ho, hc⟩ isSubtype_stop ?_)
  exact wpAny_pure (hQ _ hk)
theorem any_iter {l : Addr} {items : Array Value} {Q : Value → Shared → Prop} (hl : AnySq b s.heap l items)
    (hQ : Q (.ref s.heap.objs.size) { s with heap := s.heap.push { cls := .type (anyN b), data := .fields #[.ref l, .int 0 0] } }) : wpAny (model prog w) A (pyIter (.ref l)) Q E s := by
  cases b
  · exact wpAny_pyIter_list hl hQ
  · exact wpAny_pyIter_tuple hl hQ
end
theorem AnySq.push {b : Bool} {h : Heap} {l : Addr} {xs : Array Value} (k : AnySq b h l xs) (o : Obj) : AnySq b (h.push o) l xs := by
  cases b
  · exact Heap.IsList.push k o
  · exact Heap.IsTuple.push k o
theorem AnyIt.new {b : Bool} {h : Heap} {it l : Addr} (k : h.get? it = some { cls := .type (anyN b), data := .fields #[.ref l, .int 0 0] }) : AnyIt b h it l 0 := by
  cases b
  · exact ⟨_, k, rfl, rfl⟩
  · exact ⟨_, k, rfl, rfl⟩
section
variable (b b2 : Bool)
abbrev zm1 (h : Heap) (l1 : Addr) : Heap := h.push { cls := .type (anyN b), data := .fields #[.ref l1, .int 0 0] }
abbrev zm2 (h : Heap) (l1 l2 : Addr) : Heap := (zm1 b h l1).push { cls := .type (anyN b2), data := .fields #[.ref l2, .int 0 0] }
abbrev zm3 (h : Heap) (l1 l2 : Addr) : Heap := (zm2 b b2 h l1 l2).push { cls := .type "tuple", data := .seq #[.ref h.objs.size, .ref (zm1 b h l1).objs.size] }
abbrev zm4 (h : Heap) (l1 l2 : Addr) : Heap := (zm3 b b2 h l1 l2).push { cls := .type "tuple", data := .seq #[.none, .none] }
abbrev zm5 (h : Heap) (l1 l2 : Addr) : Heap := (zm4 b b2 h l1 l2).push { cls := .type "zip", data := .fields #[.none, .bool false, .bool false, .ref (zm2 b b2 h l1 l2).objs.size, .ref (zm3 b b2 h l1 l2).objs.size] }
theorem meets_zipM (l1 l2 : Addr) (xs ys : Array Value) :
    Meets (Builtin.«zip.__new__» ⟨[.type "zip", .ref l1, .ref l2], []⟩) (fun _ R s => AnySq b s.heap l1 xs ∧ AnySq b2 s.heap l2 ys ∧
      R (.ok (.ret (.ref (zm4 b b2 s.heap l1 l2).objs.size))) { s with heap := zm5 b b2 s.heap l1 l2 }) :=
  .of_wp fun prog w A R s h => by
    obtain ⟨hp, g, d, tk, os⟩ := s; obtain ⟨hl1, hl2, h⟩ := h
    have hsub := sub_zip
    have hL1 : AnySq b (Shared.heap ⟨hp, g, d, tk, os⟩) l1 xs := hl1
    have hL2 : AnySq b2 (Shared.heap ⟨hp.push { cls := .type (anyN b), data := .fields #[.ref l1, .int 0 0] }, g, d, tk, os⟩) l2 ys := AnySq.push hl2 _
    wp_walk using any_iter hL1, any_iter hL2
    exact ⟨_, rfl, h⟩
end
section
variable {prog : Program} {w : World} {A : Around} {E : Value → Shared → Prop} {s : Shared} {b b2 : Bool}
theorem call_zipM {l1 l2 : Addr} {xs ys : Array Value} {Q : Value → Shared → Prop} (hl1 : AnySq b s.heap l1 xs) (hl2 : AnySq b2 s.heap l2 ys)
    (h : ∀ h', IsZip h' (s.heap.objs.size + 4) (s.heap.objs.size + 2) (s.heap.objs.size + 3) .none → IsPair h' (s.heap.objs.size + 2) (.ref s.heap.objs.size) (.ref (s.heap.objs.size + 1)) →
      IsPair h' (s.heap.objs.size + 3) .none .none → AnyIt b h' s.heap.objs.size l1 0 → AnyIt b2 h' (s.heap.objs.size + 1) l2 0 →
      (∀ c o, s.heap.get? c = some o → h'.get? c = some o) → Q (.ref (s.heap.objs.size + 4)) { s with heap := h' }) :
    wpAny (model prog w) A (call (.type "zip") [.ref l1, .ref l2]) Q E s := by
  refine callType_new F.called_zip (by decide) (F.typeCall_zip_2 _ _) (F.newCall_zip_2 _ _) (fun obj => F.args_object_init_3 obj _ _) F.entry_zip_new (meets_zipM b b2 l1 l2 xs ys) ⟨hl1, hl2, ?_⟩
  have z1 : (zm1 b s.heap l1).objs.size = s.heap.objs.size + 1 := Heap.size_push ..
  have z2 : (zm2 b b2 s.heap l1 l2).objs.size = s.heap.objs.size + 2 := by rw [Heap.size_push, z1]
  have z3 : (zm3 b b2 s.heap l1 l2).objs.size = s.heap.objs.size + 3 := by rw [Heap.size_push, z2]
  have z4 : (zm4 b b2 s.heap l1 l2).objs.size = s.heap.objs.size + 4 := by rw [Heap.size_push, z3]
  have p1 : ∀ {h : Heap} {o : Obj} {c : Addr} {u : Obj}, h.get? c = some u → (h.push o).get? c = some u := fun e => Heap.get?_push_of_some _ e
  have g5 : (zm5 b b2 s.heap l1 l2).get? (zm4 b b2 s.heap l1 l2).objs.size = some _ := Heap.get?_push_size _ rfl
  have g4 : (zm5 b b2 s.heap l1 l2).get? (zm3 b b2 s.heap l1 l2).objs.size = some _ := p1 (Heap.get?_push_size _ rfl)
  have g3 : (zm5 b b2 s.heap l1 l2).get? (zm2 b b2 s.heap l1 l2).objs.size = some _ := p1 (p1 (Heap.get?_push_size _ rfl))
  have g2 : (zm5 b b2 s.heap l1 l2).get? (zm1 b s.heap l1).objs.size = some _ := p1 (p1 (p1 (Heap.get?_push_size _ rfl)))
  have g1 : (zm5 b b2 s.heap l1 l2).get? s.heap.objs.size = some _ := p1 (p1 (p1 (p1 (Heap.get?_push_size _ rfl))))
  show _ ∧ _
  rw [z2, z3, z4] at g5
  rw [z1, z2] at g3
  rw [z3] at g4
  rw [z1] at g2
  rw [z4]
  exact ⟨⟨_, g5, rfl⟩, h _ g5 g3 g4 (AnyIt.new g1) (AnyIt.new g2) fun c o x => p1 (p1 (p1 (p1 (p1 x))))⟩
end
section
open PySem.Spec PyProof.Rows L2
def SqB (b : Bool) (K : PySem.W.Frag) (H : Hp) (a : Addr) (xs : List V) : Prop := match b with
  | true => SqT K H a xs
  | false => SqL K H a xs
def ItzM (b b2 : Bool) (K : PySem.W.Frag) (a c : Addr) : It :=
  ⟨fun i H => ∃ (xs ys : List V) (x y : V), SqB b K H a xs ∧ SqB b2 K H c ys ∧ xs[i]? = some x ∧ ys[i]? = some y,
    fun i H v H' => ∃ T x y, v = .ref T ∧ H T = none ∧ H' = upd H T (.tup [x, y]) ∧ (∀ xs, SqB b K H a xs → xs[i]? = some x) ∧ ∀ ys, SqB b2 K H c ys → ys[i]? = some y,
    fun i H => ∃ xs ys : List V, SqB b K H a xs ∧ SqB b2 K H c ys ∧ (xs.length ≤ i ∨ ys.length ≤ i)⟩
theorem inv_any {b : Bool} {X : Cx} {pins : PySem.W.Frag} {σ : L2.St} {H : Hp} {s : Shared} {a : Addr} {xs : List V} (I : Inv X pins σ H s) (h : SqB b X.K H a xs) : ∃ its : List Value, Vals xs its ∧ AnySq b s.heap a its.toArray ∧ ∃ o, s.heap.get? a = some o := by
  cases b
  · obtain ⟨its, rv, p, _⟩ := I.list h
    have q := p.isList
    obtain ⟨o, ho, _⟩ := id q
    exact ⟨its, rv, q, o, ho⟩
  · obtain ⟨its, rv, p, _⟩ := I.tuple h
    obtain ⟨o, ho, _⟩ := id p
    exact ⟨its, rv, p, o, ho⟩
theorem inj_any {b : Bool} {X : Cx} {pins : PySem.W.Frag} {σ : L2.St} {H : Hp} {s : Shared} {a : Addr} {xs ys : List V} (I : Inv X pins σ H s) (h : SqB b X.K H a xs) (g : SqB b X.K H a ys) : xs = ys := by
  cases b
  · exact I.list_inj h g
  · exact I.tuple_inj h g
theorem turn_zipM {b b2 : Bool} {P : Program} {w : World} {K : PySem.W.Frag} {elts : List Expr} {kk : Nat} {tpos : Pos} {a c z TI TO i1 i2 : Addr} (D : ZipApart z TI TO i1 i2 a c) :
    Turn P w K (.Tuple elts kk tpos) (ItzM b b2 K a c) [z, TI, TO, i1, i2] z (fun i h => IsZip h z TI TO .none ∧ IsPair h TI (.ref i1) (.ref i2) ∧ (∃ x y, IsPair h TO x y) ∧ AnyIt b h i1 a i ∧ AnyIt b2 h i2 c i) where
  mem := by simp
  obj := fun i h st d hc => by
    obtain ⟨hz, hTI, ⟨x, y, hTO⟩, h1, h2⟩ := st
    obtain ⟨o1, e1, d1⟩ := h1.has
    obtain ⟨o2, e2, d2⟩ := h2.has
    simp only [List.mem_cons, List.not_mem_nil, or_false] at hc
    rcases hc with q | q | q | q | q
    · rw [q]; exact ⟨_, hz, fun v q => nomatch q⟩
    · rw [q]; exact ⟨_, hTI, fun v q => nomatch q⟩
    · rw [q]; exact ⟨_, hTO, fun v q => nomatch q⟩
    · rw [q]; exact ⟨o1, e1, fun v q => by rw [d1] at q; cases q⟩
    · rw [q]; exact ⟨o2, e2, fun v q => by rw [d2] at q; cases q⟩
  keep := fun i h h' st k => by
    obtain ⟨hz, hTI, ⟨x, y, hTO⟩, h1, h2⟩ := st
    exact ⟨k z (by simp) _ hz, k TI (by simp) _ hTI, ⟨x, y, k TO (by simp) _ hTO⟩, h1.at fun o q => k i1 (by simp) o q, h2.at fun o q => k i2 (by simp) o q⟩
  item := by
    intro X hP hw hK hc i pins s σ H E I hf st hg
    subst hP hw hK
    obtain ⟨hz, hTI, ⟨x0, y0, hTO⟩, h1, h2⟩ := st
    obtain ⟨xs, ys, x, y, hqx, hqy, hx, hy⟩ := hg
    obtain ⟨its, rv, p, _⟩ := inv_any I hqx
    obtain ⟨its2, rv2, p2, _⟩ := inv_any I hqy
    obtain ⟨u, hu, ru⟩ := rv.get hx
    obtain ⟨u2, hu2, ru2⟩ := rv2.get hy
    have zlt : z < s.heap.objs.size := Heap.lt_size hz
    refine nextM_item D hz hTI hTO h1 h2 p p2 (x := u) (y := u2) (by simpa using hu) (by simpa using hu2) fun h' t => ?_
    refine ⟨_, rfl, wpAny_letOwnedTupleGo_zip (s := { s with heap := h' }) t.zip fun h'' z'' sb => ?_⟩
    have made2 : h''.get? s.heap.objs.size = some { cls := .type "tuple", data := .seq #[u, u2] } := (sb.2 _ (Nat.ne_of_gt zlt)).trans t.made
    have new : ObjOk X.prog X.w (upd H s.heap.objs.size (.tup [x, y])) h'' s.heap.objs.size (.tup [x, y]) :=
      ⟨by show 2 ≤ sizeLine; decide, [u, u2], .cons ru (.cons ru2 .nil), ⟨_, made2, rfl, _, rfl⟩⟩
    have out : ∀ {c : Addr}, c ∉ [z, TI, TO, i1, i2] → c ≠ z ∧ c ≠ TO ∧ c ≠ i1 ∧ c ≠ i2 := fun {c} hb => by
      simp only [List.mem_cons, List.not_mem_nil, or_false, not_or] at hb
      exact ⟨hb.1, hb.2.2.1, hb.2.2.2.1, hb.2.2.2.2⟩
    have I1 : Inv X pins σ (upd H s.heap.objs.size (.tup [x, y])) { s with heap := h'' } :=
      I.turnedNew (t' := s.toks) (ch := [z, TI, TO, i1, i2]) (fun c o hb q => by
        obtain ⟨n1, n2, n3, n4⟩ := out hb
        exact (sb.2 c n1).trans (t.rest c o n1 n2 n3 n4 q)) hf (Nat.le_refl _) new
    refine ⟨.ref s.heap.objs.size, _, I1, rfl, ⟨_, x, y, rfl, I.hok.fresh (Nat.le_refl _), rfl, fun l hl => by rw [inj_any I hl hqx]; exact hx, fun l hl => by rw [inj_any I hl hqy]; exact hy⟩, ⟨z'', ?_, ⟨u, u2, ?_⟩, ?_, ?_⟩, fun d hcm => ?_⟩
    · exact (sb.2 _ D.TIz).trans (t.rest _ _ D.TIz D.TITO D.TIi1 D.TIi2 hTI)
    · exact (sb.2 _ D.TOz).trans t.kept
    · exact t.one.at fun o q => (sb.2 _ D.i1z).trans q
    · exact t.two.at fun o q => (sb.2 _ D.i2z).trans q
    · have hlt : d < s.heap.objs.size := by
        have hc' := hcm
        obtain ⟨_, e1, _⟩ := h1.has
        obtain ⟨_, e2, _⟩ := h2.has
        simp only [List.mem_cons, List.not_mem_nil, or_false] at hc'
        rcases hc' with q | q | q | q | q
        · rw [q]; exact zlt
        · rw [q]; exact Heap.lt_size hTI
        · rw [q]; exact Heap.lt_size hTO
        · rw [q]; exact Heap.lt_size e1
        · rw [q]; exact Heap.lt_size e2
      rw [upd_ne (Nat.ne_of_lt hlt)]
      exact (hf d hcm).1
  done := by
    intro X hP hw hK hc i pins s σ H E I hf st hg
    subst hP hw hK
    obtain ⟨hz, hTI, ⟨x0, y0, hTO⟩, h1, h2⟩ := st
    obtain ⟨xs, ys, hqx, hqy, hend⟩ := hg
    obtain ⟨its, rv, p, _⟩ := inv_any I hqx
    obtain ⟨its2, rv2, p2, _⟩ := inv_any I hqy
    have e1 := rv.length
    have e2 := rv2.length
    have he : its.toArray[i]? = none ∨ its2.toArray[i]? = none := by
      rcases hend with q | q
      · exact .inl (by simp; omega)
      · exact .inr (by simp; omega)
    refine nextM_end (I.ok.hd hc) D hz hTI hTO h1 h2 p p2 he fun h' hk => ⟨rfl, I.turnedL (t' := s.toks) (ch := [z, TI, TO, i1, i2]) (fun c o hb q => ?_) hf⟩
    simp only [List.mem_cons, List.not_mem_nil, or_false, not_or] at hb
    exact hk c o hb.1 hb.2.2.1 hb.2.2.2.1 hb.2.2.2.2 q
  self := fun A i s Q E st h => wpAny_pyIter_zip st.1 h
def iZipM (K : PySem.W.Frag) (ta : TA) : TI := fun σ H R => ta σ H fun vs H1 => ∃ b b2 a c xs ys, vs = [.ref a, .ref c] ∧ SqB b K H1 a xs ∧ SqB b2 K H1 c ys ∧ R (ItzM b b2 K a c) H1
theorem pi_zipM {X : Cx} {e e2 : Expr} {ta : TA} {p pos tpos : Pos} {elts : List Expr} {kk : Nat} (hg : Gl X "zip") (hm : X.mg "zip" = none) (ha : PA X [e, e2] ta)
    (hs : starEach [e, e2] X.env = (false, eval e X.env) :: starEach [e2] X.env := by rfl) (hpl : (backTo pos (starEach [e2] X.env)).any (·.1) = false := by rfl) :
    PI X (.Tuple elts kk tpos) (.Call (.Name "zip" p) [e, e2] [] pos) (iZipM X.K ta) := by
  refine ⟨fun pins s σ H R I h => ?_⟩
  refine Call_ (ld_blt I hg hm PyProof.Rows.boot_zip (PyProof.Rows.callWith_type1 (thn (ha.run pos pins s σ H _ I h) fun us s1 ⟨vs, H1, I1, r1, q1⟩ => ?_) hs hpl))
  obtain ⟨b, b2, a, c, xs, ys, rfl, hqx, hqy, q⟩ := q1
  cases r1 with
  | cons r rr =>
    cases rr with
    | cons r' rr =>
      cases rr
      cases r
      cases r'
      obtain ⟨its, rv, p1, o1, ho1⟩ := inv_any I1 hqx
      obtain ⟨its2, rv2, p2, o2, ho2⟩ := inv_any I1 hqy
      refine call_zipM p1 p2 fun h' hz hTI hTO h1 h2 hk => wpAny_pyIter_zip hz ?_
      have I2 : Inv X pins σ H1 { s1 with heap := h' } := I1.kept (t' := s1.toks) hk
      refine ⟨s1.heap.objs.size + 4, [s1.heap.objs.size + 4, s1.heap.objs.size + 2, s1.heap.objs.size + 3, s1.heap.objs.size, s1.heap.objs.size + 1], _, _, H1, rfl, I2, turn_zipM (PySem.W.ktu_apart s1.heap.objs.size a c (Heap.lt_size ho1) (Heap.lt_size ho2)), ⟨hz, hTI, ⟨_, _, hTO⟩, h1, h2⟩, fun d hcm => ?_, q⟩
      have hle : s1.heap.objs.size ≤ d := by
        simp only [List.mem_cons, List.not_mem_nil, or_false] at hcm
        rcases hcm with z | z | z | z | z <;> rw [z] <;> first | exact Nat.le_add_right _ _ | exact Nat.le_refl _
      exact I1.fpOk hle (I1.hok.fresh hle)
def HdB (b : Bool) (C : Ct) (L Mo : List Addr) (H : Hp) (a : Addr) (xs : List V) : Prop := match b with
  | true => SqT C.K (C.hd L Mo H) a xs
  | false => C.hd L Mo H a = some (.lst xs)
theorem HdB.now {b : Bool} {C : Ct} {L Mo : List Addr} {H : Hp} {a : Addr} {xs : List V} (h : HdB b C L Mo H a xs) : SqB b C.K H a xs := by
  cases b
  · exact SqL.of (hid_some h).2
  · exact same_tup hid_same h
theorem HdB.sq {b : Bool} {C C2 : Ct} {L Mo L1 Mo1 : List Addr} {H H1 : Hp} {a : Addr} {xs : List V} (h : HdB b C L Mo H a xs) (sm : Same (C.hd L Mo H) (C2.hd L1 Mo1 H1)) : SqB b C.K H1 a xs := by
  cases b
  · exact SqL.of (hid_some (sm _ _ h)).2
  · exact same_tup hid_same (same_tup sm h)
theorem sqb_inj {b : Bool} {K : PySem.W.Frag} {H H1 : Hp} {a : Addr} {xs : List V} {i : Nat} {v w : V} (q : SqB b K H a xs) (h1 : xs[i]? = some v) (f : ∀ xs, SqB b K H a xs → xs[i]? = some w) : v = w := by
  have := f xs q
  rw [h1] at this
  exact Option.some.inj this
theorem items_zipM {b b2 : Bool} {C : Ct} {L Mo : List Addr} {H : Hp} {a c : Addr} {xs ys : List V} {ds es : List D} (h : HdB b C L Mo H a xs) (hx : DqAll C.K (C.hd L Mo H) xs ds) (g : HdB b2 C L Mo H c ys) (hy : DqAll C.K (C.hd L Mo H) ys es) (hz : zok ds = true) :
    ItemsOk C (ItzM b b2 C.K a c) L Mo H (zipD ds es) := fun C2 L1 Mo1 H1 m1 hK bb sm => by
  have q := h.sq sm
  have q' := g.sq sm
  refine ⟨fun i d e => ?_, xs, ys, q, q', by rw [zipD_len, hx.len, hy.len]; omega⟩
  obtain ⟨x, y, e1, e2, rfl⟩ := zipD_at e
  obtain ⟨v, h1, h2⟩ := hx.at e1
  obtain ⟨w, h3, h4⟩ := hy.at e2
  refine ⟨⟨xs, ys, v, w, q, q', h1, h3⟩, fun z H2 ⟨T, v', w', e3, hT, e4, f1, f2⟩ => ?_⟩
  subst e3; subst e4
  have f1 := sqb_inj (H1 := H1) q h1 f1
  have f2 := sqb_inj (H1 := H1) q' h3 f2
  subst f1 f2
  refine ⟨bb.alloc hT, X2.alloc hT, .tup (SqT.of (hd_new bb hT)) (fun c => absurd c (zok_at hz e1)) (.cons (Dq.mono (hd_upd hT) _ _ (Dq.mono sm _ _ h2)) (.cons (Dq.mono (hd_upd hT) _ _ (Dq.mono sm _ _ h4)) .nil))⟩
def rowB : D → Option (Bool × List D)
  | .list xs => some (false, xs)
  | .tuple xs => some (true, xs)
  | _ => none
def aZipM (t : ATA) : AIt := fun a Q => t a fun avs m => match avs with
  | [.d (.tuple xs), .d (.list ys)] => zok xs = true ∧ Q (zipD xs ys) m
  | [.d (.list xs), .d (.tuple ys)] => zok xs = true ∧ Q (zipD xs ys) m
  | _ => False
variable {X : Cx} {e e2 : Expr} {ta : ATA} {p pos tpos : Pos} {elts : List Expr} {kk : Nat}
theorem qi_zipM (hg : Gl X "zip") (hm : X.mg "zip" = none) (ha : QA X [e, e2] ta) (hs : starEach [e, e2] X.env = (false, eval e X.env) :: starEach [e2] X.env := by rfl) (hpl : (backTo pos (starEach [e2] X.env)).any (·.1) = false := by rfl) :
    QI X (.Tuple elts kk tpos) (.Call (.Name "zip" p) [e, e2] [] pos) (aZipM ta) := fun C hK => PI.imp (pi_zipM hg hm (ha C hK) hs hpl) fun σ H R' ⟨a, L, Mo, AQ, r, k, h⟩ => by
  refine ⟨a, L, Mo, _, r, fun xs m1 vs L1 Mo1 H1 h1 b1 v1 e1 => ?_, h⟩
  split at h1
  · obtain ⟨v, w, rfl, q, q'⟩ := av2 v1
    cases q with
    | tup c1 _ c2 =>
      cases q' with
      | lst c3 c4 =>
        have k1 : HdB true C L1 Mo1 H1 _ _ := c1
        have k2 : HdB false C L1 Mo1 H1 _ _ := c3
        exact ⟨true, false, _, _, _, _, rfl, hK ▸ k1.now, hK ▸ k2.now, k _ _ _ _ _ _ h1.2 b1 e1 (hK ▸ items_zipM k1 c2 k2 c4 h1.1)⟩
  · obtain ⟨v, w, rfl, q, q'⟩ := av2 v1
    cases q with
    | lst c1 c2 =>
      cases q' with
      | tup c3 _ c4 =>
        have k1 : HdB false C L1 Mo1 H1 _ _ := c1
        have k2 : HdB true C L1 Mo1 H1 _ _ := c3
        exact ⟨false, true, _, _, _, _, rfl, hK ▸ k1.now, hK ▸ k2.now, k _ _ _ _ _ _ h1.2 b1 e1 (hK ▸ items_zipM k1 c2 k2 c4 h1.1)⟩
  · exact h1.elim
end
end QL

namespace QL
open PySem PySem.Spec PyProof.Rows L2
/-! QE: three names at once, what follows a statement kept apart, loops by an invariant -/
section
variable {X : Cx}
theorem av3 {C : Ct} {L Mo : List Addr} {H : Hp} {x y z : AV} {vs : List V} (h : AVRs C L Mo H [x, y, z] vs) : ∃ u v w, vs = [u, v, w] ∧ AVR C L Mo H x u ∧ AVR C L Mo H y v ∧ AVR C L Mo H z w := by
  cases h with
  | cons q t => cases t with
    | cons q2 t2 => cases t2 with
      | cons q3 t3 => cases t3; exact ⟨_, _, _, rfl, q, q2, q3⟩
def aPar3 (i j l : Nat) (ta : ATA) : ATS := fun D a => ta a fun xs m => match xs with
  | [x, y, z] => D.nx ⟨((a.g.set i (some x)).set j (some y)).set l (some z), m⟩
  | _ => False
theorem qs_par3 {i j l : Nat} {x y z : Str} {a b c : Expr} {ta : ATA} {px py pz pt pos : Pos} {kt k2 pt2} (hc : X.calm = true) (hN : X.N.Nodup) (hi : X.N[i]? = some x) (hj : X.N[j]? = some y) (hl : X.N[l]? = some z) (hij : i ≠ j) (hil : i ≠ l) (hjl : j ≠ l)
    (hx : X.env.scope.names.lookup x = some .local) (hy : X.env.scope.names.lookup y = some .local) (hz : X.env.scope.names.lookup z = some .local) (ha : QA X [a, b, c] ta)
    (hw : swappedStores [.Tuple [.Name x px, .Name y py, .Name z pz] kt pt] (.Tuple [a, b, c] k2 pt2) X.env = pure (some [x, y, z]))
    (hs : swapsWithSole [.Tuple [.Name x px, .Name y py, .Name z pz] kt pt] (.Tuple [a, b, c] k2 pt2) pos.line X.env = pure false := by rfl) :
    QS X (.Assign [.Tuple [.Name x px, .Name y py, .Name z pz] kt pt] (.Tuple [a, b, c] k2 pt2) pos) (aPar3 i j l ta) := fun C hK => PS.imp (ps_par3 hc hN hi hj hl hij hil hjl hx hy hz (ha C hK) hw hs) fun D σ H ⟨a, L, Mo, AD, r, b, h⟩ => by
  refine ⟨a, L, Mo, _, r, fun xs m1 vs L1 Mo1 H1 h1 b1 v1 e1 => ?_, h⟩
  split at h1
  · obtain ⟨u, v, w, rfl, q1, q2, q3⟩ := av3 v1
    exact ⟨u, v, w, rfl, b.nx _ _ _ _ _ h1 ((((r.next b1 e1).set i q1).set j q2).set l q3)⟩
  · exact h1.elim
end
theorem aPar3_ap (i j l : Nat) (ta : ATA) (D : AEnds) (a : AS) : aPar3 i j l ta D a = ta a fun xs m => match xs with
  | [x, y, z] => D.nx ⟨((a.g.set i (some x)).set j (some y)).set l (some z), m⟩
  | _ => False := rfl
/-- what follows a statement stays closed -/
theorem aSeq_abs {s t : ATS} {E : AEnds} {a : AS} (h : ∀ E' : AEnds, (∀ a, t E a → E'.nx a) → E'.rt = E.rt → s E' a) : aSeq s t E a := h _ (fun _ q => q) rfl
/-- .. also where it may be broken off -/
theorem aSeq_absB {s t : ATS} {E : AEnds} {a : AS} (h : ∀ E' : AEnds, (∀ a, t E a → E'.nx a) → E'.rt = E.rt → E'.bk = E.bk → E'.ct = E.ct → s E' a) : aSeq s t E a := h _ (fun _ q => q) rfl rfl rfl
/-- a loop by an invariant of what is left and of the state -/
theorem aForL_ind {n : Nat} {fs : List Nat} {g : ATG} {tb : ATS} (I : List D → AS → Prop) (R : AV → Mm → Prop) (hs : ∀ (E : AEnds) d r a, E.rt = R → I (d :: r) a → (∀ a2, I r (norm n fs a2) → E.nx a2) → (∀ a2, I [] (norm n fs a2) → E.bk a2) → (E.ct = E.nx) → g (.d d) a.m a.g fun g' => tb E ⟨g', a.m⟩) :
    ∀ (ds : List D) (E : AEnds) (a : AS), E.rt = R → (∀ a, I [] a → E.nx a) → I ds a → aForL n fs g tb E ds a
  | [], E, a, _, h0, h => h0 a h
  | d :: r, E, a, hr, h0, h => hs _ d r a hr h (fun a2 q => aForL_ind I R hs r E _ hr h0 q) (fun a2 q => h0 _ q) rfl
theorem zipD_cons (x y : D) (xs ys : List D) : zipD (x :: xs) (y :: ys) = .tuple [x, y] :: zipD xs ys := rfl
theorem zipD_nilL (ys : List D) : zipD [] ys = [] := rfl
theorem zipD_nilR (x : D) (xs : List D) : zipD (x :: xs) [] = [] := rfl
theorem rngD_zero (lo : Int) : rngD lo 0 = [] := rfl
theorem rngD_succ (lo : Int) (n : Nat) : rngD lo (n + 1) = .int lo :: rngD (lo + 1) n := by
  unfold rngD
  rw [List.range_succ_eq_map, List.map_cons, List.map_map]
  congr 1
  · simp
  · refine List.map_congr_left fun k _ => ?_
    simp only [Function.comp_apply, Nat.succ_eq_add_one, Int.natCast_add]
    congr 1
    omega
end QL

namespace QL
open PySem PySem.Spec PyProof.Rows L2
/-! QXA: dicts whose keys are tuples of ints, wherever the key tuples stand -/
abbrev XL := List (List Int × Addr × V)
abbrev YL := List (List Int × Addr × Value)
abbrev XY : XL → YL → Prop := Paired fun x y => x.1 = y.1 ∧ x.2.1 = y.2.1 ∧ RelV x.2.2 y.2.2
def valX (xs : XL) (k : List Int) : Option V := (xs.find? fun x => decide (x.1 = k)).map (·.2.2)
def putX (xs : XL) (k : List Int) (b : Addr) (v : V) : XL := if (xs.any fun x => decide (x.1 = k)) then xs.map fun x => if x.1 = k then (x.1, x.2.1, v) else x else xs ++ [(k, b, v)]
theorem XY.val {xs : XL} {ys : YL} (r : XY xs ys) (k : List Int) : RelO (valX xs k) ((atKey ys k).map (·.2)) := by
  induction r with
  | nil => exact True.intro
  | @cons p q ps qs h t ih =>
    obtain ⟨h1, h2, h3⟩ := h
    by_cases e : p.1 = k
    · have e' : q.1 = k := h1.symm.trans e
      have a : valX (p :: ps) k = some p.2.2 := by unfold valX; rw [List.find?_cons_of_pos (by simpa using e)]; rfl
      have b : atKey (q :: qs) k = some q.2 := by simp [atKey, List.find?_cons, e']
      rw [a, b]; exact h3
    · have e' : ¬ q.1 = k := fun z => e (h1.trans z)
      have a : valX (p :: ps) k = valX ps k := by unfold valX; rw [List.find?_cons_of_neg (by simpa using e)]
      have b : atKey (q :: qs) k = atKey qs k := by simp [atKey, List.find?_cons, e']
      rw [a, b]; exact ih
theorem any_find {xs : XL} {k : List Int} : (xs.any fun x => decide (x.1 = k)) = (valX xs k).isSome := by
  unfold valX
  rw [Option.isSome_map]
  induction xs with
  | nil => rfl
  | cons x r ih =>
    rw [List.any_cons]
    by_cases e : x.1 = k
    · rw [List.find?_cons_of_pos (by simpa using e)]; simp [e]
    · rw [List.find?_cons_of_neg (by simpa using e), ← ih]; simp [e]
theorem XY.put {xs : XL} {ys : YL} (r : XY xs ys) (k : List Int) (b : Addr) {v : V} {u : Value} (rv : RelV v u) : XY (putX xs k b v) (storedH ys k b u) := by
  have e : (xs.any fun x => decide (x.1 = k)) = (atKey ys k).isSome := by
    rw [any_find, (r.val k).isSome_eq, Option.isSome_map]
  unfold putX storedH
  rw [e]
  by_cases q : (atKey ys k).isSome = true
  · rw [if_pos q, if_pos q]
    clear e q
    induction r with
    | nil => exact .nil
    | @cons p q ps qs h t ih =>
      rw [List.map_cons, List.map_cons]
      refine .cons ?_ ih
      obtain ⟨h1, h2, h3⟩ := h
      unfold putAt
      by_cases e : p.1 = k
      · rw [if_pos e, if_pos (h1.symm.trans e)]; exact ⟨h1, h2, rv⟩
      · rw [if_neg e, if_neg (fun z => e (h1.trans z))]; exact ⟨h1, h2, h3⟩
  · rw [if_neg q, if_neg q]; exact Paired.snoc r ⟨rfl, rfl, rv⟩
theorem putX_len (xs : XL) (k : List Int) (b : Addr) (v : V) : (putX xs k b v).length ≤ xs.length + 1 := by
  unfold putX
  split
  · rw [List.length_map]; omega
  · rw [List.length_append]; simp
/-- hashes of ints hang on the ints alone -/
theorem int_entry (P P' : Program) (w w' : World) : (entryOfKey (tupleKind (PySem.intKind P w)) : List Int × Addr × Value → DictEntry) = entryOfKey (tupleKind (PySem.intKind P' w')) := rfl
theorem items_ints {P : Program} {w : World} : ∀ {ks : List Int} {us : List Value}, Vals (ks.map V.int) us → ItemsAre (PySem.intKind P w) ks us
  | [], _, r => by rw [List.map_nil] at r; cases r; exact .nil
  | k :: ks, _, r => by
    rw [List.map_cons] at r
    cases r with
    | cons h t =>
      obtain ⟨t', q⟩ := (show ∃ t, _ = Value.int k t from h)
      subst q
      exact .cons (by simp [PySem.intKind, Value.isInt]) (items_ints t)
section
variable {X : Cx} {pins : List (Addr × Obj)} {σ : L2.St} {H : Hp} {s : Shared} {a b : Addr} {xs : XL} {ks : List Int} {A : Around} {E : Value → Shared → Prop}
theorem xkey_of (I : Inv X pins σ H s) (h : SqT X.K H b (ks.map V.int)) : (tupleKind (PySem.intKind X.prog X.w)).is s.heap ks b := by
  obtain ⟨its, r, ⟨o, h1, h2, n, h3⟩, _⟩ := I.tuple h
  exact ⟨o, its.toArray, n, h1, h2, h3, by simpa using items_ints r⟩
def KeysAt (K : PySem.W.Frag) (H : Hp) (xs : XL) : Prop := ∀ x ∈ xs, SqT K H x.2.1 (x.1.map V.int)
theorem xd_rd (I : Inv X pins σ H s) (e : H a = some (.ext (XD xs a))) (hk : KeysAt X.K H xs) : xs.length ≤ sizeLine ∧ (a == sysModules) = false ∧ ∃ ys, XY xs ys ∧ s.heap.DictOfH (tupleKind (PySem.intKind X.prog X.w)) a ys := by
  obtain ⟨⟨hz, hm, ys, rel, o, es, ep, h1, h2, h3, h4, h5⟩, _⟩ := (show ObjOk X.prog X.w H s.heap a (.ext (XD xs a)) from I.hok a _ e)
  refine ⟨hz, hm, ys, rel, o, es, ep, h1, h2, h3, h4 _ _, fun y hy => ?_, h5⟩
  obtain ⟨x, hx, e1, e2, _⟩ := paired_mem rel hy
  have := xkey_of I (hk x hx)
  rw [e1, e2] at this
  exact this
theorem xd_ext {xs : XL} {ys : YL} {h : Heap} {P P' : Program} {w w' : World} {H : Hp} (hz : xs.length ≤ sizeLine) (hm : (a == sysModules) = false) (rel : XY xs ys) (dd : h.DictOfH (tupleKind (PySem.intKind P w)) a ys) : ObjOk P' w' H h a (.ext (XD xs a)) := by
  obtain ⟨o, es, ep, h1, h2, h3, h4, _, h5⟩ := dd
  refine ⟨⟨hz, hm, ys, rel, o, es, ep, h1, h2, h3, fun P2 w2 => by rw [int_entry P2 P w2 w]; exact h4, h5⟩, ⟨o, h1⟩, fun k1 k2 ⟨z1, z2, zs, r1, o', es', ep', q1, q2⟩ kk => ⟨z1, z2, zs, r1, o', es', ep', kk _ q1, q2⟩⟩
/-- d[k] -/
theorem x_getItem {v : V} {Q : Value → Shared → Prop} (hu : A.units + 1 < cLine) (I : Inv X pins σ H s) (e : H a = some (.ext (XD xs a))) (hk : KeysAt X.K H xs) (hb : SqT X.K H b (ks.map V.int)) (l : valX xs ks = some v)
    (h : ∀ w' s', Inv X pins σ H s' → RelV v w' → Q w' s') : wpAny (model X.prog X.w) A (getItem (.ref a) (.ref b)) Q E s := by
  obtain ⟨z, hd, ys, rel, dd⟩ := xd_rd I e hk
  obtain ⟨w', hw, rw'⟩ := RelO.some_of (v := v) (o := (atKey ys ks).map (·.2)) (by rw [← l]; exact rel.val ks)
  obtain ⟨p, hp, hp2⟩ := Option.map_eq_some_iff.mp hw
  refine wpAny_getItem_heap (tupleKind_room_in1 hu) (xkey_of I hb) dd hp ?_
  rw [hp2]
  exact h w' _ (I.tok _) rw'
theorem x_in {Q : Value → Shared → Prop} (hu : A.units + 1 < cLine) (I : Inv X pins σ H s) (e : H a = some (.ext (XD xs a))) (hk : KeysAt X.K H xs) (hb : SqT X.K H b (ks.map V.int)) (h : ∀ s', Inv X pins σ H s' → Q (.bool (valX xs ks).isSome) s') :
    wpAny (model X.prog X.w) A (compareOp .In (.ref b) (.ref a)) Q E s := by
  obtain ⟨z, hd, ys, rel, dd⟩ := xd_rd I e hk
  refine wpAny_in_heap (tupleKind_room_in1 hu) (xkey_of I hb) hd dd ?_
  have q := (rel.val ks).isSome_eq
  rw [Option.isSome_map] at q
  rw [← q]
  exact h _ (I.tok _)
theorem x_notIn {Q : Value → Shared → Prop} (hu : A.units + 1 < cLine) (I : Inv X pins σ H s) (e : H a = some (.ext (XD xs a))) (hk : KeysAt X.K H xs) (hb : SqT X.K H b (ks.map V.int)) (h : ∀ s', Inv X pins σ H s' → Q (.bool (!(valX xs ks).isSome)) s') :
    wpAny (model X.prog X.w) A (compareOp .NotIn (.ref b) (.ref a)) Q E s := by
  obtain ⟨z, hd, ys, rel, dd⟩ := xd_rd I e hk
  refine wpAny_notIn_heap (tupleKind_room_in1 hu) (xkey_of I hb) hd dd ?_
  have q := (rel.val ks).isSome_eq
  rw [Option.isSome_map] at q
  rw [← q]
  exact h _ (I.tok _)
theorem x_setItem {v : V} {r : Value} {Q : Unit → Shared → Prop} (hu : A.units + 1 < cLine) (I : Inv X pins σ H s) (e : H a = some (.ext (XD xs a))) (hk : KeysAt X.K H xs) (hb : SqT X.K H b (ks.map V.int)) (hl : xs.length < sizeLine) (rv : RelV v r)
    (h : ∀ s', Inv X pins σ (upd H a (.ext (XD (putX xs ks b v) a))) s' → Q () s') : wpAny (model X.prog X.w) A (setItem (.ref a) (.ref b) r) Q E s := by
  obtain ⟨z, hd, ys, rel, dd⟩ := xd_rd I e hk
  have hz : ys.length ≤ sizeLine := by rw [← Paired.length rel]; exact z
  refine wpAny_setItem_heap (hsz := hz) (tupleKind_room_in1 hu) (xkey_of I hb) dd fun h' dd' hs => h _ ?_
  have he : ∃ q, h'.get? a = some q := let ⟨q, _, _, hq, _⟩ := dd'; ⟨q, hq⟩
  exact d_write I (by rw [e]; exact True.intro) hs he (xd_ext (by have := putX_len xs ks b v; omega) hd (rel.put ks b rv) dd')
theorem x_get2 {d : V} {r : Value} {Q : Value → Shared → Prop} (hu : A.units + 1 < cLine) (I : Inv X pins σ H s) (e : H a = some (.ext (XD xs a))) (hk : KeysAt X.K H xs) (hb : SqT X.K H b (ks.map V.int)) (rd : RelV d r)
    (h : ∀ w' s', Inv X pins σ H s' → RelV ((valX xs ks).getD d) w' → Q w' s') : wpAny (model X.prog X.w) A (call (.builtin "dict.get") [.ref a, .ref b, r]) Q E s := by
  obtain ⟨z, hd, ys, rel, dd⟩ := xd_rd I e hk
  refine call_meetsIn PySem.F.slot_dict_get dd.typeIs PySem.F.entry_dict_get (PySem.F.args_dict_get_3 _ _ _) (meetsH_dict_get_default (tupleKind (PySem.intKind X.prog X.w)) a b hd r) ⟨tupleKind_room_in1 hu, ks, ys, xkey_of I hb, dd, h _ _ (I.tok _) ?_⟩
  exact (rel.val ks).getD rd
theorem xd_type (I : Inv X pins σ H s) (e : H a = some (.ext (XD xs a))) : s.TypeIs (.ref a) "dict" ∧ (∀ b, Value.ref a = .ref b → ∃ ob, s.heap.get? b = some ob ∧ ob.dict = none) := by
  obtain ⟨⟨hz, hm, ys, rel, o, es, ep, h1, h2, h3, h4, h5⟩, _⟩ := (show ObjOk X.prog X.w H s.heap a (.ext (XD xs a)) from I.hok a _ e)
  refine ⟨⟨o, h1, h2.1⟩, fun b q => ?_⟩
  cases q
  exact ⟨o, h1, h2.2.1⟩
end
/-! ### rules -/
section
variable {X : Cx} {o i e f value : Expr} {pos pos' apos cpos : Pos} {td ty tx tv : TE}
def tXNew : TE := fun _ H Q => ∀ p, H p = none → Q (.ref p) (upd H p (.ext (XD [] p)))
theorem pe_xnew : PE X (.Dict [] [] pos) tXNew := ⟨fun pins s σ H Q I h =>
  wpAny_Dict_empty ⟨.ref s.heap.objs.size, _, I.laid (a := s.heap.objs.size) (o := .ext (XD [] s.heap.objs.size)) (t' := s.toks) (fun _ _ q => Heap.get?_push_of_some _ q) (Nat.le_refl _)
    (xd_ext (P := X.prog) (w := X.w) (Nat.zero_le _) (beq_eq_false_iff_ne.mpr (Ne.symm (Nat.ne_of_lt I.big))) .nil (Heap.DictOfH.new s.heap)), rfl, h _ (I.hok.fresh (Nat.le_refl _))⟩⟩
def XTup (K : PySem.W.Frag) (H : Hp) (xs : XL) (ks : List Int) (a b : Addr) : Prop := H a = some (.ext (XD xs a)) ∧ KeysAt K H xs ∧ SqT K H b (ks.map V.int)
def tXIx (K : PySem.W.Frag) (td ty : TE) : TE := fun σ H Q => td σ H fun x H1 => ty σ H1 fun y H2 => ∃ a b xs ks v, x = .ref a ∧ y = .ref b ∧ XTup K H2 xs ks a b ∧ valX xs ks = some v ∧ Q v H2
def sXPut (K : PySem.W.Frag) (td ty tv : TE) : TS := fun D σ H => tv σ H fun v H1 => td σ H1 fun x H2 => ty σ H2 fun y H3 => ∃ a b xs ks, x = .ref a ∧ y = .ref b ∧ XTup K H3 xs ks a b ∧ xs.length < sizeLine ∧ D.nx σ (upd H3 a (.ext (XD (putX xs ks b v) a)))
def tXGet (K : PySem.W.Frag) (td ty tx : TE) : TE := fun σ H Q => td σ H fun x H1 => ∃ a xs1, x = .ref a ∧ H1 a = some (.ext (XD xs1 a)) ∧ ty σ H1 fun y H2 => tx σ H2 fun z H3 => ∃ b xs ks, y = .ref b ∧ XTup K H3 xs ks a b ∧ Q ((valX xs ks).getD z) H3
theorem pe_xix (hu : X.A.units + 1 < cLine) (ho : PE X o td) (hi : PE X i ty) (hs : NoSl i) : PE X (.Subscript o i pos) (tXIx X.K td ty) := by
  refine ⟨fun pins s σ H Q I h => ?_⟩
  refine subD_of PySem.F.slot_dict_getitem.lookup hs (thn (ho.run pins s σ H _ I h) fun u s1 ⟨x, H1, I1, rx, q1⟩ => thn (hi.run pins s1 σ H1 _ I1 q1) fun iv s2 ⟨y, H2, I2, ry, a, b, xs, ks, v, ex, ey, g, l, q2⟩ => ?_)
  subst ex ey
  obtain rfl : u = Value.ref a := rx
  obtain rfl : iv = Value.ref b := ry
  exact ⟨(xd_type I2 g.1).1, x_getItem hu I2 g.1 g.2.1 g.2.2 l fun w' s3 I3 rw' => ⟨v, H2, I3, rw', q2⟩⟩
theorem ps_xput (hu : X.A.units + 1 < cLine) (ho : PE X o td) (hi : PE X i ty) (hv : PE X value tv) (hs : swapsWith value (some (.Subscript o i pos')) pos.line X.env = pure false) :
    PS X (.Assign [.Subscript o i pos'] value pos) (sXPut X.K td ty tv) := by
  refine ⟨fun pins s σ H D I h => ?_⟩
  refine wpAny_Assign_Subscript (thn (hv.run pins s σ H _ I h) fun r s1 ⟨v, H1, I1, rv, q1⟩ => thn (ho.run pins s1 σ H1 _ I1 q1) fun u s2 ⟨x, H2, I2, rx, q2⟩ => thn (hi.run pins s2 σ H2 _ I2 q2) fun iv s3 ⟨y, H3, I3, ry, a, b, xs, ks, ex, ey, g, hl, q3⟩ => ?_) hs
  subst ex ey
  obtain rfl : u = Value.ref a := rx
  obtain rfl : iv = Value.ref b := ry
  exact x_setItem hu I3 g.1 g.2.1 g.2.2 hl rv fun s4 I4 => ⟨σ, _, I4, q3⟩
theorem pe_xget (hu : X.A.units + 1 < cLine) (ho : PE X o td) (he : PE X e ty) (hf : PE X f tx) (m : M2 X o "get" apos e f cpos) : PE X (.Call (.Attribute o "get" apos) [e, f] [] cpos) (tXGet X.K td ty tx) := by
  refine ⟨fun pins s σ H Q I h => ?_⟩
  refine wpAny_Call_method m.base m.few m.line PySem.F.plainAttrs_dict PySem.F.slot_dict_get PySem.F.type_dict_get (thn (ho.run pins s σ H _ I h) fun u s1 ⟨x, H1, I1, rx, a, xs1, ex, d, q1⟩ => ?_)
  subst ex
  obtain rfl : u = Value.ref a := rx
  obtain ⟨t1, t2⟩ := xd_type I1 d
  refine ⟨t1, t2, ?_⟩
  rw [m.trees]
  refine Calls.callWith_builtin rfl (Calls.evalArgs_plain (Calls.spliced_cons (thn (he.run pins s1 σ H1 _ I1 q1) fun iv s2 ⟨y, H2, I2, ry, q2⟩ =>
    Calls.spliced_cons (thn (hf.run pins s2 σ H2 _ I2 q2) fun fv s3 ⟨z, H3, I3, rz, b, xs, ks, ey, g, q3⟩ => Calls.spliced_nil ?_))))
  subst ey
  obtain rfl : iv = Value.ref b := ry
  exact x_get2 hu I3 g.1 g.2.1 g.2.2 rz fun w' s4 I4 rw' => ⟨_, H3, I4, rw', q3⟩
theorem op_xin (hu : X.A.units + 1 < cLine) : OpR X (compareOp .In) (fun y x H Q => ∃ a b xs ks, x = .ref a ∧ y = .ref b ∧ XTup X.K H xs ks a b ∧ Q (.bl (valX xs ks).isSome) H) := by
  intro pins s σ H y x v u Q I ry rx ⟨a, b, xs, ks, ex, ey, g, q⟩
  subst ex ey
  obtain rfl : u = Value.ref a := rx
  obtain rfl : v = Value.ref b := ry
  exact x_in hu I g.1 g.2.1 g.2.2 fun s3 I3 => ⟨.bl (valX xs ks).isSome, H, I3, rfl, q⟩
theorem op_xnin (hu : X.A.units + 1 < cLine) : OpR X (compareOp .NotIn) (fun y x H Q => ∃ a b xs ks, x = .ref a ∧ y = .ref b ∧ XTup X.K H xs ks a b ∧ Q (.bl (!(valX xs ks).isSome)) H) := by
  intro pins s σ H y x v u Q I ry rx ⟨a, b, xs, ks, ex, ey, g, q⟩
  subst ex ey
  obtain rfl : u = Value.ref a := rx
  obtain rfl : v = Value.ref b := ry
  exact x_notIn hu I g.1 g.2.1 g.2.2 fun s3 I3 => ⟨.bl (!(valX xs ks).isSome), H, I3, rfl, q⟩
end
end QL

namespace QL
open PySem PySem.Spec PyProof.Rows L2 RZ
/-! QXC: sorted of a list of tuples of ints (none empty) -/
def lexL : List Int → List Int → Bool
  | [], [] => false
  | [], _ :: _ => true
  | _ :: _, [] => false
  | a :: as, b :: bs => if a = b then lexL as bs else decide (a < b)
theorem lexL_asym : ∀ {a b : List Int}, lexL a b = true → lexL b a = false
  | [], [], h => by simp [lexL] at h
  | [], _ :: _, _ => rfl
  | _ :: _, [], h => by simp [lexL] at h
  | a :: as, b :: bs, h => by
    unfold lexL at h ⊢
    by_cases e : a = b
    · rw [if_pos e] at h; rw [if_pos e.symm]; exact lexL_asym h
    · rw [if_neg e, decide_eq_true_eq] at h; rw [if_neg (Ne.symm e), decide_eq_false_iff_not]; omega
theorem lexL_tr : ∀ {x y z : List Int}, lexL x y = false → lexL y z = false → lexL x z = false
  | [], [], _, _, h => h
  | [], _ :: _, _, h, _ => by simp [lexL] at h
  | _ :: _, _, [], _, _ => rfl
  | _ :: _, [], _ :: _, _, h => by simp [lexL] at h
  | a :: as, b :: bs, c :: cs, h1, h2 => by
    unfold lexL at h1 h2 ⊢
    by_cases e : a = b
    · rw [if_pos e] at h1
      subst e
      by_cases e2 : a = c
      · rw [if_pos e2] at h2 ⊢; exact lexL_tr h1 h2
      · rw [if_neg e2] at h2 ⊢; exact h2
    · rw [if_neg e, decide_eq_false_iff_not] at h1
      by_cases e2 : b = c
      · subst e2
        rw [if_neg e, decide_eq_false_iff_not]; exact h1
      · rw [if_neg e2, decide_eq_false_iff_not] at h2
        rw [if_neg (by omega), decide_eq_false_iff_not]; omega
theorem lexL_eq : ∀ {a b : List Int}, lexL a b = false → lexL b a = false → a = b
  | [], [], _, _ => rfl
  | [], _ :: _, h, _ => by simp [lexL] at h
  | _ :: _, [], _, h => by simp [lexL] at h
  | a :: as, b :: bs, h1, h2 => by
    unfold lexL at h1 h2
    by_cases e : a = b
    · rw [if_pos e] at h1; rw [if_pos e.symm] at h2; rw [e, lexL_eq h1 h2]
    · rw [if_neg e, decide_eq_false_iff_not] at h1; rw [if_neg (Ne.symm e), decide_eq_false_iff_not] at h2; omega
theorem swo_lexL {α : Type} (k : α → List Int) : SrtO.Swo fun v u => lexL (k v) (k u) := ⟨fun x y h => lexL_asym h, fun x y z h1 h2 => lexL_tr h2 h1⟩
def IsInts (h : Heap) (v : Value) (p : List Int) : Prop := ∃ a o items n, v = .ref a ∧ h.get? a = some o ∧ o.cls = .type "tuple" ∧ o.data = .seq items n ∧ Vals (p.map V.int) items.toList
theorem IsInts.keeps {h h' : Heap} {v : Value} {p : List Int} (x : IsInts h v p) (k : ∀ b o, h.get? b = some o → o.cls = .type "tuple" → h'.get? b = some o) : IsInts h' v p := by
  obtain ⟨a, o, t, n, e, ho, hc, hd, hv⟩ := x
  exact ⟨a, o, t, n, e, k _ _ ho hc, hc, hd, hv⟩
section
open SrtO Srt
variable {prog : Program} {w : World} {A : Around} {E : Value → Shared → Prop} {s : Shared}
theorem kat_ints : ∀ (as bs : List Int) (us vs : List Value) (i : Nat), Vals (as.map V.int) us → Vals (bs.map V.int) vs →
    PySem.W.KatLex prog w A true (decide (as.length < bs.length)) (fun r s' => s' = s ∧ r = lexL as bs) (us.zip vs) i s
  | [], bs, us, vs, i, h1, h2 => by
    cases h1
    refine PySem.W.kat_nil ⟨rfl, ?_⟩
    cases bs <;> rfl
  | a :: as, [], us, vs, i, h1, h2 => by
    cases h2
    rw [List.zip_nil_right]
    exact PySem.W.kat_nil ⟨rfl, rfl⟩
  | a :: as, b :: bs, us, vs, i, h1, h2 => by
    rw [List.map_cons] at h1 h2
    cases h1 with
    | cons p1 t1 =>
      cases h2 with
      | cons p2 t2 =>
        obtain ⟨t, rfl⟩ := p1
        obtain ⟨t', rfl⟩ := p2
        rw [List.zip_cons_cons]
        refine PySem.W.kat_cons (SeqAt.EqAt.int_int a t b t' prog w _ _ ?_)
        refine PySem.W.kat_go (fun e1 => ?_) (fun e1 => ?_)
        · have ex : a = b := by simpa using e1
          have ih := kat_ints as bs _ _ (i + 1) t1 t2
          have e3 : lexL (a :: as) (b :: bs) = lexL as bs := by
            show (if a = b then _ else _) = _
            rw [if_pos ex]
          rw [e3, show decide ((a :: as).length < (b :: bs).length) = decide (as.length < bs.length) by simp]
          exact PySem.W.kat_yes ih
        · have ex : ¬ a = b := by simpa using e1
          have e3 : lexL (a :: as) (b :: bs) = decide (a < b) := by
            show (if a = b then _ else _) = _
            rw [if_neg ex]
          refine PySem.W.kat_no ?_
          cases i with
          | zero => exact oneLt_int ⟨rfl, e3.symm⟩
          | succ i =>
            refine PySem.W.kat_one _ _ (PyProof.Rows.lt_int ?_)
            exact (show s = s ∧ decide (a < b) = lexL (a :: as) (b :: bs) from ⟨rfl, e3.symm⟩)
theorem ints_cmp {vs : List Value} {k : Value → List Int} (hp : ∀ v ∈ vs, IsInts s.heap v (k v)) : Cmp prog w A s (tuples' true) (fun p => p.1 ∈ vs) (lt2 fun v u => lexL (k v) (k u)) := by
  intro p q hm hm'
  have h1 := hp _ hm
  have h2 := hp _ hm'
  show wpAny (model prog w) A (keyLt' (tuples' true) p.1 q.1) (fun r s' => s' = s ∧ r = lexL (k p.1) (k q.1)) (fun _ _ => False) s
  generalize (k p.1) = x at h1 ⊢
  generalize (k q.1) = y at h2 ⊢
  obtain ⟨a, o, t, n, e, ho, hc, hd, hv⟩ := h1
  obtain ⟨a', o', t', n', e', ho', hc', hd', hv'⟩ := h2
  rw [e, e']
  refine PySem.W.kat_lt ho hd ho' hd' ?_
  have l1 : t.size = x.length := by have := hv.length; rw [List.length_map] at this; rw [← Array.length_toList, this]
  have l2 : t'.size = y.length := by have := hv'.length; rw [List.length_map] at this; rw [← Array.length_toList, this]
  rw [l1, l2]
  exact kat_ints x y _ _ 0 hv hv'
theorem ints_first {h : Heap} {k : Value → List Int} : ∀ {vs : List Value}, (∀ v ∈ vs, IsInts h v (k v) ∧ k v ≠ []) → ∃ fs : List Value, PySem.W.KatTups h vs fs ∧ fs.length = vs.length ∧ ∀ f ∈ fs, ∃ x t, f = Value.int x t
  | [], _ => ⟨[], PySem.W.KatTups.nil, rfl, fun _ hm => by simp at hm⟩
  | v :: vs, hp => by
    obtain ⟨fs, h1, h2, h3⟩ := ints_first (k := k) (vs := vs) fun v' hm => hp v' (List.mem_cons_of_mem _ hm)
    obtain ⟨⟨a, o, t, n, e, ho, hc, hd, hv⟩, hne⟩ := hp v (List.mem_cons_self ..)
    generalize k v = p at hv hne
    subst e
    match p, hne, hv with
    | x :: p, _, hv =>
      rw [List.map_cons] at hv
      cases hu : t.toList with
      | nil => rw [hu] at hv; cases hv
      | cons u us =>
        rw [hu] at hv
        cases hv with
        | cons p1 _ =>
          obtain ⟨t1, rfl⟩ := p1
          have h0 : t[0]? = some (.int x t1) := by rw [← Array.getElem?_toList, hu]; rfl
          refine ⟨.int x t1 :: fs, PySem.W.KatTups.cons ho hc hd h0 h1, by rw [List.length_cons, List.length_cons, h2], fun f hm => ?_⟩
          rcases List.mem_cons.mp hm with rfl | hm
          · exact ⟨_, t1, rfl⟩
          · exact h3 f hm
theorem ints_sortableO {a : Addr} {vs : List Value} {k : Value → List Int} (h0 : 0 < vs.length) (hp : ∀ v ∈ vs, IsInts s.heap v (k v) ∧ k v ≠ []) (ha : ∀ o, s.heap.get? a = some o → o.cls ≠ .type "tuple") : SortableO prog w A s a vs fun v u => lexL (k v) (k u) := by
  intro h' keep
  have hp' : ∀ v ∈ vs, IsInts h' v (k v) ∧ k v ≠ [] := fun v hm => ⟨(hp v hm).1.keeps fun b o e c => keep b o (fun z => by subst z; exact ha o e c) e, (hp v hm).2⟩
  obtain ⟨fs, h1, h2, h3⟩ := ints_first hp'
  refine ⟨tuples' true, fun Q E hq => ?_, ints_cmp fun v hv => (hp' v hv).1⟩
  refine PySem.W.kat_kind (T := .type "int") h1 (by omega) (fun f hm => ?_) (by rfl) ?_
  · obtain ⟨x, t, rfl⟩ := h3 f hm
    exact PySem.W.Looks.now
  · have e : (Value.type "int" != Value.type "tuple") = true := by first | decide +kernel | rfl | decide
    rw [e]
    exact hq
end
def IntsAt (K : PySem.W.Frag) (H : Hp) (x : V) (p : List Int) : Prop := ∃ t, x = .ref t ∧ SqT K H t (p.map V.int)
open Classical in
noncomputable def kOfL (K : PySem.W.Frag) (H : Hp) (x : V) : List Int := if h : ∃ p, IntsAt K H x p then Classical.choose h else []
theorem map_int_inj : ∀ {p q : List Int}, p.map V.int = q.map V.int → p = q
  | [], [], _ => rfl
  | [], _ :: _, h => by simp at h
  | _ :: _, [], h => by simp at h
  | a :: p, b :: q, h => by
    simp only [List.map_cons, List.cons.injEq, V.int.injEq] at h
    rw [h.1, map_int_inj h.2]
section
variable {X : Cx} {pins : List (Addr × Obj)} {σ : L2.St} {H : Hp} {s : Shared}
theorem intsAt_inj (I : Inv X pins σ H s) {x : V} {p q : List Int} (h1 : IntsAt X.K H x p) (h2 : IntsAt X.K H x q) : p = q := by
  obtain ⟨t, rfl, a⟩ := h1
  obtain ⟨t', e, b⟩ := h2
  cases e
  exact map_int_inj (I.tuple_inj a b)
theorem kOfL_eq (I : Inv X pins σ H s) {x : V} {p : List Int} (h : IntsAt X.K H x p) : kOfL X.K H x = p := by
  have hx : ∃ p, IntsAt X.K H x p := ⟨p, h⟩
  unfold kOfL
  rw [dif_pos hx]
  exact intsAt_inj I (Classical.choose_spec hx) h
theorem isInts_of (I : Inv X pins σ H s) {u : Value} {x : V} {p : List Int} (r : RelV x u) (h : IntsAt X.K H x p) : IsInts s.heap u p := by
  obtain ⟨t, rfl, a⟩ := h
  obtain rfl : u = Value.ref t := r
  obtain ⟨its, r, ⟨o, ho, hc, n, hd⟩, _⟩ := I.tuple a
  exact ⟨t, o, its.toArray, n, rfl, ho, hc, hd, by simpa using r⟩
theorem pairedL_k {K : PySem.W.Frag} {xs : List V} {ts : List (List Int)} (k : V → List Int) (hk : ∀ x p, IntsAt K H x p → k x = p) (h : Paired (IntsAt K H) xs ts) : ts = xs.map k := by
  induction h with
  | nil => rfl
  | cons h t ih => rw [List.map_cons, hk _ _ h, ← ih]
theorem pairedL_all {K : PySem.W.Frag} {xs : List V} {ts : List (List Int)} (h : Paired (IntsAt K H) xs ts) : ∀ x ∈ xs, ∃ p ∈ ts, IntsAt K H x p := by
  induction h with
  | nil => intro x hx; cases hx
  | cons h t ih =>
    intro x hx
    rcases List.mem_cons.mp hx with rfl | hx
    · exact ⟨_, List.mem_cons_self, h⟩
    · obtain ⟨p, h1, h2⟩ := ih x hx
      exact ⟨p, List.mem_cons_of_mem _ h1, h2⟩
theorem pairedL_map {K : PySem.W.Frag} (k : V → List Int) : ∀ {ys : List V}, (∀ y ∈ ys, IntsAt K H y (k y)) → Paired (IntsAt K H) ys (ys.map k)
  | [], _ => .nil
  | y :: ys, h => .cons (h y (List.mem_cons_self ..)) (pairedL_map k fun z hz => h z (List.mem_cons_of_mem _ hz))
def SrtL (ts' ts : List (List Int)) : Prop := ts'.Perm ts ∧ ts'.Pairwise fun x y => lexL y x = false
theorem sort_outL (I : Inv X pins σ H s) {us out : List Value} {xs : List V} {ts : List (List Int)} (rv : Vals xs us) (hx : Paired (IntsAt X.K H) xs ts)
    (h1 : SrtO.Srtd (fun v u => lexL (kOfL X.K H (backV v)) (kOfL X.K H (backV u))) out) (h2 : SrtO.Stb (fun v u => lexL (kOfL X.K H (backV v)) (kOfL X.K H (backV u))) out us) :
    ∃ (ys : List V) (ts' : List (List Int)), Vals ys out ∧ Paired (IntsAt X.K H) ys ts' ∧ SrtL ts' ts ∧ ys.length = xs.length ∧ ys.Perm xs ∧ (ys.zip ts').Perm (xs.zip ts) := by
  have hk : ∀ x p, IntsAt X.K H x p → kOfL X.K H x = p := fun x p h => kOfL_eq I h
  have hall := pairedL_all hx
  obtain ⟨e1, e2⟩ := refs_back rv fun x m => by
    obtain ⟨p, _, t, e, _⟩ := hall x m
    exact ⟨t, e⟩
  have h3 : ∀ u ∈ out, ∃ a, u = Value.ref a := fun u hu => e2 u (h2.perm.mem_iff.mp hu)
  have hperm : (out.map backV).Perm xs := by rw [e1]; exact h2.perm.map backV
  refine ⟨out.map backV, (out.map backV).map (kOfL X.K H), vals_back h3, pairedL_map _ fun y hy => ?_, ⟨?_, ?_⟩, hperm.length_eq, hperm, ?_⟩
  · obtain ⟨p, _, hp⟩ := hall y (hperm.mem_iff.mp hy)
    rw [hk y p hp]; exact hp
  · rw [pairedL_k _ hk hx]
    exact hperm.map _
  · rw [List.map_map]
    exact List.pairwise_map.mpr h1
  · have z : ∀ l : List V, l.zip (l.map (kOfL X.K H)) = l.map fun y => (y, kOfL X.K H y) := by
      intro l
      induction l with
      | nil => rfl
      | cons a l ih => rw [List.map_cons, List.zip_cons_cons, ih, List.map_cons]
    rw [pairedL_k _ hk hx, z, z]
    exact hperm.map _
theorem cr_sortL : CallR X (.builtin "sorted") (fun vs H Q => ∃ (a : Addr) (xs : List V) (ts : List (List Int)), vs = [V.ref a] ∧ SqL X.K H a xs ∧ Paired (IntsAt X.K H) xs ts ∧ (∀ t ∈ ts, t ≠ []) ∧
    ∀ ys ts' p, ys.length = ts'.length → (ys.zip ts').Perm (xs.zip ts) → SrtL ts' ts → H p = none → Q (.ref p) (upd H p (.lst ys))) := by
  intro pins s σ H vs us Q I r h
  obtain ⟨a, xs, ts, rfl, hs, hx, hne, q⟩ := h
  obtain ⟨its, rv, hl, hz⟩ := I.list hs
  obtain ⟨u, rfl, ru⟩ := vals1 r
  obtain rfl : u = Value.ref a := ru
  have hall := pairedL_all hx
  have tr : ∀ v ∈ its, IsInts s.heap v (kOfL X.K H (backV v)) ∧ kOfL X.K H (backV v) ≠ [] := by
    intro v hv
    obtain ⟨e1, e2⟩ := refs_back rv fun x m => by
      obtain ⟨p, _, t, e, _⟩ := hall x m
      exact ⟨t, e⟩
    obtain ⟨b, rfl⟩ := e2 v hv
    have hm : backV (.ref b) ∈ xs := by rw [e1]; exact List.mem_map.mpr ⟨_, hv, rfl⟩
    obtain ⟨p, hpm, hp⟩ := hall _ hm
    rw [kOfL_eq I hp]
    exact ⟨isInts_of I (x := .ref b) rfl hp, hne p hpm⟩
  refine SrtO.sorted_ord (swo_lexL fun v => kOfL X.K H (backV v)) hl.isList (by rw [← rv.length]; exact hz) (fun h2 h₁ a ha kk => ?_) fun out hs' hb => ?_
  · refine ints_sortableO (s := { s with heap := h₁ }) (by omega) (fun v hm => ⟨(tr v hm).1.keeps fun b o e _ => (kk b o e).2, (tr v hm).2⟩) fun o e => ?_
    have e' : some o = some (seqObj "list" its.toArray 0) := e.symm.trans ha
    cases e'
    intro c
    exact absurd (Value.type.inj c) (by decide)
  · obtain ⟨ys, ts', r1, r2, r3, r4, r5, r6⟩ := sort_outL I rv hx hs' hb
    obtain ⟨n, hn⟩ := PyProof.Rows.sortedAll_at s.heap its out.toArray
    refine ⟨.ref _, upd H _ (.lst ys), I.laid (t' := s.toks) (fun b o e => PyProof.Rows.sortedAll_old e) (Nat.le_succ _) ⟨by rw [r4]; exact hz, out, n, r1, hn⟩, rfl, q ys ts' _ (Paired.length r2) r6 r3 (I.hok.fresh (Nat.le_succ _))⟩
end
def tupI (l : List Int) : D := .tuple (l.map .int)
theorem dq_ints {K : PySem.W.Frag} {h : Hp} {v : V} {t : List Int} (q : Dq K h v (tupI t)) : IntsAt K h v t := by
  cases q with
  | tup h1 _ h2 => exact ⟨_, rfl, DqAll.ints h2 ▸ h1⟩
theorem nd_tupI {t : List Int} (h : t ≠ []) : NdNeed (t.map PyData.int) = false := by
  cases t with
  | nil => exact absurd rfl h
  | cons _ _ => rfl
theorem ints_dq {K : PySem.W.Frag} {h : Hp} {v : V} {t : List Int} (hn : t ≠ []) (q : IntsAt K h v t) : Dq K h v (tupI t) := by
  obtain ⟨a, rfl, q⟩ := q
  exact .tup q (fun c => by rw [nd_tupI hn] at c; cases c) (DqAll.ofInts t)
theorem ints_pair {K : PySem.W.Frag} {h : Hp} : ∀ {xs : List V} {ts : List (List Int)}, DqAll K h xs (ts.map tupI) → Paired (IntsAt K h) xs ts
  | _, [], q => by cases q; exact .nil
  | _, t :: ts, q => by
    rw [List.map_cons] at q
    cases q with
    | cons q1 q2 => exact .cons (dq_ints q1) (ints_pair q2)
theorem pair_ints {K : PySem.W.Frag} {h : Hp} : ∀ {xs : List V} {ts : List (List Int)}, (∀ t ∈ ts, t ≠ []) → Paired (IntsAt K h) xs ts → DqAll K h xs (ts.map tupI)
  | _, _, _, .nil => .nil
  | _, _, hn, .cons q t => .cons (ints_dq (hn _ List.mem_cons_self) q) (pair_ints (fun t h => hn t (List.mem_cons_of_mem _ h)) t)
def bSortL : AC1 := fun avs m Q => match avs with
  | [x] => match lstA m x with
    | some ds => ∃ ts, ds = ts.map tupI ∧ (∀ t ∈ ts, t ≠ []) ∧ ∀ ts', SrtL ts' ts → Q (.d (.list (ts'.map tupI))) m
    | none => False
  | _ => False
theorem cq_sortL {X : Cx} : CallQ X (.builtin "sorted") bSortL := by
  refine ⟨_, cr_sortL, fun C L Mo H m avs vs Q AQ hK b r k hh => ?_⟩
  unfold bSortL at hh
  split at hh
  · rename_i x
    obtain ⟨v, rfl, rv⟩ := av1 r
    split at hh
    · rename_i ds e
      obtain ⟨ts, rfl, hne, h2⟩ := hh
      obtain ⟨l, xs, rfl, h1, h3⟩ := lstA_ok b rv e
      refine ⟨l, xs, ts, rfl, SqL.of h1, hK ▸ (L2.Paired.mapP (ints_pair h3) fun _ _ q => by obtain ⟨t, e, q⟩ := q; exact ⟨t, e, same_tup hid_same q⟩), hne, fun ys ts' p hl hz hs hp => ?_⟩
      refine k.lst b hp (pair_ints (fun t ht => hne t (hs.1.mem_iff.mp ht)) (zip_paired hl fun p hp => ?_)) (h2 ts' hs)
      exact paired_zip (ints_pair h3) p (hz.mem_iff.mp hp)
    · exact hh.elim
  · exact hh.elim
/-- what is ascending stays -/
theorem srtL_id {ts' ts : List (List Int)} (h : SrtL ts' ts) (hs : ts.Pairwise fun x y => lexL y x = false) : ts' = ts :=
  List.Perm.eq_of_pairwise (fun x y _ _ h1 h2 => lexL_eq h2 h1) h.2 hs h.1
end QL

namespace QL
open PySem PySem.Spec PyProof.Rows L2
/-! QXD: a name walked, be it a tuple or a list -/
section
variable {X : Cx} {tg e : Expr}
theorem PI.or {t t' : TI} (h : PI X tg e t) (h' : PI X tg e t') : PI X tg e (fun σ H R => t σ H R ∨ t' σ H R) := ⟨fun pins s σ H R I q => q.elim (h.run pins s σ H R I) (h'.run pins s σ H R I)⟩
def aItV (i : Nat) : AIt := fun a Q => match slotA a.g i with
  | some (.d (.tuple ds)) => Q ds a.m
  | some (.d (.list ds)) => Q ds a.m
  | _ => False
theorem qi_var {i : Nat} (h : QE X e (aVar i)) : QI X tg e (aItV i) := fun C hK => PI.imp (PI.or (qi_tup h C hK) (qi_lst h C hK)) fun σ H R' ⟨a, L, Mo, AQ, r, k, q⟩ => by
  unfold aItV at q
  split at q
  · rename_i ds e
    refine .inl ⟨a, L, Mo, AQ, r, k, ?_⟩
    show (match slotA a.g i with | some av => _ | none => False)
    rw [e]
    exact q
  · rename_i ds e
    refine .inr ⟨a, L, Mo, AQ, r, k, ?_⟩
    show (match slotA a.g i with | some av => _ | none => False)
    rw [e]
    exact q
  · exact q.elim
end
end QL

namespace QL
open PySem PySem.Spec PyProof.Rows L2
/-! QXE: dict(terms), and what is done with dicts of int tuples -/
def TAt (K : PySem.W.Frag) (H : Hp) (y : V) (q : List Int × Addr × V) : Prop := ∃ t, y = .ref t ∧ SqT K H t [.ref q.2.1, q.2.2] ∧ SqT K H q.2.1 (q.1.map V.int)
def allX (prs : XL) : XL := prs.foldl (fun acc q => putX acc q.1 q.2.1 q.2.2) []
section
variable {X : Cx} {pins : List (Addr × Obj)} {σ : L2.St} {H : Hp} {s : Shared}
theorem terms_of (I : Inv X pins σ H s) : ∀ {ys : List V} {prs : XL} {its : List Value}, Paired (TAt X.K H) ys prs → Vals ys its →
    ∃ (ts : List Addr) (zs : YL), its = ts.map Value.ref ∧ XY prs zs ∧ zs.length = ts.length ∧ ∀ (j : Nat) z, zs[j]? = some z → ∃ t, ts[j]? = some t ∧ s.heap.IsTuple t #[.ref z.2.1, z.2.2] ∧ SqT X.K H z.2.1 (z.1.map V.int)
  | _, _, _, .nil, r => by cases r; exact ⟨[], [], rfl, .nil, rfl, fun _ _ e => by simp at e⟩
  | _, _, _, .cons (b := q) h t, r => by
    cases r with
    | cons r1 r2 =>
      obtain ⟨ts, zs, rfl, h1, h2, h3⟩ := terms_of I t r2
      obtain ⟨tt, rfl, q1, q2⟩ := h
      obtain rfl := (show _ = Value.ref tt from r1)
      obtain ⟨its2, r3, p3, _⟩ := I.tuple q1
      cases r3 with
      | cons r4 r5 =>
        cases r5 with
        | cons r6 r7 =>
          cases r7
          obtain rfl := (show _ = Value.ref q.2.1 from r4)
          refine ⟨tt :: ts, (q.1, q.2.1, _) :: zs, rfl, .cons ⟨rfl, rfl, r6⟩ h1, by simp [h2], fun j z e => ?_⟩
          cases j with
          | zero => simp only [List.getElem?_cons_zero, Option.some.injEq] at e; subst e; exact ⟨tt, rfl, p3, q2⟩
          | succ j => exact h3 j z e
theorem XY.all {prs : XL} {zs : YL} (r : XY prs zs) : ∀ {xs : XL} {ys : YL}, XY xs ys → XY (prs.foldl (fun acc q => putX acc q.1 q.2.1 q.2.2) xs) (storedAllH ys zs) := by
  induction r with
  | nil => intro xs ys h; exact h
  | @cons p q ps qs h t ih =>
    intro xs ys g
    obtain ⟨h1, h2, h3⟩ := h
    have e : storedAllH ys (q :: qs) = storedAllH (storedH ys q.1 q.2.1 q.2.2) qs := rfl
    rw [e, List.foldl_cons, h1, h2]
    exact ih (g.put q.1 q.2.1 h3)
theorem allX_len (prs : XL) : ∀ xs : XL, (prs.foldl (fun acc q => putX acc q.1 q.2.1 q.2.2) xs).length ≤ xs.length + prs.length := by
  induction prs with
  | nil => intro xs; exact Nat.le_refl _
  | cons p r ih =>
    intro xs
    have := ih (putX xs p.1 p.2.1 p.2.2)
    have := putX_len xs p.1 p.2.1 p.2.2
    rw [List.foldl_cons, List.length_cons]; omega
theorem dictX_fin {p : Addr} {T : String} {fp : List Addr} {OK : Heap → Prop} {pv : List (Value × Value)} {prs : XL} {zs : YL} {Q : VK} (hcalm : X.calm = true) (hu : X.A.units + 2 < cLine) (I : Inv X pins σ H s)
    (P : PairArg X.prog X.w T p fp [] zs.length (PairRel pv) OK) (ok : OK s.heap) (e : pv = zs.map fun z => (Value.ref z.2.1, z.2.2)) (hz : zs.length ≤ sizeLine) (r : XY prs zs) (hk : ∀ z ∈ zs, SqT X.K H z.2.1 (z.1.map V.int))
    (q : ∀ l, H l = none → Q (.ref l) (upd H l (.ext (XD (allX prs) l)))) : wpAny (model X.prog X.w) X.A (call (.type "dict") [.ref p]) (EP X pins σ Q) X.xe s := by
  refine call_dict_pairsH (knd := tupleKind (PySem.intKind X.prog X.w)) (ps := zs) P (I.ok.hd hcalm) hu ok ⟨rfl, fun i key v h => ?_⟩ (fun h' hs x hx => ?_) hz fun h' tk hd' k => ?_
  · have h : pv[i]? = some (key, v) := h
    rw [e, List.getElem?_map] at h
    cases c : zs[i]? with
    | none => rw [c] at h; cases h
    | some z => rw [c] at h; cases h; exact ⟨z.1, z.2.1, rfl, rfl⟩
  · obtain ⟨o, its, m, h1, h2⟩ := xkey_of I (hk x hx)
    exact ⟨o, its, m, hs _ _ (Nat.ne_of_lt (Heap.lt_size h1)) (fun c => by cases c) h1, h2⟩
  · have hm : (s.heap.objs.size == sysModules) = false := beq_eq_false_iff_ne.mpr (Nat.ne_of_gt I.big)
    have hl : (allX prs).length ≤ sizeLine := by
      have := allX_len prs []
      have := Paired.length r
      unfold allX
      simp only [List.length_nil] at *
      omega
    exact ⟨.ref s.heap.objs.size, _, I.laid (t' := tk) (o := .ext (XD (allX prs) s.heap.objs.size)) (fun b o e => k b o (fun c => by cases c) e) (Nat.le_refl _) (xd_ext hl hm (XY.all r .nil) hd'), rfl, q _ (I.hok.fresh (Nat.le_refl _))⟩
theorem call_dictX (hcalm : X.calm = true) (hu : X.A.units + 2 < cLine) : CallR X (.type "dict") (fun xs H Q => ∃ p ys prs, xs = [.ref p] ∧ (SqL X.K H p ys ∨ (SqT X.K H p ys ∧ NoDi X.K H p)) ∧ Paired (TAt X.K H) ys prs ∧
    ∀ l, H l = none → Q (.ref l) (upd H l (.ext (XD (allX prs) l)))) := by
  rintro pins s σ H xs us Q I r ⟨p, ys, prs, rfl, hq, hp, q⟩
  obtain ⟨u, rfl, rx⟩ := vals1 r
  cases rx
  have go : ∀ (T : String) (its : List Value), Vals ys its → ys.length ≤ sizeLine → PlainSeq T s.heap p its.toArray → (∀ items Ts ps, PairArg X.prog X.w T p (p :: (List.range ps.length).map Ts) [] ps.length (PairRel ps) (fun h => PlainSeq T h p items ∧ PairItems h items Ts ps)) → wpAny (model X.prog X.w) X.A (call (.type "dict") [.ref p]) (EP X pins σ Q) X.xe s := by
    intro T its rv hz pl P
    obtain ⟨ts, zs, rfl, r1, r2, r3⟩ := terms_of I hp rv
    have hlen : zs.length ≤ sizeLine := by have := Paired.length r1; have := Paired.length hp; omega
    have P' := P (ts.map Value.ref).toArray (fun j => ts.getD j 0) (zs.map fun z => (Value.ref z.2.1, z.2.2))
    rw [List.length_map] at P'
    refine dictX_fin hcalm hu I P' ⟨pl, by simp [r2], fun j k v e => ?_⟩ rfl hlen r1 (fun z hz => ?_) q
    · rw [List.getElem?_map] at e
      cases c : zs[j]? with
      | none => rw [c] at e; cases e
      | some z =>
        rw [c] at e; cases e
        obtain ⟨t, g1, g2, _⟩ := r3 j z c
        have e2 : ts.getD j 0 = t := by rw [List.getD_eq_getElem?_getD, g1]; rfl
        show (ts.map Value.ref).toArray[j]? = some (.ref (ts.getD j 0)) ∧ PairAt s.heap (ts.getD j 0) _ _; rw [e2]
        exact ⟨by simp [g1], .inl g2⟩
    · obtain ⟨j, hj, e⟩ := List.mem_iff_getElem.mp hz
      obtain ⟨_, _, _, g⟩ := r3 j z (by rw [List.getElem?_eq_getElem hj, e])
      exact g
  rcases hq with hq | ⟨hq, hn⟩
  · obtain ⟨its, rv, pl, hz⟩ := I.list hq
    obtain ⟨o, n, ho, hc, hd, hdat⟩ := pl
    exact go "list" its rv hz ⟨o, n, ho, hc, hd, hdat⟩ (PairArg.list p)
  · obtain ⟨its, rv, ⟨o, ho, hc, n, hdat⟩, hz⟩ := I.tuple hq
    have hd : o.dict = none := by
      rcases hn with ⟨o', u, e, hd⟩ | ⟨o', e, hd⟩
      · have := (I.hok _ _ e).1
        rw [ho] at this; cases this; exact hd
      · have := I.kIn _ _ e
        rw [ho] at this; cases this; exact hd
    exact go "tuple" its rv hz ⟨o, n, ho, hc, hd, hdat⟩ (PairArg.tuple p)
end
/-! ### readings -/
def intsO : List D → Option (List Int)
  | [] => some []
  | .int i :: r => match intsO r with
    | some l => some (i :: l)
    | none => none
  | _ => none
theorem intsO_map (l : List Int) : intsO (l.map .int) = some l := by
  induction l with
  | nil => rfl
  | cons i r ih => rw [List.map_cons]; simp [intsO, ih]
theorem intsO_ok : ∀ {ds : List D} {l : List Int}, intsO ds = some l → ds = l.map .int
  | [], _, e => by cases e; rfl
  | d :: r, l, e => by
    cases d <;> simp only [intsO] at e
    all_goals try cases e
    split at e
    · rename_i l' e2
      cases e
      rw [intsO_ok e2]; rfl
    · cases e
def xA (m : Mm) : AV → Option (List (List Int × D))
  | .xt kvs => some kvs
  | .o j => match m.o[j]? with
    | some (.xd kvs) => some kvs
    | _ => none
  | _ => none
def xkA : AV → Option (List Int)
  | .d (.tuple ds) => intsO ds
  | _ => none
section
variable {C : Ct} {m : Mm} {L Mo : List Addr} {H : Hp} {x y : AV} {v w : V}
theorem xA_ok {kvs : List (List Int × D)} (b : B C m L Mo H) (r : AVR C L Mo H x v) (h : xA m x = some kvs) : ∃ l xs, v = .ref l ∧ H l = some (.ext (XD xs l)) ∧ XQ C.K (C.hd L Mo H) xs kvs := by
  unfold xA at h
  split at h
  · cases h
    obtain ⟨a, xs, rfl, q1, q2⟩ := r
    exact ⟨a, xs, rfl, (hid_some q1).2, q2⟩
  · split at h
    · rename_i e
      cases h
      obtain ⟨l, rfl, _, ys, h3, h4⟩ := o_at b r e
      exact ⟨l, ys, rfl, h3, h4⟩
    · cases h
  · cases h
theorem xkA_ok {ks : List Int} (r : AVR C L Mo H y w) (h : xkA y = some ks) : ∃ b, w = .ref b ∧ SqT C.K (C.hd L Mo H) b (ks.map V.int) := by
  unfold xkA at h
  split at h
  · have := intsO_ok h
    subst this
    obtain ⟨b, e, q⟩ := dq_ints (show Dq C.K (C.hd L Mo H) w (tupI ks) from r)
    exact ⟨b, e, q⟩
  · cases h
theorem XQ.keys {K : PySem.W.Frag} {h : Hp} {xs : XL} {kvs : List (List Int × D)} (q : XQ K h xs kvs) : KeysAt K h xs := by
  intro x hx
  induction q with
  | nil => cases hx
  | cons p t ih =>
    rcases List.mem_cons.mp hx with rfl | hx
    · exact p.2.1
    · exact ih hx
theorem KeysAt.mono {K : PySem.W.Frag} {h h' : Hp} {xs : XL} (e : Same h h') (q : KeysAt K h xs) : KeysAt K h' xs := fun x hx => same_tup e (q x hx)
theorem XQ.opt {K : PySem.W.Frag} {h : Hp} {xs : XL} {kvs : List (List Int × D)} (q : XQ K h xs kvs) (k : List Int) : OptQ K h (valX xs k) (valD kvs k) := by
  induction q with
  | nil => exact True.intro
  | @cons p c ps cs q t ih =>
    obtain ⟨q1, _, q3⟩ := q
    rw [valD_cons]
    by_cases e : p.1 = k
    · rw [if_pos (q1.symm.trans e)]
      have : valX (p :: ps) k = some p.2.2 := by unfold valX; rw [List.find?_cons_of_pos (by simpa using e)]; rfl
      rw [this]; exact q3
    · rw [if_neg (fun z => e (q1.trans z))]
      have : valX (p :: ps) k = valX ps k := by unfold valX; rw [List.find?_cons_of_neg (by simpa using e)]
      rw [this]; exact ih
theorem XQ.any {K : PySem.W.Frag} {h : Hp} {xs : XL} {kvs : List (List Int × D)} (q : XQ K h xs kvs) (k : List Int) : (xs.any fun x => decide (x.1 = k)) = (kvs.any fun x => decide (x.1 = k)) := by
  induction q with
  | nil => rfl
  | cons q t ih => rw [List.any_cons, List.any_cons, ih, q.1]
theorem XQ.put {K : PySem.W.Frag} {h : Hp} {xs : XL} {kvs : List (List Int × D)} (q : XQ K h xs kvs) {k : List Int} {b : Addr} {v : V} {d : D} (hb : SqT K h b (k.map V.int)) (hv : Dq K h v d) : XQ K h (putX xs k b v) (putD kvs k d) := by
  have e := q.any k
  unfold putX putD
  rw [e]
  split
  · clear e
    rename_i c
    clear c
    induction q with
    | nil => exact .nil
    | @cons p c ps cs q t ih =>
      obtain ⟨q1, q2, q3⟩ := q
      rw [List.map_cons, List.map_cons]
      refine .cons ?_ ih
      by_cases e : p.1 = k
      · rw [if_pos e, if_pos (q1.symm.trans e)]; exact ⟨q1, q2, hv⟩
      · rw [if_neg e, if_neg (fun z => e (q1.trans z))]; exact ⟨q1, q2, q3⟩
  · exact Paired.snoc q ⟨rfl, hb, hv⟩
theorem XQ.len {K : PySem.W.Frag} {h : Hp} {xs : XL} {kvs : List (List Int × D)} (q : XQ K h xs kvs) : xs.length = kvs.length := Paired.length q
theorem XQ.tup {K : PySem.W.Frag} {h H : Hp} (e : Same h H) {xs : XL} {kvs : List (List Int × D)} {ks : List Int} {a b : Addr} (q : XQ K h xs kvs) (ha : H a = some (.ext (XD xs a))) (hb : SqT K h b (ks.map V.int)) : XTup K H xs ks a b := ⟨ha, q.keys.mono e, same_tup e hb⟩
end
/-- the terms that dict() takes -/
def termsD : List D → Option (List (List Int × D))
  | [] => some []
  | .tuple [.tuple ks, v] :: r => match intsO ks, termsD r with
    | some k, some l => some ((k, v) :: l)
    | _, _ => none
  | _ => none
def allD (kvs : List (List Int × D)) : List (List Int × D) := kvs.foldl (fun acc q => putD acc q.1 q.2) []
theorem termsD_ok {K : PySem.W.Frag} {h : Hp} : ∀ {ds : List D} {xs : List V} {kvs : List (List Int × D)}, DqAll K h xs ds → termsD ds = some kvs → ∃ prs : XL, Paired (TAt K h) xs prs ∧ XQ K h prs kvs
  | [], _, _, r, e => by cases e; cases r; exact ⟨[], .nil, .nil⟩
  | d :: ds, _, _, r, e => by
    cases r with
    | cons r1 r2 =>
      unfold termsD at e
      split at e
      · rename_i h1; cases h1
      · rename_i k v rr h1
        cases h1
        split at e
        · rename_i k' l e1 e2
          cases e
          have := intsO_ok e1
          subst this
          obtain ⟨prs, h2, h3⟩ := termsD_ok r2 e2
          cases r1 with
          | tup q1 _ q2 =>
            cases q2 with
            | cons q3 q4 =>
              cases q4 with
              | cons q5 q6 =>
                cases q6
                obtain ⟨b, rfl, hb⟩ := dq_ints q3
                exact ⟨(k', b, _) :: prs, .cons ⟨_, rfl, q1, hb⟩ h2, .cons ⟨rfl, hb, q5⟩ h3⟩
        · cases e
      · cases e
theorem XQ.all {K : PySem.W.Frag} {h : Hp} {prs : XL} {kvs : List (List Int × D)} (q : XQ K h prs kvs) : ∀ {xs : XL} {ys : List (List Int × D)}, XQ K h xs ys → XQ K h (prs.foldl (fun acc q => putX acc q.1 q.2.1 q.2.2) xs) (kvs.foldl (fun acc q => putD acc q.1 q.2) ys) := by
  induction q with
  | nil => intro xs ys g; exact g
  | @cons p c ps cs q t ih =>
    obtain ⟨q1, q2, q3⟩ := q
    intro xs ys g
    rw [List.foldl_cons, List.foldl_cons, ← q1]
    exact ih (g.put q2 q3)
def bDictX : AC1 := fun avs m Q => match avs with
  | [.d (.tuple ds)] => NdNeed ds = true ∧ match termsD ds with
    | some kvs => Q (.o m.o.length) ⟨m.s, m.o ++ [.xd (allD kvs)]⟩
    | none => False
  | [x] => match lstA m x with
    | some ds => match termsD ds with
      | some kvs => Q (.o m.o.length) ⟨m.s, m.o ++ [.xd (allD kvs)]⟩
      | none => False
    | none => False
  | _ => False
section
variable {X : Cx}
theorem cq_dictX (hc : X.calm = true) (hu : X.A.units + 2 < cLine) : CallQ X (.type "dict") bDictX := by
  refine ⟨_, call_dictX hc hu, fun C L Mo H m avs vs Q AQ hK b r k hh => ?_⟩
  have fin : ∀ {prs : XL} {kvs : List (List Int × D)}, XQ C.K (C.hd L Mo H) prs kvs → AQ (.o m.o.length) ⟨m.s, m.o ++ [.xd (allD kvs)]⟩ → ∀ l, H l = none → Q (.ref l) (upd H l (.ext (XD (allX prs) l))) := fun q hh l hl =>
    k _ _ _ _ _ _ hh (b.allocO (o := .xd (allD _)) hl fun h' e => ⟨_, upd_same, (q.all .nil).mono e⟩) ⟨l, by rw [Paired.length b.ob]; simp, rfl⟩ (X2.allocO hl)
  have tm : ∀ {xs : List V} {prs : XL}, Paired (TAt C.K (C.hd L Mo H)) xs prs → Paired (TAt X.K H) xs prs := fun q => hK ▸ L2.Paired.mapP q fun _ _ ⟨t, e, q1, q2⟩ => ⟨t, e, same_tup hid_same q1, same_tup hid_same q2⟩
  unfold bDictX at hh
  split at hh
  · rename_i ds
    obtain ⟨hn, hh⟩ := hh
    split at hh
    · rename_i kvs e
      obtain ⟨v, rfl, rv⟩ := av1 r
      cases rv with
      | tup h1 h2 h3 =>
        obtain ⟨prs, g1, g2⟩ := termsD_ok h3 e
        exact ⟨_, _, prs, rfl, .inr ⟨hK ▸ same_tup hid_same h1, hK ▸ (h2 hn).mono hid_same⟩, tm g1, fin g2 hh⟩
    · exact hh.elim
  · split at hh
    · rename_i ds e
      split at hh
      · rename_i kvs e2
        obtain ⟨v, rfl, rv⟩ := av1 r
        obtain ⟨l, xs, rfl, h1, h2⟩ := lstA_ok b rv e
        obtain ⟨prs, g1, g2⟩ := termsD_ok h2 e2
        exact ⟨l, xs, prs, rfl, .inl (SqL.of h1), tm g1, fin g2 hh⟩
      · exact hh.elim
    · exact hh.elim
  · exact hh.elim
end
end QL

namespace QL
open PySem PySem.Spec PyProof.Rows L2 RZ
/-! QXF: sorted(d), d[k], d[k] = v, d.get, in, of dicts of int tuples -/
section
variable {X : Cx} {pins : List (Addr × Obj)} {σ : L2.St} {H : Hp} {s : Shared}
theorem keysAt_paired {K : PySem.W.Frag} : ∀ {xs : XL}, KeysAt K H xs → Paired (IntsAt K H) (xs.map fun x => V.ref x.2.1) (xs.map (·.1))
  | [], _ => .nil
  | x :: xs, h => .cons ⟨_, rfl, h x List.mem_cons_self⟩ (keysAt_paired fun y hy => h y (List.mem_cons_of_mem _ hy))
theorem cr_sortX (hc : X.calm = true) : CallR X (.builtin "sorted") (fun vs H Q => ∃ (a : Addr) (kxs : XL), vs = [V.ref a] ∧ H a = some (.ext (XD kxs a)) ∧ KeysAt X.K H kxs ∧ (∀ x ∈ kxs, x.1 ≠ []) ∧
    ∀ ys ts' p, Paired (IntsAt X.K H) ys ts' → SrtL ts' (kxs.map (·.1)) → (ys.zip ts').Perm ((kxs.map fun x => V.ref x.2.1).zip (kxs.map (·.1))) → H p = none → Q (.ref p) (upd H p (.lst ys))) := by
  intro pins s σ H vs us Q I r h
  obtain ⟨d, kxs, rfl, hd, hkey, hne, q⟩ := h
  obtain ⟨u, rfl, rx⟩ := r.one
  cases rx
  obtain ⟨z, hs, ks, rel, o, es, ep, ho, hx, hdt, he, _, hn⟩ := xd_rd I hd hkey
  have l1 : es.size = ks.length := size_of_entries he
  have l2 : kxs.length = ks.length := Paired.length rel
  have hT := keysAt_paired hkey
  refine Calls.call_function_entry PyProof.Rows.kind_sorted PyProof.Rows.plain_sorted PyProof.Rows.entry_sorted (PyProof.Rows.args_sorted1 _) ?_
  unfold Builtin.«sorted»
  refine wpAny_bind (m := checkCount "sorted" 1 1 _) (wpAny_pure ?_)
  refine wpAny_bind (PySem.W.kdu_collect (A := X.A.in1) (kdl_raw hs hx hdt) (I.ok.hd hc) ho (by omega) fun h' tk acc' kp it => ?_)
  have ea : acc'.toList = ks.map fun x => Value.ref x.2.1 := by
    have hl : acc'.toList.length = ks.length := by rw [Array.length_toList, it.1]; exact l1
    apply List.ext_getElem?
    intro j
    rw [List.getElem?_map]
    cases hj : acc'.toList[j]? with
    | none =>
      have h1 := List.getElem?_eq_none_iff.mp hj
      rw [List.getElem?_eq_none (by omega)]
      all_goals rfl
    | some v =>
      obtain ⟨en, hen, hv⟩ := it.2 j v (by rw [← Array.getElem?_toList]; exact hj)
      have qe := entry_at he j
      rw [hen] at qe
      cases hb : ks[j]? with
      | none =>
        rw [hb] at qe
        exact nomatch (show some en = none from qe)
      | some b =>
        rw [hb] at qe
        have e2 : en = entryOfKey (tupleKind (PySem.intKind X.prog X.w)) b := Option.some.inj qe
        rw [hv, e2]
        all_goals rfl
  have ek : ∀ {xs : XL} {ys : YL}, XY xs ys → ys.map (fun x => Value.ref x.2.1) = (xs.map fun x => x.2.1).map Value.ref := by
    intro xs ys r
    induction r with
    | nil => rfl
    | cons h t ih => rw [List.map_cons, List.map_cons, List.map_cons, ih, h.2.1]
  have eb : acc'.toList = (kxs.map fun x => x.2.1).map Value.ref := ea.trans (ek rel)
  have rv : Vals ((kxs.map fun x => x.2.1).map V.ref) acc'.toList := by rw [eb]; exact vals_refs _
  rw [List.map_map] at rv
  change Vals (kxs.map fun x => V.ref x.2.1) _ at rv
  have hall0 := pairedL_all hT
  generalize hxs : (kxs.map fun x => V.ref x.2.1) = xs at rv hT q hall0
  have hz : xs.length ≤ sizeLine := by rw [← hxs, List.length_map]; exact z
  have hlen : acc'.toList.length = xs.length := rv.length.symm
  have I1 : Inv X pins σ H { s with heap := h', toks := tk } := I.kept kp
  have tr : ∀ v ∈ acc'.toList, IsInts h' v (kOfL X.K H (backV v)) ∧ kOfL X.K H (backV v) ≠ [] := by
    intro v hv
    obtain ⟨e1, e2⟩ := refs_back rv fun x m => by
      obtain ⟨p, _, t, e, _⟩ := hall0 x m
      exact ⟨t, e⟩
    obtain ⟨b, rfl⟩ := e2 v hv
    have hm : backV (.ref b) ∈ xs := by rw [e1]; exact List.mem_map.mpr ⟨_, hv, rfl⟩
    obtain ⟨p, hpm, hp⟩ := hall0 _ hm
    rw [kOfL_eq I1 hp]
    obtain ⟨x, hx, rfl⟩ := List.mem_map.mp hpm
    exact ⟨isInts_of I1 (x := .ref b) rfl hp, hne x hx⟩
  refine wpAny_bind (wpAny_newList ?_ (by rw [hlen]; exact hz))
  have hoL : (h'.push (seqObj "list" acc'.toList.toArray 0)).get? h'.objs.size = some (seqObj "list" acc'.toList.toArray 0) := Heap.get?_push_size _ rfl
  have old : ∀ b o, h'.get? b = some o → (h'.push (seqObj "list" acc'.toList.toArray 0)).get? b = some o := fun b o e => Heap.get?_push_of_some _ e
  show wpAny _ _ _ _ _ { s with heap := h'.push (seqObj "list" acc'.toList.toArray 0), toks := tk }
  refine wpAny_bind (wpAny_holding (wpAny_call_entry PyProof.Rows.slot_list_sort ⟨_, hoL, rfl⟩ PyProof.Rows.entry_list_sort
    (SrtO.list_sort_ord (s := { s with heap := h'.push (seqObj "list" acc'.toList.toArray 0), toks := tk }) (swo_lexL fun v => kOfL X.K H (backV v)) hoL (by rw [hlen]; exact hz) (fun h2 => ?_) fun out hs' hb => ⟨_, rfl, ?_⟩) (PyProof.Rows.args_list_sort _)))
  · refine ints_sortableO (by omega) (fun v hm => ⟨(tr v hm).1.keeps fun b o e _ => old b o e, (tr v hm).2⟩) fun o e => ?_
    have e' : some o = some (seqObj "list" acc'.toList.toArray 0) := e.symm.trans hoL
    cases e'
    intro c
    exact absurd (Value.type.inj c) (by decide)
  · obtain ⟨ys, ts', r1, r2, r3, r4, r5, r6⟩ := sort_outL I1 rv hT hs' hb
    obtain ⟨e', he'⟩ := PyProof.Rows.sortedHeap_at (vs := acc'.toList) (out := out.toArray) hoL
    refine wpAny_pure ⟨_, rfl, .ref h'.objs.size, upd H h'.objs.size (.lst ys), I1.laid (t' := tk) (fun b u e => ?_) (Nat.le_refl _)
      (show ObjOk X.prog X.w _ _ _ (.lst ys) from ⟨by rw [r4]; exact hz, out, e', r1, he'⟩), rfl, q ys ts' _ r2 r3 r6 (I1.hok.fresh (Nat.le_refl _))⟩
    have hb' : b < h'.objs.size := Heap.lt_size e
    rw [PyProof.Rows.sortedHeap_old (Nat.ne_of_lt hb') (by rw [size_push']; exact Nat.lt_succ_of_lt hb')]
    exact Heap.get?_push_of_some _ e
end
/-- sorted of a dict of int tuples; of a list of such -/
def bSortX : AC1 := fun avs m Q => match avs with
  | [x] => match xA m x with
    | some kvs => (∀ k ∈ kvs, k.1 ≠ []) ∧ ∀ ts', SrtL ts' (kvs.map (·.1)) → Q (.d (.list (ts'.map tupI))) m
    | none => bSortL avs m Q
  | _ => False
theorem XQ.fst {K : PySem.W.Frag} {h : Hp} {xs : XL} {kvs : List (List Int × D)} (q : XQ K h xs kvs) : xs.map (·.1) = kvs.map (·.1) := by
  induction q with
  | nil => rfl
  | cons q t ih => rw [List.map_cons, List.map_cons, ih, q.1]
theorem cq_sortX {X : Cx} (hc : X.calm = true) : CallQ X (.builtin "sorted") bSortX := by
  obtain ⟨r0, h0, i0⟩ := cq_sortL (X := X)
  refine ⟨_, CallR.or (cr_sortX hc) h0, fun C L Mo H m avs vs Q AQ hK b r k hh => ?_⟩
  unfold bSortX at hh
  split at hh
  · rename_i x
    split at hh
    · rename_i kvs e
      obtain ⟨v, rfl, rv⟩ := av1 r
      obtain ⟨hne, h2⟩ := hh
      obtain ⟨l, xs, rfl, h4, h5⟩ := xA_ok b rv e
      refine .inl ⟨l, xs, rfl, h4, hK ▸ h5.keys.mono hid_same, fun x hx => ?_, fun ys ts' p h6 h7 h8 hp => k.lst b hp (pair_ints (fun t ht => ?_) (zip_paired (Paired.length h6) fun p hp => ?_)) (h2 ts' (by rw [← h5.fst]; exact h7))⟩
      · have : x.1 ∈ kvs.map (·.1) := by rw [← h5.fst]; exact List.mem_map_of_mem hx
        obtain ⟨y, hy, e⟩ := List.mem_map.mp this
        rw [← e]; exact hne y hy
      · have := h7.1.mem_iff.mp ht
        rw [h5.fst] at this
        obtain ⟨y, hy, e⟩ := List.mem_map.mp this
        rw [← e]; exact hne y hy
      · exact paired_zip (keysAt_paired h5.keys) p (h8.mem_iff.mp hp)
    · exact .inr (i0 C L Mo H m _ vs Q AQ hK b r k hh)
  · exact hh.elim
section
variable {X : Cx} {o i e f value : Expr} {pos pos' apos cpos : Pos} {td ty tv tx : ATE}
/-- d[y] -/
def aXix : AR2 := fun x y m Q => match xA m x, xkA y with
  | some kvs, some ks => match valD kvs ks with
    | some d => Q (.d d) m
    | none => False
  | _, _ => False
theorem q_xix (hu : X.A.units + 1 < cLine) (ho : QE X o td) (hi : QE X i ty) (hs : NoSl i := by intro _ _; rfl) : QE X (.Subscript o i pos) (aBin aXix td ty) := fun C hK => PE.imp (pe_xix hu (ho C hK) (hi C hK) hs) fun σ H Q ⟨a, L, Mo, AQ, r, k, h⟩ => by
  refine ⟨a, L, Mo, _, r, fun x m1 v L1 Mo1 H1 h1 b1 v1 e1 => ⟨⟨a.g, m1⟩, L1, Mo1, _, r.next b1 e1, fun y m2 w L2 Mo2 H2 h2 b2 w2 e2 => ?_, h1⟩, h⟩
  have h2' : (match xA m2 x, xkA y with | some kvs, some ks => (match valD kvs ks with | some d => AQ (.d d) m2 | none => False) | _, _ => False) := h2
  split at h2'
  · rename_i kvs ks e1' e2'
    split at h2'
    · rename_i d e
      obtain ⟨l, xs, rfl, g1, g2⟩ := xA_ok b2 (v1.mono e2) e1'
      obtain ⟨c, rfl, g3⟩ := xkA_ok w2 e2'
      have q := g2.opt ks
      rw [e] at q
      obtain ⟨z, hz, q⟩ := q.some_
      exact ⟨l, c, xs, ks, z, rfl, rfl, hK ▸ g2.tup hid_same g1 g3, hz, ((k.aft e1).aft e2).ret h2' b2 q⟩
    · exact h2'.elim
  · exact h2'.elim
/-- y in d -/
def aXin : AR2 := fun y x m Q => match xA m x, xkA y with
  | some kvs, some ks => Q (.d (.bool (valD kvs ks).isSome)) m
  | _, _ => False
def aXnin : AR2 := fun y x m Q => match xA m x, xkA y with
  | some kvs, some ks => Q (.d (.bool (!(valD kvs ks).isSome))) m
  | _, _ => False
theorem oq_xin (hu : X.A.units + 1 < cLine) : OpQ X (compareOp .In) aXin := by
  refine ⟨_, op_xin hu, fun C L Mo H m y x w v Q AQ hK b r2 r1 k hh => ?_⟩
  unfold aXin at hh
  split at hh
  · rename_i kvs ks e1 e2
    obtain ⟨l, xs, rfl, g1, g2⟩ := xA_ok b r1 e1
    obtain ⟨c, rfl, g3⟩ := xkA_ok r2 e2
    refine ⟨l, c, xs, ks, rfl, rfl, hK ▸ g2.tup hid_same g1 g3, ?_⟩
    rw [(g2.opt ks).isSome]
    exact k.ret hh b (.bl _)
  · exact hh.elim
theorem oq_xnin (hu : X.A.units + 1 < cLine) : OpQ X (compareOp .NotIn) aXnin := by
  refine ⟨_, op_xnin hu, fun C L Mo H m y x w v Q AQ hK b r2 r1 k hh => ?_⟩
  unfold aXnin at hh
  split at hh
  · rename_i kvs ks e1 e2
    obtain ⟨l, xs, rfl, g1, g2⟩ := xA_ok b r1 e1
    obtain ⟨c, rfl, g3⟩ := xkA_ok r2 e2
    refine ⟨l, c, xs, ks, rfl, rfl, hK ▸ g2.tup hid_same g1 g3, ?_⟩
    rw [(g2.opt ks).isSome]
    exact k.ret hh b (.bl _)
  · exact hh.elim
/-- d.get(y, z) -/
def aXget (td ty tx : ATE) : ATE := fun a Q => td a fun x m1 => (xA m1 x).isSome = true ∧ ty ⟨a.g, m1⟩ fun y m2 => tx ⟨a.g, m2⟩ fun z m3 => match xA m3 x, xkA y with
  | some kvs, some ks => match valD kvs ks with
    | some d => Q (.d d) m3
    | none => Q z m3
  | _, _ => False
theorem q_xget (hu : X.A.units + 1 < cLine) (ho : QE X o td) (he : QE X e ty) (hf : QE X f tx) (m : M2 X o "get" apos e f cpos := by exact ⟨rfl, rfl, rfl, rfl⟩) : QE X (.Call (.Attribute o "get" apos) [e, f] [] cpos) (aXget td ty tx) := fun C hK =>
  PE.imp (pe_xget hu (ho C hK) (he C hK) (hf C hK) m) fun σ H Q ⟨a, L, Mo, AQ, r, k, h⟩ => by
    refine ⟨a, L, Mo, _, r, fun x m1 v L1 Mo1 H1 ⟨h0, h1⟩ b1 v1 e1 => ?_, h⟩
    obtain ⟨kv0, e0⟩ := Option.isSome_iff_exists.mp h0
    obtain ⟨l, xs0, rfl, g0, _⟩ := xA_ok b1 v1 e0
    refine ⟨l, xs0, rfl, g0, ⟨a.g, m1⟩, L1, Mo1, _, r.next b1 e1, fun y m2 w L2 Mo2 H2 h2 b2 w2 e2 => ⟨⟨a.g, m2⟩, L2, Mo2, _, (r.next b1 e1).next b2 e2, fun z m3 w' L3 Mo3 H3 h3 b3 w3 e3 => ?_, h2⟩, h1⟩
    have h3' : (match xA m3 x, xkA y with | some kvs, some ks => (match valD kvs ks with | some d => AQ (.d d) m3 | none => AQ z m3) | _, _ => False) := h3
    split at h3'
    · rename_i kvs ks c1 c2
      obtain ⟨l', xs, hl, g1, g2⟩ := xA_ok b3 ((v1.mono e2).mono e3) c1
      obtain ⟨c, rfl, g3⟩ := xkA_ok (w2.mono e3) c2
      cases hl
      have q := g2.opt ks
      refine ⟨c, xs, ks, rfl, hK ▸ g2.tup hid_same g1 g3, ?_⟩
      split at h3'
      · rename_i d e
        rw [e] at q
        obtain ⟨z', hz, q⟩ := q.some_
        rw [hz]
        exact (((k.aft e1).aft e2).aft e3).ret h3' b3 q
      · rename_i e
        rw [e] at q
        rw [q.none_]
        exact (((k.aft e1).aft e2).aft e3).ret h3' b3 w3
    · exact h3'.elim
/-- d[y] = v -/
def aXput (td ty tv : ATE) : ATS := fun E a => tv a fun v m1 => td ⟨a.g, m1⟩ fun x m2 => ty ⟨a.g, m2⟩ fun y m3 => match x, v with
  | .o j, .d d => match m3.o[j]?, xkA y with
    | some (.xd kvs), some ks => kvs.length ≤ 1000000 ∧ E.nx ⟨a.g, ⟨m3.s, m3.o.set j (.xd (putD kvs ks d))⟩⟩
    | _, _ => False
  | _, _ => False
theorem qs_xput (hu : X.A.units + 1 < cLine) (ho : QE X o td) (hi : QE X i ty) (hv : QE X value tv) (hs : swapsWith value (some (.Subscript o i pos')) pos.line X.env = pure false := by rfl) :
    QS X (.Assign [.Subscript o i pos'] value pos) (aXput td ty tv) := fun C hK => PS.imp (ps_xput hu (ho C hK) (hi C hK) (hv C hK) hs) fun D σ H ⟨a, L, Mo, AD, r, b, h⟩ => by
  refine ⟨a, L, Mo, _, r, fun v m1 w L1 Mo1 H1 h1 b1 w1 e1 => ⟨⟨a.g, m1⟩, L1, Mo1, _, r.next b1 e1, fun x m2 u L2 Mo2 H2 h2 b2 v2 e2 => ⟨⟨a.g, m2⟩, L2, Mo2, _, (r.next b1 e1).next b2 e2, fun y m3 z L3 Mo3 H3 h3 b3 z3 e3 => ?_, h2⟩, h1⟩, h⟩
  have r3 := ((r.next b1 e1).next b2 e2).next b3 e3
  split at h3
  · rename_i j d
    have hw : Dq C.K (C.hd L3 Mo3 H3) w d := (w1.mono e2).mono e3
    split at h3
    · rename_i kvs ks e ek
      obtain ⟨l, rfl, hl, xs, h4, h5⟩ := o_at b3 (v2.mono e3) e
      obtain ⟨c, rfl, g3⟩ := xkA_ok z3 ek
      refine ⟨l, c, xs, ks, rfl, rfl, hK ▸ h5.tup hid_same h4 g3, by rw [h5.len]; exact line6 h3.1, b.nx _ _ _ _ _ h3.2 (r3.next (b3.upd hl fun h e => ⟨_, upd_same, by rw [e]; exact h5.put g3 hw⟩) (X2.upd (List.mem_of_getElem? hl)))⟩
    · exact h3.elim
  · exact h3.elim
/-- {} -/
def aXnew : ATE := fun a Q => Q (.o a.m.o.length) ⟨a.m.s, a.m.o ++ [.xd []]⟩
theorem q_xnew : QE X (.Dict [] [] pos) aXnew := fun C hK => PE.imp pe_xnew fun σ H Q ⟨a, L, Mo, AQ, r, k, h⟩ p hp =>
  k _ _ _ _ _ _ h (r.b.allocO (o := .xd []) hp fun h' e => ⟨[], upd_same, .nil⟩) ⟨p, by rw [Paired.length r.b.ob]; simp, rfl⟩ (X2.allocO hp)
end
/-- len(d) -/
def bLenX : AC1 := fun avs m Q => match avs with
  | [x] => match xA m x with
    | some kvs => Q (.d (.int kvs.length)) m
    | none => False
  | _ => False
theorem call_lenX {X : Cx} : CallR X (.builtin "len") (fun xs H Q => ∃ p kxs, xs = [.ref p] ∧ H p = some (.ext (XD kxs p)) ∧ KeysAt X.K H kxs ∧ Q (.int ((kxs.length : Nat) : Int)) H) := by
  rintro pins s σ H xs us Q I r ⟨p, kxs, rfl, hp, hk, q⟩
  obtain ⟨u, rfl, rx⟩ := vals1 r
  obtain rfl : u = .ref p := rx
  obtain ⟨z, hd, ys, rel, dd⟩ := xd_rd I hp hk
  have hl : kxs.length = ys.length := Paired.length rel
  refine call_len_dictH hd dd (by rw [← hl]; rw [sizeLine_eq] at z; omega) ?_
  rw [← hl]
  exact ⟨.int ((kxs.length : Nat) : Int), H, I.tok _, ⟨_, rfl⟩, q⟩
theorem cq_lenX {X : Cx} : CallQ X (.builtin "len") bLenX := by
  refine ⟨_, call_lenX, fun C L Mo H m avs vs Q AQ hK b r k hh => ?_⟩
  unfold bLenX at hh
  split at hh
  · rename_i x
    split at hh
    · rename_i kvs e
      obtain ⟨v, rfl, rv⟩ := av1 r
      obtain ⟨l, xs, rfl, h4, h5⟩ := xA_ok b rv e
      exact ⟨l, xs, rfl, h4, hK ▸ h5.keys.mono hid_same, by rw [h5.len]; exact k.ret hh b (.int _)⟩
    · exact hh.elim
  · exact hh.elim
theorem hu2 {k : Nat} {A : Around} (hr : Room k A) : A.units + 2 < cLine := by have := hr.un; omega
end QL

namespace QL
open PySem PySem.Spec PyProof.Rows L2
/-! QXG: starred items of a display, of a call's arguments -/
theorem DqAll.avrs {C : Ct} {L Mo : List Addr} {H : Hp} : ∀ {xs : List V} {ds : List D}, DqAll C.K (C.hd L Mo H) xs ds → AVRs C L Mo H (ds.map AV.d) xs
  | _, [], h => by cases h; exact .nil
  | _, d :: ds, h => by
    cases h with
    | cons q t => exact .cons q (DqAll.avrs t)
theorem paired_append {α β : Type} {F : α → β → Prop} : ∀ {l l' : List α} {r r' : List β}, Paired F l r → Paired F l' r' → Paired F (l ++ l') (r ++ r')
  | _, _, _, _, .nil, h => h
  | _, _, _, _, .cons q t, h => .cons q (paired_append t h)
def aStar (te : ATE) (tr : ATA) : ATA := fun a Q => te a fun x m1 => match seqA m1 x with
  | some ds => tr ⟨a.g, m1⟩ fun xs m2 => Q (ds.map AV.d ++ xs) m2
  | none => False
theorem qa_star {X : Cx} {e : Expr} {es : List Expr} {p : Pos} {ta : ATE} {tr : ATA} (ha : QE X e ta) (hr : QA X es tr) (hs : starEach (.Starred e p :: es) X.env = (true, eval e X.env) :: starEach es X.env := by rfl) : QA X (.Starred e p :: es) (aStar ta tr) := fun C hK => PA.imp (StX.pa_star (ha C hK) (hr C hK) hs) fun σ H Q ⟨a, L, Mo, AQ, r, k, h⟩ => by
  refine ⟨a, L, Mo, _, r, fun x m1 v L1 Mo1 H1 h1 b1 v1 e1 => ?_, h⟩
  split at h1
  · rename_i ds e
    obtain ⟨l, xs, rfl, q1, q2⟩ := seqA_ok b1 v1 e
    exact ⟨l, xs, rfl, hK ▸ q1.symm, ⟨a.g, m1⟩, L1, Mo1, _, r.next b1 e1, fun ys m2 vs L2 Mo2 H2 h2 b2 v2 e2 => k _ _ _ _ _ _ h2 b2 (paired_append (AVRs.mono (DqAll.avrs q2) e2) v2) (e1.trans e2), h1⟩
  · exact h1.elim
theorem datas_app : ∀ (ds : List D) (r : List AV), datas (ds.map AV.d ++ r) = (datas r).map (ds ++ ·)
  | [], r => by
    rw [List.map_nil, List.nil_append]
    show datas r = (datas r).map fun x => x
    cases datas r <;> rfl
  | d :: ds, r => by
    rw [List.map_cons, List.cons_append]
    simp only [datas]
    rw [datas_app ds r]
    cases datas r <;> rfl
end QL

namespace QL
open PySem PySem.Spec PyProof.Rows L2

/-! ### a dict of the module by whole numbers -/
def KeysInt : List DictEntry → Prop
  | [] => True
  | e :: r => (∃ x t, e.key = .int x t ∧ e.hash = hashInt x) ∧ KeysInt r
theorem KeysInt.all : ∀ {l : List DictEntry}, KeysInt l → ∀ e ∈ l, ∃ x t, e.key = .int x t ∧ e.hash = hashInt x
  | _ :: _, ⟨h, _⟩, _, .head _ => h
  | _ :: _, ⟨_, r⟩, _, .tail _ m => r.all _ m
/-- entries tell a table -/
inductive EntT (K : PySem.W.Frag) : List DictEntry → List (Int × D) → Prop
  | nil : EntT K [] []
  | cons {e : DictEntry} {r : List DictEntry} {z : Int} {t : Tok} {d : D} {l : List (Int × D)} (v : V) (hk : e.key = .int z t) (hh : e.hash = hashInt z) (hv : RelV v e.val) (hd : ∀ H, Dq K H v d) (h : EntT K r l) : EntT K (e :: r) ((z, d) :: l)
def DictAtI (K : PySem.W.Frag) (w : World) (mg : Str → Option Value) (x : Str) (tab : List (Int × D)) : Prop := ∃ (d : Addr) (es : Array DictEntry) (n : Nat), mg x = some (.ref d) ∧ K.lookup d = some ⟨.type "dict", none, .dict es n, #[]⟩ ∧ (d == sysModules) = false ∧ EntT K es.toList tab
theorem EntT.keys {K : PySem.W.Frag} {es : List DictEntry} {tab : List (Int × D)} (h : EntT K es tab) : KeysInt es := by
  induction h with
  | nil => trivial
  | cons v hk hh hv hd h ih => exact ⟨⟨_, _, hk, hh⟩, ih⟩
theorem EntT.find {K : PySem.W.Frag} {es : List DictEntry} {tab : List (Int × D)} (h : EntT K es tab) (z : Int) : match tab.lookup z with
    | none => (es.find? fun e => Value.isInt z e.key).map (·.val) = none
    | some dd => ∃ (u : Value) (v : V), (es.find? fun e => Value.isInt z e.key).map (·.val) = some u ∧ RelV v u ∧ ∀ H, Dq K H v dd := by
  induction h with
  | nil => rfl
  | @cons e r z0 t d l v hk hh hv hd h ih =>
    rw [List.lookup_cons]
    by_cases c : z = z0
    · subst c
      rw [show (z == z) = true from beq_self_eq_true z]
      refine ⟨e.val, v, ?_, hv, hd⟩
      rw [List.find?_cons_of_pos (by rw [hk]; simp [Value.isInt])]; rfl
    · rw [show (z == z0) = false from beq_eq_false_iff_ne.mpr c]
      rw [List.find?_cons_of_neg (by rw [hk]; simp [Value.isInt]; omega)]
      exact ih
def aKinI (tab : List (Int × D)) (te : ATE) : ATE := fun a Q => te a fun y m => match y with
  | .d (.int z) => Q (.d (.bool (tab.lookup z).isSome)) m
  | _ => False
def aKixI (tab : List (Int × D)) (te : ATE) : ATE := fun a Q => te a fun y m => match y with
  | .d (.int z) => match tab.lookup z with
    | some d => Q (.d d) m
    | none => False
  | _ => False
section
variable {X : Cx} {e : Expr} {te : ATE} {x : Str} {p pos : Pos} {tab : List (Int × D)}
theorem mapOfI {prog : Program} {w : World} {K : PySem.W.Frag} {h : Heap} {d : Addr} {es : Array DictEntry} {n : Nat} (X : K.In h) (hl : K.lookup d = some ⟨.type "dict", none, .dict es n, #[]⟩) (hk : KeysInt es.toList) : h.MapOf (intKind prog w) d (fun k => findBy Value.isInt es k) :=
  ⟨_, es, n, X _ _ hl, ⟨rfl, rfl, rfl⟩, rfl, fun e he => by
    obtain ⟨x, t, e1, e2⟩ := hk.all e (Array.mem_toList_iff.mpr he)
    exact ⟨x, by rw [e1]; exact intKind_is prog w x t, e2⟩, fun _ => rfl⟩
theorem findBy_list (es : Array DictEntry) (z : Int) : findBy Value.isInt es z = (es.toList.find? fun e => Value.isInt z e.key).map (·.val) := by
  obtain ⟨l⟩ := es
  unfold findBy
  rw [List.find?_toArray]
theorem dqI_int {K : PySem.W.Frag} {H : Hp} {v : V} {z : Int} (h : Dq K H v (.int z)) : v = .int z := by cases h; rfl
theorem op_in_ki {d : Addr} {es : Array DictEntry} {n : Nat} (hl : X.K.lookup d = some ⟨.type "dict", none, .dict es n, #[]⟩) (lo : (d == sysModules) = false) (hk : KeysInt es.toList) :
    OpR X (compareOp .In) (fun x y H Q => ∃ z : Int, x = .int z ∧ y = .ref d ∧ Q (.bl (findBy Value.isInt es z).isSome) H) := by
  intro pins s σ H x y v u Q I rx ry h
  obtain ⟨z, rfl, rfl, q⟩ := h
  obtain ⟨t, rfl⟩ := rx
  cases ry
  refine wpAny_in_of (intKind_is X.prog X.w z t) lo (mapOfI (prog := X.prog) I.kIn hl hk) ?_
  exact ⟨.bl _, H, I.tok _, rfl, q⟩
theorem op_item_ki {d : Addr} {es : Array DictEntry} {n : Nat} (hl : X.K.lookup d = some ⟨.type "dict", none, .dict es n, #[]⟩) (hk : KeysInt es.toList) :
    OpR X getItem (fun x y H Q => ∃ (z : Int) (u0 : Value) (v0 : V), x = .ref d ∧ y = .int z ∧ findBy Value.isInt es z = some u0 ∧ RelV v0 u0 ∧ Q v0 H) := by
  intro pins s σ H x y v u Q I rx ry h
  obtain ⟨z, u0, v0, rfl, rfl, e, r, q⟩ := h
  cases rx
  obtain ⟨t, rfl⟩ := ry
  exact wpAny_getItem_of (intKind_is X.prog X.w z t) (mapOfI (prog := X.prog) I.kIn hl hk) e ⟨v0, H, I.tok _, r, q⟩
theorem ki_type {pins : List (Addr × Obj)} {σ : L2.St} {H : Hp} {s : Shared} {d : Addr} {es : Array DictEntry} {n : Nat} (hl : X.K.lookup d = some ⟨.type "dict", none, .dict es n, #[]⟩) (hk : KeysInt es.toList) (I : Inv X pins σ H s) : s.TypeIs (.ref d) "dict" :=
  (mapOfI (prog := X.prog) (w := X.w) I.kIn hl hk).typeIs
theorem kinI_imp {C : Ct} {d : Addr} {es : Array DictEntry} {K : PySem.W.Frag} (hp : EntT K es.toList tab) (σ : List (Option V)) (H : Hp) (Q : VK) (h : lft C (aKinI tab te) σ H Q) :
    tOp (fun x y H Q => ∃ z : Int, x = .int z ∧ y = .ref d ∧ Q (.bl (findBy Value.isInt es z).isSome) H) (lft C te) (tC (.ref d)) σ H Q := by
  obtain ⟨a, L, Mo, AQ, rr, k, h⟩ := h
  refine ⟨a, L, Mo, _, rr, fun y m1 v L1 Mo1 H1 h1 b1 v1 e1 => ?_, h⟩
  split at h1
  · rename_i z
    refine ⟨z, dqI_int v1, rfl, ?_⟩
    have e : (findBy Value.isInt es z).isSome = (tab.lookup z).isSome := by
      rw [findBy_list]
      have q := hp.find z
      cases e : tab.lookup z with
      | none => rw [e] at q; rw [q]; rfl
      | some dd => rw [e] at q; obtain ⟨u, v, q1, _⟩ := q; rw [q1]; rfl
    rw [e]
    exact (k.aft e1).ret h1 b1 (.bl _)
  · exact h1.elim
theorem q_kinI (D : DictAtI X.K X.w X.mg x tab) (ha : QE X e te) (hg : Gl X x := by rfl) (hdb : (x == ("__debug__" : Str)) = false := by decide) (hm : behindInMarks .In (.Name x p) = false := by rfl) : QE X (.Compare e [.In] [.Name x p] pos) (aKinI tab te) := fun C hK => by
  obtain ⟨d, es, n, h1, h2, h3, h4⟩ := D
  exact PE.imp (pe_cmpR (op_in_ki h2 h3 h4.keys) (ha C hK) (pe_glob (v := .ref d) hg h1 rfl hdb) hm) (kinI_imp h4)
theorem qt_kinI (D : DictAtI X.K X.w X.mg x tab) (ha : QE X e te) (hg : Gl X x := by rfl) (hdb : (x == ("__debug__" : Str)) = false := by decide) (hm : behindInMarks .In (.Name x p) = false := by rfl) : QT X (.Compare e [.In] [.Name x p] pos) (aTest (aKinI tab te)) := fun C hK => by
  obtain ⟨d, es, n, h1, h2, h3, h4⟩ := D
  refine PT.imp (pt_cmpR (op_in_ki h2 h3 h4.keys) (ha C hK) (pe_glob (v := .ref d) hg h1 rfl hdb) hm) fun σ H Q h => ?_
  have := test_imp σ H Q h
  obtain ⟨a, L, Mo, AQ, rr, k, h⟩ := this
  exact kinI_imp h4 σ H _ ⟨a, L, Mo, AQ, rr, k, h⟩
theorem q_kixI (D : DictAtI X.K X.w X.mg x tab) (hi : QE X e te) (hg : Gl X x := by rfl) (hdb : (x == ("__debug__" : Str)) = false := by decide) (hs : NoSl e := by intro _ _; rfl) : QE X (.Subscript (.Name x p) e pos) (aKixI tab te) := fun C hK => by
  obtain ⟨d, es, n, h1, h2, h3, h4⟩ := D
  refine ⟨fun pins s σ H Q I h => ?_⟩
  refine subD_of PySem.F.slot_dict_getitem.lookup hs (thn ((pe_glob (v := .ref d) hg h1 rfl hdb).run pins s σ H (fun v H1 => v = .ref d ∧ H1 = H) I ⟨rfl, rfl⟩) fun u s1 ⟨x1, H1, I1, rx, e1, e2⟩ => ?_)
  subst e1; subst e2
  cases rx
  obtain ⟨a, L, Mo, AQ, rr, k, h⟩ := h
  refine thn ((hi C hK).run pins s1 σ H1 (fun y H2 => ∃ z u v, y = .int z ∧ findBy Value.isInt es z = some u ∧ RelV v u ∧ Q v H2) I1 ⟨a, L, Mo, _, rr, fun y m1 v L1 Mo1 H2 h1 b1 v1 e1 => ?_, h⟩) fun iv s2 ⟨y, H2, I2, ry, z, u, v, ey, q1, q2, q4⟩ => ?_
  · split at h1
    · rename_i z
      split at h1
      · rename_i dd e
        have q := h4.find z
        rw [e] at q
        obtain ⟨u, v0, q1, q2, q3⟩ := q
        exact ⟨z, u, v0, dqI_int v1, by rw [findBy_list]; exact q1, q2, (k.aft e1).ret h1 b1 (by show Dq C.K _ _ _; rw [hK]; exact q3 _)⟩
      · exact h1.elim
    · exact h1.elim
  · subst ey
    exact ⟨ki_type h2 h4.keys I2, op_item_ki h2 h4.keys pins s2 σ H2 (.ref d) (.int z) _ _ _ I2 rfl ry ⟨z, u, v, rfl, rfl, q1, q2, q4⟩⟩
end
/-- x *= e, ints -/
def aAugM (i : Nat) (te : ATE) : ATS := fun D a => match slotA a.g i with
  | some (.d (.int k)) => te a fun y m => match y with
    | .d (.int j) => CMul k j ∧ D.nx ⟨a.g.set i (some (.d (.int (k * j)))), m⟩
    | _ => False
  | _ => False
section
variable {X : Cx} {pos : Pos}
theorem qs_augM {i : Nat} {x : Str} {e : Expr} {te : ATE} {pos' : Pos} (hN : X.N.Nodup) (hi : X.N[i]? = some x) (hx : Loc X.env.scope x) (he : QE X e te) (hf : X.fn x = true ∨ X.env.scope.names.lookup x = some .local := by first | exact .inl rfl | exact .inr rfl | assumption) :
    QS X (.AugAssign (.Name x pos') .Mult e pos) (aAugM i te) := fun C hK => PS.imp (ps_aug (ti := rI CMul fun i j => .int (i * j)) hN hi hx (he C hK) iop_mul hf) fun D σ H ⟨a, L, Mo, AD, r, b, h⟩ => by
  unfold aAugM at h
  split at h
  · rename_i k e
    obtain ⟨v, h1, h2⟩ := r.sl i _ (slotA_get e)
    refine ⟨v, h1, a, L, Mo, _, r, fun y m1 w L1 Mo1 H1 h1 b1 v1 e1 => ?_, h⟩
    split at h1
    · exact ⟨_, _, dq_int h2, dq_int v1, h1.1, b.nx _ _ _ _ _ h1.2 ((r.next b1 e1).set i (.int _))⟩
    · exact h1.elim
  · exact h.elim
end
end QL

namespace QL
open PySem PySem.Spec PyProof.Rows L2 RZ

/-! ### isqrt -/
section
variable {X : Cx}
theorem cr_isqrt : CallR X (.builtin "math.isqrt") (fun xs H Q => ∃ n : Int, xs = [.int n] ∧ 0 ≤ n ∧ n < 2 ^ 64 ∧ ∀ r : Int, 0 ≤ r → r * r ≤ n → n < (r + 1) * (r + 1) → Q (.int r) H) := by
  intro pins s σ H vs us Q I r h
  obtain ⟨n, rfl, h0, h1, q⟩ := h
  obtain ⟨t, rfl⟩ : ∃ t, us = [Value.int n t] := by
    cases r with
    | cons h1 h2 =>
      cases h2
      obtain ⟨t, rfl⟩ := h1
      exact ⟨t, rfl⟩
  have sp := Float64.isqrt_spec n.toNat
  have e : ((n.toNat : Nat) : Int) = n := by omega
  have q' := q ((Float64.isqrt n.toNat : Nat) : Int) (by omega) (by rw [← e, ← Int.natCast_mul]; have := sp.1; simp only [Int.toNat_natCast]; omega) (by
    have := sp.2
    have e2 : (((Float64.isqrt n.toNat : Nat) : Int) + 1) * (((Float64.isqrt n.toNat : Nat) : Int) + 1) = (((Float64.isqrt n.toNat + 1) * (Float64.isqrt n.toNat + 1) : Nat) : Int) := by rw [Int.natCast_mul]; rfl
    rw [e2]; omega)
  exact PySem.W.mg_isqrt h0 h1 ⟨.int _, H, I.tok _, ⟨_, rfl⟩, q'⟩
def bIsqrt : AC1 := fun avs m Q => match avs with
  | [.d (.int n)] => (0 ≤ n ∧ n < 18446744073709551616) ∧ ∀ r : Int, 0 ≤ r → r * r ≤ n → n < (r + 1) * (r + 1) → Q (.d (.int r)) m
  | _ => False
theorem cq_isqrt : CallQ X (.builtin "math.isqrt") bIsqrt := by
  refine ⟨_, cr_isqrt, fun C L Mo H m avs vs Q AQ hK b r k hh => ?_⟩
  unfold bIsqrt at hh
  split at hh
  · obtain ⟨v, rfl, rv⟩ := av1 r
    exact ⟨_, by rw [dq_int rv], hh.1.1, hh.1.2, fun r h1 h2 h3 => k.ret (hh.2 r h1 h2 h3) b (.int _)⟩
  · exact hh.elim
end
end QL

namespace QL
open PySem PySem.Spec PyProof.Rows L2 RZ
/-! ### % by any number but 0 -/
section
variable {X : Cx}
def aModN : AR2 := intsR (fun _ j => j ≠ 0) fun i j => .int (i.fmod j)
theorem oq_modN : OpQ X (binaryOp .Mod) aModN := opq_ints op_modN fun _ _ _ _ => .int _
end
/-! ### a comprehension as a local object -/
def aLcM (ti : AIt) (g : ATG) (tt : ATT) (te : ATE) (vs : List Nat) : ATE := fun a Q => ti a fun ds m => ds.length ≤ 1000000 ∧ aLcL g tt te (awipe a.g vs) ds [] m fun acc m' => Q (.o m'.o.length) ⟨m'.s, m'.o ++ [.l acc]⟩
section
variable {X : Cx} {elt tg iter : Expr} {ifs : List Expr} {scope : Scope} {own : List (Str × Nat)} {pos : Pos} {ti : AIt} {g : ATG} {tt : ATT} {te : ATE}
theorem lc_impM {C : Ct} (hK : C.K = X.K) (σ : List (Option V)) (H : Hp) (Q : VK) (h : lft C (aLcM ti g tt te (own.map (·.2))) σ H Q) : tLc (lftI C ti) (exG X.K (own.map (·.2)) g) (exT X.K tt) (exE X.K te) (own.map (·.2)) σ H Q := by
  obtain ⟨a, L, Mo, AQ, r, k, h⟩ := h
  refine ⟨a, L, Mo, _, r, fun ds m1 L1 Mo1 H1 J q b1 x1 ok => ?_, h⟩
  obtain ⟨hsz, q⟩ := q
  intro p hp
  have hL : p ∉ L1 := fun z => b1.fresh hp (by simp [z])
  refine ⟨fun i n H2 => ∃ (acc : List V) (da : List D) (m2 : Mm) (L2 Mo2 : List Addr), R (C.mk' L1 Mo1 H1 p acc) ⟨awipe a.g (own.map (·.2)), m2⟩ L2 Mo2 (wipe σ (own.map (·.2))) H2 ∧ DqAll C.K ((C.mk' L1 Mo1 H1 p acc).hd L2 Mo2 H2) acc da ∧
    (L1 = [] ∨ L2 = L1) ∧ Mo1 <+: Mo2 ∧ aLcL g tt te (awipe a.g (own.map (·.2))) (ds.drop i) da m2 (fun acc m' => AQ (.o m'.o.length) ⟨m'.s, m'.o ++ [.l acc]⟩) ∧ i + n = ds.length ∧ acc.length ≤ i, ⟨ds.length, ?_⟩, ?_⟩
  · have r1 : R C ⟨a.g, m1⟩ L1 Mo1 σ H1 := r.next b1 x1
    have r2 : R (C.mk' L1 Mo1 H1 p []) ⟨a.g, m1⟩ L1 Mo1 σ (upd H1 p (.lst [])) := ⟨b1.mk0 hp, r1.ln, fun i av e => let ⟨v, h1, h2⟩ := r1.sl i av e; ⟨v, h1, h2.same rfl (by rw [mk_hd0 hp]; exact Same.refl _)⟩⟩
    exact ⟨[], [], m1, L1, Mo1, r2.wiped _, .nil, .inr rfl, List.prefix_rfl, by simpa using q, by omega, Nat.le_refl _⟩
  · rintro i n H2 ⟨acc, da, m2, L2, Mo2, r2, dq2, pl, po, q2, e2, hla⟩
    have okk := ok (C.mk' L1 Mo1 H1 p acc) L2 Mo2 H2 m2 rfl r2.b (mk_sameS hp r2.b)
    cases hd : ds.drop i with
    | nil =>
      have hl : ds.length ≤ i := List.drop_eq_nil_iff.mp hd
      have : i = ds.length := by omega
      rw [hd] at q2
      subst this
      refine .inl ⟨okk.2, ?_⟩
      have hat := mk_at r2.b hL
      have bb := b1.mkEnd hp r2.b
      have nd : ((C.Z ++ [p]) ++ (L2 ++ Mo2)).Nodup := r2.b.nd
      have ehd : (C.mk' L1 Mo1 H1 p acc).hd L2 Mo2 H2 = C.hd L2 (Mo2 ++ [p]) H2 := by
        show hid ((C.Z ++ [p]) ++ (L2 ++ Mo2)) H2 = hid (C.Z ++ (L2 ++ (Mo2 ++ [p]))) H2
        exact hid_congr fun a => by simp only [List.mem_append, List.mem_singleton]; grind
      have b3 : B C ⟨m2.s, m2.o ++ [.l da]⟩ L2 (Mo2 ++ [p]) H2 := by
        refine ⟨by grind, bb.sr, paired_app ?_ (.cons ⟨acc, hat, ?_⟩ .nil), bb.kp, bb.nl, fun x hx => ?_, bb.zt, bb.l0⟩
        · have := r2.b.ob
          rw [ehd] at this
          exact this
        · rw [← ehd]; exact dq2
        · rcases List.mem_append.mp hx with h | h
          · exact bb.no x h
          · rw [List.mem_singleton.mp h]; exact ⟨b1.fresh0 hp, b1.freshL hp⟩
      refine k _ _ _ _ _ _ q2 b3 ⟨p, by rw [Paired.length bb.ob]; simp, rfl⟩ (x1.trans ⟨pl, po.trans (List.prefix_append _ _), ?_⟩)
      have sm := mk_sameS hp r2.b
      rw [ehd] at sm
      exact sm
    | cons d rr =>
      rw [hd] at q2
      obtain ⟨hat, hdr⟩ := drop_at hd
      obtain ⟨hgo, hyl⟩ := okk.1 i d hat
      have hlt : i < ds.length := (List.getElem?_eq_some_iff.mp hat).1
      refine .inr ⟨hgo, fun H3 => ∃ (acc : List V) (da : List D) (m3 : Mm) (L3 Mo3 : List Addr), R (C.mk' L1 Mo1 H1 p acc) ⟨awipe a.g (own.map (·.2)), m3⟩ L3 Mo3 (wipe σ (own.map (·.2))) H3 ∧ DqAll C.K ((C.mk' L1 Mo1 H1 p acc).hd L3 Mo3 H3) acc da ∧
        (L1 = [] ∨ L3 = L1) ∧ Mo1 <+: Mo3 ∧ aLcL g tt te (awipe a.g (own.map (·.2))) rr da m3 (fun acc m' => AQ (.o m'.o.length) ⟨m'.s, m'.o ++ [.l acc]⟩) ∧ acc.length ≤ i + 1, ?_, ?_⟩
      · rintro H3 ⟨acc3, da3, m3, L3, Mo3, r3, dq3, pl3, po3, q3, hl3⟩
        exact ⟨n - 1, by omega, acc3, da3, m3, L3, Mo3, r3, dq3, pl3, po3, by rw [hdr]; exact q3, by omega, hl3⟩
      · intro y H3 hy
        obtain ⟨b3, x3, dq3⟩ := hyl y H3 hy
        have r3 := r2.next b3 x3
        have q3 : g (.d d) m2 (awipe a.g (own.map (·.2))) (fun g' => tt ⟨g', m2⟩ fun b m1 => if b = true then te ⟨g', m1⟩ fun y m2 => (match y with
          | .d e => aLcL g tt te (awipe a.g (own.map (·.2))) rr (da ++ [e]) m2 (fun acc m' => AQ (.o m'.o.length) ⟨m'.s, m'.o ++ [.l acc]⟩)
          | _ => False) else aLcL g tt te (awipe a.g (own.map (·.2))) rr da m1 (fun acc m' => AQ (.o m'.o.length) ⟨m'.s, m'.o ++ [.l acc]⟩)) := q2
        refine ⟨C.mk' L1 Mo1 H1 p acc, hK, ⟨awipe a.g (own.map (·.2)), m2⟩, L2, Mo2, .d d, _, r3, dq3, fun g' σ' hg2 r' hw => ⟨by rw [hw]; exact wipe_wipe, ?_⟩, q3⟩
        refine ⟨C.mk' L1 Mo1 H1 p acc, hK, ⟨g', m2⟩, L2, Mo2, _, r', fun b m4 L4 Mo4 H4 h4 b4 x4 => ?_, hg2⟩
        have pl4 : L1 = [] ∨ L4 = L1 := by
          rcases pl with z | z
          · exact .inl z
          · rcases x4.pl with w | w
            · exact .inl (z ▸ w)
            · exact .inr (w.trans z)
        have po4 : Mo1 <+: Mo4 := po.trans x4.po
        have dq4 : DqAll C.K ((C.mk' L1 Mo1 H1 p acc).hd L4 Mo4 H4) acc da := DqAll.mono (x3.sm.trans x4.sm) _ _ dq2
        have r4 := r3.next b4 x4
        show if b = true then _ else _
        cases b with
        | false =>
          rw [if_neg Bool.false_ne_true] at h4 ⊢
          exact ⟨acc, da, m4, L4, Mo4, r4, dq4, pl4, po4, h4, by omega⟩
        | true =>
          rw [if_pos rfl] at h4 ⊢
          refine ⟨C.mk' L1 Mo1 H1 p acc, hK, ⟨g', m4⟩, L4, Mo4, _, r'.next b4 x4, fun y5 m5 v5 L5 Mo5 H5 h5 b5 v5r x5 => ?_, h4⟩
          split at h5
          · rename_i e
            have hL5 := mk_at b5 hL
            have dq5 : DqAll C.K ((C.mk' L1 Mo1 H1 p acc).hd L5 Mo5 H5) acc da := DqAll.mono x5.sm _ _ dq4
            have pz : p ∈ (C.mk' L1 Mo1 H1 p acc).Z := by show p ∈ C.Z ++ [p]; simp
            have ehd : (C.mk' L1 Mo1 H1 p (acc ++ [v5])).hd L5 Mo5 (upd H5 p (.lst (acc ++ [v5]))) = (C.mk' L1 Mo1 H1 p acc).hd L5 Mo5 H5 :=
              hd_updIn (C := C.mk' L1 Mo1 H1 p acc) (L := L5) (Mo := Mo5) (H := H5) (ho := .lst (acc ++ [v5])) (x := p) (List.mem_append_left _ pz)
            have r5 := r4.next b5 x5
            refine ⟨acc, hL5, Nat.lt_of_le_of_lt hla (Nat.lt_of_lt_of_le hlt (Nat.le_trans hsz (by decide))), acc ++ [v5], da ++ [e], m5, L5, Mo5, ?_, ?_, ?_, po4.trans x5.po, h5, by simp; omega⟩
            · exact ⟨B.mkStep b1 hp b5, r5.ln, fun i av e => let ⟨v, h1, h2⟩ := r5.sl i av e; ⟨v, h1, h2.same rfl (by rw [ehd]; exact Same.refl _)⟩⟩
            · rw [ehd]; exact dq5.app (.cons v5r .nil)
            · rcases pl4 with z | z
              · exact .inl z
              · rcases x5.pl with w | w
                · exact .inl (z ▸ w)
                · exact .inr (w.trans z)
          · exact h5.elim
theorem q_lcM (hc : X.calm = true) (hN : X.N.Nodup) (hi : QI X tg iter ti) (ok : BlkOk X.N X.env.scope scope own)
    (hg : ∀ (s : Shared) (H : Hp) (Ca : Addr) (cl : List (Str × Addr)) (fp : List Addr), QG (X.blk s H scope (compEnvC scope cl Ca X.env) fp) (own.map (·.2)) tg g)
    (ht : ∀ (s : Shared) (H : Hp) (Ca : Addr) (cl : List (Str × Addr)) (fp : List Addr), QTs (X.blk s H scope (compEnvC scope cl Ca X.env) fp) ifs tt)
    (he : ∀ (s : Shared) (H : Hp) (Ca : Addr) (cl : List (Str × Addr)) (fp : List Addr), QE (X.blk s H scope (compEnvC scope cl Ca X.env) fp) elt te) (hs : ∀ x, foldedSetIterable iter X.env x = pure x := by intro _; rfl) :
    QE X (.ListComp elt [⟨tg, iter, ifs, 0⟩] scope pos) (aLcM ti g tt te (own.map (·.2))) := fun C hK =>
  PE.imp (pe_lc hc hN (hi C hK) ok (fun s H Ca cl fp => (hg s H Ca cl fp).ex rfl) (fun s H Ca cl fp => (ht s H Ca cl fp).ex rfl) (fun s H Ca cl fp => (he s H Ca cl fp).ex rfl) hs) (lc_impM hK)
theorem qs_setLcM {i : Nat} {y : Str} {py : Pos} {spos : Pos} (hc : X.calm = true) (hN : X.N.Nodup) (hy : X.N[i]? = some y) (hyl : X.env.scope.names.lookup y = some .local)
    (hsw : swapsWith (.ListComp elt [⟨tg, iter, ifs, 0⟩] scope pos) (some (.Name y py)) spos.line X.env = pure true) (hi : QI X tg iter ti) (ok : BlkOk X.N X.env.scope scope own)
    (hg : ∀ (s : Shared) (H : Hp) (Ca : Addr) (cl : List (Str × Addr)) (fp : List Addr), QG (X.blk s H scope (compEnvC scope cl Ca X.env) fp) (own.map (·.2)) tg g)
    (ht : ∀ (s : Shared) (H : Hp) (Ca : Addr) (cl : List (Str × Addr)) (fp : List Addr), QTs (X.blk s H scope (compEnvC scope cl Ca X.env) fp) ifs tt)
    (he : ∀ (s : Shared) (H : Hp) (Ca : Addr) (cl : List (Str × Addr)) (fp : List Addr), QE (X.blk s H scope (compEnvC scope cl Ca X.env) fp) elt te) (hs : ∀ x, foldedSetIterable iter X.env x = pure x := by intro _; rfl) :
    QS X (.Assign [.Name y py] (.ListComp elt [⟨tg, iter, ifs, 0⟩] scope pos) spos) (aSet i (aLcM ti g tt te (own.map (·.2)))) := fun C hK =>
  PS.imp (ps_setLc hc hN hy hyl hsw (hi C hK) ok (fun s H Ca cl fp => (hg s H Ca cl fp).ex rfl) (fun s H Ca cl fp => (ht s H Ca cl fp).ex rfl) (fun s H Ca cl fp => (he s H Ca cl fp).ex rfl) hs) fun E σ H ⟨a, L, Mo, AD, r, b, h⟩ =>
    lc_impM hK σ H _ ⟨a, L, Mo, _, r, fun x m1 v L1 Mo1 H1 h1 b1 v1 e1 => b.nx _ _ _ _ _ h1 ((r.next b1 e1).set i v1), h⟩
end
end QL

namespace QL
open PySem PySem.Spec PyProof.Rows L2 RZ

/-! ### sorted of a tuple of whole numbers -/
section
variable {prog : Program} {w : World} {A : Around} {E : Value → Shared → Prop} {s : Shared}
def gotH (h : Heap) (vs : List Value) : Heap := (h.push (seqObj "list" #[] 0)).update h.objs.size (Obj.mapSeq (· ++ vs.toArray))
/-- what a tuple holds, collected -/
theorem collect_tp {a : Addr} {vs : List Value} {R : List Value → Shared → Prop} (tp : IsTup s.heap a vs.toArray) (sz : vs.length ≤ sizeLine) (fin : R vs { s with heap := gotH s.heap vs }) :
    wpAny (model prog w) A (collect (.ref a)) R E s := by
  obtain ⟨ob, at0, cl, k, da⟩ := id tp
  have at1 : (s.heap.push (seqObj "list" #[] 0)).get? a = some ob := Heap.get?_push_of_some _ at0
  have new1 : (s.heap.push (seqObj "list" #[] 0)).get? s.heap.objs.size = some (seqObj "list" #[] 0) := Heap.get?_push_size _ rfl
  unfold collect
  refine wpAny_bind (wpAny_runValue (codeAny_builtin entry_proto_collect' (?_ : wpAny _ _ (do again (.builtin "list.__iadd__" ⟨[← newList [], .ref a], []⟩)) _ _ s)))
  refine wpAny_bind (wpAny_newList (wpAny_pure ⟨Code.quiet_builtin _ (by decide +kernel), codeAny_builtin entry_list_iadd' ?_⟩))
  let s1 : Shared := { s with heap := s.heap.push (seqObj "list" #[] 0) }
  show wpAny _ _ (Builtin.List.listExtendWith (.ref s.heap.objs.size) (.ref a) (.ref s.heap.objs.size)) _ _ s1
  unfold Builtin.List.listExtendWith
  refine wpAny_bind (wpAny_typeOf (T := "tuple") ⟨ob, at1, cl⟩ ?_)
  rw [if_pos (by simp)]
  refine wpAny_bind (listItems_at at1 da ?_)
  refine wpAny_bind (listItems_at (xs := #[]) (n := 0) new1 rfl ?_)
  rw [if_neg (by simp)]
  refine wpAny_bind (listUpdate_at (xs := #[]) (n := 0) new1 rfl ?_ (Nat.zero_le _) (by show (#[] ++ vs.toArray).size ≤ sizeLine + 1; simp; omega))
  refine wpAny_pure ?_
  refine wpAny_bind (wpAny_load (get?_update_seq new1 _) ?_)
  refine wpAny_pure ?_
  rw [show ((#[] : Array Value) ++ vs.toArray).toList = vs by simp]
  exact fin
/-- sorted of it: as of a list -/
theorem sorted_tp {a : Addr} {vs : List Value} {ltv : Value → Value → Bool} {R : Value → Shared → Prop} (O : SrtO.Swo ltv) (tp : IsTup s.heap a vs.toArray) (sz : vs.length ≤ sizeLine)
    (can : 2 ≤ vs.length → ∀ (h1 : Heap) (b : Addr), h1.get? b = some (seqObj "list" vs.toArray 0) → (∀ c o, s.heap.get? c = some o → c ≠ b ∧ h1.get? c = some o) → SrtO.SortableO prog w A.in1.in1 { s with heap := h1 } b vs ltv)
    (fin : ∀ out : List Value, SrtO.Srtd ltv out → SrtO.Stb ltv out vs → R (.ref (s.heap.objs.size + 1)) { s with heap := sortedAll s.heap vs out.toArray }) :
    wpAny (model prog w) A (call (.builtin "sorted") [.ref a]) R E s := by
  have size1 : (gotH s.heap vs).objs.size = s.heap.objs.size + 1 := by unfold gotH; rw [Heap.size_update, size_push']
  have at2 : ((gotH s.heap vs).push (seqObj "list" vs.toArray 0)).get? (s.heap.objs.size + 1) = some (seqObj "list" vs.toArray 0) := by
    rw [← size1]; exact Heap.get?_push_size _ rfl
  have stay : ∀ c o, s.heap.get? c = some o → c ≠ s.heap.objs.size + 1 ∧ ((gotH s.heap vs).push (seqObj "list" vs.toArray 0)).get? c = some o := by
    intro c o q
    have lt : c < s.heap.objs.size := Heap.lt_size q
    refine ⟨Nat.ne_of_lt (Nat.lt_succ_of_lt lt), Heap.get?_push_of_some _ ?_⟩
    unfold gotH
    rw [Heap.get?_update_ne _ _ _ _ (Nat.ne_of_lt lt)]
    exact Heap.get?_push_of_some _ q
  refine PySem.Calls.call_function_entry kind_sorted plain_sorted entry_sorted (args_sorted1 _) ?_
  unfold Builtin.«sorted»
  refine wpAny_bind (m := checkCount "sorted" 1 1 _) (wpAny_pure ?_)
  refine wpAny_bind (collect_tp tp sz ?_)
  refine wpAny_bind (wpAny_newList ?_ sz)
  let s2 : Shared := { s with heap := (gotH s.heap vs).push (seqObj "list" vs.toArray 0) }
  show wpAny _ _ _ _ _ s2
  rw [show ({ s with heap := gotH s.heap vs } : Shared).heap.objs.size = s.heap.objs.size + 1 from size1]
  refine wpAny_bind (wpAny_holding (wpAny_call_entry slot_list_sort ⟨_, at2, rfl⟩ entry_list_sort ?_ (args_list_sort _)))
  refine SrtO.list_sort_ord O at2 sz (fun h2 => can h2 _ _ at2 stay) fun out g1 g2 => ⟨_, rfl, ?_⟩
  exact wpAny_pure ⟨_, rfl, fin out g1 g2⟩
end
section
variable {X : Cx}
theorem cr_sortedTI : CallR X (.builtin "sorted") (fun vs H Q => ∃ (a : Addr) (ns : List Int), vs = [V.ref a] ∧ SqT X.K H a (ns.map V.int) ∧
    ∀ (ns' : List Int) (p : Addr), ns'.Perm ns → ns'.Pairwise (· ≤ ·) → H p = none → Q (.ref p) (upd H p (.lst (ns'.map V.int)))) := by
  intro pins s σ H vs us Q I r h
  obtain ⟨a, ns, rfl, hs, q⟩ := h
  obtain ⟨its, rv, tp, hz⟩ := I.tuple hs
  rw [Vals.ref1 r]
  have hi := rv.ints
  refine sorted_tp SrtO.swo_int tp (by rw [← rv.length]; exact hz) (fun h2 h1 b _ _ => SrtO.ints_sortable hi h2) fun out g1 g2 => ?_
  obtain ⟨k1, k2, k3⟩ := SrtO.ints_out hi g1 g2
  obtain ⟨n, hn⟩ := PyProof.Rows.sortedAll_at s.heap its out.toArray
  have len : ((out.map SrtO.iv).map V.int).length ≤ sizeLine := by
    have e := k2.length_eq
    rw [List.length_map] at hz ⊢
    omega
  exact ⟨.ref _, upd H _ (.lst ((out.map SrtO.iv).map V.int)), I.laid (t' := s.toks) (fun b o e => PyProof.Rows.sortedAll_old e) (Nat.le_succ _) ⟨len, out, n, vals_of_ints k1, hn⟩, rfl, q _ _ k2 k3 (I.hok.fresh (Nat.le_succ _))⟩
def bSortedT : AC1 := fun avs m Q => match avs with
  | [.d (.tuple ds)] => match intsD ds with
    | some ns => ∀ ns' : List Int, ns'.Perm ns → ns'.Pairwise (· ≤ ·) → Q (.d (.list (ns'.map PyData.int))) m
    | none => False
  | _ => False
theorem cq_sortedT : CallQ X (.builtin "sorted") bSortedT := by
  refine ⟨_, cr_sortedTI, fun C L Mo H m avs vs Q AQ hK b r k hh => ?_⟩
  unfold bSortedT at hh
  split at hh
  · rename_i ds
    split at hh
    · rename_i ns e
      obtain ⟨v, rfl, rv⟩ := av1 r
      obtain ⟨l, xs, rfl, h1, h2⟩ := tupA_ok (ds := ds) rv rfl
      have e3 := intsD_ok h2 e
      subst e3
      exact ⟨l, ns, rfl, hK ▸ h1, fun ns' p g1 g2 hp => k.lst b hp (DqAll.ofInts ns') (hh ns' g1 g2)⟩
    · exact hh.elim
  · exact hh.elim
end
end QL

namespace QL
open PySem PySem.Spec PyProof.Rows L2
local macro_rules | `(tactic| walk_at "qs") => `(tactic| (try simp -implicitDefEqProofs only [aSeq_ap, aNext_ap, aSet_ap, aRet_ap, aRetN_ap, aDrop_ap, aIfS_ap, aPar_ap, aPar3_ap, aAsg_ap, aFor_ap, aVar, aC, aBin, aUn, aNeg, aTest, aChain, aNot, aNotV, aAnd, aOr, aAndV, aOrV, aIf, aTru, aNil, aCons, aTup, aLst, aLstM, aCall, aFn, aLc, aYes,
  aAdd, aSub, aMul, aMod, aFdiv, aPow, aLt, aLe, aGt, aGe, aEq, aNe, aIx, intsR, intsR0, isB, datas, datA, lstA, tupA, seqA, truA, bLen, bInt, bAbs, bMax, bMin, bTuple, bList, bListM, bSum, bRepr, aItS, aItT, aItL, aItV, bSortL, aRng1, aRng2, aSrcF, aSrcC, aSrcPut, aSrcNew, aRev, aRevM, aMt, aMt0, mApp, mPop, mPopC, mExt, bDict, bSortD,
  Option.isSome_some, Option.isSome_none, aTy, tyA, bIsi, bAll, bAny, bSorted, bMaxL, bMinL, bStr, noneA, aIsN, aNotN, aIsB, aNotB, aBits, aRep, aLput, aRevT, aKin, aKix, lputK, aLput2, mIndex, aNorm, aChain3, aCatM, intsL, bGcd, aRepL, aFdivN, aZipS, aZipM, aDixT, bSortT, dtA, keysD3,
  aZip, aEnum, aDget, aDput, aDix, aDin, aDnin, aDnewK, aDnewT, aInT, aNinT, aInL, aNinL, bTupleK, aTupK, isDictA, lookA, dkA, dtA, keyA,
  atD_0, atD_1, atD_2, atD_3, atD_4, atD_5, atD_6, atD_7, atD_8, atD_9, atD_10, atD_11, atD_12,
  aGName, aGNil, aGCons, aGTup, aGLst, isSrc, SF.get, SF.put, argsOk, awipe, norm, clr, fzV, fzS, slotA, aSlice, aNoPart, aPart, aAugI, aBreak_ap, aCont_ap, endsA_nx, endsA_rt_d, endsA_rt_src,
  List.map_cons, List.map_nil, List.length_cons, List.length_nil, List.cons_append, List.nil_append, List.getElem?_cons_zero, List.getElem?_cons_succ, List.set_cons_zero, List.set_cons_succ, List.foldr_cons, List.foldr_nil, List.take_zero, List.take_nil, List.take_succ_cons, Nat.zero_add, if_true, if_false, Bool.false_eq_true, Bool.not_true, Bool.not_false, decide_true, decide_false, List.getElem?_nil, Nat.reduceLeDiff, Nat.reduceAdd, Nat.reduceLT, true_and, and_true, decide_eq_true_eq, Bool.not_eq_true', decide_eq_false_iff_not, not_true_eq_false, not_false_eq_true, aXix, aXin, aXnin, aXget, aXput, aXnew, xA, xkA, intsO, bSortX, bDictX, bLenX, zok_nil, zok_cons, nd_int, nd_str, nd_ti, nd_ts, nd_t0, nd_t1, nd_t3, nd_list, nd_bool, Bool.true_and, aStar, datas_app, Option.map_some, aKinI, aKixI, aAugM, bIsqrt, aModN, aLcM, bSortedT]))
local macro_rules | `(tactic| walk_at "mul") => `(tactic| first | exact MulOk.l (by omega) (by omega) | exact MulOk.r (by omega) (by omega) | (exact Or.inl ⟨by omega, by omega⟩) | omega | (exact Rg.of (by omega) (by omega)))
local macro_rules | `(tactic| walk_at "muls") => `(tactic| repeat (refine And.intro (by walk_at "mul") ?_))
set_option hygiene false in
local macro_rules | `(tactic| walk_at "sq") => `(tactic| (refine aSeq_abs ?_; intro E2 hE2 hR2))
set_option hygiene false in
local macro_rules | `(tactic| walk_at "nx") => `(tactic| (refine hE2 _ ?_; try clear hE2 hR2 E2))
local macro_rules | `(tactic| walk_at "bd") => `(tactic| first | assumption | exact Bd.mul (by walk_at "bd") (by walk_at "bd") | exact Bd.add' (by walk_at "bd") (by walk_at "bd") | exact Bd.sub' (by walk_at "bd") (by walk_at "bd") | exact Bd.neg (by walk_at "bd") | exact Bd.lit)
local macro_rules | `(tactic| walk_at "mo") => `(tactic| exact MulOk.bd (by walk_at "bd") (by walk_at "bd") (by decide))
local macro_rules | `(tactic| walk_at "mos") => `(tactic| repeat (refine And.intro (by walk_at "mo") ?_))
local macro_rules | `(tactic| walk_at "mr") => `(tactic| repeat (refine And.intro (MulOk.r (by omega) (by omega)) ?_))
/-! ### isinstance of data -/
theorem isi_none_int : isiT (tyD (.none)) "int" = false := by decide
theorem isi_none_bool : isiT (tyD (.none)) "bool" = false := by decide
theorem isi_none_str : isiT (tyD (.none)) "str" = false := by decide
theorem isi_none_list : isiT (tyD (.none)) "list" = false := by decide
theorem isi_none_tuple : isiT (tyD (.none)) "tuple" = false := by decide
theorem isi_none_dict : isiT (tyD (.none)) "dict" = false := by decide
theorem isi_bool_int (b : Bool) : isiT (tyD (.bool b)) "int" = true := by show isiT "bool" "int" = true; decide
theorem isi_bool_bool (b : Bool) : isiT (tyD (.bool b)) "bool" = true := by show isiT "bool" "bool" = true; decide
theorem isi_bool_str (b : Bool) : isiT (tyD (.bool b)) "str" = false := by show isiT "bool" "str" = false; decide
theorem isi_bool_list (b : Bool) : isiT (tyD (.bool b)) "list" = false := by show isiT "bool" "list" = false; decide
theorem isi_bool_tuple (b : Bool) : isiT (tyD (.bool b)) "tuple" = false := by show isiT "bool" "tuple" = false; decide
theorem isi_bool_dict (b : Bool) : isiT (tyD (.bool b)) "dict" = false := by show isiT "bool" "dict" = false; decide
theorem isi_int_int (i : Int) : isiT (tyD (.int i)) "int" = true := by show isiT "int" "int" = true; decide
theorem isi_int_bool (i : Int) : isiT (tyD (.int i)) "bool" = false := by show isiT "int" "bool" = false; decide
theorem isi_int_str (i : Int) : isiT (tyD (.int i)) "str" = false := by show isiT "int" "str" = false; decide
theorem isi_int_list (i : Int) : isiT (tyD (.int i)) "list" = false := by show isiT "int" "list" = false; decide
theorem isi_int_tuple (i : Int) : isiT (tyD (.int i)) "tuple" = false := by show isiT "int" "tuple" = false; decide
theorem isi_int_dict (i : Int) : isiT (tyD (.int i)) "dict" = false := by show isiT "int" "dict" = false; decide
theorem isi_str_int (x : Str) : isiT (tyD (.str x)) "int" = false := by show isiT "str" "int" = false; decide
theorem isi_str_bool (x : Str) : isiT (tyD (.str x)) "bool" = false := by show isiT "str" "bool" = false; decide
theorem isi_str_str (x : Str) : isiT (tyD (.str x)) "str" = true := by show isiT "str" "str" = true; decide
theorem isi_str_list (x : Str) : isiT (tyD (.str x)) "list" = false := by show isiT "str" "list" = false; decide
theorem isi_str_tuple (x : Str) : isiT (tyD (.str x)) "tuple" = false := by show isiT "str" "tuple" = false; decide
theorem isi_str_dict (x : Str) : isiT (tyD (.str x)) "dict" = false := by show isiT "str" "dict" = false; decide
theorem isi_list_int (l : List D) : isiT (tyD (.list l)) "int" = false := by show isiT "list" "int" = false; decide
theorem isi_list_bool (l : List D) : isiT (tyD (.list l)) "bool" = false := by show isiT "list" "bool" = false; decide
theorem isi_list_str (l : List D) : isiT (tyD (.list l)) "str" = false := by show isiT "list" "str" = false; decide
theorem isi_list_list (l : List D) : isiT (tyD (.list l)) "list" = true := by show isiT "list" "list" = true; decide
theorem isi_list_tuple (l : List D) : isiT (tyD (.list l)) "tuple" = false := by show isiT "list" "tuple" = false; decide
theorem isi_list_dict (l : List D) : isiT (tyD (.list l)) "dict" = false := by show isiT "list" "dict" = false; decide
theorem isi_tuple_int (l : List D) : isiT (tyD (.tuple l)) "int" = false := by show isiT "tuple" "int" = false; decide
theorem isi_tuple_bool (l : List D) : isiT (tyD (.tuple l)) "bool" = false := by show isiT "tuple" "bool" = false; decide
theorem isi_tuple_str (l : List D) : isiT (tyD (.tuple l)) "str" = false := by show isiT "tuple" "str" = false; decide
theorem isi_tuple_list (l : List D) : isiT (tyD (.tuple l)) "list" = false := by show isiT "tuple" "list" = false; decide
theorem isi_tuple_tuple (l : List D) : isiT (tyD (.tuple l)) "tuple" = true := by show isiT "tuple" "tuple" = true; decide
theorem isi_tuple_dict (l : List D) : isiT (tyD (.tuple l)) "dict" = false := by show isiT "tuple" "dict" = false; decide
theorem isi_dict_int (l : List (D × D)) : isiT (tyD (.dict l)) "int" = false := by show isiT "dict" "int" = false; decide
theorem isi_dict_bool (l : List (D × D)) : isiT (tyD (.dict l)) "bool" = false := by show isiT "dict" "bool" = false; decide
theorem isi_dict_str (l : List (D × D)) : isiT (tyD (.dict l)) "str" = false := by show isiT "dict" "str" = false; decide
theorem isi_dict_list (l : List (D × D)) : isiT (tyD (.dict l)) "list" = false := by show isiT "dict" "list" = false; decide
theorem isi_dict_tuple (l : List (D × D)) : isiT (tyD (.dict l)) "tuple" = false := by show isiT "dict" "tuple" = false; decide
theorem isi_dict_dict (l : List (D × D)) : isiT (tyD (.dict l)) "dict" = true := by show isiT "dict" "dict" = true; decide
local macro_rules | `(tactic| walk_at "isi") => `(tactic| simp only [isi_none_int, isi_none_bool, isi_none_str, isi_none_list, isi_none_tuple, isi_none_dict, isi_bool_int, isi_bool_bool, isi_bool_str, isi_bool_list, isi_bool_tuple, isi_bool_dict, isi_int_int, isi_int_bool, isi_int_str, isi_int_list, isi_int_tuple, isi_int_dict, isi_str_int, isi_str_bool, isi_str_str, isi_str_list, isi_str_tuple, isi_str_dict, isi_list_int, isi_list_bool, isi_list_str, isi_list_list, isi_list_tuple, isi_list_dict, isi_tuple_int, isi_tuple_bool, isi_tuple_str, isi_tuple_list, isi_tuple_tuple, isi_tuple_dict, isi_dict_int, isi_dict_bool, isi_dict_str, isi_dict_list, isi_dict_tuple, isi_dict_dict, if_true, if_false, Bool.false_eq_true, Bool.not_true, Bool.not_false, Bool.true_eq_false])
/-! ### tables of four numbers -/
abbrev T3 := Int × Int × Int
abbrev T4 := Int × Int × Int × Int
def triD (t : T3) : D := .tuple [.int t.1, .int t.2.1, .int t.2.2]
def tbD (t : T4) : D := .tuple [.int t.1, .int t.2.1, .int t.2.2.1, .int t.2.2.2]
def kT3 (t : T3) : Int := t.1 * t.1 + t.2.1 * t.2.1 + t.2.2 * t.2.2 - t.1 * t.2.1 * t.2.2 - 2
def mulT (t u : T4) : T4 := (t.1 * u.1 + t.2.1 * u.2.2.1, t.1 * u.2.1 + t.2.1 * u.2.2.2, t.2.2.1 * u.1 + t.2.2.2 * u.2.2.1, t.2.2.1 * u.2.1 + t.2.2.2 * u.2.2.2)
def invT (t : T4) : T4 := (t.2.2.2, -t.2.1, -t.2.2.1, t.1)
def trT (t : T4) : Int := t.1 + t.2.2.2
def detT (t : T4) : Int := t.1 * t.2.2.2 - t.2.1 * t.2.2.1
def trM (t u : T4) : T3 := (trT t, trT u, trT (mulT t u))
theorem Bd.add' {a b : Nat} {i j : Int} (h : Bd a i) (g : Bd b j) : Bd (max a b + 1) (i + j) := (h.le (Nat.le_max_left a b)).add (g.le (Nat.le_max_right a b))
theorem Bd.sub' {a b : Nat} {i j : Int} (h : Bd a i) (g : Bd b j) : Bd (max a b + 1) (i - j) := (h.le (Nat.le_max_left a b)).sub (g.le (Nat.le_max_right a b))
theorem Bd.lit {i : Int} (h : i.natAbs < 2 ^ 8 := by decide) : Bd 8 i := h
def Bt (k : Nat) (t : T4) : Prop := Bd k t.1 ∧ Bd k t.2.1 ∧ Bd k t.2.2.1 ∧ Bd k t.2.2.2
theorem Bt.le {a b : Nat} {t : T4} (h : Bt a t) (hab : a ≤ b) : Bt b t := ⟨h.1.le hab, h.2.1.le hab, h.2.2.1.le hab, h.2.2.2.le hab⟩
theorem Bt.mul {a b : Nat} {t u : T4} (h : Bt a t) (g : Bt b u) : Bt (a + b + 1) (mulT t u) :=
  ⟨(h.1.mul g.1).add (h.2.1.mul g.2.2.1), (h.1.mul g.2.1).add (h.2.1.mul g.2.2.2), (h.2.2.1.mul g.1).add (h.2.2.2.mul g.2.2.1), (h.2.2.1.mul g.2.1).add (h.2.2.2.mul g.2.2.2)⟩
theorem Bt.inv {a : Nat} {t : T4} (h : Bt a t) : Bt a (invT t) := ⟨h.2.2.2, h.2.1.neg, h.2.2.1.neg, h.1⟩
/-- a table times a table -/
def fn_tt : AFn := fun avs s Q => ∃ t u : T4, avs = [.d (tbD t), .d (tbD u)] ∧ Bt 1000 t ∧ Bt 1000 u ∧ Q (.d (tbD (mulT t u))) s
def fn_inv : AFn := fun avs s Q => ∃ t : T4, avs = [.d (tbD t)] ∧ Q (.d (tbD (invT t))) s
theorem rng_2 : rngD 0 (Int.toNat 2) = [PyData.int 0, .int 1] := rfl
theorem b1000_1 : Bd 1000 1 := Bd.le (a := 8) (Bd.lit (i := 1)) (by decide)
theorem b1000_0 : Bd 1000 0 := Bd.le (a := 8) (Bd.lit (i := 0)) (by decide)
def ltI (t u : T4) (l : Int) : T4 := if (if l < 0 then -l else l) = 1 then t else u
def LtrT (l : Int) : Prop := l = 1 ∨ l = -1 ∨ l = 2 ∨ l = -2
/-- a letter's table, a word's table -/
def ltS (t u : T4) (l : Int) : T4 := if l > 0 then ltI t u l else invT (ltI t u l)
def wrdI (t u : T4) (w : List Int) : T4 := w.foldl (fun m l => mulT m (ltS t u l)) (1, 0, 0, 1)
theorem bt_ltS {b : Nat} {t u : T4} (ht : Bt b t) (hu : Bt b u) (l : Int) : Bt b (ltS t u l) := by
  have : Bt b (ltI t u l) := by
    unfold ltI
    by_cases c : (if l < 0 then -l else l) = 1
    · rw [if_pos c]; exact ht
    · rw [if_neg c]; exact hu
  unfold ltS
  split
  · exact this
  · exact this.inv
theorem bt_one : Bt 1 (1, 0, 0, 1) := ⟨by unfold Bd; decide, by unfold Bd; decide, by unfold Bd; decide, by unfold Bd; decide⟩
def wD (w : List Int) : D := .tuple (w.map .int)
/-! ### polynomials: terms of three powers and a number -/
abbrev Tm := T3 × Int
abbrev Po := List Tm
def tmD (t : Tm) : D := .tuple [trD t.1, .int t.2]
def poD (p : Po) : D := .tuple (p.map tmD)
def dicD (l : Po) : List (List Key × D) := l.map fun t => (key3 t.1, .int t.2)
theorem key3_inj {a b : T3} (h : key3 a = key3 b) : a = b := by
  obtain ⟨a1, a2, a3⟩ := a; obtain ⟨b1, b2, b3⟩ := b
  simp only [key3, List.cons.injEq, Sum.inl.injEq, and_true] at h
  obtain ⟨rfl, rfl, rfl⟩ := h
  rfl
def getT : Po → T3 → Int
  | [], _ => 0
  | (t, n) :: r, k => if t = k then n else getT r k
def hasT : Po → T3 → Bool
  | [], _ => false
  | (t, _) :: r, k => if t = k then true else hasT r k
def putT (l : Po) (k : T3) (n : Int) : Po := if hasT l k then l.map (fun t => if t.1 = k then (t.1, n) else t) else l ++ [(k, n)]
theorem dic_any (l : Po) (k : T3) : ((dicD l).any fun kv => decide (kv.1 = key3 k)) = hasT l k := by
  induction l with
  | nil => rfl
  | cons t r ih =>
    obtain ⟨t, n⟩ := t
    show (decide (key3 t = key3 k) || _) = _
    unfold hasT
    by_cases c : t = k
    · subst c; simp
    · have : ¬ key3 t = key3 k := fun h => c (key3_inj h)
      rw [if_neg c, ← ih]
      simp only [this, decide_false, Bool.false_or]
      rfl
theorem putD_dic (l : Po) (k : T3) (n : Int) : putD (dicD l) (key3 k) (.int n) = dicD (putT l k n) := by
  unfold putD putT
  rw [dic_any]
  cases hasT l k
  · simp [dicD]
  · simp only [if_true]
    unfold dicD
    rw [List.map_map, List.map_map]
    refine List.map_congr_left fun t _ => ?_
    obtain ⟨t, m⟩ := t
    show (if key3 t = key3 k then (key3 t, PyData.int n) else (key3 t, .int m)) = (key3 (if t = k then (t, n) else (t, m)).1, PyData.int (if t = k then (t, n) else (t, m)).2)
    by_cases c : t = k
    · subst c; simp
    · have : ¬ key3 t = key3 k := fun h => c (key3_inj h)
      rw [if_neg this, if_neg c]
theorem valD_dic (l : Po) (k : T3) : valD (dicD l) (key3 k) = if hasT l k then some (.int (getT l k)) else none := by
  induction l with
  | nil => rfl
  | cons t r ih =>
    obtain ⟨t, n⟩ := t
    unfold hasT getT
    by_cases c : t = k
    · subst c
      unfold valD dicD
      simp
    · have h : ¬ key3 t = key3 k := fun h => c (key3_inj h)
      rw [if_neg c, if_neg c, ← ih]
      unfold valD dicD
      rw [List.map_cons, List.find?_cons_of_neg (by simpa using h)]
theorem getT_no {l : Po} {k : T3} (h : hasT l k = false) : getT l k = 0 := by
  induction l with
  | nil => rfl
  | cons t r ih =>
    obtain ⟨t, n⟩ := t
    unfold hasT at h
    unfold getT
    split at h
    · cases h
    · rename_i c
      rw [if_neg c]
      exact ih h
theorem keysD_t (t : T3) : keysD [.int t.1, .int t.2.1, .int t.2.2] = some (key3 t) := rfl
theorem fst_dic (l : Po) : (dicD l).map (·.1) = (l.map (·.1)).map key3 := by
  unfold dicD
  rw [List.map_map, List.map_map]; rfl
/-- sorting, by insertion -/
def insT (x : T3) : List T3 → List T3
  | [] => [x]
  | y :: r => if lexT y x then y :: insT x r else x :: y :: r
def srtT : List T3 → List T3
  | [] => []
  | x :: r => insT x (srtT r)
theorem insT_perm (x : T3) : ∀ l, (insT x l).Perm (x :: l)
  | [] => .refl _
  | y :: r => by
    unfold insT
    split
    · exact ((insT_perm x r).cons y).trans (.swap x y r)
    · exact .refl _
theorem lexT_tr {a b c : T3} (h1 : lexT b a = false) (h2 : lexT c b = false) : lexT c a = false := (swo_lexT id).tr a b c h1 h2
theorem insT_srt (x : T3) : ∀ l : List T3, l.Pairwise (fun a b => lexT b a = false) → (insT x l).Pairwise fun a b => lexT b a = false
  | [], _ => List.pairwise_singleton _ _
  | y :: r, h => by
    have h1 := List.pairwise_cons.mp h
    unfold insT
    split
    · rename_i c
      refine List.pairwise_cons.mpr ⟨fun z hz => ?_, insT_srt x r h1.2⟩
      rcases List.mem_cons.mp ((insT_perm x r).mem_iff.mp hz) with rfl | hz
      · exact (swo_lexT id).asym y z c
      · exact h1.1 z hz
    · rename_i c
      have c : lexT y x = false := by simpa using c
      refine List.pairwise_cons.mpr ⟨fun z hz => ?_, h⟩
      rcases List.mem_cons.mp hz with rfl | hz
      · exact c
      · exact lexT_tr c (h1.1 z hz)
theorem srtT_ok : ∀ l, SrtT (srtT l) l
  | [] => ⟨.refl _, .nil⟩
  | x :: r => ⟨(insT_perm x _).trans ((srtT_ok r).1.cons x), insT_srt x _ (srtT_ok r).2⟩
theorem lexT_eq {a b : T3} (h1 : lexT a b = false) (h2 : lexT b a = false) : a = b := by
  have e1 := lexT_no.mp h1
  have e2 := lexT_no.mp h2
  obtain ⟨a1, a2, a3⟩ := a; obtain ⟨b1, b2, b3⟩ := b
  simp only [] at e1 e2
  refine Prod.ext ?_ (Prod.ext ?_ ?_) <;> simp only [] <;> omega
theorem srtT_uniq {l l' r : List T3} (h : SrtT l r) (g : SrtT l' r) : l = l' :=
  List.Perm.eq_of_pairwise (fun x y _ _ h1 h2 => lexT_eq h2 h1) h.2 g.2 (h.1.trans g.1.symm)
def canon (l : Po) : Po := ((srtT (l.map (·.1))).filter fun k => decide (getT l k ≠ 0)).map fun k => (k, getT l k)
theorem hasT_mem {l : Po} {k : T3} (h : k ∈ l.map (·.1)) : hasT l k = true := by
  induction l with
  | nil => cases h
  | cons t r ih =>
    obtain ⟨t, n⟩ := t
    unfold hasT
    split
    · rfl
    · rename_i c
      rcases List.mem_cons.mp h with e | h
      · exact absurd e.symm c
      · exact ih h
def addT (l : Po) (k : T3) (n : Int) : Po := putT l k (getT l k + n)
/-- the powers of a product -/
def shT (a b : T3) : T3 := (b.1 + a.1, b.2.1 + a.2.1, b.2.2 + a.2.2)
def mulOne (l : Po) (t : Tm) (p : Po) : Po := p.foldl (fun l o => addT l (shT t.1 o.1) (t.2 * o.2)) l
def mulAll (l : Po) (q p : Po) : Po := q.foldl (fun l t => mulOne l t p) l
def sumL (l : Po) (ps : List (Po × Po)) : Po := ps.foldl (fun l pr => mulAll l pr.1 pr.2) l
/-- a sum of products, as told -/
def sumP (ps : List (Po × Po)) : Po := canon (sumL [] ps)
def ppD (pr : Po × Po) : D := .tuple [poD pr.1, poD pr.2]
theorem putT_len (l : Po) (k : T3) (n : Int) : (putT l k n).length ≤ l.length + 1 := by
  unfold putT
  split
  · rw [List.length_map]; omega
  · rw [List.length_append]; simp
theorem mulOne_len (t : Tm) : ∀ (p l : Po), (mulOne l t p).length ≤ l.length + p.length
  | [], l => Nat.le_refl _
  | o :: r, l => by
    have h := mulOne_len t r (addT l (shT t.1 o.1) (t.2 * o.2))
    have h2 := putT_len l (shT t.1 o.1) (getT l (shT t.1 o.1) + t.2 * o.2)
    show (mulOne (addT l (shT t.1 o.1) (t.2 * o.2)) t r).length ≤ l.length + (r.length + 1)
    unfold addT at h ⊢
    omega
theorem mulAll_len (p : Po) : ∀ (q l : Po), (mulAll l q p).length ≤ l.length + q.length * p.length
  | [], l => by show l.length ≤ _; omega
  | t :: r, l => by
    have h := mulAll_len p r (mulOne l t p)
    have h2 := mulOne_len t p l
    show (mulAll (mulOne l t p) r p).length ≤ l.length + (r.length + 1) * p.length
    rw [Nat.add_mul]
    omega
def muchP (ps : List (Po × Po)) : Nat := (ps.map fun pr => pr.1.length * pr.2.length).sum
theorem sumL_len : ∀ (ps : List (Po × Po)) (l : Po), (sumL l ps).length ≤ l.length + muchP ps
  | [], l => Nat.le_refl _
  | pr :: r, l => by
    have h := sumL_len r (mulAll l pr.1 pr.2)
    have h2 := mulAll_len pr.2 pr.1 l
    show (sumL (mulAll l pr.1 pr.2) r).length ≤ l.length + muchP (pr :: r)
    unfold muchP at h ⊢
    rw [List.map_cons, List.sum_cons]
    omega
/-- a number that a product may have -/
def B64 (n : Int) : Prop := -18446744073709551616 < n ∧ n < 18446744073709551616
def Sml (p : Po) : Prop := ∀ t ∈ p, B64 t.2
/-- the greatest of 0 and some numbers -/
def mxL (l : List Int) : Int := l.foldr (fun a b => if a ≤ b then b else a) 0
theorem mxL_ge : ∀ {l : List Int}, 0 ≤ mxL l ∧ ∀ a ∈ l, a ≤ mxL l
  | [] => ⟨Int.le_refl _, by simp⟩
  | b :: r => by
    have ⟨h1, h2⟩ := @mxL_ge r
    show 0 ≤ (if b ≤ mxL r then mxL r else b) ∧ ∀ a ∈ b :: r, a ≤ (if b ≤ mxL r then mxL r else b)
    refine ⟨by split <;> omega, fun a ha => ?_⟩
    rcases List.mem_cons.mp ha with rfl | ha
    · split <;> omega
    · have := h2 a ha
      split <;> omega
theorem mxL_mem : ∀ (l : List Int), mxL l ∈ 0 :: l
  | [] => List.mem_cons_self
  | b :: r => by
    have h := mxL_mem r
    show (if b ≤ mxL r then mxL r else b) ∈ 0 :: b :: r
    split
    · rcases List.mem_cons.mp h with h | h
      · rw [h]; exact List.mem_cons_self
      · exact List.mem_cons_of_mem _ (List.mem_cons_of_mem _ h)
    · exact List.mem_cons_of_mem _ List.mem_cons_self
theorem mxL_eq {l : List Int} {k : Int} (h1 : k ∈ 0 :: l) (h2 : ∀ y ∈ 0 :: l, y ≤ k) : k = mxL l := by
  refine Int.le_antisymm ?_ (h2 _ (mxL_mem l))
  rcases List.mem_cons.mp h1 with rfl | h
  · exact mxL_ge.1
  · exact mxL_ge.2 k h
def degP (p : Po) : T3 := (mxL (p.map fun t => t.1.1), mxL (p.map fun t => t.1.2.1), mxL (p.map fun t => t.1.2.2))
def tmV (x y z : Int) (t : Tm) : Int := t.2 * x ^ t.1.1.toNat * y ^ t.1.2.1.toNat * z ^ t.1.2.2.toNat
def valP (p : Po) (x y z : Int) : Int := (p.map (tmV x y z)).sum
/-- powers within bounds, numbers within bounds -/
def PoOk (d : Nat) (p : Po) : Prop := ∀ t ∈ p, (0 ≤ t.1.1 ∧ t.1.1 ≤ d) ∧ (0 ≤ t.1.2.1 ∧ t.1.2.1 ≤ d) ∧ (0 ≤ t.1.2.2 ∧ t.1.2.2 ≤ d) ∧ B64 t.2
/-! ### polynomials in dicts of int tuples -/
def kx (t : T3) : List Int := [t.1, t.2.1, t.2.2]
theorem kx_inj {a b : T3} (h : kx a = kx b) : a = b := by
  obtain ⟨a1, a2, a3⟩ := a; obtain ⟨b1, b2, b3⟩ := b
  simp only [kx, List.cons.injEq, and_true] at h
  obtain ⟨rfl, rfl, rfl⟩ := h
  rfl
def dixD (l : Po) : List (List Int × D) := l.map fun t => (kx t.1, .int t.2)
theorem dix_any (l : Po) (k : T3) : ((dixD l).any fun kv => decide (kv.1 = kx k)) = hasT l k := by
  induction l with
  | nil => rfl
  | cons t r ih =>
    obtain ⟨t, n⟩ := t
    show (decide (kx t = kx k) || _) = _
    unfold hasT
    by_cases c : t = k
    · subst c; simp
    · have : ¬ kx t = kx k := fun h => c (kx_inj h)
      rw [if_neg c, ← ih]
      simp only [this, decide_false, Bool.false_or]
      rfl
theorem putD_dix (l : Po) (k : T3) (n : Int) : putD (dixD l) (kx k) (.int n) = dixD (putT l k n) := by
  unfold putD putT
  rw [dix_any]
  cases hasT l k
  · simp [dixD]
  · simp only [if_true]
    unfold dixD
    rw [List.map_map, List.map_map]
    refine List.map_congr_left fun t _ => ?_
    obtain ⟨t, m⟩ := t
    show (if kx t = kx k then (kx t, PyData.int n) else (kx t, .int m)) = (kx (if t = k then (t, n) else (t, m)).1, PyData.int (if t = k then (t, n) else (t, m)).2)
    by_cases c : t = k
    · subst c; simp
    · have : ¬ kx t = kx k := fun h => c (kx_inj h)
      rw [if_neg this, if_neg c]
theorem valD_dix (l : Po) (k : T3) : valD (dixD l) (kx k) = if hasT l k then some (.int (getT l k)) else none := by
  induction l with
  | nil => rfl
  | cons t r ih =>
    obtain ⟨t, n⟩ := t
    unfold hasT getT
    by_cases c : t = k
    · subst c
      unfold valD dixD
      simp
    · have h : ¬ kx t = kx k := fun h => c (kx_inj h)
      rw [if_neg c, if_neg c, ← ih]
      unfold valD dixD
      rw [List.map_cons, List.find?_cons_of_neg (by simpa using h)]
theorem fst_dix (l : Po) : (dixD l).map (·.1) = (l.map (·.1)).map kx := by
  unfold dixD
  rw [List.map_map, List.map_map]; rfl
theorem dix_ne (l : Po) : ∀ k ∈ dixD l, k.1 ≠ [] := by
  intro k hk
  obtain ⟨t, _, rfl⟩ := List.mem_map.mp hk
  exact List.cons_ne_nil _ _
theorem lexL_kx (a b : T3) : lexL (kx a) (kx b) = lexT a b := by
  obtain ⟨a1, a2, a3⟩ := a; obtain ⟨b1, b2, b3⟩ := b
  simp only [kx, lexL, lexT]
  by_cases c3 : a3 = b3
  · subst c3; simp
  · simp [c3]
/-- sorted keys -/
theorem srtX_uniq {ts' : List (List Int)} {l : List T3} (h : SrtL ts' (l.map kx)) : ts' = (srtT l).map kx := by
  have g : ((srtT l).map kx).Pairwise fun x y => lexL y x = false := by
    rw [List.pairwise_map]
    exact (srtT_ok l).2.imp fun q => by rw [lexL_kx]; exact q
  exact List.Perm.eq_of_pairwise (fun x y _ _ h1 h2 => lexL_eq h2 h1) h.2 g (h.1.trans ((srtT_ok l).1.map kx).symm)
theorem map_tupI_kx (l : List T3) : (l.map kx).map tupI = l.map trD := by rw [List.map_map]; rfl
theorem termsD_po : ∀ p : Po, termsD (p.map tmD) = some (dixD p)
  | [] => rfl
  | ((a, b, c), n) :: r => by
    have h := termsD_po r
    have e : intsO [.int a, .int b, .int c] = some [a, b, c] := rfl
    show termsD (.tuple [.tuple [.int a, .int b, .int c], .int n] :: r.map tmD) = _
    rw [termsD, e, h]
    rfl
theorem ndNeed_po (p : Po) : NdNeed (p.map tmD) = true := by
  cases p with
  | nil => rfl
  | cons t r => obtain ⟨⟨a, b, c⟩, n⟩ := t; rfl
def allP (p : Po) : Po := p.foldl (fun l t => putT l t.1 t.2) []
theorem allD_dix (p : Po) : allD (dixD p) = dixD (allP p) := by
  have : ∀ (p l : Po), (dixD p).foldl (fun acc q => putD acc q.1 q.2) (dixD l) = dixD (p.foldl (fun l t => putT l t.1 t.2) l) := by
    intro p
    induction p with
    | nil => intro l; rfl
    | cons t r ih =>
      intro l
      show (dixD r).foldl (fun acc q => putD acc q.1 q.2) (putD (dixD l) (kx t.1) (.int t.2)) = _
      rw [putD_dix, ih]; rfl
  exact this p []
theorem foldP_len : ∀ (p l : Po), (p.foldl (fun l t => putT l t.1 t.2) l).length ≤ l.length + p.length
  | [], l => Nat.le_refl _
  | t :: r, l => by
    have h := foldP_len r (putT l t.1 t.2)
    have h2 := putT_len l t.1 t.2
    rw [List.foldl_cons, List.length_cons]; omega
def N_poly_told : List Str := ["terms", "found", "powers"]
def lt_poly_told_1 : ATT := (aTest (aBin aNe (aBin aXix (aVar 0) (aVar 2)) (aC (.int 0))))
def le_poly_told_2 : ATE := (aTup (aCons (aVar 2) (aCons (aBin aXix (aVar 0) (aVar 2)) aNil)))
def t_poly_told : ATS := (aSeq (aSet 1 (aCall bTuple (aCons (aLc (aItL (aCall bSortX (aCons (aVar 0) aNil))) (aGName 2) lt_poly_told_1 le_poly_told_2 [2]) aNil)))
    (aSeq (aIfS (aTest (aBin aGt (aCall bLen (aCons (aVar 1) aNil)) (aC (.int 4000)))) aNever aNext)
    (aRet (aVar 1))))
def fn_poly_told : AFn := fun avs s Q => ∃ l : Po, avs = [.xt (dixD l)] ∧ l.length ≤ 1000000 ∧ (canon l).length ≤ 4000 ∧ Q (.d (poD (canon l))) s
theorem h_poly_told : ∀ avs s AQ, fn_poly_told avs s AQ → t_poly_told (endsA AQ) ⟨startA N_poly_told avs, ⟨s, []⟩⟩ := by
  rintro _ s AQ ⟨l, rfl, hl, hc, hq⟩
  show t_poly_told (endsA AQ) ⟨[some (.xt (dixD l)), none, none], ⟨s, []⟩⟩
  have st : ∀ (t : T3) (K : Option D → Mm → Prop), t ∈ l.map (·.1) → K (if decide (getT l t ≠ 0) = true then some (tmD (t, getT l t)) else none) ⟨s, []⟩ → stepC (aGName 2) lt_poly_told_1 le_poly_told_2 [some (.xt (dixD l)), none, none] (trD t) ⟨s, []⟩ K := by
    intro t K ht hK
    unfold stepC lt_poly_told_1 le_poly_told_2 trD
    walk_at "qs"
    rw [show [t.1, t.2.1, t.2.2] = kx t from rfl, valD_dix, hasT_mem ht]
    simp only [if_true]
    by_cases c : getT l t = 0
    · simp only [c, ne_eq, not_true_eq_false, if_false, decide_false, Bool.false_eq_true] at hK ⊢
      exact hK
    · simp only [c, ne_eq, not_false_eq_true, if_true, decide_true] at hK ⊢
      exact hK
  unfold t_poly_told
  walk_at "qs"
  refine ⟨dix_ne l, fun ts' hts => ?_⟩
  rw [fst_dix] at hts
  have e : ts' = (srtT (l.map (·.1))).map kx := srtX_uniq hts
  subst e
  rw [map_tupI_kx]
  refine ⟨by rw [List.length_map, (srtT_ok _).1.length_eq, List.length_map]; exact hl, aLcL_map trD (fun t => decide (getT l t ≠ 0)) (fun t => tmD (t, getT l t)) (fun t ht K hK => st t K ((srtT_ok _).1.mem_iff.mp ht) hK) ?_⟩
  have e : List.map (fun t => tmD (t, getT l t)) (List.filter (fun t => decide (getT l t ≠ 0)) (srtT (List.map (fun x => x.fst) l))) = (canon l).map tmD := by unfold canon; rw [List.map_map]; rfl
  rw [e, List.length_map]
  have : ¬ (4000 : Int) < ((canon l).length : Nat) := by omega
  simp only [this, if_false]
  exact hq
def N_poly_taken : List Str := ["one", "number", "powers", "late"]
def le_poly_taken_1 : ATE := (aTup (aCons (aVar 2) (aCons (aBin aMul (aVar 1) (aVar 3)) aNil)))
def t_poly_taken : ATS := (aRet (aIf (aTest (aBin aNe (aVar 1) (aC (.int 0)))) (aCall bTuple (aCons (aLc (aItT (aVar 0)) (aGTup 2 (aGCons (aGName 2) (aGCons (aGName 3) aGNil))) aYes le_poly_taken_1 [2, 3]) aNil)) (aC (.tuple []))))
def tkP (p : Po) (n : Int) : Po := if n = 0 then [] else p.map fun t => (t.1, n * t.2)
def fn_poly_taken : AFn := fun avs s Q => ∃ (p : Po) (n : Int), avs = [.d (poD p), .d (.int n)] ∧ p.length ≤ 1000000 ∧ B64 n ∧ Q (.d (poD (tkP p n))) s
theorem h_poly_taken : ∀ avs s AQ, fn_poly_taken avs s AQ → t_poly_taken (endsA AQ) ⟨startA N_poly_taken avs, ⟨s, []⟩⟩ := by
  rintro _ s AQ ⟨p, n, rfl, hl, hn, hq⟩
  show t_poly_taken (endsA AQ) ⟨[some (.d (poD p)), some (.d (.int n)), none, none], ⟨s, []⟩⟩
  unfold t_poly_taken
  rw [show poD p = .tuple (p.map tmD) from rfl]
  unfold tkP at hq
  by_cases c : n = 0
  · subst c
    walk_at "qs"
    exact hq
  · walk_at "qs"
    rw [if_neg c] at hq
    rw [if_pos c]
    refine ⟨by rw [List.length_map]; exact hl, aLcL_all tmD (fun t => tmD (t.1, n * t.2)) (fun t ht K hK => ?_) ?_⟩
    · obtain ⟨⟨a, b, c⟩, m⟩ := t
      unfold stepC le_poly_taken_1 tmD trD
      walk_at "qs"
      exact ⟨MulOk.l hn.1 hn.2, hK⟩
    · unfold poD at hq
      rw [List.map_map] at hq
      exact hq
def N_sum_of_products : List Str := ["pairs", "terms", "short", "one", "i", "j", "k", "number", "first", "second", "third", "late", "powers"]
def lb_sum_of_products_1 : ATS := (aSeq (aSet 12 (aTup (aCons (aBin aAdd (aVar 8) (aVar 4)) (aCons (aBin aAdd (aVar 9) (aVar 5)) (aCons (aBin aAdd (aVar 10) (aVar 6)) aNil)))))
    (aXput (aVar 1) (aVar 12) (aBin aAdd (aXget (aVar 1) (aVar 12) (aC (.int 0))) (aBin aMul (aVar 7) (aVar 11)))))
def lb_sum_of_products_2 : ATS := (aFor [8, 9, 10, 11, 12] (aItT (aVar 3)) (aGTup 2 (aGCons (aGTup 3 (aGCons (aGName 8) (aGCons (aGName 9) (aGCons (aGName 10) aGNil)))) (aGCons (aGName 11) aGNil))) lb_sum_of_products_1)
def lb_sum_of_products_3 : ATS := (aFor [4, 5, 6, 7, 8, 9, 10, 11, 12] (aItT (aVar 2)) (aGTup 2 (aGCons (aGTup 3 (aGCons (aGName 4) (aGCons (aGName 5) (aGCons (aGName 6) aGNil)))) (aGCons (aGName 7) aGNil))) lb_sum_of_products_2)
def t_sum_of_products : ATS := (aSeq (aSet 1 aXnew)
    (aSeq (aFor [2, 3, 4, 5, 6, 7, 8, 9, 10, 11, 12] (aItL (aVar 0)) (aGTup 2 (aGCons (aGName 2) (aGCons (aGName 3) aGNil))) lb_sum_of_products_3)
    (aNorm 0 [] (aRet (aFn 1 fn_poly_told (aCons (aVar 1) aNil))))))
def fn_sum_of_products : AFn := fun avs s Q => ∃ ps : List (Po × Po), avs = [.d (.list (ps.map ppD))] ∧ (∀ pr ∈ ps, Sml pr.1) ∧ muchP ps ≤ 1000000 ∧ (sumP ps).length ≤ 4000 ∧ Q (.d (poD (sumP ps))) s
theorem sop1 (E : AEnds) (x0 x2 x3 : D) (i j k n : Int) (hn : B64 n) (s : Option Src) : ∀ (p l : Po), l.length + p.length ≤ 1000000 → E.nx ⟨[some (.d x0), some (.o 0), some (.d x2), some (.d x3), some (.d (.int i)), some (.d (.int j)), some (.d (.int k)), some (.d (.int n)), none, none, none, none, none], ⟨s, [.xd (dixD (mulOne l ((i, j, k), n) p))]⟩⟩ →
    aForL 1 [8, 9, 10, 11, 12] (aGTup 2 (aGCons (aGTup 3 (aGCons (aGName 8) (aGCons (aGName 9) (aGCons (aGName 10) aGNil)))) (aGCons (aGName 11) aGNil))) lb_sum_of_products_1 E (p.map tmD) ⟨[some (.d x0), some (.o 0), some (.d x2), some (.d x3), some (.d (.int i)), some (.d (.int j)), some (.d (.int k)), some (.d (.int n)), none, none, none, none, none], ⟨s, [.xd (dixD l)]⟩⟩ := by
  intro p
  induction p with
  | nil => intro l _ h; exact h
  | cons o r ih =>
    obtain ⟨⟨a, b, c⟩, m⟩ := o
    intro l hl h
    rw [List.map_cons]
    unfold aForL lb_sum_of_products_1
    rw [show tmD ((a, b, c), m) = .tuple [.tuple [.int a, .int b, .int c], .int m] from rfl]
    walk_at "qs"
    rw [show [a + i, b + j, c + k] = kx (shT (i, j, k) (a, b, c)) from rfl, valD_dix]
    have hm : MulOk n m := MulOk.l hn.1 hn.2
    have hd : (dixD l).length ≤ 1000000 := by unfold dixD; rw [List.length_map]; simp only [List.length_cons] at hl; omega
    have nx := ih (addT l (shT (i, j, k) (a, b, c)) (n * m)) (by
      have := putT_len l (shT (i, j, k) (a, b, c)) (getT l (shT (i, j, k) (a, b, c)) + n * m)
      unfold addT
      simp only [List.length_cons] at hl; omega) h
    cases e : hasT l (shT (i, j, k) (a, b, c)) with
    | true =>
      simp only [if_true]
      refine ⟨hm, hd, ?_⟩
      rw [putD_dix]
      exact nx
    | false =>
      simp only [Bool.false_eq_true, if_false]
      refine ⟨hm, hd, ?_⟩
      rw [putD_dix]
      unfold addT at nx
      rw [getT_no e] at nx
      exact nx
theorem sop2 (E : AEnds) (x0 x2 : D) (p : Po) (s : Option Src) : ∀ (q l : Po), Sml q → l.length + q.length * p.length ≤ 1000000 → E.nx ⟨[some (.d x0), some (.o 0), some (.d x2), some (.d (poD p)), none, none, none, none, none, none, none, none, none], ⟨s, [.xd (dixD (mulAll l q p))]⟩⟩ →
    aForL 1 [4, 5, 6, 7, 8, 9, 10, 11, 12] (aGTup 2 (aGCons (aGTup 3 (aGCons (aGName 4) (aGCons (aGName 5) (aGCons (aGName 6) aGNil)))) (aGCons (aGName 7) aGNil))) lb_sum_of_products_2 E (q.map tmD) ⟨[some (.d x0), some (.o 0), some (.d x2), some (.d (poD p)), none, none, none, none, none, none, none, none, none], ⟨s, [.xd (dixD l)]⟩⟩ := by
  intro q
  induction q with
  | nil => intro l _ _ h; exact h
  | cons o r ih =>
    obtain ⟨⟨a, b, c⟩, m⟩ := o
    intro l hq hl h
    rw [List.map_cons]
    unfold aForL lb_sum_of_products_2
    rw [show tmD ((a, b, c), m) = .tuple [.tuple [.int a, .int b, .int c], .int m] from rfl]
    rw [show poD p = .tuple (p.map tmD) from rfl] at h ih ⊢
    have hlen := mulOne_len ((a, b, c), m) p l
    have hl' : l.length + (r.length + 1) * p.length ≤ 1000000 := hl
    rw [Nat.add_mul] at hl'
    walk_at "qs"
    refine sop1 _ x0 x2 _ a b c m (hq _ List.mem_cons_self) s p l (by omega) ?_
    exact ih (mulOne l ((a, b, c), m) p) (fun t ht => hq t (List.mem_cons_of_mem _ ht)) (by omega) h
theorem sop3 (E : AEnds) (x0 : D) (s : Option Src) : ∀ (ps : List (Po × Po)) (l : Po), (∀ pr ∈ ps, Sml pr.1) → l.length + muchP ps ≤ 1000000 → E.nx ⟨[some (.d x0), some (.o 0), none, none, none, none, none, none, none, none, none, none, none], ⟨s, [.xd (dixD (sumL l ps))]⟩⟩ →
    aForL 1 [2, 3, 4, 5, 6, 7, 8, 9, 10, 11, 12] (aGTup 2 (aGCons (aGName 2) (aGCons (aGName 3) aGNil))) lb_sum_of_products_3 E (ps.map ppD) ⟨[some (.d x0), some (.o 0), none, none, none, none, none, none, none, none, none, none, none], ⟨s, [.xd (dixD l)]⟩⟩ := by
  intro ps
  induction ps with
  | nil => intro l _ _ h; exact h
  | cons o r ih =>
    obtain ⟨q, p⟩ := o
    intro l hq hl h
    rw [List.map_cons]
    unfold aForL lb_sum_of_products_3
    rw [show ppD (q, p) = .tuple [poD q, poD p] from rfl]
    have hlen := mulAll_len p q l
    have hl' : l.length + (q.length * p.length + muchP r) ≤ 1000000 := by
      have e : muchP ((q, p) :: r) = q.length * p.length + muchP r := by unfold muchP; rw [List.map_cons, List.sum_cons]
      omega
    rw [show poD q = .tuple (q.map tmD) from rfl]
    walk_at "qs"
    refine sop2 _ x0 _ p s q l (hq _ List.mem_cons_self) (by omega) ?_
    exact ih (mulAll l q p) (fun t ht => hq t (List.mem_cons_of_mem _ ht)) (by omega) h
theorem h_sum_of_products : ∀ avs s AQ, fn_sum_of_products avs s AQ → t_sum_of_products (endsA AQ) ⟨startA N_sum_of_products avs, ⟨s, []⟩⟩ := by
  rintro _ s AQ ⟨ps, rfl, hs, hl, hc, hq⟩
  show t_sum_of_products (endsA AQ) ⟨[some (.d (.list (ps.map ppD))), none, none, none, none, none, none, none, none, none, none, none, none], ⟨s, []⟩⟩
  unfold t_sum_of_products
  walk_at "qs"
  refine sop3 _ _ s ps [] hs (by simpa using hl) ?_
  walk_at "qs"
  have hlen := sumL_len ps []
  refine ⟨_, rfl, by simp only [List.length_nil] at hlen; omega, hc, hq⟩
def N_poly_degrees : List Str := ["one", "k", "powers", "number"]
def le_poly_degrees_1 : ATE := (aBin aIx (aVar 2) (aVar 1))
def le_poly_degrees_2 : ATE := (aCall bMaxL (aCons (aBin aAdd (aLst (aCons (aC (.int 0)) aNil)) (aLc (aItT (aVar 0)) (aGTup 2 (aGCons (aGName 2) (aGCons (aGName 3) aGNil))) aYes le_poly_degrees_1 [2, 3])) aNil))
def t_poly_degrees : ATS := (aRet (aCall bTuple (aCons (aLc (aRng1 (aCons (aC (.int 3)) aNil)) (aGName 1) aYes le_poly_degrees_2 [1]) aNil)))
def fn_poly_degrees : AFn := fun avs s Q => ∃ p : Po, avs = [.d (poD p)] ∧ p.length ≤ 1000000 ∧ Q (.d (trD (degP p))) s
theorem deg_step (p : Po) (kk : Int) (f : T3 → Int) (hf : ∀ t : T3, atD [.int t.1, .int t.2.1, .int t.2.2] kk = some (.int (f t))) (hl : p.length ≤ 1000000) (s : Option Src) (K : Option D → Mm → Prop) (hK : K (some (.int (mxL (p.map fun t => f t.1)))) ⟨s, []⟩) :
    stepC (aGName 1) aYes le_poly_degrees_2 [some (.d (poD p)), none, none, none] (.int kk) ⟨s, []⟩ K := by
  unfold stepC le_poly_degrees_2
  rw [show poD p = .tuple (p.map tmD) from rfl]
  walk_at "qs"
  rw [List.length_map]
  refine ⟨hl, aLcL_all tmD (fun t => .int (f t.1)) (fun t ht K hK => ?_) ?_⟩
  · unfold stepC le_poly_degrees_1
    rw [show tmD t = .tuple [.tuple [.int t.1.1, .int t.1.2.1, .int t.1.2.2], .int t.2] from rfl]
    walk_at "qs"
    rw [hf t.1]
    exact hK
  · walk_at "qs"
    have e : intsD (.int 0 :: p.map fun t => .int (f t.1)) = some (0 :: p.map fun t => f t.1) := by
      have := intsD_map (0 :: p.map fun t => f t.1)
      rw [List.map_cons, List.map_map] at this
      exact this
    rw [e]
    simp only [List.length_map]
    refine ⟨by rw [sizeLine_eq]; omega, by simp, fun k h1 h2 => ?_⟩
    rw [mxL_eq h1 h2]
    exact hK
theorem rng_3 : rngD 0 (Int.toNat 3) = [PyData.int 0, .int 1, .int 2] := rfl
theorem h_poly_degrees : ∀ avs s AQ, fn_poly_degrees avs s AQ → t_poly_degrees (endsA AQ) ⟨startA N_poly_degrees avs, ⟨s, []⟩⟩ := by
  rintro _ s AQ ⟨p, rfl, hl, hq⟩
  show t_poly_degrees (endsA AQ) ⟨[some (.d (poD p)), none, none, none], ⟨s, []⟩⟩
  unfold t_poly_degrees
  walk_at "qs"
  rw [rng_3]
  refine ⟨Rg.of (by omega) (by omega), by decide, ?_⟩
  refine aLcL_step (deg_step p 0 (fun t => t.1) (fun t => rfl) hl s _ ?_)
  refine aLcL_step (deg_step p 1 (fun t => t.2.1) (fun t => rfl) hl s _ ?_)
  refine aLcL_step (deg_step p 2 (fun t => t.2.2) (fun t => rfl) hl s _ ?_)
  unfold aLcL
  exact hq
def N_number_powers : List Str := ["number", "most", "found", "lap"]
def lb_number_powers_1 : ATS := (aDrop (aMt mApp (aVar 2) (aCons (aBin aMul (aBin aIx (aVar 2) (aUn aNeg (aC (.int 1)))) (aVar 0)) aNil)))
def t_number_powers : ATS := (aSeq (aSet 2 (aLstM (aCons (aC (.int 1)) aNil)))
    (aSeq (aFor [3] (aRng1 (aCons (aVar 1) aNil)) (aGName 3) lb_number_powers_1)
    (aRet (aVar 2))))
def pwD (n : Int) (k : Nat) : List D := (List.range (k + 1)).map fun j => .int (n ^ j)
theorem pwD_succ (n : Int) (k : Nat) : pwD n (k + 1) = pwD n k ++ [.int (n ^ k * n)] := by
  unfold pwD
  rw [List.range_succ, List.map_append, List.map_cons, List.map_nil, Int.pow_succ]
theorem pwD_len (n : Int) (k : Nat) : (pwD n k).length = k + 1 := by simp [pwD]
theorem pwD_get (n : Int) (k j : Nat) (h : j ≤ k) : (pwD n k)[j]? = some (.int (n ^ j)) := by
  unfold pwD
  rw [List.getElem?_map, List.getElem?_range (by omega)]
  rfl
theorem pwD_last (n : Int) (k : Nat) : atD (pwD n k) (-1) = some (.int (n ^ k)) := by
  unfold atD
  rw [if_neg (by decide), if_pos (by rw [pwD_len]; omega), pwD_len, show ((-1 : Int) + ((k + 1 : Nat) : Int)).toNat = k by omega]
  exact pwD_get n k k (Nat.le_refl _)
theorem pwD_at (n : Int) (k : Nat) (j : Int) (h0 : 0 ≤ j) (h : j ≤ k) : atD (pwD n k) j = some (.int (n ^ j.toNat)) := by
  unfold atD
  rw [if_pos h0]
  exact pwD_get n k _ (by omega)
theorem Bd.pow {e : Nat} {n : Int} (h : Bd e n) (he : 0 < e) : ∀ k : Nat, Bd (e * k + 1) (n ^ k)
  | 0 => by rw [Int.pow_zero]; unfold Bd; simp
  | k + 1 => by
    rw [Int.pow_succ, show e * (k + 1) + 1 = (e * k + 1) + e by rw [Nat.mul_succ]; omega]
    exact (Bd.pow h he k).mul h
def fn_number_powers : AFn := fun avs s Q => ∃ (n : Int) (m e : Nat), avs = [.d (.int n), .d (.int (m : Int))] ∧ 0 < e ∧ Bd e n ∧ m ≤ 2000 ∧ e * (m + 1) + 1 < 1000000 ∧ Q (.d (.list (pwD n m))) s
theorem np_loop (E : AEnds) (n : Int) (x1 : D) (m e : Nat) (he : 0 < e) (hb : Bd e n) (hm : m ≤ 2000) (hs : e * (m + 1) + 1 < 1000000) (s : Option Src) (h : E.nx ⟨[some (.d (.int n)), some (.d x1), some (.o 0), none], ⟨s, [.l (pwD n m)]⟩⟩) :
    ∀ (ds : List D) (k : Nat), k + ds.length = m → aForL 1 [3] (aGName 3) lb_number_powers_1 E ds ⟨[some (.d (.int n)), some (.d x1), some (.o 0), none], ⟨s, [.l (pwD n k)]⟩⟩ := by
  intro ds
  induction ds with
  | nil => intro k hk; have : k = m := by simpa using hk
           subst this; exact h
  | cons d r ih =>
    intro k hk
    have hk' : k + 1 + r.length = m := by simp only [List.length_cons] at hk; omega
    unfold aForL lb_number_powers_1
    walk_at "qs"
    rw [pwD_last]
    simp only []
    have hlim : e * k + 1 + e < 1000000 := by
      have : e * (k + 1) ≤ e * (m + 1) := Nat.mul_le_mul_left _ (by omega)
      rw [Nat.mul_succ] at this
      omega
    refine ⟨MulOk.bd (hb.pow he k) hb hlim, by rw [pwD_len]; omega, ?_⟩
    rw [← pwD_succ]
    exact ih (k + 1) hk'
theorem h_number_powers : ∀ avs s AQ, fn_number_powers avs s AQ → t_number_powers (endsA AQ) ⟨startA N_number_powers avs, ⟨s, []⟩⟩ := by
  rintro _ s AQ ⟨n, m, e, rfl, he, hb, hm, hs, hq⟩
  show t_number_powers (endsA AQ) ⟨[some (.d (.int n)), some (.d (.int m)), none, none], ⟨s, []⟩⟩
  unfold t_number_powers
  walk_at "qs"
  refine ⟨Rg.of (by omega) (by omega), ?_⟩
  rw [show [PyData.int 1] = pwD n 0 by show _ = [PyData.int (n ^ 0)]; rw [Int.pow_zero]]
  refine np_loop _ n _ m e he hb hm hs s ?_ _ 0 ?_
  · walk_at "qs"
    exact hq
  · rw [rngD_len]; omega
def N_poly_value : List Str := ["one", "triple", "rows", "number", "most", "i", "j", "k"]
def le_poly_value_1 : ATE := (aFn 2 fn_number_powers (aCons (aVar 3) (aCons (aVar 4) aNil)))
def le_poly_value_2 : ATE := (aBin aMul (aBin aMul (aBin aMul (aVar 3) (aBin aIx (aBin aIx (aVar 2) (aC (.int 0))) (aVar 5))) (aBin aIx (aBin aIx (aVar 2) (aC (.int 1))) (aVar 6))) (aBin aIx (aBin aIx (aVar 2) (aC (.int 2))) (aVar 7)))
def t_poly_value : ATS := (aSeq (aSet 2 (aLc (aZipS (aCons (aVar 1) (aCons (aFn 1 fn_poly_degrees (aCons (aVar 0) aNil)) aNil))) (aGTup 2 (aGCons (aGName 3) (aGCons (aGName 4) aGNil))) aYes le_poly_value_1 [3, 4]))
    (aRet (aCall bSum (aCons (aLc (aItT (aVar 0)) (aGTup 2 (aGCons (aGTup 3 (aGCons (aGName 5) (aGCons (aGName 6) (aGCons (aGName 7) aGNil)))) (aGCons (aGName 3) aGNil))) aYes le_poly_value_2 [3, 5, 6, 7]) aNil))))
def fn_poly_value : AFn := fun avs s Q => ∃ (p : Po) (x y z : Int) (d e : Nat), avs = [.d (poD p), .d (.tuple [.int x, .int y, .int z])] ∧ p.length ≤ 1000000 ∧ PoOk d p ∧ 0 < e ∧ Bd e x ∧ Bd e y ∧ Bd e z ∧ d ≤ 2000 ∧ 3 * (e * (d + 1) + 1) + 64 < 1000000 ∧ Q (.d (.int (valP p x y z))) s
theorem mxL_le {l : List Int} {d : Int} (h0 : 0 ≤ d) (h : ∀ a ∈ l, a ≤ d) : mxL l ≤ d := by
  rcases List.mem_cons.mp (mxL_mem l) with e | e
  · rw [e]; exact h0
  · exact h _ e
theorem pv_at (n : Int) (l : List Int) (i d e : Nat) (j : Int) (hl : ∀ a ∈ l, a ≤ (d : Int)) (h0 : 0 ≤ j) (hj : j ∈ l) : atD (pwD n (mxL l).toNat) j = some (.int (n ^ j.toNat)) := by
  have h1 := mxL_ge.2 j hj
  exact pwD_at n _ j h0 (by omega)
theorem h_poly_value : ∀ avs s AQ, fn_poly_value avs s AQ → t_poly_value (endsA AQ) ⟨startA N_poly_value avs, ⟨s, []⟩⟩ := by
  rintro _ s AQ ⟨p, x, y, z, d, e, rfl, hl, hp, he, hx, hy, hz, hd, hs, hq⟩
  show t_poly_value (endsA AQ) ⟨[some (.d (poD p)), some (.d (.tuple [.int x, .int y, .int z])), none, none, none, none, none, none], ⟨s, []⟩⟩
  have b1 : ∀ a ∈ p.map (fun t => t.1.1), a ≤ (d : Int) := fun a ha => by
    obtain ⟨t, ht, rfl⟩ := List.mem_map.mp ha
    exact (hp t ht).1.2
  have b2 : ∀ a ∈ p.map (fun t => t.1.2.1), a ≤ (d : Int) := fun a ha => by
    obtain ⟨t, ht, rfl⟩ := List.mem_map.mp ha
    exact (hp t ht).2.1.2
  have b3 : ∀ a ∈ p.map (fun t => t.1.2.2), a ≤ (d : Int) := fun a ha => by
    obtain ⟨t, ht, rfl⟩ := List.mem_map.mp ha
    exact (hp t ht).2.2.1.2
  have hpo : ∀ (n : Int) (k : Int), Bd e n → 0 ≤ k → k ≤ d → Bd (e * (d + 1) + 1) (n ^ k.toNat) := fun n k hn h0 hk => by
    have h := hn.pow he k.toNat
    have : e * k.toNat ≤ e * (d + 1) := Nat.mul_le_mul_left _ (by omega)
    exact h.le (by omega)
  have st : ∀ (n m : Int) (K : Option D → Mm → Prop), Bd e n → 0 ≤ m → m ≤ d → K (some (.list (pwD n m.toNat))) ⟨s, []⟩ → stepC (aGTup 2 (aGCons (aGName 3) (aGCons (aGName 4) aGNil))) aYes le_poly_value_1 [some (.d (poD p)), some (.d (.tuple [.int x, .int y, .int z])), none, none, none, none, none, none] (.tuple [.int n, .int m]) ⟨s, []⟩ K := by
    intro n m K hn h0 hm hK
    unfold stepC le_poly_value_1
    walk_at "qs"
    obtain ⟨k, rfl⟩ : ∃ k : Nat, m = k := ⟨m.toNat, by omega⟩
    have : e * (k + 1) ≤ e * (d + 1) := Nat.mul_le_mul_left _ (by omega)
    exact ⟨n, k, e, rfl, he, hn, by omega, by omega, hK⟩
  unfold t_poly_value
  walk_at "qs"
  refine ⟨p, rfl, hl, ?_⟩
  unfold trD degP
  walk_at "qs"
  rw [show zipD [PyData.int x, .int y, .int z] [PyData.int (mxL (p.map fun t => t.1.1)), .int (mxL (p.map fun t => t.1.2.1)), .int (mxL (p.map fun t => t.1.2.2))] = [.tuple [.int x, .int (mxL (p.map fun t => t.1.1))], .tuple [.int y, .int (mxL (p.map fun t => t.1.2.1))], .tuple [.int z, .int (mxL (p.map fun t => t.1.2.2))]] from rfl]
  refine ⟨by simp, ?_⟩
  refine aLcL_step (st _ _ _ hx mxL_ge.1 (mxL_le (by omega) b1) ?_)
  refine aLcL_step (st _ _ _ hy mxL_ge.1 (mxL_le (by omega) b2) ?_)
  refine aLcL_step (st _ _ _ hz mxL_ge.1 (mxL_le (by omega) b3) ?_)
  unfold aLcL
  rw [show poD p = .tuple (p.map tmD) from rfl]
  walk_at "qs"
  rw [List.length_map]
  refine ⟨hl, aLcL_all tmD (fun t => .int (tmV x y z t)) (fun t ht K hK => ?_) ?_⟩
  · obtain ⟨h1, h2, h3, h4⟩ := hp t ht
    unfold stepC le_poly_value_2
    rw [show tmD t = .tuple [.tuple [.int t.1.1, .int t.1.2.1, .int t.1.2.2], .int t.2] from rfl]
    walk_at "qs"
    rw [pv_at x _ 0 d e _ b1 h1.1 (List.mem_map.mpr ⟨t, ht, rfl⟩)]
    walk_at "qs"
    rw [pv_at y _ 0 d e _ b2 h2.1 (List.mem_map.mpr ⟨t, ht, rfl⟩)]
    walk_at "qs"
    rw [pv_at z _ 0 d e _ b3 h3.1 (List.mem_map.mpr ⟨t, ht, rfl⟩)]
    walk_at "qs"
    have e1 := hpo x _ hx h1.1 h1.2
    have e2 := hpo y _ hy h2.1 h2.2
    have e3 := hpo z _ hz h3.1 h3.2
    have e4 := Bd.of64 h4.1 h4.2
    exact ⟨MulOk.bd e4 e1 (by omega), MulOk.bd (e4.mul e1) e2 (by omega), MulOk.bd ((e4.mul e1).mul e2) e3 (by omega), hK⟩
  · walk_at "qs"
    rw [show (p.map fun t => PyData.int (tmV x y z t)) = (p.map (tmV x y z)).map PyData.int by rw [List.map_map]; rfl, intsD_map]
    exact hq
def N_four_by_one : List Str := ["four", "p0", "p1", "p2", "p3", "first"]
def t_four_by_one : ATS := (aSeq (aAsg (aVar 0) (aGTup 4 (aGCons (aGName 1) (aGCons (aGName 2) (aGCons (aGName 3) (aGCons (aGName 4) aGNil))))))
    (aSeq (aSet 5 (aLst (aCons (aTup (aCons (aC (.tuple [.tuple [.tuple [.int 0, .int 0, .int 0], .int (-1)]])) (aCons (aVar 2) aNil))) (aCons (aTup (aCons (aC (.tuple [.tuple [.tuple [.int 0, .int 0, .int 1], .int 1], .tuple [.tuple [.int 1, .int 1, .int 0], .int (-1)]])) (aCons (aVar 3) aNil))) (aCons (aTup (aCons (aC (.tuple [.tuple [.tuple [.int 0, .int 1, .int 0], .int (-1)]])) (aCons (aVar 4) aNil))) aNil)))))
    (aRet (aLst (aCons (aVar 5) (aCons (aLst (aCons (aTup (aCons (aC (.tuple [.tuple [.tuple [.int 0, .int 0, .int 0], .int 1]])) (aCons (aVar 1) aNil))) (aCons (aTup (aCons (aC (.tuple [.tuple [.tuple [.int 1, .int 0, .int 0], .int 1]])) (aCons (aVar 2) aNil))) (aCons (aTup (aCons (aC (.tuple [.tuple [.tuple [.int 0, .int 1, .int 0], .int 1]])) (aCons (aVar 3) aNil))) (aCons (aTup (aCons (aC (.tuple [.tuple [.tuple [.int 0, .int 0, .int 1], .int 1]])) (aCons (aVar 4) aNil))) aNil))))) (aCons (aLst (aCons (aTup (aCons (aC (.tuple [.tuple [.tuple [.int 1, .int 0, .int 0], .int 1]])) (aCons (aVar 3) aNil))) (aCons (aTup (aCons (aC (.tuple [.tuple [.tuple [.int 0, .int 0, .int 0], .int 1]])) (aCons (aVar 4) aNil))) aNil))) (aCons (aLst (aCons (aTup (aCons (aC (.tuple [.tuple [.tuple [.int 0, .int 0, .int 0], .int (-1)]])) (aCons (aVar 3) aNil))) aNil)) aNil))))))))
/-- four polynomials -/
abbrev P4 := Po × Po × Po × Po
def p4D (f : P4) : D := .tuple [poD f.1, poD f.2.1, poD f.2.2.1, poD f.2.2.2]
def psD (l : List (Po × Po)) : D := .list (l.map ppD)
def pO : Po := [((0, 0, 0), 1)]
def pX : Po := [((1, 0, 0), 1)]
def pY : Po := [((0, 1, 0), 1)]
def pZ : Po := [((0, 0, 1), 1)]
def pLO : Po := [((0, 0, 0), -1)]
def pLY : Po := [((0, 1, 0), -1)]
def pLeft : Po := [((0, 0, 1), 1), ((1, 1, 0), -1)]
def byOne (f : P4) : List (List (Po × Po)) := [[(pLO, f.2.1), (pLeft, f.2.2.1), (pLY, f.2.2.2)], [(pO, f.1), (pX, f.2.1), (pY, f.2.2.1), (pZ, f.2.2.2)], [(pX, f.2.2.1), (pO, f.2.2.2)], [(pLO, f.2.2.1)]]
def byOther (f : P4) : List (List (Po × Po)) := [[(pLO, f.2.2.1)], [(pLO, f.2.2.2)], [(pO, f.1), (pY, f.2.2.1)], [(pO, f.2.1), (pY, f.2.2.2)]]
def plD (l : List (List (Po × Po))) : D := .list (l.map psD)
def fn_four_by_one : AFn := fun avs s Q => ∃ f : P4, avs = [.d (p4D f)] ∧ Q (.d (plD (byOne f))) s
theorem h_four_by_one : ∀ avs s AQ, fn_four_by_one avs s AQ → t_four_by_one (endsA AQ) ⟨startA N_four_by_one avs, ⟨s, []⟩⟩ := by
  rintro _ s AQ ⟨⟨a, b, c, d⟩, rfl, hq⟩
  show t_four_by_one (endsA AQ) ⟨[some (.d (.tuple [poD a, poD b, poD c, poD d])), none, none, none, none, none], ⟨s, []⟩⟩
  unfold t_four_by_one
  generalize ha : poD a = da at *
  generalize hb : poD b = db at *
  generalize hc : poD c = dc at *
  generalize hd : poD d = dd at *
  walk_at "qs"
  subst ha hb hc hd
  exact hq
def N_four_by_other : List Str := ["four", "p0", "p1", "p2", "p3"]
def t_four_by_other : ATS := (aSeq (aAsg (aVar 0) (aGTup 4 (aGCons (aGName 1) (aGCons (aGName 2) (aGCons (aGName 3) (aGCons (aGName 4) aGNil))))))
    (aRet (aLst (aCons (aLst (aCons (aTup (aCons (aC (.tuple [.tuple [.tuple [.int 0, .int 0, .int 0], .int (-1)]])) (aCons (aVar 3) aNil))) aNil)) (aCons (aLst (aCons (aTup (aCons (aC (.tuple [.tuple [.tuple [.int 0, .int 0, .int 0], .int (-1)]])) (aCons (aVar 4) aNil))) aNil)) (aCons (aLst (aCons (aTup (aCons (aC (.tuple [.tuple [.tuple [.int 0, .int 0, .int 0], .int 1]])) (aCons (aVar 1) aNil))) (aCons (aTup (aCons (aC (.tuple [.tuple [.tuple [.int 0, .int 1, .int 0], .int 1]])) (aCons (aVar 3) aNil))) aNil))) (aCons (aLst (aCons (aTup (aCons (aC (.tuple [.tuple [.tuple [.int 0, .int 0, .int 0], .int 1]])) (aCons (aVar 2) aNil))) (aCons (aTup (aCons (aC (.tuple [.tuple [.tuple [.int 0, .int 1, .int 0], .int 1]])) (aCons (aVar 4) aNil))) aNil))) aNil)))))))
def fn_four_by_other : AFn := fun avs s Q => ∃ f : P4, avs = [.d (p4D f)] ∧ Q (.d (plD (byOther f))) s
theorem h_four_by_other : ∀ avs s AQ, fn_four_by_other avs s AQ → t_four_by_other (endsA AQ) ⟨startA N_four_by_other avs, ⟨s, []⟩⟩ := by
  rintro _ s AQ ⟨⟨a, b, c, d⟩, rfl, hq⟩
  show t_four_by_other (endsA AQ) ⟨[some (.d (.tuple [poD a, poD b, poD c, poD d])), none, none, none, none], ⟨s, []⟩⟩
  unfold t_four_by_other
  generalize ha : poD a = da at *
  generalize hb : poD b = db at *
  generalize hc : poD c = dc at *
  generalize hd : poD d = dd at *
  walk_at "qs"
  subst ha hb hc hd
  exact hq
def N_less_all : List Str := ["pairs", "short", "one"]
def le_less_all_1 : ATE := (aTup (aCons (aFn 2 fn_poly_taken (aCons (aVar 1) (aCons (aUn aNeg (aC (.int 1))) aNil))) (aCons (aVar 2) aNil)))
def t_less_all : ATS := (aRet (aLc (aItL (aVar 0)) (aGTup 2 (aGCons (aGName 1) (aGCons (aGName 2) aGNil))) aYes le_less_all_1 [1, 2]))
def lessL (l : List (Po × Po)) : List (Po × Po) := l.map fun pr => (tkP pr.1 (-1), pr.2)
def fn_less_all : AFn := fun avs s Q => ∃ l : List (Po × Po), avs = [.d (psD l)] ∧ l.length ≤ 1000 ∧ (∀ pr ∈ l, pr.1.length ≤ 1000000) ∧ Q (.d (psD (lessL l))) s
theorem h_less_all : ∀ avs s AQ, fn_less_all avs s AQ → t_less_all (endsA AQ) ⟨startA N_less_all avs, ⟨s, []⟩⟩ := by
  rintro _ s AQ ⟨l, rfl, hl, hp, hq⟩
  show t_less_all (endsA AQ) ⟨[some (.d (.list (l.map ppD))), none, none], ⟨s, []⟩⟩
  unfold t_less_all
  walk_at "qs"
  rw [List.length_map]
  refine ⟨by omega, aLcL_all ppD (fun pr => ppD (tkP pr.1 (-1), pr.2)) (fun pr hpr K hK => ?_) ?_⟩
  · unfold stepC le_less_all_1
    rw [show ppD pr = .tuple [poD pr.1, poD pr.2] from rfl]
    generalize hd : poD pr.2 = dd at *
    walk_at "qs"
    refine ⟨pr.1, -1, rfl, hp pr hpr, ⟨by decide, by decide⟩, ?_⟩
    subst hd
    exact ⟨by simp, hK⟩
  · unfold psD lessL at hq
    rw [List.map_map] at hq
    exact hq
def N_four_letter : List Str := ["four", "letter", "places", "unit", "k", "pairs"]
def le_four_letter_1 : ATE := (aBin aAdd (aFn 1 fn_less_all (aCons (aVar 5) aNil)) (aLst (aCons (aTup (aCons (aVar 3) (aCons (aBin aIx (aVar 0) (aVar 4)) aNil))) aNil)))
def le_four_letter_2 : ATE := (aFn 1 fn_sum_of_products (aCons (aVar 5) aNil))
def rs_four_letter_3 : ATS := (aRet (aCall bTuple (aCons (aLc (aItL (aVar 2)) (aGName 5) aYes le_four_letter_2 [5]) aNil)))
def t_four_letter : ATS := (aSeq (aSet 2 (aIf (aTest (aBin aEq (aCall bAbs (aCons (aVar 1) aNil)) (aC (.int 1)))) (aFn 1 fn_four_by_one (aCons (aVar 0) aNil)) (aFn 1 fn_four_by_other (aCons (aVar 0) aNil))))
    (aSeq (aIfS (aTest (aBin aLt (aVar 1) (aC (.int 0)))) (aSeq (aSet 3 (aIf (aTest (aBin aEq (aVar 1) (aUn aNeg (aC (.int 1))))) (aC (.tuple [.tuple [.tuple [.int 1, .int 0, .int 0], .int 1]])) (aC (.tuple [.tuple [.tuple [.int 0, .int 1, .int 0], .int 1]]))))
    (aSet 2 (aLc (aEnum (aCons (aVar 2) aNil)) (aGTup 2 (aGCons (aGName 4) (aGCons (aGName 5) aGNil))) aYes le_four_letter_1 [4, 5]))) aNext)
    rs_four_letter_3))
def fL (f : P4) : List Po := [f.1, f.2.1, f.2.2.1, f.2.2.2]
def placesP (f : P4) (l : Int) : List (List (Po × Po)) :=
  if l < 0 then ((if l = -1 then byOne f else byOther f).zipWith (fun ps g => lessL ps ++ [(if l = -1 then pX else pY, g)]) (fL f)) else (if l = 1 then byOne f else byOther f)
def p4L : List Po → P4
  | [a, b, c, d] => (a, b, c, d)
  | _ => ([], [], [], [])
/-- a letter behind a word -/
def letP (f : P4) (l : Int) : P4 := p4L ((placesP f l).map sumP)
def Ltr (l : Int) : Prop := l = 1 ∨ l = -1 ∨ l = 2 ∨ l = -2
def P4Ok (f : P4) : Prop := f.1.length ≤ 4000 ∧ f.2.1.length ≤ 4000 ∧ f.2.2.1.length ≤ 4000 ∧ f.2.2.2.length ≤ 4000
def fn_four_letter : AFn := fun avs s Q => ∃ (f : P4) (l : Int), avs = [.d (p4D f), .d (.int l)] ∧ Ltr l ∧ P4Ok f ∧ P4Ok (letP f l) ∧ Q (.d (p4D (letP f l))) s
/-- a place that may be told -/
def PlOk (ps : List (Po × Po)) : Prop := (∀ pr ∈ ps, Sml pr.1) ∧ muchP ps ≤ 1000000 ∧ (sumP ps).length ≤ 4000
theorem fl_last (AQ : AV → Option Src → Prop) (s : Option Src) (x0 x1 : D) (x3 x4 : Option AV) (a b c d : List (Po × Po)) (ha : PlOk a) (hb : PlOk b) (hc : PlOk c) (hd : PlOk d) (hq : AQ (.d (p4D (sumP a, sumP b, sumP c, sumP d))) s) :
    rs_four_letter_3 (endsA AQ) ⟨[some (.d x0), some (.d x1), some (.d (plD [a, b, c, d])), x3, x4, none], ⟨s, []⟩⟩ := by
  have st : ∀ (ps : List (Po × Po)) (K : Option D → Mm → Prop), PlOk ps → K (some (poD (sumP ps))) ⟨s, []⟩ → stepC (aGName 5) aYes le_four_letter_2 [some (.d x0), some (.d x1), some (.d (plD [a, b, c, d])), x3, x4, none] (psD ps) ⟨s, []⟩ K := by
    intro ps K h hK
    unfold stepC le_four_letter_2
    walk_at "qs"
    exact ⟨ps, rfl, h.1, h.2.1, h.2.2, hK⟩
  unfold rs_four_letter_3
  rw [show plD [a, b, c, d] = .list [psD a, psD b, psD c, psD d] from rfl] at st ⊢
  walk_at "qs"
  refine aLcL_step (st a _ ha ?_)
  refine aLcL_step (st b _ hb ?_)
  refine aLcL_step (st c _ hc ?_)
  refine aLcL_step (st d _ hd ?_)
  unfold aLcL
  exact hq
theorem sml_unit {k : T3} {n : Int} (h : B64 n) : Sml [(k, n)] := fun t ht => by
  rw [List.mem_singleton.mp ht]
  exact h
theorem pl_ok1 {u g : Po} {l : Int} (hu : u.length ≤ 100) (hs : Sml u) (hg : g.length ≤ 4000) (h : (sumP [(u, g)]).length ≤ 4000) : PlOk [(u, g)] :=
  ⟨fun pr hpr => by rw [List.mem_singleton.mp hpr]; exact hs, by
    have : u.length * g.length ≤ 100 * 4000 := Nat.mul_le_mul hu hg
    simp only [muchP, List.map_cons, List.map_nil, List.sum_cons, List.sum_nil]; omega, h⟩
/-- units and polynomials -/
def UOk (pr : Po × Po) : Prop := pr.1.length ≤ 10 ∧ Sml pr.1 ∧ pr.2.length ≤ 4000
theorem much_le : ∀ {ps : List (Po × Po)}, (∀ pr ∈ ps, UOk pr) → muchP ps ≤ ps.length * 40000
  | [], _ => Nat.zero_le _
  | pr :: r, h => by
    have h1 := h pr List.mem_cons_self
    have h2 := much_le (fun q hq => h q (List.mem_cons_of_mem _ hq))
    have h3 : pr.1.length * pr.2.length ≤ 10 * 4000 := Nat.mul_le_mul h1.1 h1.2.2
    show pr.1.length * pr.2.length + muchP r ≤ (r.length + 1) * 40000
    omega
theorem pl_ok {ps : List (Po × Po)} (h : ∀ pr ∈ ps, UOk pr) (hl : ps.length ≤ 20) (hs : (sumP ps).length ≤ 4000) : PlOk ps :=
  ⟨fun pr hpr => (h pr hpr).2.1, by have := much_le h; omega, hs⟩
theorem b64_1 : B64 1 := ⟨by decide, by decide⟩
theorem b64_m1 : B64 (-1) := ⟨by decide, by decide⟩
theorem uok_1 {k : T3} {n : Int} {g : Po} (h : B64 n) (hg : g.length ≤ 4000) : UOk ([(k, n)], g) := ⟨by simp, sml_unit h, hg⟩
theorem uok_left {g : Po} (hg : g.length ≤ 4000) : UOk (pLeft, g) := ⟨by simp [pLeft], fun t ht => by
  rcases List.mem_cons.mp ht with rfl | ht
  · exact b64_1
  · rw [List.mem_singleton.mp ht]; exact b64_m1, hg⟩
theorem uok_less {pr : Po × Po} (h : UOk pr) (h1 : ∀ t ∈ pr.1, t.2 = 1 ∨ t.2 = -1) : UOk (tkP pr.1 (-1), pr.2) := by
  refine ⟨by unfold tkP; rw [if_neg (by decide), List.length_map]; exact h.1, fun t ht => ?_, h.2.2⟩
  unfold tkP at ht
  rw [if_neg (by decide)] at ht
  obtain ⟨u, hu, rfl⟩ := List.mem_map.mp ht
  rcases h1 u hu with e | e <;> simp only [e] <;> first | exact b64_m1 | exact b64_1
theorem by_ok {f : P4} (hf : P4Ok f) (l : Int) : ∀ ps ∈ placesP f l, (∀ pr ∈ ps, UOk pr) ∧ ps.length ≤ 20 := by
  obtain ⟨a, b, c, d⟩ := f
  obtain ⟨h1, h2, h3, h4⟩ := hf
  simp only [] at h1 h2 h3 h4
  have e1 : tkP pLO (-1) = [((0, 0, 0), 1)] := by decide
  have e2 : tkP pLeft (-1) = [((0, 0, 1), -1), ((1, 1, 0), 1)] := by decide
  have e3 : tkP pLY (-1) = [((0, 1, 0), 1)] := by decide
  have e4 : tkP pO (-1) = [((0, 0, 0), -1)] := by decide
  have e5 : tkP pX (-1) = [((1, 0, 0), -1)] := by decide
  have e6 : tkP pY (-1) = [((0, 1, 0), -1)] := by decide
  have e7 : tkP pZ (-1) = [((0, 0, 1), -1)] := by decide
  have ul : ∀ g : Po, g.length ≤ 4000 → UOk ([((0, 0, 1), -1), ((1, 1, 0), 1)], g) := fun g hg => ⟨by simp, fun t ht => by
    rcases List.mem_cons.mp ht with rfl | ht
    · exact b64_m1
    · rw [List.mem_singleton.mp ht]; exact b64_1, hg⟩
  intro ps hps
  unfold placesP at hps
  split at hps
  · split at hps <;> simp only [byOne, byOther, fL, lessL, List.zipWith, List.map_cons, List.map_nil, List.cons_append, List.nil_append, e1, e2, e3, e4, e5, e6, e7, List.mem_cons, List.not_mem_nil, or_false] at hps <;> rcases hps with rfl | rfl | rfl | rfl <;>
      (refine ⟨fun pr hpr => ?_, by simp⟩) <;> simp only [List.mem_cons, List.not_mem_nil, or_false] at hpr <;> (rcases hpr with rfl | rfl | rfl | rfl | rfl) <;> first | (exact ul _ (by assumption)) | (refine uok_1 ?_ (by assumption); first | exact b64_1 | exact b64_m1)
  · split at hps <;> simp only [byOne, byOther, List.mem_cons, List.not_mem_nil, or_false] at hps <;> rcases hps with rfl | rfl | rfl | rfl <;>
      (refine ⟨fun pr hpr => ?_, by simp⟩) <;> simp only [List.mem_cons, List.not_mem_nil, or_false] at hpr <;> (rcases hpr with rfl | rfl | rfl | rfl | rfl) <;> first | (exact uok_left (by assumption)) | (refine uok_1 ?_ (by assumption); first | exact b64_1 | exact b64_m1)
theorem h_four_letter : ∀ avs s AQ, fn_four_letter avs s AQ → t_four_letter (endsA AQ) ⟨startA N_four_letter avs, ⟨s, []⟩⟩ := by
  rintro _ s AQ ⟨f, l, rfl, hl, hf, hr, hq⟩
  show t_four_letter (endsA AQ) ⟨[some (.d (p4D f)), some (.d (.int l)), none, none, none, none], ⟨s, []⟩⟩
  have fin : ∀ (x3 x4 : Option AV) (a b c d : List (Po × Po)), placesP f l = [a, b, c, d] → rs_four_letter_3 (endsA AQ) ⟨[some (.d (p4D f)), some (.d (.int l)), some (.d (plD [a, b, c, d])), x3, x4, none], ⟨s, []⟩⟩ := by
    intro x3 x4 a b c d e
    have e2 : letP f l = (sumP a, sumP b, sumP c, sumP d) := by unfold letP; rw [e]; rfl
    rw [e2] at hr hq
    have ok := by_ok hf l
    rw [e] at ok
    simp only [List.mem_cons, List.not_mem_nil, or_false, forall_eq_or_imp, forall_eq] at ok
    obtain ⟨⟨a1, a2⟩, ⟨b1, b2⟩, ⟨c1, c2⟩, ⟨d1, d2⟩⟩ := ok
    exact fl_last AQ s _ _ x3 x4 a b c d (pl_ok a1 a2 hr.1) (pl_ok b1 b2 hr.2.1) (pl_ok c1 c2 hr.2.2.1) (pl_ok d1 d2 hr.2.2.2) hq
  unfold t_four_letter
  have ab : ∀ pr : Po × Po, UOk pr → pr.1.length ≤ 1000000 := fun pr h => by have := h.1; omega
  obtain ⟨f0, f1, f2, f3⟩ := f
  have st : ∀ (k : Int) (g u : Po) (ps : List (Po × Po)) (X : D) (K : Option D → Mm → Prop), atD [poD f0, poD f1, poD f2, poD f3] k = some (poD g) → ps.length ≤ 10 → (∀ pr ∈ ps, pr.1.length ≤ 1000000) → K (some (psD (lessL ps ++ [(u, g)]))) ⟨s, []⟩ →
      stepC (aGTup 2 (aGCons (aGName 4) (aGCons (aGName 5) aGNil))) aYes le_four_letter_1 [some (.d (p4D (f0, f1, f2, f3))), some (.d (.int l)), some (.d X), some (.d (poD u)), none, none] (.tuple [.int k, psD ps]) ⟨s, []⟩ K := by
    intro k g u ps X K hk hl hp hK
    unfold stepC le_four_letter_1
    rw [show p4D (f0, f1, f2, f3) = .tuple [poD f0, poD f1, poD f2, poD f3] from rfl]
    walk_at "qs"
    refine ⟨ps, rfl, by omega, hp, ?_⟩
    show (match atD [poD f0, poD f1, poD f2, poD f3] k with
      | some d => ((lessL ps).map ppD).length + [PyData.tuple [poD u, d]].length ≤ sizeLine ∧ K (some (PyData.list ((lessL ps).map ppD ++ [PyData.tuple [poD u, d]]))) { s := s, o := [] }
      | none => False)
    rw [hk]
    refine ⟨by rw [sizeLine_eq]; simp [lessL]; omega, ?_⟩
    have e : (lessL ps).map ppD ++ [PyData.tuple [poD u, poD g]] = (lessL ps ++ [(u, g)]).map ppD := by rw [List.map_append]; rfl
    rw [e]
    exact hK
  have uo : ∀ ps ∈ byOne (f0, f1, f2, f3) ++ byOther (f0, f1, f2, f3), ps.length ≤ 10 ∧ ∀ pr ∈ ps, pr.1.length ≤ 1000000 := by
    intro ps hps
    simp only [byOne, byOther, List.cons_append, List.nil_append, List.mem_cons, List.not_mem_nil, or_false] at hps
    rcases hps with rfl | rfl | rfl | rfl | rfl | rfl | rfl | rfl <;> (refine ⟨by simp, fun pr hpr => ?_⟩) <;> simp only [List.mem_cons, List.not_mem_nil, or_false] at hpr <;> (rcases hpr with rfl | rfl | rfl | rfl | rfl) <;> simp [pLO, pLeft, pLY, pO, pX, pY, pZ]
  have neg : ∀ (u : Po) (a b c d : List (Po × Po)), (∀ ps ∈ [a, b, c, d], ps ∈ byOne (f0, f1, f2, f3) ++ byOther (f0, f1, f2, f3)) → placesP (f0, f1, f2, f3) l = [lessL a ++ [(u, f0)], lessL b ++ [(u, f1)], lessL c ++ [(u, f2)], lessL d ++ [(u, f3)]] →
      aLcL (aGTup 2 (aGCons (aGName 4) (aGCons (aGName 5) aGNil))) aYes le_four_letter_1 [some (.d (p4D (f0, f1, f2, f3))), some (.d (.int l)), some (.d (plD [a, b, c, d])), some (.d (poD u)), none, none] (enumD [psD a, psD b, psD c, psD d]) [] ⟨s, []⟩ fun acc m' => rs_four_letter_3 (endsA AQ) ⟨[some (.d (p4D (f0, f1, f2, f3))), some (.d (.int l)), some (.d (.list acc)), some (.d (poD u)), none, none], m'⟩ := by
    intro u a b c d hm hp
    rw [show enumD [psD a, psD b, psD c, psD d] = [.tuple [.int 0, psD a], .tuple [.int 1, psD b], .tuple [.int 2, psD c], .tuple [.int 3, psD d]] from rfl]
    have ha := uo a (hm a (by simp))
    have hb := uo b (hm b (by simp))
    have hc := uo c (hm c (by simp))
    have hd := uo d (hm d (by simp))
    refine aLcL_step (st 0 f0 u a _ _ rfl ha.1 ha.2 ?_)
    refine aLcL_step (st 1 f1 u b _ _ rfl hb.1 hb.2 ?_)
    refine aLcL_step (st 2 f2 u c _ _ rfl hc.1 hc.2 ?_)
    refine aLcL_step (st 3 f3 u d _ _ rfl hd.1 hd.2 ?_)
    unfold aLcL
    exact fin _ _ _ _ _ _ hp
  rcases hl with rfl | rfl | rfl | rfl
  · walk_at "qs"
    exact ⟨_, rfl, fin _ _ _ _ _ _ rfl⟩
  · walk_at "qs"
    rw [if_pos (by decide)]
    refine ⟨_, rfl, ?_⟩
    refine (if_pos (show (-1 : Int) < 0 by decide)).mpr ?_
    exact ⟨(show 4 ≤ 1000000 by decide), neg pX _ _ _ _ (by intro ps h; exact List.mem_append_left _ h) rfl⟩
  · walk_at "qs"
    exact ⟨_, rfl, fin _ _ _ _ _ _ rfl⟩
  · walk_at "qs"
    rw [if_neg (by decide)]
    refine ⟨_, rfl, ?_⟩
    refine (if_pos (show (-2 : Int) < 0 by decide)).mpr ?_
    exact ⟨(show 4 ≤ 1000000 by decide), neg pY _ _ _ _ (by intro ps h; exact List.mem_append_right _ h) rfl⟩
def N_four_told : List Str := ["word", "found", "letter"]
def lb_four_told_1 : ATS := (aSet 1 (aFn 2 fn_four_letter (aCons (aVar 1) (aCons (aVar 2) aNil))))
def t_four_told : ATS := (aSeq (aSet 1 (aC (.tuple [.tuple [.tuple [.tuple [.int 0, .int 0, .int 0], .int 1]], .tuple [], .tuple [], .tuple []])))
    (aSeq (aFor [2] (aItT (aVar 0)) (aGName 2) lb_four_told_1)
    (aRet (aVar 1))))
def begP : P4 := (pO, [], [], [])
/-- the four polynomials of a word -/
def fourP (w : List Int) : P4 := w.foldl letP begP
def fn_four_told : AFn := fun avs s Q => ∃ w : List Int, avs = [.d (wD w)] ∧ (∀ l ∈ w, Ltr l) ∧ (∀ k, P4Ok (fourP (w.take k))) ∧ Q (.d (p4D (fourP w))) s
theorem ft_loop (E : AEnds) (w : List Int) (X : D) (s : Option Src) (hl : ∀ l ∈ w, Ltr l) (hk : ∀ k, P4Ok (fourP (w.take k))) (h : E.nx ⟨[some (.d X), some (.d (p4D (fourP w))), none], ⟨s, []⟩⟩) :
    ∀ (r : List Int) (k : Nat), w.drop k = r → aForL 0 [2] (aGName 2) lb_four_told_1 E (r.map .int) ⟨[some (.d X), some (.d (p4D (fourP (w.take k)))), none], ⟨s, []⟩⟩ := by
  intro r
  induction r with
  | nil =>
    intro k hr
    have : w.length ≤ k := List.drop_eq_nil_iff.mp hr
    rw [List.take_of_length_le this]
    exact h
  | cons l r ih =>
    intro k hr
    have hkl : k < w.length := by
      apply Classical.byContradiction
      intro c
      rw [List.drop_of_length_le (by omega)] at hr
      cases hr
    have e1 : w.drop k = w[k] :: w.drop (k + 1) := List.drop_eq_getElem_cons hkl
    rw [e1] at hr
    injection hr with hr1 hr2
    have e2 : fourP (w.take (k + 1)) = letP (fourP (w.take k)) l := by
      rw [List.take_succ_eq_append_getElem hkl, hr1]
      unfold fourP
      rw [List.foldl_append]
      rfl
    have nx := ih (k + 1) hr2
    have ok := hk (k + 1)
    rw [e2] at nx ok
    rw [List.map_cons]
    unfold aForL lb_four_told_1
    walk_at "qs"
    exact ⟨_, l, rfl, hl l (hr1 ▸ List.getElem_mem hkl), hk k, ok, nx⟩
theorem h_four_told : ∀ avs s AQ, fn_four_told avs s AQ → t_four_told (endsA AQ) ⟨startA N_four_told avs, ⟨s, []⟩⟩ := by
  rintro _ s AQ ⟨w, rfl, hl, hk, hq⟩
  show t_four_told (endsA AQ) ⟨[some (.d (.tuple (w.map .int))), none, none], ⟨s, []⟩⟩
  unfold t_four_told
  walk_at "qs"
  refine ft_loop _ w _ s hl hk ?_ w 0 rfl
  walk_at "qs"
  exact hq
def val4 (f : P4) (x y z : Int) : T4 := (valP f.1 x y z, valP f.2.1 x y z, valP f.2.2.1 x y z, valP f.2.2.2 x y z)
/-! ### values of sums of products -/
def lin (φ : T3 → Int) (p : Po) : Int := (p.map fun t => t.2 * φ t.1).sum
def Nd (l : Po) : Prop := (l.map (·.1)).Nodup
theorem lin_nil (φ : T3 → Int) : lin φ [] = 0 := rfl
theorem lin_cons (φ : T3 → Int) (t : Tm) (p : Po) : lin φ (t :: p) = t.2 * φ t.1 + lin φ p := by unfold lin; rw [List.map_cons, List.sum_cons]
theorem lin_app (φ : T3 → Int) (p q : Po) : lin φ (p ++ q) = lin φ p + lin φ q := by unfold lin; rw [List.map_append, List.sum_append_int]
theorem hasT_iff {l : Po} {k : T3} : hasT l k = true ↔ k ∈ l.map (·.1) := by
  refine ⟨fun h => ?_, hasT_mem⟩
  induction l with
  | nil => cases h
  | cons t r ih =>
    obtain ⟨t, n⟩ := t
    unfold hasT at h
    rw [List.map_cons]
    split at h
    · rename_i c; rw [← c]; exact List.mem_cons_self
    · exact List.mem_cons_of_mem _ (ih h)
def setT (l : Po) (k : T3) (n : Int) : Po := l.map fun t => if t.1 = k then (t.1, n) else t
theorem setT_keys (l : Po) (k : T3) (n : Int) : (setT l k n).map (·.1) = l.map (·.1) := by
  unfold setT
  rw [List.map_map]
  refine List.map_congr_left fun t _ => ?_
  show (if t.1 = k then (t.1, n) else t).1 = t.1
  split <;> rfl
theorem setT_no {l : Po} {k : T3} (n : Int) (h : ¬ k ∈ l.map (·.1)) : setT l k n = l := by
  unfold setT
  refine (List.map_congr_left fun t ht => ?_).trans (List.map_id l)
  show (if t.1 = k then (t.1, n) else t) = t
  rw [if_neg]
  intro e
  exact h (List.mem_map.mpr ⟨t, ht, e⟩)
theorem lin_set (φ : T3 → Int) (k : T3) (n : Int) : ∀ {l : Po}, Nd l → hasT l k = true → lin φ (setT l k n) = lin φ l + (n - getT l k) * φ k
  | [], _, h => by cases h
  | (t, m) :: r, hn, h => by
    have hn' : t ∉ r.map (·.1) ∧ (r.map (·.1)).Nodup := List.nodup_cons.mp hn
    have e1 : setT ((t, m) :: r) k n = (if t = k then (t, n) else (t, m)) :: setT r k n := rfl
    rw [e1, lin_cons, lin_cons]
    unfold hasT at h
    unfold getT
    by_cases c : t = k
    · subst c
      rw [setT_no n hn'.1]
      simp only [if_true]
      grind
    · simp only [c, if_false] at h ⊢
      rw [lin_set φ k n hn'.2 h]
      omega
theorem put_eq (l : Po) (k : T3) (n : Int) : putT l k n = if hasT l k then setT l k n else l ++ [(k, n)] := rfl
theorem lin_add (φ : T3 → Int) {l : Po} (k : T3) (n : Int) (h : Nd l) : lin φ (addT l k n) = lin φ l + n * φ k := by
  unfold addT
  rw [put_eq]
  cases e : hasT l k
  · rw [if_neg (by decide), lin_app, lin_cons, lin_nil, getT_no e]
    simp
  · rw [if_pos rfl, lin_set φ k _ h e]
    congr 2; omega
theorem nd_add {l : Po} (k : T3) (n : Int) (h : Nd l) : Nd (addT l k n) := by
  unfold addT
  rw [put_eq]
  cases e : hasT l k
  · rw [if_neg (by decide)]
    unfold Nd
    rw [List.map_append]
    refine List.nodup_append.mpr ⟨h, by simp, fun a ha b hb => ?_⟩
    have : b = k := by simpa using hb
    subst this
    intro e2
    subst e2
    rw [hasT_mem ha] at e
    cases e
  · rw [if_pos rfl]
    unfold Nd
    rw [setT_keys]
    exact h
/-- what the powers of a product are worth -/
def Mon (φ : T3 → Int) (q p : Po) : Prop := ∀ a ∈ q, ∀ b ∈ p, φ (shT a.1 b.1) = φ a.1 * φ b.1
theorem mulOne_ok (φ : T3 → Int) (t : Tm) : ∀ (p l : Po), Nd l → (∀ b ∈ p, φ (shT t.1 b.1) = φ t.1 * φ b.1) → Nd (mulOne l t p) ∧ lin φ (mulOne l t p) = lin φ l + t.2 * φ t.1 * lin φ p
  | [], l, h, _ => ⟨h, by show lin φ l = _; rw [lin_nil]; simp⟩
  | o :: r, l, h, hm => by
    have ⟨h1, h2⟩ := mulOne_ok φ t r (addT l (shT t.1 o.1) (t.2 * o.2)) (nd_add _ _ h) fun b hb => hm b (List.mem_cons_of_mem _ hb)
    refine ⟨h1, ?_⟩
    show lin φ (mulOne (addT l (shT t.1 o.1) (t.2 * o.2)) t r) = _
    rw [h2, lin_add φ _ _ h, lin_cons, hm o List.mem_cons_self]
    grind
theorem mulAll_ok (φ : T3 → Int) (p : Po) : ∀ (q l : Po), Nd l → Mon φ q p → Nd (mulAll l q p) ∧ lin φ (mulAll l q p) = lin φ l + lin φ q * lin φ p
  | [], l, h, _ => ⟨h, by show lin φ l = _; rw [lin_nil]; simp⟩
  | t :: r, l, h, hm => by
    have ⟨h1, h2⟩ := mulOne_ok φ t p l h fun b hb => hm t List.mem_cons_self b hb
    have ⟨h3, h4⟩ := mulAll_ok φ p r (mulOne l t p) h1 fun a ha => hm a (List.mem_cons_of_mem _ ha)
    refine ⟨h3, ?_⟩
    show lin φ (mulAll (mulOne l t p) r p) = _
    rw [h4, h2, lin_cons]
    grind
def linS (φ : T3 → Int) (ps : List (Po × Po)) : Int := (ps.map fun pr => lin φ pr.1 * lin φ pr.2).sum
theorem sumL_ok (φ : T3 → Int) : ∀ (ps : List (Po × Po)) (l : Po), Nd l → (∀ pr ∈ ps, Mon φ pr.1 pr.2) → Nd (sumL l ps) ∧ lin φ (sumL l ps) = lin φ l + linS φ ps
  | [], l, h, _ => ⟨h, by show lin φ l = _; unfold linS; simp⟩
  | pr :: r, l, h, hm => by
    have ⟨h1, h2⟩ := mulAll_ok φ pr.2 pr.1 l h (hm pr List.mem_cons_self)
    have ⟨h3, h4⟩ := sumL_ok φ r (mulAll l pr.1 pr.2) h1 fun a ha => hm a (List.mem_cons_of_mem _ ha)
    refine ⟨h3, ?_⟩
    show lin φ (sumL (mulAll l pr.1 pr.2) r) = _
    rw [h4, h2]
    unfold linS
    rw [List.map_cons, List.sum_cons]
    omega
theorem sum_filter0 {α : Type} (f : α → Int) (c : α → Bool) : ∀ l : List α, (∀ a ∈ l, c a = false → f a = 0) → ((l.filter c).map f).sum = (l.map f).sum
  | [], _ => rfl
  | a :: r, h => by
    have ih := sum_filter0 f c r fun b hb => h b (List.mem_cons_of_mem _ hb)
    rw [List.map_cons, List.sum_cons]
    cases e : c a
    · rw [List.filter_cons_of_neg (by rw [e]; decide), ih, h a List.mem_cons_self e]; omega
    · rw [List.filter_cons_of_pos e, List.map_cons, List.sum_cons, ih]
theorem sum_perm {l l' : List Int} (h : l.Perm l') : l.sum = l'.sum := by
  induction h with
  | nil => rfl
  | cons x _ ih => rw [List.sum_cons, List.sum_cons, ih]
  | swap x y l => simp only [List.sum_cons]; omega
  | trans _ _ h1 h2 => exact h1.trans h2
theorem getT_mem : ∀ {l : Po}, Nd l → ∀ t ∈ l, getT l t.1 = t.2
  | [], _, _, h => by cases h
  | (u, m) :: r, hn, t, ht => by
    have hn' : u ∉ r.map (·.1) ∧ (r.map (·.1)).Nodup := List.nodup_cons.mp hn
    unfold getT
    rcases List.mem_cons.mp ht with rfl | ht
    · simp
    · have : u ≠ t.1 := fun e => hn'.1 (List.mem_map.mpr ⟨t, ht, e.symm⟩)
      rw [if_neg this]
      exact getT_mem hn'.2 t ht
theorem lin_canon (φ : T3 → Int) {l : Po} (h : Nd l) : lin φ (canon l) = lin φ l := by
  unfold canon lin
  rw [List.map_map]
  show (List.map (fun k => getT l k * φ k) _).sum = _
  rw [sum_filter0 (fun k => getT l k * φ k) _ _ fun k _ hk => by
    have : getT l k = 0 := by simpa using hk
    rw [this]; simp]
  rw [sum_perm ((srtT_ok (l.map (·.1))).1.map _), List.map_map]
  congr 1
  refine List.map_congr_left fun t ht => ?_
  show getT l t.1 * φ t.1 = _
  rw [getT_mem h t ht]
theorem nd_nil : Nd [] := List.nodup_nil
theorem lin_sum (φ : T3 → Int) {ps : List (Po × Po)} (h : ∀ pr ∈ ps, Mon φ pr.1 pr.2) : lin φ (sumP ps) = linS φ ps := by
  have ⟨h1, h2⟩ := sumL_ok φ ps [] nd_nil h
  unfold sumP
  rw [lin_canon φ h1, h2, lin_nil]
  omega
/-- powers' worth at a triple -/
def mono (x y z : Int) (k : T3) : Int := x ^ k.1.toNat * (y ^ k.2.1.toNat * z ^ k.2.2.toNat)
theorem valP_lin (p : Po) (x y z : Int) : valP p x y z = lin (mono x y z) p := by
  unfold valP lin
  congr 1
  refine List.map_congr_left fun t _ => ?_
  unfold tmV mono
  rw [Int.mul_assoc, Int.mul_assoc]
def Ps (p : Po) : Prop := ∀ t ∈ p, 0 ≤ t.1.1 ∧ 0 ≤ t.1.2.1 ∧ 0 ≤ t.1.2.2
theorem mono_sh {a b : T3} (ha : 0 ≤ a.1 ∧ 0 ≤ a.2.1 ∧ 0 ≤ a.2.2) (hb : 0 ≤ b.1 ∧ 0 ≤ b.2.1 ∧ 0 ≤ b.2.2) (x y z : Int) : mono x y z (shT a b) = mono x y z a * mono x y z b := by
  have e1 : (b.1 + a.1).toNat = b.1.toNat + a.1.toNat := by omega
  have e2 : (b.2.1 + a.2.1).toNat = b.2.1.toNat + a.2.1.toNat := by omega
  have e3 : (b.2.2 + a.2.2).toNat = b.2.2.toNat + a.2.2.toNat := by omega
  unfold mono shT
  simp only [e1, e2, e3, Int.pow_add]
  grind
theorem val_sum {ps : List (Po × Po)} (h : ∀ pr ∈ ps, Ps pr.1 ∧ Ps pr.2) (x y z : Int) : valP (sumP ps) x y z = (ps.map fun pr => valP pr.1 x y z * valP pr.2 x y z).sum := by
  rw [valP_lin, lin_sum]
  · unfold linS
    congr 1
    refine List.map_congr_left fun pr _ => ?_
    rw [valP_lin, valP_lin]
  · exact fun pr hpr a ha b hb => mono_sh ((h pr hpr).1 a ha) ((h pr hpr).2 b hb) x y z
/-! .. powers of a sum of products -/
def AllK (P : T3 → Prop) (p : Po) : Prop := ∀ t ∈ p, P t.1
theorem all_add {P : T3 → Prop} {l : Po} {k : T3} (n : Int) (h : AllK P l) (hk : P k) : AllK P (addT l k n) := by
  unfold addT
  rw [put_eq]
  split
  · intro t ht
    obtain ⟨u, hu, rfl⟩ := List.mem_map.mp ht
    show P (if u.1 = k then (u.1, getT l k + n) else u).1
    split
    · exact h u hu
    · exact h u hu
  · intro t ht
    rcases List.mem_append.mp ht with ht | ht
    · exact h t ht
    · rw [List.mem_singleton.mp ht]; exact hk
theorem all_one {P : T3 → Prop} (t : Tm) : ∀ (p l : Po), AllK P l → (∀ o ∈ p, P (shT t.1 o.1)) → AllK P (mulOne l t p)
  | [], _, h, _ => h
  | o :: r, l, h, hs => all_one t r _ (all_add _ h (hs o List.mem_cons_self)) fun o' ho => hs o' (List.mem_cons_of_mem _ ho)
theorem all_all {P : T3 → Prop} (p : Po) : ∀ (q l : Po), AllK P l → (∀ t ∈ q, ∀ o ∈ p, P (shT t.1 o.1)) → AllK P (mulAll l q p)
  | [], _, h, _ => h
  | t :: r, l, h, hs => all_all p r _ (all_one t p l h (hs t List.mem_cons_self)) fun t' ht => hs t' (List.mem_cons_of_mem _ ht)
theorem all_sumL {P : T3 → Prop} : ∀ (ps : List (Po × Po)) (l : Po), AllK P l → (∀ pr ∈ ps, ∀ t ∈ pr.1, ∀ o ∈ pr.2, P (shT t.1 o.1)) → AllK P (sumL l ps)
  | [], _, h, _ => h
  | pr :: r, l, h, hs => all_sumL r _ (all_all pr.2 pr.1 l h (hs pr List.mem_cons_self)) fun q hq => hs q (List.mem_cons_of_mem _ hq)
theorem all_canon {P : T3 → Prop} {l : Po} (h : AllK P l) : AllK P (canon l) := by
  intro t ht
  unfold canon at ht
  obtain ⟨k, hk, rfl⟩ := List.mem_map.mp ht
  have := (srtT_ok _).1.mem_iff.mp (List.mem_filter.mp hk).1
  obtain ⟨u, hu, rfl⟩ := List.mem_map.mp this
  exact h u hu
theorem all_sum {P : T3 → Prop} {ps : List (Po × Po)} (h : ∀ pr ∈ ps, ∀ t ∈ pr.1, ∀ o ∈ pr.2, P (shT t.1 o.1)) : AllK P (sumP ps) := all_canon (all_sumL ps [] (fun _ h => nomatch h) h)
theorem canon_nd {l : Po} (h : Nd l) : Nd (canon l) := by
  unfold Nd canon
  rw [List.map_map]
  show (List.map (fun k => k) _).Nodup
  rw [List.map_id']
  exact (((srtT_ok _).1.nodup_iff).mpr h).filter _
/-! ### a word's four polynomials at a pair -/
def letV (v : T4) (l x y z : Int) : T4 :=
  if l = 1 then (-v.2.1 + (z - x * y) * v.2.2.1 - y * v.2.2.2, v.1 + x * v.2.1 + y * v.2.2.1 + z * v.2.2.2, x * v.2.2.1 + v.2.2.2, -v.2.2.1)
  else if l = 2 then (-v.2.2.1, -v.2.2.2, v.1 + y * v.2.2.1, v.2.1 + y * v.2.2.2)
  else if l = -1 then (x * v.1 - (-v.2.1 + (z - x * y) * v.2.2.1 - y * v.2.2.2), x * v.2.1 - (v.1 + x * v.2.1 + y * v.2.2.1 + z * v.2.2.2), x * v.2.2.1 - (x * v.2.2.1 + v.2.2.2), x * v.2.2.2 + v.2.2.1)
  else (y * v.1 + v.2.2.1, y * v.2.1 + v.2.2.2, y * v.2.2.1 - (v.1 + y * v.2.2.1), y * v.2.2.2 - (v.2.1 + y * v.2.2.2))
def P4s (f : P4) : Prop := Ps f.1 ∧ Ps f.2.1 ∧ Ps f.2.2.1 ∧ Ps f.2.2.2
theorem ps_sum {ps : List (Po × Po)} (h : ∀ pr ∈ ps, Ps pr.1 ∧ Ps pr.2) : Ps (sumP ps) :=
  all_sum (P := fun k => 0 ≤ k.1 ∧ 0 ≤ k.2.1 ∧ 0 ≤ k.2.2) fun pr hpr t ht o ho => by
    have h1 := (h pr hpr).1 t ht
    have h2 := (h pr hpr).2 o ho
    unfold shT
    simp only []
    omega
theorem ps_unit : Ps pO ∧ Ps pX ∧ Ps pY ∧ Ps pZ ∧ Ps pLO ∧ Ps pLY ∧ Ps pLeft := by
  unfold Ps; decide
theorem ps_tk {p : Po} {n : Int} (h : Ps p) : Ps (tkP p n) := by
  unfold tkP
  split
  · exact fun _ h => nomatch h
  · intro t ht
    obtain ⟨u, hu, rfl⟩ := List.mem_map.mp ht
    exact h u hu
theorem val_tk (p : Po) (n x y z : Int) : valP (tkP p n) x y z = n * valP p x y z := by
  unfold tkP
  split
  · rename_i h; subst h; show (0 : Int) = _; simp
  · rw [valP_lin, valP_lin]
    unfold lin
    rw [List.map_map]
    induction p with
    | nil => simp
    | cons t r ih =>
      rw [List.map_cons, List.map_cons, List.sum_cons, List.sum_cons, ih]
      show n * t.2 * _ + _ = _
      rw [Int.mul_add, Int.mul_assoc]
theorem val_units (x y z : Int) : valP pO x y z = 1 ∧ valP pX x y z = x ∧ valP pY x y z = y ∧ valP pZ x y z = z ∧ valP pLO x y z = -1 ∧ valP pLY x y z = -y ∧ valP pLeft x y z = z - x * y := by
  have p1 : ∀ n : Int, n ^ Int.toNat 1 = n := fun n => by show n ^ (0 + 1) = n; rw [Int.pow_succ, Int.pow_zero, Int.one_mul]
  have p0 : ∀ n : Int, n ^ Int.toNat 0 = 1 := fun n => Int.pow_zero n
  simp only [valP, pO, pX, pY, pZ, pLO, pLY, pLeft, List.map_cons, List.map_nil, List.sum_cons, List.sum_nil, tmV, p1, p0]
  refine ⟨?_, ?_, ?_, ?_, ?_, ?_, ?_⟩ <;> grind
theorem places_ps {f : P4} (hf : P4s f) (l : Int) : ∀ ps ∈ placesP f l, ∀ pr ∈ ps, Ps pr.1 ∧ Ps pr.2 := by
  obtain ⟨a, b, c, d⟩ := f
  obtain ⟨h1, h2, h3, h4⟩ := hf
  simp only [] at h1 h2 h3 h4
  obtain ⟨u1, u2, u3, u4, u5, u6, u7⟩ := ps_unit
  intro ps hps
  unfold placesP at hps
  split at hps
  · have hu : Ps (if l = -1 then pX else pY) := by split <;> assumption
    generalize (if l = -1 then pX else pY) = u at *
    split at hps <;> simp only [byOne, byOther, fL, lessL, List.zipWith, List.map_cons, List.map_nil, List.cons_append, List.nil_append, List.mem_cons, List.not_mem_nil, or_false] at hps <;> rcases hps with rfl | rfl | rfl | rfl <;>
      intro pr hpr <;> simp only [List.mem_cons, List.not_mem_nil, or_false] at hpr <;> (rcases hpr with rfl | rfl | rfl | rfl | rfl) <;> (refine ⟨?_, ?_⟩) <;> first | assumption | (simp only []; refine ps_tk ?_; assumption)
  · split at hps <;> simp only [byOne, byOther, List.mem_cons, List.not_mem_nil, or_false] at hps <;> rcases hps with rfl | rfl | rfl | rfl <;>
      intro pr hpr <;> simp only [List.mem_cons, List.not_mem_nil, or_false] at hpr <;> (rcases hpr with rfl | rfl | rfl | rfl | rfl) <;> (refine ⟨?_, ?_⟩) <;> assumption
theorem letP_ps {f : P4} (hf : P4s f) {l : Int} (hl : Ltr l) : P4s (letP f l) := by
  have h := places_ps hf l
  have e : ∃ a b c d, placesP f l = [a, b, c, d] := by rcases hl with rfl | rfl | rfl | rfl <;> exact ⟨_, _, _, _, rfl⟩
  obtain ⟨a, b, c, d, e⟩ := e
  unfold letP
  rw [e] at h ⊢
  exact ⟨ps_sum (h a (by simp)), ps_sum (h b (by simp)), ps_sum (h c (by simp)), ps_sum (h d (by simp))⟩
theorem letP_val {f : P4} (hf : P4s f) {l : Int} (hl : Ltr l) (x y z : Int) : val4 (letP f l) x y z = letV (val4 f x y z) l x y z := by
  have h := places_ps hf l
  obtain ⟨a, b, c, d⟩ := f
  obtain ⟨v1, v2, v3, v4, v5, v6, v7⟩ := val_units x y z
  have tk := fun p => val_tk p (-1) x y z
  rcases hl with rfl | rfl | rfl | rfl
  · have e : placesP (a, b, c, d) 1 = [[(pLO, b), (pLeft, c), (pLY, d)], [(pO, a), (pX, b), (pY, c), (pZ, d)], [(pX, c), (pO, d)], [(pLO, c)]] := rfl
    unfold letP
    rw [e] at h ⊢
    simp only [List.map_cons, List.map_nil, p4L, val4, letV, if_true]
    rw [val_sum (h _ (by simp)), val_sum (h _ (by simp)), val_sum (h _ (by simp)), val_sum (h _ (by simp))]
    simp only [List.map_cons, List.map_nil, List.sum_cons, List.sum_nil, v1, v2, v3, v4, v5, v6, v7]
    refine Prod.ext ?_ (Prod.ext ?_ (Prod.ext ?_ ?_)) <;> simp only [] <;> grind
  · have e : placesP (a, b, c, d) (-1) = [[(tkP pLO (-1), b), (tkP pLeft (-1), c), (tkP pLY (-1), d), (pX, a)], [(tkP pO (-1), a), (tkP pX (-1), b), (tkP pY (-1), c), (tkP pZ (-1), d), (pX, b)], [(tkP pX (-1), c), (tkP pO (-1), d), (pX, c)], [(tkP pLO (-1), c), (pX, d)]] := rfl
    unfold letP
    rw [e] at h ⊢
    simp only [List.map_cons, List.map_nil, p4L, val4, letV, show ¬ (-1 : Int) = 1 by decide, show ¬ (-1 : Int) = 2 by decide, if_false, if_true]
    rw [val_sum (h _ (by simp)), val_sum (h _ (by simp)), val_sum (h _ (by simp)), val_sum (h _ (by simp))]
    simp only [List.map_cons, List.map_nil, List.sum_cons, List.sum_nil, tk, v1, v2, v3, v4, v5, v6, v7]
    refine Prod.ext ?_ (Prod.ext ?_ (Prod.ext ?_ ?_)) <;> simp only [] <;> grind
  · have e : placesP (a, b, c, d) 2 = [[(pLO, c)], [(pLO, d)], [(pO, a), (pY, c)], [(pO, b), (pY, d)]] := rfl
    unfold letP
    rw [e] at h ⊢
    simp only [List.map_cons, List.map_nil, p4L, val4, letV, show ¬ (2 : Int) = 1 by decide, if_false, if_true]
    rw [val_sum (h _ (by simp)), val_sum (h _ (by simp)), val_sum (h _ (by simp)), val_sum (h _ (by simp))]
    simp only [List.map_cons, List.map_nil, List.sum_cons, List.sum_nil, v1, v2, v3, v4, v5, v6, v7]
    refine Prod.ext ?_ (Prod.ext ?_ (Prod.ext ?_ ?_)) <;> simp only [] <;> grind
  · have e : placesP (a, b, c, d) (-2) = [[(tkP pLO (-1), c), (pY, a)], [(tkP pLO (-1), d), (pY, b)], [(tkP pO (-1), a), (tkP pY (-1), c), (pY, c)], [(tkP pO (-1), b), (tkP pY (-1), d), (pY, d)]] := rfl
    unfold letP
    rw [e] at h ⊢
    simp only [List.map_cons, List.map_nil, p4L, val4, letV, show ¬ (-2 : Int) = 1 by decide, show ¬ (-2 : Int) = 2 by decide, show ¬ (-2 : Int) = -1 by decide, if_false]
    rw [val_sum (h _ (by simp)), val_sum (h _ (by simp)), val_sum (h _ (by simp)), val_sum (h _ (by simp))]
    simp only [List.map_cons, List.map_nil, List.sum_cons, List.sum_nil, tk, v1, v2, v3, v4, v5, v6, v7]
    refine Prod.ext ?_ (Prod.ext ?_ (Prod.ext ?_ ?_)) <;> simp only [] <;> grind
/-- one, the two tables and their product, so often each -/
def comb (v t u : T4) : T4 := (v.1 + v.2.1 * t.1 + v.2.2.1 * u.1 + v.2.2.2 * (mulT t u).1, v.2.1 * t.2.1 + v.2.2.1 * u.2.1 + v.2.2.2 * (mulT t u).2.1, v.2.1 * t.2.2.1 + v.2.2.1 * u.2.2.1 + v.2.2.2 * (mulT t u).2.2.1, v.1 + v.2.1 * t.2.2.2 + v.2.2.1 * u.2.2.2 + v.2.2.2 * (mulT t u).2.2.2)
def ltT (t u : T4) (l : Int) : T4 := if l > 0 then (if l = 1 then t else u) else invT (if l = -1 then t else u)
theorem comb_lt (v : T4) {t u : T4} (h1 : detT t = 1) (h2 : detT u = 1) {l : Int} (hl : Ltr l) : comb (letV v l (trM t u).1 (trM t u).2.1 (trM t u).2.2) t u = mulT (comb v t u) (ltT t u l) := by
  obtain ⟨p, q, r, s⟩ := t; obtain ⟨e, f, g, h⟩ := u; obtain ⟨a, b, c, d⟩ := v
  simp only [detT] at h1 h2
  rcases hl with rfl | rfl | rfl | rfl <;> simp only [letV, ltT, comb, trM, trT, mulT, invT, show ¬ (-1 : Int) = 1 by decide, show ¬ (-1 : Int) = 2 by decide, show ¬ (2 : Int) = 1 by decide, show ¬ (-2 : Int) = 1 by decide, show ¬ (-2 : Int) = 2 by decide, show ¬ (-2 : Int) = -1 by decide, show ¬ (-1 : Int) > 0 by decide, show ¬ (-2 : Int) > 0 by decide, show (1 : Int) > 0 by decide, show (2 : Int) > 0 by decide, if_false, if_true] <;> refine Prod.ext ?_ (Prod.ext ?_ (Prod.ext ?_ ?_)) <;> simp only [] <;> grind
/-- a word's table at a pair -/
def wrdT (t u : T4) (w : List Int) : T4 := w.foldl (fun m l => mulT m (ltT t u l)) (1, 0, 0, 1)
theorem beg_ps : P4s begP := ⟨ps_unit.1, (fun _ h => nomatch h), (fun _ h => nomatch h), (fun _ h => nomatch h)⟩
theorem four_ok {t u : T4} (h1 : detT t = 1) (h2 : detT u = 1) : ∀ (w : List Int) (f : P4), (∀ l ∈ w, Ltr l) → P4s f → P4s (w.foldl letP f) ∧ comb (val4 (w.foldl letP f) (trM t u).1 (trM t u).2.1 (trM t u).2.2) t u = w.foldl (fun m l => mulT m (ltT t u l)) (comb (val4 f (trM t u).1 (trM t u).2.1 (trM t u).2.2) t u)
  | [], f, _, hf => ⟨hf, rfl⟩
  | l :: r, f, hw, hf => by
    have hl := hw l List.mem_cons_self
    have ⟨a, b⟩ := four_ok h1 h2 r (letP f l) (fun m hm => hw m (List.mem_cons_of_mem _ hm)) (letP_ps hf hl)
    refine ⟨a, ?_⟩
    rw [List.foldl_cons, List.foldl_cons, b, letP_val hf hl, comb_lt _ h1 h2 hl]
/-- what the four polynomials tell -/
theorem four_tells {t u : T4} (h1 : detT t = 1) (h2 : detT u = 1) {w : List Int} (hw : ∀ l ∈ w, Ltr l) : P4s (fourP w) ∧ comb (val4 (fourP w) (trM t u).1 (trM t u).2.1 (trM t u).2.2) t u = wrdT t u w := by
  have ⟨a, b⟩ := four_ok h1 h2 w begP hw beg_ps
  refine ⟨a, b.trans ?_⟩
  have e : val4 begP (trM t u).1 (trM t u).2.1 (trM t u).2.2 = (1, 0, 0, 0) := by
    unfold val4 begP
    simp only [(val_units _ _ _).1]
    rfl
  rw [e]
  unfold wrdT comb
  simp
theorem ltT_eq (t u : T4) {l : Int} (h : Ltr l) : ltT t u l = ltS t u l := by
  rcases h with rfl | rfl | rfl | rfl <;> rfl
theorem wrd_eq (t u : T4) : ∀ {w : List Int}, (∀ l ∈ w, Ltr l) → ∀ m, w.foldl (fun m l => mulT m (ltT t u l)) m = w.foldl (fun m l => mulT m (ltS t u l)) m
  | [], _, _ => rfl
  | l :: r, h, m => by
    rw [List.foldl_cons, List.foldl_cons, ltT_eq t u (h l List.mem_cons_self)]
    exact wrd_eq t u (fun k hk => h k (List.mem_cons_of_mem _ hk)) _
theorem four_tells' {t u : T4} (h1 : detT t = 1) (h2 : detT u = 1) {w : List Int} (hw : ∀ l ∈ w, Ltr l) : P4s (fourP w) ∧ comb (val4 (fourP w) (trM t u).1 (trM t u).2.1 (trM t u).2.2) t u = wrdI t u w := by
  have ⟨a, b⟩ := four_tells h1 h2 hw
  exact ⟨a, b.trans (wrd_eq t u hw _)⟩
def N_trace_of_traces : List Str := ["four"]
def t_trace_of_traces : ATS := (aRet (aFn 1 fn_sum_of_products (aCons (aLst (aCons (aTup (aCons (aC (.tuple [.tuple [.tuple [.int 0, .int 0, .int 0], .int 2]])) (aCons (aBin aIx (aVar 0) (aC (.int 0))) aNil))) (aCons (aTup (aCons (aC (.tuple [.tuple [.tuple [.int 1, .int 0, .int 0], .int 1]])) (aCons (aBin aIx (aVar 0) (aC (.int 1))) aNil))) (aCons (aTup (aCons (aC (.tuple [.tuple [.tuple [.int 0, .int 1, .int 0], .int 1]])) (aCons (aBin aIx (aVar 0) (aC (.int 2))) aNil))) (aCons (aTup (aCons (aC (.tuple [.tuple [.tuple [.int 0, .int 0, .int 1], .int 1]])) (aCons (aBin aIx (aVar 0) (aC (.int 3))) aNil))) aNil))))) aNil)))
def pTwo : Po := [((0, 0, 0), 2)]
/-- the trace's polynomial -/
def trcP (f : P4) : Po := sumP [(pTwo, f.1), (pX, f.2.1), (pY, f.2.2.1), (pZ, f.2.2.2)]
def fn_trace_of_traces : AFn := fun avs s Q => ∃ f : P4, avs = [.d (p4D f)] ∧ P4Ok f ∧ (trcP f).length ≤ 4000 ∧ Q (.d (poD (trcP f))) s
theorem h_trace_of_traces : ∀ avs s AQ, fn_trace_of_traces avs s AQ → t_trace_of_traces (endsA AQ) ⟨startA N_trace_of_traces avs, ⟨s, []⟩⟩ := by
  rintro _ s AQ ⟨⟨a, b, c, d⟩, rfl, ⟨h1, h2, h3, h4⟩, hl, hq⟩
  show t_trace_of_traces (endsA AQ) ⟨[some (.d (.tuple [poD a, poD b, poD c, poD d]))], ⟨s, []⟩⟩
  unfold t_trace_of_traces
  have pl : PlOk [(pTwo, a), (pX, b), (pY, c), (pZ, d)] := pl_ok (fun pr hpr => by
    simp only [List.mem_cons, List.not_mem_nil, or_false] at hpr
    rcases hpr with rfl | rfl | rfl | rfl
    · exact uok_1 ⟨by decide, by decide⟩ h1
    · exact uok_1 b64_1 h2
    · exact uok_1 b64_1 h3
    · exact uok_1 b64_1 h4) (by simp) hl
  have e : PyData.list [.tuple [.tuple [.tuple [.tuple [.int 0, .int 0, .int 0], .int 2]], poD a], .tuple [.tuple [.tuple [.tuple [.int 1, .int 0, .int 0], .int 1]], poD b], .tuple [.tuple [.tuple [.tuple [.int 0, .int 1, .int 0], .int 1]], poD c], .tuple [.tuple [.tuple [.tuple [.int 0, .int 0, .int 1], .int 1]], poD d]] = psD [(pTwo, a), (pX, b), (pY, c), (pZ, d)] := rfl
  generalize poD a = da at *
  generalize poD b = db at *
  generalize poD c = dc at *
  generalize poD d = dd at *
  walk_at "qs"
  rw [e]
  exact ⟨_, rfl, pl.1, pl.2.1, hl, hq⟩
def N_trace_told : List Str := ["word"]
def t_trace_told : ATS := (aRet (aFn 1 fn_trace_of_traces (aCons (aFn 1 fn_four_told (aCons (aVar 0) aNil)) aNil)))
def fn_trace_told : AFn := fun avs s Q => ∃ w : List Int, avs = [.d (wD w)] ∧ (∀ l ∈ w, Ltr l) ∧ (∀ k, P4Ok (fourP (w.take k))) ∧ (trcP (fourP w)).length ≤ 4000 ∧ Q (.d (poD (trcP (fourP w)))) s
theorem h_trace_told : ∀ avs s AQ, fn_trace_told avs s AQ → t_trace_told (endsA AQ) ⟨startA N_trace_told avs, ⟨s, []⟩⟩ := by
  rintro _ s AQ ⟨w, rfl, hw, hk, hl, hq⟩
  show t_trace_told (endsA AQ) ⟨[some (.d (wD w))], ⟨s, []⟩⟩
  unfold t_trace_told
  walk_at "qs"
  refine ⟨w, rfl, hw, hk, ?_⟩
  have h := hk w.length
  rw [List.take_length] at h
  exact ⟨rfl, fourP w, rfl, h, hl, hq⟩
def N_table_times : List Str := ["one", "other", "a", "b", "c", "d", "e", "f", "g", "h"]
def t_table_times : ATS := (aSeq (aAsg (aVar 0) (aGTup 4 (aGCons (aGName 2) (aGCons (aGName 3) (aGCons (aGName 4) (aGCons (aGName 5) aGNil))))))
    (aSeq (aAsg (aVar 1) (aGTup 4 (aGCons (aGName 6) (aGCons (aGName 7) (aGCons (aGName 8) (aGCons (aGName 9) aGNil))))))
    (aRet (aTup (aCons (aBin aAdd (aBin aMul (aVar 2) (aVar 6)) (aBin aMul (aVar 3) (aVar 8))) (aCons (aBin aAdd (aBin aMul (aVar 2) (aVar 7)) (aBin aMul (aVar 3) (aVar 9))) (aCons (aBin aAdd (aBin aMul (aVar 4) (aVar 6)) (aBin aMul (aVar 5) (aVar 8))) (aCons (aBin aAdd (aBin aMul (aVar 4) (aVar 7)) (aBin aMul (aVar 5) (aVar 9))) aNil))))))))
def fn_table_times : AFn := fn_tt
theorem h_table_times : ∀ avs s AQ, fn_table_times avs s AQ → t_table_times (endsA AQ) ⟨startA N_table_times avs, ⟨s, []⟩⟩ := by
  rintro _ s AQ ⟨⟨p, q, r, v⟩, ⟨e, f, g, h⟩, rfl, ⟨h1, h2, h3, h4⟩, ⟨g1, g2, g3, g4⟩, hq⟩
  show t_table_times (endsA AQ) ⟨[some (.d (.tuple [.int p, .int q, .int r, .int v])), some (.d (.tuple [.int e, .int f, .int g, .int h])), none, none, none, none, none, none, none, none], ⟨s, []⟩⟩
  unfold t_table_times
  walk_at "qs"
  walk_at "mos"
  exact hq
def N_table_undone : List Str := ["one"]
def t_table_undone : ATS := (aRet (aTup (aCons (aBin aIx (aVar 0) (aC (.int 3))) (aCons (aUn aNeg (aBin aIx (aVar 0) (aC (.int 1)))) (aCons (aUn aNeg (aBin aIx (aVar 0) (aC (.int 2)))) (aCons (aBin aIx (aVar 0) (aC (.int 0))) aNil))))))
def fn_table_undone : AFn := fn_inv
theorem h_table_undone : ∀ avs s AQ, fn_table_undone avs s AQ → t_table_undone (endsA AQ) ⟨startA N_table_undone avs, ⟨s, []⟩⟩ := by
  rintro _ s AQ ⟨⟨p, q, r, v⟩, rfl, hq⟩
  show t_table_undone (endsA AQ) ⟨[some (.d (.tuple [.int p, .int q, .int r, .int v]))], ⟨s, []⟩⟩
  unfold t_table_undone
  walk_at "qs"
  exact hq
def N_trace_of_pairtables : List Str := ["one"]
def t_trace_of_pairtables : ATS := (aRet (aBin aAdd (aBin aIx (aVar 0) (aC (.int 0))) (aBin aIx (aVar 0) (aC (.int 3)))))
def fn_trace_of_pairtables : AFn := fun avs s Q => ∃ t : T4, avs = [.d (tbD t)] ∧ Q (.d (.int (trT t))) s
theorem h_trace_of_pairtables : ∀ avs s AQ, fn_trace_of_pairtables avs s AQ → t_trace_of_pairtables (endsA AQ) ⟨startA N_trace_of_pairtables avs, ⟨s, []⟩⟩ := by
  rintro _ s AQ ⟨⟨p, q, r, v⟩, rfl, hq⟩
  show t_trace_of_pairtables (endsA AQ) ⟨[some (.d (.tuple [.int p, .int q, .int r, .int v]))], ⟨s, []⟩⟩
  unfold t_trace_of_pairtables
  walk_at "qs"
  exact hq
def N_traced : List Str := ["pair"]
def t_traced : ATS := (aRet (aTup (aCons (aFn 1 fn_trace_of_pairtables (aCons (aBin aIx (aVar 0) (aC (.int 0))) aNil)) (aCons (aFn 1 fn_trace_of_pairtables (aCons (aBin aIx (aVar 0) (aC (.int 1))) aNil)) (aCons (aFn 1 fn_trace_of_pairtables (aCons (aFn 2 fn_table_times (aCons (aBin aIx (aVar 0) (aC (.int 0))) (aCons (aBin aIx (aVar 0) (aC (.int 1))) aNil))) aNil)) aNil)))))
def fn_traced : AFn := fun avs s Q => ∃ t u : T4, avs = [.d (.tuple [tbD t, tbD u])] ∧ Bt 1000 t ∧ Bt 1000 u ∧ Q (.d (triD (trM t u))) s
theorem h_traced : ∀ avs s AQ, fn_traced avs s AQ → t_traced (endsA AQ) ⟨startA N_traced avs, ⟨s, []⟩⟩ := by
  rintro _ s AQ ⟨t, u, rfl, h1, h2, hq⟩
  show t_traced (endsA AQ) ⟨[some (.d (.tuple [tbD t, tbD u]))], ⟨s, []⟩⟩
  unfold t_traced
  walk_at "qs"
  refine ⟨t, rfl, u, rfl, t, u, rfl, h1, h2, ?_⟩
  refine ⟨rfl, _, rfl, ?_⟩
  exact ⟨by simp, hq⟩
def N_letter_table : List Str := ["pair", "letter", "table"]
def t_letter_table : ATS := (aSeq (aSet 2 (aBin aIx (aVar 0) (aBin aSub (aCall bAbs (aCons (aVar 1) aNil)) (aC (.int 1)))))
    (aRet (aIf (aTest (aBin aGt (aVar 1) (aC (.int 0)))) (aVar 2) (aFn 1 fn_table_undone (aCons (aVar 2) aNil)))))
def fn_letter_table : AFn := fun avs s Q => ∃ (t u : T4) (l : Int), avs = [.d (.tuple [tbD t, tbD u]), .d (.int l)] ∧ LtrT l ∧ Q (.d (tbD (if l > 0 then ltI t u l else invT (ltI t u l)))) s
theorem h_letter_table : ∀ avs s AQ, fn_letter_table avs s AQ → t_letter_table (endsA AQ) ⟨startA N_letter_table avs, ⟨s, []⟩⟩ := by
  rintro _ s AQ ⟨t, u, l, rfl, hl, hq⟩
  show t_letter_table (endsA AQ) ⟨[some (.d (.tuple [tbD t, tbD u])), some (.d (.int l)), none], ⟨s, []⟩⟩
  unfold t_letter_table
  rcases hl with rfl | rfl | rfl | rfl
  · walk_at "qs"
    exact hq
  · walk_at "qs"
    exact ⟨_, rfl, hq⟩
  · walk_at "qs"
    exact hq
  · walk_at "qs"
    exact ⟨_, rfl, hq⟩
def N_not_long_pairtables : List Str := ["table", "number"]
def le_not_long_pairtables_1 : ATE := (aCall bLen (aCons (aCall bStr (aCons (aCall bAbs (aCons (aVar 1) aNil)) aNil)) aNil))
def t_not_long_pairtables : ATS := (aSeq (aIfS (aTest (aBin aGt (aCall bMaxL (aCons (aLc (aItT (aVar 0)) (aGName 1) aYes le_not_long_pairtables_1 [1]) aNil)) (aC (.int 300)))) aNever aNext)
    (aRet (aVar 0)))
def fn_not_long_pairtables : AFn := fun avs s Q => ∃ t : T4, avs = [.d (tbD t)] ∧ Bt 900 t ∧ Q (.d (tbD t)) s
theorem pow_900 : 2 ^ 900 < 10 ^ 299 := by decide +kernel
theorem len_300 {i : Int} (h : Bd 900 i) : (Str.ofString (toString (if i < 0 then -i else i))).length ≤ 300 := by
  rw [PySem.ofString_length]
  refine int_text_length_le10 (k := 299) (by decide) ?_
  unfold Bd at h
  have e : (if i < 0 then -i else i).natAbs = i.natAbs := by split <;> omega
  rw [e]
  exact Nat.lt_trans h pow_900
theorem h_not_long_pairtables : ∀ avs s AQ, fn_not_long_pairtables avs s AQ → t_not_long_pairtables (endsA AQ) ⟨startA N_not_long_pairtables avs, ⟨s, []⟩⟩ := by
  rintro _ s AQ ⟨⟨p, q, r, v⟩, rfl, ⟨h1, h2, h3, h4⟩, hq⟩
  show t_not_long_pairtables (endsA AQ) ⟨[some (.d (.tuple [.int p, .int q, .int r, .int v])), none], ⟨s, []⟩⟩
  have st : ∀ (i : Int) (K : Option D → Mm → Prop), Bd 900 i → (∀ n : Int, n ≤ 300 → K (some (.int n)) ⟨s, []⟩) → stepC (aGName 1) aYes le_not_long_pairtables_1 [some (.d (.tuple [.int p, .int q, .int r, .int v])), none] (.int i) ⟨s, []⟩ K := by
    intro i K hi hK
    unfold stepC le_not_long_pairtables_1
    walk_at "qs"
    have hl := len_300 hi
    have hb : (if i < 0 then -i else i).natAbs.log2 < 1920 := by
      have e : (if i < 0 then -i else i).natAbs = i.natAbs := by split <;> omega
      rw [e]
      exact hi.log_lt (by decide)
    exact ⟨hb, Nat.le_trans hl (by rw [sizeLine_eq]; decide), hK _ (by exact Int.ofNat_le.mpr hl)⟩
  unfold t_not_long_pairtables
  walk_at "qs"
  refine aLcL_step (st p _ h1 fun n1 g1 => ?_)
  refine aLcL_step (st q _ h2 fun n2 g2 => ?_)
  refine aLcL_step (st r _ h3 fun n3 g3 => ?_)
  refine aLcL_step (st v _ h4 fun n4 g4 => ?_)
  unfold aLcL
  walk_at "qs"
  rw [show intsD [PyData.int n1, .int n2, .int n3, .int n4] = some [n1, n2, n3, n4] from rfl]
  refine ⟨by simp, fun k hk _ => ?_⟩
  have : ¬ 300 < k := by
    simp only [List.mem_cons, List.not_mem_nil, or_false] at hk
    omega
  rw [if_neg this]
  exact hq
def N_word_table : List Str := ["pair", "word", "found", "letter"]
def lb_word_table_1 : ATS := (aSet 2 (aFn 1 fn_not_long_pairtables (aCons (aFn 2 fn_table_times (aCons (aVar 2) (aCons (aFn 2 fn_letter_table (aCons (aVar 0) (aCons (aVar 3) aNil))) aNil))) aNil)))
def t_word_table : ATS := (aSeq (aSet 2 (aC (.tuple [.int 1, .int 0, .int 0, .int 1])))
    (aSeq (aFor [3] (aItT (aVar 1)) (aGName 3) lb_word_table_1)
    (aRet (aVar 2))))
def fn_word_table : AFn := fun avs s Q => ∃ (t u : T4) (w : List Int) (b : Nat), avs = [.d (.tuple [tbD t, tbD u]), .d (wD w)] ∧ (∀ l ∈ w, LtrT l) ∧ Bt b t ∧ Bt b u ∧ 0 < b ∧ (b + 1) * (w.length + 1) ≤ 900 ∧ Q (.d (tbD (wrdI t u w))) s
theorem wt_loop (E : AEnds) (t u : T4) (X : D) (b n : Nat) (ht : Bt b t) (hu : Bt b u) (hn : n ≤ 900) (s : Option Src) : ∀ (w : List Int) (m : T4) (k : Nat), (∀ l ∈ w, LtrT l) → Bt k m → k + (b + 1) * w.length ≤ n → b ≤ n →
    E.nx ⟨[some (.d (.tuple [tbD t, tbD u])), some (.d X), some (.d (tbD (w.foldl (fun m l => mulT m (ltS t u l)) m))), none], ⟨s, []⟩⟩ →
    aForL 0 [3] (aGName 3) lb_word_table_1 E (w.map .int) ⟨[some (.d (.tuple [tbD t, tbD u])), some (.d X), some (.d (tbD m)), none], ⟨s, []⟩⟩ := by
  intro w
  induction w with
  | nil => intro m k _ _ _ _ h; exact h
  | cons l r ih =>
    intro m k hw hm hk hb h
    have hB : Bt (k + (b + 1)) (mulT m (ltS t u l)) := (hm.mul (bt_ltS ht hu l)).le (by omega)
    rw [List.length_cons, Nat.mul_succ] at hk
    have nx := ih (mulT m (ltS t u l)) (k + (b + 1)) (fun l hl => hw l (List.mem_cons_of_mem _ hl)) hB (by omega) hb h
    have hl := hw l List.mem_cons_self
    rw [List.map_cons]
    unfold aForL lb_word_table_1
    walk_at "qs"
    refine ⟨t, u, l, rfl, hl, ?_⟩
    refine ⟨rfl, m, ltS t u l, rfl, hm.le (by omega), (bt_ltS ht hu l).le (by omega), ?_⟩
    exact ⟨rfl, _, rfl, hB.le (by omega), nx⟩
theorem h_word_table : ∀ avs s AQ, fn_word_table avs s AQ → t_word_table (endsA AQ) ⟨startA N_word_table avs, ⟨s, []⟩⟩ := by
  rintro _ s AQ ⟨t, u, w, b, rfl, hw, ht, hu, h0, hb, hq⟩
  show t_word_table (endsA AQ) ⟨[some (.d (.tuple [tbD t, tbD u])), some (.d (.tuple (w.map .int))), none, none], ⟨s, []⟩⟩
  unfold t_word_table
  walk_at "qs"
  rw [Nat.mul_succ] at hb
  refine wt_loop _ t u _ b 900 ht hu (Nat.le_refl _) s w (1, 0, 0, 1) 1 hw bt_one (by omega) (by omega) ?_
  walk_at "qs"
  exact hq
/-! ### a polynomial is told by its values -/
theorem lin_ext {φ ψ : T3 → Int} : ∀ {p : Po}, (∀ t ∈ p, φ t.1 = ψ t.1) → lin φ p = lin ψ p
  | [], _ => rfl
  | t :: r, h => by rw [lin_cons, lin_cons, h t List.mem_cons_self, lin_ext fun u hu => h u (List.mem_cons_of_mem _ hu)]
theorem lin_perm (φ : T3 → Int) {p q : Po} (h : p.Perm q) : lin φ p = lin φ q := sum_perm (h.map _)
theorem lin_filter (φ : T3 → Int) : ∀ p : Po, lin φ (p.filter fun t => decide (t.2 ≠ 0)) = lin φ p
  | [] => rfl
  | t :: r => by
    by_cases c : t.2 = 0
    · rw [List.filter_cons_of_neg (by simpa using c), lin_cons, lin_filter φ r, c]; omega
    · rw [List.filter_cons_of_pos (by simpa using c), lin_cons, lin_cons, lin_filter φ r]
def addAll (a : Po) : Po → Po
  | [] => a
  | t :: r => addAll (addT a t.1 t.2) r
theorem addAll_ok (φ : T3 → Int) : ∀ (l a : Po), Nd a → Nd (addAll a l) ∧ lin φ (addAll a l) = lin φ a + lin φ l
  | [], a, h => ⟨h, by show lin φ a = _; rw [lin_nil]; omega⟩
  | t :: r, a, h => by
    obtain ⟨h1, h2⟩ := addAll_ok φ r _ (nd_add t.1 t.2 h)
    refine ⟨h1, ?_⟩
    show lin φ (addAll (addT a t.1 t.2) r) = _
    rw [h2, lin_add φ _ _ h, lin_cons]; omega
theorem addAll_ps {P : T3 → Prop} : ∀ (l a : Po), AllK P a → AllK P l → AllK P (addAll a l)
  | [], _, h, _ => h
  | t :: r, a, h, h2 => addAll_ps r _ (all_add _ h (h2 t List.mem_cons_self)) fun u hu => h2 u (List.mem_cons_of_mem _ hu)
/-- the sum of sizes of a polynomial's numbers -/
def nmP (p : Po) : Nat := (p.map fun t => t.2.natAbs).sum
theorem nmP_cons (t : Tm) (p : Po) : nmP (t :: p) = t.2.natAbs + nmP p := by unfold nmP; rw [List.map_cons, List.sum_cons]
theorem lin_bd {φ : T3 → Int} {B : Nat} : ∀ {p : Po}, (∀ t ∈ p, (φ t.1).natAbs ≤ B) → (lin φ p).natAbs ≤ nmP p * B
  | [], _ => Nat.zero_le _
  | t :: r, h => by
    have h1 := h t List.mem_cons_self
    have h2 := lin_bd (B := B) fun u hu => h u (List.mem_cons_of_mem _ hu)
    rw [lin_cons, nmP_cons, Nat.add_mul]
    have h3 := Int.natAbs_add_le (t.2 * φ t.1) (lin φ r)
    rw [Int.natAbs_mul] at h3
    have h4 : t.2.natAbs * (φ t.1).natAbs ≤ t.2.natAbs * B := Nat.mul_le_mul_left _ h1
    omega
/-- the one of greatest weight -/
theorem top_of (w : T3 → Nat) : ∀ p : Po, p ≠ [] → ∃ t r, p.Perm (t :: r) ∧ ∀ u ∈ r, w u.1 ≤ w t.1
  | [], h => absurd rfl h
  | [t], _ => ⟨t, [], .refl _, fun _ h => nomatch h⟩
  | t :: u :: r, _ => by
    obtain ⟨m, q, hp, hm⟩ := top_of w (u :: r) (by simp)
    by_cases c : w m.1 ≤ w t.1
    · exact ⟨t, u :: r, .refl _, fun v hv => by
        rcases List.mem_cons.mp (hp.mem_iff.mp hv) with rfl | hv
        · exact c
        · exact Nat.le_trans (hm v hv) c⟩
    · refine ⟨m, t :: q, (hp.cons t).trans (.swap m t q), fun v hv => ?_⟩
      rcases List.mem_cons.mp hv with rfl | hv
      · omega
      · exact hm v hv
def wgt (M : Nat) (k : T3) : Nat := k.1.toNat + M * (k.2.1.toNat + M * k.2.2.toNat)
theorem mono_wgt (N : Int) (M : Nat) (k : T3) : mono N (N ^ M) (N ^ (M * M)) k = N ^ wgt M k := by
  unfold mono wgt
  rw [← Int.pow_mul, ← Int.pow_mul, ← Int.pow_add, ← Int.pow_add, Nat.mul_add, Nat.mul_assoc]
theorem wgt_inj {M : Nat} {a b : T3} (ha : 0 ≤ a.1 ∧ 0 ≤ a.2.1 ∧ 0 ≤ a.2.2) (hb : 0 ≤ b.1 ∧ 0 ≤ b.2.1 ∧ 0 ≤ b.2.2) (la : a.1 < M ∧ a.2.1 < M) (lb : b.1 < M ∧ b.2.1 < M) (h : wgt M a = wgt M b) : a = b := by
  obtain ⟨a1, a2, a3⟩ := a; obtain ⟨b1, b2, b3⟩ := b
  unfold wgt at h
  simp only [] at ha hb la lb h
  have hM : 0 < M := by omega
  have key : ∀ {i j x y : Nat}, i < M → j < M → i + M * x = j + M * y → i = j ∧ x = y := by
    intro i j x y hi hj e
    have e1 : (i + M * x) % M = (j + M * y) % M := by rw [e]
    rw [Nat.add_mul_mod_self_left, Nat.add_mul_mod_self_left, Nat.mod_eq_of_lt hi, Nat.mod_eq_of_lt hj] at e1
    subst e1
    exact ⟨rfl, Nat.eq_of_mul_eq_mul_left hM (by omega)⟩
  obtain ⟨e1, h⟩ := key (by omega) (by omega) h
  obtain ⟨e2, e3⟩ := key (by omega) (by omega) h
  refine Prod.ext ?_ (Prod.ext ?_ ?_) <;> simp only [] <;> omega
/-- powers below a number -/
theorem pow_top : ∀ p : Po, ∃ M : Nat, ∀ t ∈ p, t.1.1 < M ∧ t.1.2.1 < M
  | [] => ⟨0, fun _ h => nomatch h⟩
  | t :: r => by
    obtain ⟨M, h⟩ := pow_top r
    refine ⟨M + t.1.1.toNat + t.1.2.1.toNat + 1, fun u hu => ?_⟩
    rcases List.mem_cons.mp hu with rfl | hu
    · omega
    · have := h u hu; omega
/-- a polynomial with a term isn't 0 at some triple -/
theorem val_ne {p : Po} (hn : Nd p) (hz : ∀ t ∈ p, t.2 ≠ 0) (hp : Ps p) (h : p ≠ []) : ∃ x y z, lin (mono x y z) p ≠ 0 := by
  obtain ⟨M, hM⟩ := pow_top p
  obtain ⟨t, r, pm, hr⟩ := top_of (wgt M) p h
  let N : Nat := nmP r + 2
  refine ⟨(N : Int), (N : Int) ^ M, (N : Int) ^ (M * M), fun e => ?_⟩
  rw [lin_perm _ pm, lin_cons, mono_wgt] at e
  have htp : t ∈ p := pm.mem_iff.mpr List.mem_cons_self
  have nd' : (t.1 :: r.map (·.1)).Nodup := (pm.map (fun t : Tm => t.1)).nodup_iff.mp hn
  have lt : ∀ u ∈ r, wgt M u.1 < wgt M t.1 := by
    intro u hu
    have hup : u ∈ p := pm.mem_iff.mpr (List.mem_cons_of_mem _ hu)
    refine Nat.lt_of_le_of_ne (hr u hu) fun q => ?_
    have := wgt_inj (hp u hup) (hp t htp) (hM u hup) (hM t htp) q
    exact (List.nodup_cons.mp nd').1 (List.mem_map.mpr ⟨u, hu, this⟩)
  have hN : 0 < N := by omega
  by_cases hr0 : r = []
  · subst hr0
    rw [lin_nil, Int.add_zero] at e
    rcases Int.mul_eq_zero.mp e with e | e
    · exact hz t htp e
    · have : (N : Int) ^ wgt M t.1 ≠ 0 := by
        rw [← Int.natCast_pow]
        have := Nat.pow_pos (n := wgt M t.1) hN
        omega
      exact this e
  · have hw : 0 < wgt M t.1 := by
      cases r with
      | nil => exact absurd rfl hr0
      | cons u r => exact Nat.lt_of_le_of_lt (Nat.zero_le _) (lt u List.mem_cons_self)
    obtain ⟨w, hw'⟩ : ∃ w, wgt M t.1 = w + 1 := ⟨wgt M t.1 - 1, by omega⟩
    have b := lin_bd (φ := mono (N : Int) ((N : Int) ^ M) ((N : Int) ^ (M * M))) (B := N ^ w) (p := r) fun u hu => by
      rw [mono_wgt, ← Int.natCast_pow, Int.natAbs_natCast]
      exact Nat.pow_le_pow_right hN (by have := lt u hu; omega)
    have e2 : (t.2 * (N : Int) ^ wgt M t.1).natAbs = (lin (mono (N : Int) ((N : Int) ^ M) ((N : Int) ^ (M * M))) r).natAbs := by omega
    rw [Int.natAbs_mul, ← Int.natCast_pow, Int.natAbs_natCast, hw', Nat.pow_succ] at e2
    have h1 : 1 ≤ t.2.natAbs := by have := hz t htp; omega
    have h2 : 1 * (N ^ w * N) ≤ t.2.natAbs * (N ^ w * N) := Nat.mul_le_mul_right _ h1
    have h3 : nmP r * N ^ w < N ^ w * N := by
      rw [Nat.mul_comm]
      exact Nat.mul_lt_mul_of_pos_left (by omega) (Nat.pow_pos hN)
    omega
theorem lin_zero {l : Po} (hp : Ps l) (h : ∀ x y z, lin (mono x y z) l = 0) (φ : T3 → Int) : lin φ l = 0 := by
  have e : ∀ φ : T3 → Int, lin φ ((addAll [] l).filter fun t => decide (t.2 ≠ 0)) = lin φ l := fun φ => by
    rw [lin_filter, (addAll_ok φ l [] nd_nil).2, lin_nil]; omega
  rw [← e]
  by_cases c : (addAll [] l).filter (fun t => decide (t.2 ≠ 0)) = []
  · rw [c]; rfl
  · obtain ⟨x, y, z, q⟩ := val_ne (p := (addAll [] l).filter fun t => decide (t.2 ≠ 0)) (((addAll_ok φ l [] nd_nil).1).sublist (List.filter_sublist.map _)) (fun t ht => by simpa using (List.mem_filter.mp ht).2)
      (fun t ht => addAll_ps (P := fun k => 0 ≤ k.1 ∧ 0 ≤ k.2.1 ∧ 0 ≤ k.2.2) l [] (fun _ h => nomatch h) hp t (List.mem_filter.mp ht).1) c
    exact absurd ((e _).trans (h x y z)) q
/-- a polynomial as it is told -/
structure Cn (p : Po) : Prop where
  so : p.Pairwise fun a b => lexT a.1 b.1 = true
  nz : ∀ t ∈ p, t.2 ≠ 0
  ps : Ps p
theorem lexT_irr (a : T3) : lexT a a = false := by
  cases h : lexT a a with
  | false => rfl
  | true => exact h.symm.trans ((swo_lexT id).asym a a h)
theorem Cn.nd {p : Po} (h : Cn p) : Nd p := by
  unfold Nd
  refine List.pairwise_map.mpr (h.so.imp fun {a b} q e => ?_)
  rw [e, lexT_irr] at q
  cases q
theorem lin_delta {p : Po} (h : Nd p) (k : T3) : lin (fun j => if j = k then 1 else 0) p = getT p k := by
  induction p with
  | nil => rfl
  | cons t r ih =>
    have h' : t.1 ∉ r.map (·.1) ∧ (r.map (·.1)).Nodup := List.nodup_cons.mp h
    rw [lin_cons, ih h'.2]
    obtain ⟨t, n⟩ := t
    rw [show getT ((t, n) :: r) k = if t = k then n else getT r k from rfl]
    by_cases c : t = k
    · subst c
      have : hasT r t = false := by
        cases q : hasT r t with
        | false => rfl
        | true => exact absurd (hasT_iff.mp q) h'.1
      rw [if_pos rfl, if_pos rfl, getT_no this]; omega
    · rw [if_neg c, if_neg c]; omega
theorem cn_mem {p : Po} (h : Cn p) (t : Tm) : t ∈ p ↔ t.2 ≠ 0 ∧ getT p t.1 = t.2 := by
  refine ⟨fun m => ⟨h.nz t m, getT_mem h.nd t m⟩, fun ⟨h1, h2⟩ => ?_⟩
  have hh : hasT p t.1 = true := by
    cases q : hasT p t.1 with
    | true => rfl
    | false => exact absurd (h2.symm.trans (getT_no q)) h1
  obtain ⟨u, hu, e⟩ := List.mem_map.mp (hasT_iff.mp hh)
  have := getT_mem h.nd u hu
  rw [e, h2] at this
  have : u = t := Prod.ext e this.symm
  exact this ▸ hu
theorem cn_eq {p q : Po} (hp : Cn p) (hq : Cn q) (h : ∀ t, t ∈ p ↔ t ∈ q) : p = q := by
  have ndp : p.Nodup := (List.pairwise_map.mp hp.nd).imp fun q e => q (congrArg _ e)
  have ndq : q.Nodup := (List.pairwise_map.mp hq.nd).imp fun q e => q (congrArg _ e)
  refine List.Perm.eq_of_pairwise (le := fun a b : Tm => lexT a.1 b.1 = true) (fun a b _ _ h1 h2 => ?_) hp.so hq.so ((List.perm_ext_iff_of_nodup ndp ndq).mpr h)
  have := (swo_lexT id).asym _ _ h1
  rw [show lexT (id b.1) (id a.1) = lexT b.1 a.1 from rfl, h2] at this
  cases this
/-- polynomials of one value at all triples are one -/
theorem po_ext {p q : Po} (hp : Cn p) (hq : Cn q) (h : ∀ x y z, valP p x y z = valP q x y z) : p = q := by
  have neg : ∀ (φ : T3 → Int) (l : Po), lin φ (l.map fun t => (t.1, -t.2)) = - lin φ l := by
    intro φ l
    induction l with
    | nil => rfl
    | cons t r ih =>
      rw [List.map_cons, lin_cons, ih, lin_cons]
      simp only []
      rw [Int.neg_mul]; omega
  have z : ∀ φ : T3 → Int, lin φ p = lin φ q := by
    intro φ
    have := lin_zero (l := p ++ q.map fun t => (t.1, -t.2)) (fun t ht => by
      rcases List.mem_append.mp ht with ht | ht
      · exact hp.ps t ht
      · obtain ⟨u, hu, rfl⟩ := List.mem_map.mp ht
        exact hq.ps u hu) (fun x y z => by
      rw [lin_app, neg, ← valP_lin, ← valP_lin, h]; omega) φ
    rw [lin_app, neg] at this
    omega
  refine cn_eq hp hq fun t => ?_
  rw [cn_mem hp, cn_mem hq, ← lin_delta hp.nd, ← lin_delta hq.nd, z]
/-- a sum of products is told in its form -/
theorem cn_canon {l : Po} (hn : Nd l) (hp : Ps l) : Cn (canon l) := by
  refine ⟨?_, fun t ht => ?_, all_canon (P := fun k => 0 ≤ k.1 ∧ 0 ≤ k.2.1 ∧ 0 ≤ k.2.2) hp⟩
  · unfold canon
    refine List.pairwise_map.mpr ?_
    have h1 := (srtT_ok (l.map (·.1))).2
    have h2 : (srtT (l.map fun t : Tm => t.1)).Nodup := ((srtT_ok (l.map fun t : Tm => t.1)).1.nodup_iff).mpr hn
    refine (List.Pairwise.filter _ (List.Pairwise.imp₂ (S := fun a b => a ≠ b) (T := fun a b : T3 => lexT a b = true) (fun a b q1 q2 => ?_) h1 h2))
    cases e : lexT a b with
    | true => rfl
    | false => exact absurd (lexT_eq e q1) q2
  · unfold canon at ht
    obtain ⟨k, hk, rfl⟩ := List.mem_map.mp ht
    simpa using (List.mem_filter.mp hk).2
theorem cn_sum {ps : List (Po × Po)} (h : ∀ pr ∈ ps, Ps pr.1 ∧ Ps pr.2) : Cn (sumP ps) := by
  unfold sumP
  have h2 : Nd (sumL [] ps) := (sumL_ok (fun _ => 0) ps [] nd_nil fun pr _ a _ b _ => rfl).1
  exact cn_canon h2 (all_sumL (P := fun k => 0 ≤ k.1 ∧ 0 ≤ k.2.1 ∧ 0 ≤ k.2.2) ps [] (fun _ h => nomatch h) fun pr hpr t ht o ho => by
    have h1 := (h pr hpr).1 t ht
    have h2 := (h pr hpr).2 o ho
    unfold shT
    simp only []
    omega)
/-! ### how many terms, how great numbers -/
theorem nodup_lt : ∀ (n : Nat) (l : List Nat), l.Nodup → (∀ a ∈ l, a < n) → l.length ≤ n
  | 0, [], _, _ => Nat.le_refl _
  | 0, a :: l, _, h => absurd (h a List.mem_cons_self) (by omega)
  | n + 1, l, hd, h => by
    have ih := nodup_lt n (l.erase n) (hd.erase n) fun a ha => by
      have := (hd.mem_erase_iff).mp ha
      have := h a this.2
      omega
    rw [List.length_erase] at ih
    split at ih <;> omega
/-- powers to a number -/
def Dg (d : Nat) (p : Po) : Prop := AllK (fun k => (0 ≤ k.1 ∧ k.1 ≤ d) ∧ (0 ≤ k.2.1 ∧ k.2.1 ≤ d) ∧ (0 ≤ k.2.2 ∧ k.2.2 ≤ d)) p
theorem Dg.ps {d : Nat} {p : Po} (h : Dg d p) : Ps p := fun t ht => by have := h t ht; omega
theorem Dg.le {d e : Nat} {p : Po} (h : Dg d p) (hd : d ≤ e) : Dg e p := fun t ht => by have := h t ht; simp only []; omega
theorem len_deg {p : Po} {d : Nat} (hn : Nd p) (h : Dg d p) : p.length ≤ (d + 1) * ((d + 1) * (d + 1)) := by
  have e : p.length = ((p.map (·.1)).map (wgt (d + 1))).length := by simp
  rw [e]
  refine nodup_lt _ _ ?_ fun a ha => ?_
  · unfold Nd at hn
    refine List.pairwise_map.mpr (List.Pairwise.imp_of_mem (R := fun a b => a ≠ b) (fun {a b} ha hb ne q => ne ?_) hn)
    obtain ⟨t, ht, rfl⟩ := List.mem_map.mp ha
    obtain ⟨u, hu, rfl⟩ := List.mem_map.mp hb
    have h1 := h t ht
    have h2 := h u hu
    exact wgt_inj (M := d + 1) (by omega) (by omega) (by omega) (by omega) q
  · obtain ⟨k, hk, rfl⟩ := List.mem_map.mp ha
    obtain ⟨t, ht, rfl⟩ := List.mem_map.mp hk
    have h1 := h t ht
    unfold wgt
    have a1 : t.1.1.toNat ≤ d := by omega
    have a2 : t.1.2.1.toNat ≤ d := by omega
    have a3 : t.1.2.2.toNat ≤ d := by omega
    have b1 : (d + 1) * t.1.2.2.toNat ≤ (d + 1) * d := Nat.mul_le_mul_left _ a3
    have b2 : (d + 1) * (t.1.2.1.toNat + (d + 1) * t.1.2.2.toNat) ≤ (d + 1) * (d + (d + 1) * d) := Nat.mul_le_mul_left _ (by omega)
    have b3 : (d + 1) * (d + (d + 1) * d) + (d + 1) = (d + 1) * ((d + 1) * (d + 1)) := by
      rw [← Nat.mul_succ]
      congr 1
      rw [Nat.mul_succ]
      omega
    omega
theorem nm_set (k : T3) (n : Int) : ∀ {l : Po}, Nd l → hasT l k = true → nmP (setT l k n) + (getT l k).natAbs = nmP l + n.natAbs
  | [], _, h => by cases h
  | (t, m) :: r, hn, h => by
    have hn' : t ∉ r.map (·.1) ∧ (r.map (·.1)).Nodup := List.nodup_cons.mp hn
    have e1 : setT ((t, m) :: r) k n = (if t = k then (t, n) else (t, m)) :: setT r k n := rfl
    rw [e1, nmP_cons, nmP_cons]
    unfold hasT at h
    unfold getT
    by_cases c : t = k
    · subst c
      rw [setT_no n hn'.1]
      simp only [if_true]
      omega
    · simp only [c, if_false] at h ⊢
      have := nm_set k n hn'.2 h
      omega
theorem nmP_app (p q : Po) : nmP (p ++ q) = nmP p + nmP q := by unfold nmP; rw [List.map_append, List.sum_append_nat]
theorem nm_add {l : Po} (k : T3) (n : Int) (h : Nd l) : nmP (addT l k n) ≤ nmP l + n.natAbs := by
  unfold addT
  rw [put_eq]
  cases e : hasT l k
  · rw [if_neg (by decide), nmP_app, getT_no e, nmP_cons]
    show nmP l + ((0 + n).natAbs + 0) ≤ _
    rw [Int.zero_add]; omega
  · rw [if_pos rfl]
    have := nm_set k (getT l k + n) h e
    have := Int.natAbs_add_le (getT l k) n
    omega
theorem nm_mulOne (t : Tm) : ∀ (p l : Po), Nd l → nmP (mulOne l t p) ≤ nmP l + t.2.natAbs * nmP p
  | [], l, _ => by show nmP l ≤ _; omega
  | o :: r, l, h => by
    have ih := nm_mulOne t r (addT l (shT t.1 o.1) (t.2 * o.2)) (nd_add _ _ h)
    have h2 := nm_add (shT t.1 o.1) (t.2 * o.2) h
    show nmP (mulOne (addT l (shT t.1 o.1) (t.2 * o.2)) t r) ≤ _
    rw [nmP_cons, Nat.mul_add]
    rw [Int.natAbs_mul] at h2
    omega
theorem nm_mulAll (p : Po) : ∀ (q l : Po), Nd l → nmP (mulAll l q p) ≤ nmP l + nmP q * nmP p
  | [], l, _ => by show nmP l ≤ _; omega
  | t :: r, l, h => by
    have hn := (mulOne_ok (fun _ => 0) t p l h fun _ _ => rfl).1
    have ih := nm_mulAll p r (mulOne l t p) hn
    have h2 := nm_mulOne t p l h
    show nmP (mulAll (mulOne l t p) r p) ≤ _
    rw [nmP_cons, Nat.add_mul]
    omega
def nmS (ps : List (Po × Po)) : Nat := (ps.map fun pr => nmP pr.1 * nmP pr.2).sum
theorem nm_sumL : ∀ (ps : List (Po × Po)) (l : Po), Nd l → nmP (sumL l ps) ≤ nmP l + nmS ps
  | [], l, _ => by show nmP l ≤ _; omega
  | pr :: r, l, h => by
    have hn := (mulAll_ok (fun _ => 0) pr.2 pr.1 l h fun _ _ _ _ => rfl).1
    have ih := nm_sumL r (mulAll l pr.1 pr.2) hn
    have h2 := nm_mulAll pr.2 pr.1 l h
    show nmP (sumL (mulAll l pr.1 pr.2) r) ≤ _
    unfold nmS at ih ⊢
    rw [List.map_cons, List.sum_cons]
    omega
theorem sum_filter_le {α : Type} (f : α → Nat) (c : α → Bool) : ∀ l : List α, ((l.filter c).map f).sum ≤ (l.map f).sum
  | [] => Nat.le_refl _
  | a :: r => by
    have ih := sum_filter_le f c r
    rw [List.map_cons, List.sum_cons]
    cases e : c a
    · rw [List.filter_cons_of_neg (by rw [e]; decide)]; omega
    · rw [List.filter_cons_of_pos e, List.map_cons, List.sum_cons]; omega
theorem sum_permN {l l' : List Nat} (h : l.Perm l') : l.sum = l'.sum := by
  induction h with
  | nil => rfl
  | cons x _ ih => rw [List.sum_cons, List.sum_cons, ih]
  | swap x y l => simp only [List.sum_cons]; omega
  | trans _ _ h1 h2 => exact h1.trans h2
theorem nm_canon {l : Po} (h : Nd l) : nmP (canon l) ≤ nmP l := by
  unfold canon nmP
  rw [List.map_map]
  refine Nat.le_trans (sum_filter_le (fun k => (getT l k).natAbs) _ _) ?_
  rw [sum_permN ((srtT_ok (l.map (·.1))).1.map _), List.map_map]
  refine Nat.le_of_eq (congrArg _ (List.map_congr_left fun t ht => ?_))
  show (getT l t.1).natAbs = _
  rw [getT_mem h t ht]
theorem nm_sum (ps : List (Po × Po)) : nmP (sumP ps) ≤ nmS ps := by
  have h2 : Nd (sumL [] ps) := (sumL_ok (fun _ => 0) ps [] nd_nil fun pr _ a _ b _ => rfl).1
  have := nm_canon h2
  have := nm_sumL ps [] nd_nil
  have e : nmP [] = 0 := rfl
  unfold sumP
  omega
theorem dg_sum {d e : Nat} {ps : List (Po × Po)} (h : ∀ pr ∈ ps, Dg d pr.1 ∧ Dg e pr.2) : Dg (d + e) (sumP ps) :=
  all_sum fun pr hpr t ht o ho => by
    have h1 := (h pr hpr).1 t ht
    have h2 := (h pr hpr).2 o ho
    simp only [] at h1 h2
    unfold shT
    simp only []
    omega
theorem nm_mem {p : Po} {t : Tm} (h : t ∈ p) : t.2.natAbs ≤ nmP p := by
  induction p with
  | nil => cases h
  | cons u r ih =>
    rw [nmP_cons]
    rcases List.mem_cons.mp h with rfl | h
    · omega
    · have := ih h; omega
/-- a polynomial in its form, of powers to d, numbers to n in all -/
structure Pg (d n : Nat) (p : Po) : Prop where
  cn : Cn p
  dg : Dg d p
  nm : nmP p ≤ n
theorem Pg.le {d n e m : Nat} {p : Po} (h : Pg d n p) (hd : d ≤ e) (hn : n ≤ m) : Pg e m p := ⟨h.cn, h.dg.le hd, Nat.le_trans h.nm hn⟩
theorem Pg.len {d n : Nat} {p : Po} (h : Pg d n p) : p.length ≤ (d + 1) * ((d + 1) * (d + 1)) := len_deg h.cn.nd h.dg
theorem Pg.ok {d n : Nat} {p : Po} (h : Pg d n p) (hn : n < 18446744073709551616) : PoOk d p := fun t ht => by
  have h1 := h.dg t ht
  have h2 := nm_mem ht
  have h3 := h.nm
  refine ⟨h1.1, h1.2.1, h1.2.2, ?_, ?_⟩ <;> omega
theorem Pg.sml {d n : Nat} {p : Po} (h : Pg d n p) (hn : n < 18446744073709551616) : Sml p := fun t ht => (h.ok hn t ht).2.2.2
theorem Pg.of_sum {d e n : Nat} {ps : List (Po × Po)} (h : ∀ pr ∈ ps, Dg d pr.1 ∧ Dg e pr.2) (hn : nmS ps ≤ n) : Pg (d + e) n (sumP ps) :=
  ⟨cn_sum fun pr hpr => ⟨(h pr hpr).1.ps, (h pr hpr).2.ps⟩, dg_sum h, Nat.le_trans (nm_sum ps) hn⟩
/-! ### a word's four polynomials: how many terms, how great -/
structure Pg4 (d n : Nat) (f : P4) : Prop where
  a : Pg d n f.1
  b : Pg d n f.2.1
  c : Pg d n f.2.2.1
  e : Pg d n f.2.2.2
theorem Pg4.ps {d n : Nat} {f : P4} (h : Pg4 d n f) : P4s f := ⟨h.a.dg.ps, h.b.dg.ps, h.c.dg.ps, h.e.dg.ps⟩
theorem Pg4.po {d n : Nat} {f : P4} (h : Pg4 d n f) (hn : n < 18446744073709551616) : ∀ p ∈ fL f, PoOk d p := by
  intro p hp
  simp only [fL, List.mem_cons, List.not_mem_nil, or_false] at hp
  rcases hp with rfl | rfl | rfl | rfl
  · exact h.a.ok hn
  · exact h.b.ok hn
  · exact h.c.ok hn
  · exact h.e.ok hn
theorem Pg4.ok {d n : Nat} {f : P4} (h : Pg4 d n f) (hd : (d + 1) * ((d + 1) * (d + 1)) ≤ 4000) : P4Ok f :=
  ⟨Nat.le_trans h.a.len hd, Nat.le_trans h.b.len hd, Nat.le_trans h.c.len hd, Nat.le_trans h.e.len hd⟩
theorem Pg4.le {d n e m : Nat} {f : P4} (h : Pg4 d n f) (hd : d ≤ e) (hn : n ≤ m) : Pg4 e m f := ⟨h.a.le hd hn, h.b.le hd hn, h.c.le hd hn, h.e.le hd hn⟩
instance {d : Nat} {p : Po} : Decidable (Dg d p) := by unfold Dg AllK; infer_instance
theorem units_dg : (Dg 1 pO ∧ Dg 1 pX ∧ Dg 1 pY ∧ Dg 1 pZ ∧ Dg 1 pLO ∧ Dg 1 pLY ∧ Dg 1 pLeft) ∧ (Dg 1 (tkP pO (-1)) ∧ Dg 1 (tkP pX (-1)) ∧ Dg 1 (tkP pY (-1)) ∧ Dg 1 (tkP pZ (-1)) ∧ Dg 1 (tkP pLO (-1)) ∧ Dg 1 (tkP pLY (-1)) ∧ Dg 1 (tkP pLeft (-1))) := by decide
theorem units_nm : (nmP pO = 1 ∧ nmP pX = 1 ∧ nmP pY = 1 ∧ nmP pZ = 1 ∧ nmP pLO = 1 ∧ nmP pLY = 1 ∧ nmP pLeft = 2) ∧ (nmP (tkP pO (-1)) = 1 ∧ nmP (tkP pX (-1)) = 1 ∧ nmP (tkP pY (-1)) = 1 ∧ nmP (tkP pZ (-1)) = 1 ∧ nmP (tkP pLO (-1)) = 1 ∧ nmP (tkP pLY (-1)) = 1 ∧ nmP (tkP pLeft (-1)) = 2) := by decide
theorem letP_pg {d n : Nat} {f : P4} (h : Pg4 d n f) {l : Int} (hl : Ltr l) : Pg4 (1 + d) (5 * n) (letP f l) := by
  obtain ⟨a, b, c, e⟩ := f
  obtain ⟨h1, h2, h3, h4⟩ := h
  obtain ⟨⟨u1, u2, u3, u4, u5, u6, u7⟩, v1, v2, v3, v4, v5, v6, v7⟩ := units_dg
  obtain ⟨⟨n1, n2, n3, n4, n5, n6, n7⟩, m1, m2, m3, m4, m5, m6, m7⟩ := units_nm
  simp only [] at h1 h2 h3 h4
  have k1 := h1.nm
  have k2 := h2.nm
  have k3 := h3.nm
  have k4 := h4.nm
  have g1 := h1.dg
  have g2 := h2.dg
  have g3 := h3.dg
  have g4 := h4.dg
  have mk : ∀ ps : List (Po × Po), (∀ pr ∈ ps, Dg 1 pr.1 ∧ Dg d pr.2) → nmS ps ≤ 5 * n → Pg (1 + d) (5 * n) (sumP ps) := fun ps => Pg.of_sum
  rcases hl with rfl | rfl | rfl | rfl
  · have e : placesP (a, b, c, e) 1 = [[(pLO, b), (pLeft, c), (pLY, e)], [(pO, a), (pX, b), (pY, c), (pZ, e)], [(pX, c), (pO, e)], [(pLO, c)]] := rfl
    unfold letP
    rw [e]
    refine ⟨mk _ ?_ ?_, mk _ ?_ ?_, mk _ ?_ ?_, mk _ ?_ ?_⟩ <;> first
      | (intro pr hpr; simp only [List.mem_cons, List.not_mem_nil, or_false] at hpr; rcases hpr with rfl | rfl | rfl | rfl <;> exact ⟨by assumption, by assumption⟩)
      | (simp only [nmS, List.map_cons, List.map_nil, List.sum_cons, List.sum_nil, n1, n2, n3, n4, n5, n6, n7]; omega)
  · have e : placesP (a, b, c, e) (-1) = [[(tkP pLO (-1), b), (tkP pLeft (-1), c), (tkP pLY (-1), e), (pX, a)], [(tkP pO (-1), a), (tkP pX (-1), b), (tkP pY (-1), c), (tkP pZ (-1), e), (pX, b)], [(tkP pX (-1), c), (tkP pO (-1), e), (pX, c)], [(tkP pLO (-1), c), (pX, e)]] := rfl
    unfold letP
    rw [e]
    refine ⟨mk _ ?_ ?_, mk _ ?_ ?_, mk _ ?_ ?_, mk _ ?_ ?_⟩ <;> first
      | (intro pr hpr; simp only [List.mem_cons, List.not_mem_nil, or_false] at hpr; rcases hpr with rfl | rfl | rfl | rfl | rfl <;> exact ⟨by assumption, by assumption⟩)
      | (simp only [nmS, List.map_cons, List.map_nil, List.sum_cons, List.sum_nil, n1, n2, n3, n4, n5, n6, n7, m1, m2, m3, m4, m5, m6, m7]; omega)
  · have e : placesP (a, b, c, e) 2 = [[(pLO, c)], [(pLO, e)], [(pO, a), (pY, c)], [(pO, b), (pY, e)]] := rfl
    unfold letP
    rw [e]
    refine ⟨mk _ ?_ ?_, mk _ ?_ ?_, mk _ ?_ ?_, mk _ ?_ ?_⟩ <;> first
      | (intro pr hpr; simp only [List.mem_cons, List.not_mem_nil, or_false] at hpr; rcases hpr with rfl | rfl | rfl | rfl <;> exact ⟨by assumption, by assumption⟩)
      | (simp only [nmS, List.map_cons, List.map_nil, List.sum_cons, List.sum_nil, n1, n2, n3, n4, n5, n6, n7]; omega)
  · have e : placesP (a, b, c, e) (-2) = [[(tkP pLO (-1), c), (pY, a)], [(tkP pLO (-1), e), (pY, b)], [(tkP pO (-1), a), (tkP pY (-1), c), (pY, c)], [(tkP pO (-1), b), (tkP pY (-1), e), (pY, e)]] := rfl
    unfold letP
    rw [e]
    refine ⟨mk _ ?_ ?_, mk _ ?_ ?_, mk _ ?_ ?_, mk _ ?_ ?_⟩ <;> first
      | (intro pr hpr; simp only [List.mem_cons, List.not_mem_nil, or_false] at hpr; rcases hpr with rfl | rfl | rfl | rfl | rfl <;> exact ⟨by assumption, by assumption⟩)
      | (simp only [nmS, List.map_cons, List.map_nil, List.sum_cons, List.sum_nil, n1, n2, n3, n4, n5, n6, n7, m1, m2, m3, m4, m5, m6, m7]; omega)
theorem foldP_pg {d n : Nat} : ∀ (w : List Int) (f : P4), (∀ l ∈ w, Ltr l) → Pg4 d n f → Pg4 (d + w.length) (5 ^ w.length * n) (w.foldl letP f)
  | [], f, _, h => h.le (Nat.le_refl _) (by simp)
  | l :: r, f, hw, h => by
    have ih := foldP_pg r (letP f l) (fun m hm => hw m (List.mem_cons_of_mem _ hm)) (letP_pg h (hw l List.mem_cons_self))
    rw [List.foldl_cons]
    refine ih.le (by rw [List.length_cons]; omega) (Nat.le_of_eq ?_)
    rw [List.length_cons, Nat.pow_succ, Nat.mul_assoc]
theorem beg_pg : Pg4 0 1 begP := by
  have c : ∀ p : Po, p = pO ∨ p = [] → Pg 0 1 p := by
    intro p hp
    rcases hp with rfl | rfl
    · exact ⟨⟨by decide, by decide, ps_unit.1⟩, by decide, by decide⟩
    · exact ⟨⟨.nil, (fun _ h => nomatch h), (fun _ h => nomatch h)⟩, (fun _ h => nomatch h), by decide⟩
  exact ⟨c _ (.inl rfl), c _ (.inr rfl), c _ (.inr rfl), c _ (.inr rfl)⟩
theorem fourP_pg {w : List Int} (hw : ∀ l ∈ w, Ltr l) : Pg4 w.length (5 ^ w.length) (fourP w) := by
  have := foldP_pg w begP hw beg_pg
  rw [Nat.zero_add, Nat.mul_one] at this
  exact this
theorem fourP_take {w : List Int} {m : Nat} (hw : ∀ l ∈ w, Ltr l) (hl : w.length ≤ m) (hm : m ≤ 14) : ∀ k, P4Ok (fourP (w.take k)) := by
  intro k
  have h := fourP_pg (w := w.take k) fun l hl => hw l (List.mem_of_mem_take hl)
  refine (h.le (e := 14) (by rw [List.length_take]; omega) (Nat.le_refl _)).ok (by decide)
theorem trcP_pg {d n : Nat} {f : P4} (h : Pg4 d n f) : Pg (1 + d) (5 * n) (trcP f) := by
  obtain ⟨⟨u1, u2, u3, u4, u5, u6, u7⟩, _⟩ := units_dg
  obtain ⟨⟨n1, n2, n3, n4, n5, n6, n7⟩, _⟩ := units_nm
  have t1 : Dg 1 pTwo := by decide
  have t2 : nmP pTwo = 2 := by decide
  have k1 := h.a.nm
  have k2 := h.b.nm
  have k3 := h.c.nm
  have k4 := h.e.nm
  unfold trcP
  refine Pg.of_sum (fun pr hpr => ?_) ?_
  · simp only [List.mem_cons, List.not_mem_nil, or_false] at hpr
    rcases hpr with rfl | rfl | rfl | rfl
    · exact ⟨t1, h.a.dg⟩
    · exact ⟨u2, h.b.dg⟩
    · exact ⟨u3, h.c.dg⟩
    · exact ⟨u4, h.e.dg⟩
  · simp only [nmS, List.map_cons, List.map_nil, List.sum_cons, List.sum_nil, n2, n3, n4, t2]
    omega
/-! ### the trace's polynomial, bounds of values -/
theorem ps_two : Ps pTwo := by unfold Ps; decide
theorem val_two (x y z : Int) : valP pTwo x y z = 2 := by
  have p0 : ∀ n : Int, n ^ Int.toNat 0 = 1 := fun n => Int.pow_zero n
  simp only [valP, pTwo, List.map_cons, List.map_nil, List.sum_cons, List.sum_nil, tmV, p0]
  rfl
theorem val_trc {f : P4} (hf : P4s f) (x y z : Int) : valP (trcP f) x y z = 2 * valP f.1 x y z + x * valP f.2.1 x y z + y * valP f.2.2.1 x y z + z * valP f.2.2.2 x y z := by
  obtain ⟨a, b, c, d⟩ := f
  obtain ⟨h1, h2, h3, h4⟩ := hf
  obtain ⟨v1, v2, v3, v4, v5, v6, v7⟩ := val_units x y z
  obtain ⟨u1, u2, u3, u4, u5, u6, u7⟩ := ps_unit
  unfold trcP
  rw [val_sum (fun pr hpr => by
    simp only [List.mem_cons, List.not_mem_nil, or_false] at hpr
    rcases hpr with rfl | rfl | rfl | rfl
    · exact ⟨ps_two, h1⟩
    · exact ⟨u2, h2⟩
    · exact ⟨u3, h3⟩
    · exact ⟨u4, h4⟩)]
  simp only [List.map_cons, List.map_nil, List.sum_cons, List.sum_nil, v2, v3, v4, val_two]
  omega
theorem tr_comb (v t u : T4) : trT (comb v t u) = 2 * v.1 + (trM t u).1 * v.2.1 + (trM t u).2.1 * v.2.2.1 + (trM t u).2.2 * v.2.2.2 := by
  simp only [comb, trM, trT]
  grind
/-- the trace's polynomial tells the trace -/
theorem trace_tells {t u : T4} (h1 : detT t = 1) (h2 : detT u = 1) {w : List Int} (hw : ∀ l ∈ w, Ltr l) : valP (trcP (fourP w)) (trM t u).1 (trM t u).2.1 (trM t u).2.2 = trT (wrdI t u w) := by
  have ⟨a, b⟩ := four_tells' h1 h2 hw
  rw [val_trc a, ← b, tr_comb]
  rfl
theorem val_bd {p : Po} {d e : Nat} {x y z : Int} (hp : PoOk d p) (he : 0 < e) (hx : Bd e x) (hy : Bd e y) (hz : Bd e z) (hl : p.length ≤ 4000) : Bd (3 * (e * (d + 1) + 1) + 80) (valP p x y z) := by
  have hpo : ∀ (n : Int) (k : Int), Bd e n → 0 ≤ k → k ≤ d → Bd (e * (d + 1) + 1) (n ^ k.toNat) := fun n k hn h0 hk => by
    have h := hn.pow he k.toNat
    have : e * k.toNat ≤ e * (d + 1) := Nat.mul_le_mul_left _ (by omega)
    exact h.le (by omega)
  have ht : ∀ t ∈ p, (tmV x y z t).natAbs ≤ 2 ^ (64 + 3 * (e * (d + 1) + 1)) := by
    intro t ht
    obtain ⟨h1, h2, h3, h4⟩ := hp t ht
    have e1 := hpo x _ hx h1.1 h1.2
    have e2 := hpo y _ hy h2.1 h2.2
    have e3 := hpo z _ hz h3.1 h3.2
    have := (((Bd.of64 h4.1 h4.2).mul e1).mul e2).mul e3
    have := this.le (show 64 + (e * (d + 1) + 1) + (e * (d + 1) + 1) + (e * (d + 1) + 1) ≤ 64 + 3 * (e * (d + 1) + 1) by omega)
    unfold Bd at this
    exact Nat.le_of_lt this
  have hs : ∀ q : Po, (∀ t ∈ q, (tmV x y z t).natAbs ≤ 2 ^ (64 + 3 * (e * (d + 1) + 1))) → (valP q x y z).natAbs ≤ q.length * 2 ^ (64 + 3 * (e * (d + 1) + 1)) := by
    intro q
    induction q with
    | nil => intro _; exact Nat.zero_le _
    | cons t r ih =>
      intro h
      have h1 := h t List.mem_cons_self
      have h2 := ih fun t ht => h t (List.mem_cons_of_mem _ ht)
      have e1 : valP (t :: r) x y z = tmV x y z t + valP r x y z := by unfold valP; rw [List.map_cons, List.sum_cons]
      rw [e1, List.length_cons, Nat.add_mul]
      have := Int.natAbs_add_le (tmV x y z t) (valP r x y z)
      omega
  have h := hs p ht
  unfold Bd
  have h7 : p.length * 2 ^ (64 + 3 * (e * (d + 1) + 1)) < 2 ^ 13 * 2 ^ (64 + 3 * (e * (d + 1) + 1)) := Nat.mul_lt_mul_of_pos_right (by omega) (Nat.two_pow_pos _)
  have h8 : 2 ^ 13 * 2 ^ (64 + 3 * (e * (d + 1) + 1)) ≤ 2 ^ (3 * (e * (d + 1) + 1) + 80) := by
    rw [← Nat.pow_add]
    exact Nat.pow_le_pow_right (by decide) (by omega)
  omega
theorem lay_ints : ∀ w : List Int, PyData.canLayAll0 (w.map .int) = true ∧ PyData.depthAll (w.map .int) = 0
  | [] => ⟨rfl, rfl⟩
  | a :: w => by
    obtain ⟨h1, h2⟩ := lay_ints w
    exact ⟨by simp [PyData.canLayAll0, PyData.canLay0, h1], by simp [PyData.depthAll, PyData.depth, h2]⟩
theorem shaped_ints (w : List Int) : SeqAt.shaped (.list (w.map .int)) = true ∧ SeqAt.shaped (.tuple (w.map .int)) = true := by
  obtain ⟨h1, h2⟩ := lay_ints w
  simp [SeqAt.shaped, PyData.canLay0, PyData.depth, h1, h2]
theorem eqv_nil (ds : List D) : PyData.eqv (.list ds) (.list []) = ds.isEmpty := by cases ds <;> simp [PyData.eqv, PyData.eqvAll]
theorem ltr_neg {l : Int} (h : Ltr l) : Ltr (-l) := by unfold Ltr at *; omega
def lowS (f : List Int) (l : Int) : List Int := match f.getLast? with
  | some k => if k = 0 - l then f.dropLast else f ++ [l]
  | none => f ++ [l]
/-- what is left when neighbours fall out -/
def lowW (w : List Int) : List Int := w.foldl lowS []
theorem lowS_nil (l : Int) : lowS [] l = [l] := rfl
theorem lowS_snoc (g : List Int) (k l : Int) : lowS (g ++ [k]) l = if k = 0 - l then g else g ++ [k] ++ [l] := by
  unfold lowS
  rw [List.getLast?_concat, List.dropLast_concat]
theorem lowS_len (f : List Int) (l : Int) : (lowS f l).length ≤ f.length + 1 := by
  rcases List.eq_nil_or_concat f with rfl | ⟨g, k, rfl⟩
  · simp [lowS_nil]
  · rw [List.concat_eq_append, lowS_snoc]
    split <;> simp <;> omega
theorem lowF_len : ∀ (w f : List Int), (w.foldl lowS f).length ≤ f.length + w.length
  | [], f => Nat.le_refl _
  | l :: r, f => by
    have := lowF_len r (lowS f l)
    have := lowS_len f l
    rw [List.foldl_cons, List.length_cons]; omega
theorem lowF_all {P : Int → Prop} : ∀ (w f : List Int), (∀ l ∈ f, P l) → (∀ l ∈ w, P l) → ∀ l ∈ w.foldl lowS f, P l
  | [], f, h, _ => h
  | l :: r, f, h, hw => by
    refine lowF_all r (lowS f l) ?_ fun k hk => hw k (List.mem_cons_of_mem _ hk)
    have hl := hw l List.mem_cons_self
    rcases List.eq_nil_or_concat f with rfl | ⟨g, k, rfl⟩
    · intro j hj
      rw [lowS_nil, List.mem_singleton] at hj
      rw [hj]; exact hl
    · rw [List.concat_eq_append] at h ⊢
      rw [lowS_snoc]
      intro j hj
      split at hj
      · exact h j (List.mem_append_left _ hj)
      · rcases List.mem_append.mp hj with hj | hj
        · exact h j hj
        · rw [List.mem_singleton.mp hj]; exact hl
theorem lowW_ltr {w : List Int} (h : ∀ l ∈ w, Ltr l) : ∀ l ∈ lowW w, Ltr l := lowF_all w [] (fun _ h => nomatch h) h
theorem lowW_len (w : List Int) : (lowW w).length ≤ w.length := by
  have := lowF_len w []
  simpa [lowW] using this
theorem cut_last (f : List Int) : cutD (f.map PyData.int) none (some (-1)) = f.dropLast.map PyData.int := by
  unfold cutD
  rw [HT.sIx_none, List.drop_zero, Nat.sub_zero, List.length_map, ← List.map_take, List.dropLast_eq_take]
  have : HT.sIx f.length f.length (some (-1)) = f.length - 1 := by
    show (if (-1 : Int) < 0 then ((-1 : Int) + (f.length : Int)).toNat else min (-1 : Int).toNat f.length) = _
    rw [if_pos (by decide)]; omega
  rw [this]
theorem letV_back (v : T4) (l x y z : Int) (h : Ltr l) : letV (letV v (-l) x y z) l x y z = v := by
  obtain ⟨a, b, c, d⟩ := v
  rcases h with rfl | rfl | rfl | rfl <;> (simp only [letV]; simp; try (refine ⟨?_, ?_, ?_, ?_⟩ <;> grind))
/-! ### runs of numbers -/
def runN (t : Int) : Nat → Int → Int → Int
  | 0, f, _ => f
  | n + 1, f, g => runN t n g (t * g - f)
/-- a place, both ways -/
def runZ (f g t n : Int) : Int := if n < 0 then runN t n.natAbs f (t * f - g) else runN t n.natAbs f g
theorem runN_rec (t : Int) : ∀ (n : Nat) (f g : Int), runN t (n + 2) f g = t * runN t (n + 1) f g - runN t n f g
  | 0, f, g => rfl
  | n + 1, f, g => by
    have := runN_rec t n g (t * g - f)
    show runN t (n + 2) g (t * g - f) = _
    rw [this]; rfl
theorem runN_uniq (t : Int) (u : Nat → Int) (h : ∀ n, u (n + 2) = t * u (n + 1) - u n) : ∀ n : Nat, runN t n (u 0) (u 1) = u n
  | 0 => rfl
  | n + 1 => by
    show runN t n (u 1) (t * u 1 - u 0) = _
    rw [← h 0]
    exact runN_uniq t (fun k => u (k + 1)) (fun k => h (k + 1)) n
theorem run_uniq (t : Int) (u : Int → Int) (h : ∀ n, u (n + 1) = t * u n - u (n - 1)) (n : Int) : runZ (u 0) (u 1) t n = u n := by
  unfold runZ
  split
  · rename_i c
    have e : t * u 0 - u 1 = u (-1) := by
      have := h 0
      rw [show (0 : Int) + 1 = 1 from rfl, show (0 : Int) - 1 = -1 from rfl] at this
      omega
    rw [e]
    have := runN_uniq t (fun k => u (-(k : Int))) (fun k => by
      have := h (-(k : Int) - 1)
      rw [show -(k : Int) - 1 + 1 = -(k : Int) by omega, show -(k : Int) - 1 - 1 = -((k + 2 : Nat) : Int) by omega, show -(k : Int) - 1 = -((k + 1 : Nat) : Int) by omega] at this
      show u (-((k + 2 : Nat) : Int)) = t * u (-((k + 1 : Nat) : Int)) - u (-(k : Int))
      omega) n.natAbs
    have e2 : -((n.natAbs : Nat) : Int) = n := by omega
    simp only [e2] at this
    exact this
  · rename_i c
    have := runN_uniq t (fun k => u (k : Int)) (fun k => by
      have := h ((k : Int) + 1)
      rw [show (k : Int) + 1 - 1 = (k : Int) by omega, show (k : Int) + 1 + 1 = ((k + 2 : Nat) : Int) by omega, show (k : Int) + 1 = ((k + 1 : Nat) : Int) by omega] at this
      exact this) n.natAbs
    have e2 : ((n.natAbs : Nat) : Int) = n := by omega
    simp only [e2] at this
    exact this
theorem runZ_rec (f g t n : Int) : runZ f g t (n + 1) = t * runZ f g t n - runZ f g t (n - 1) := by
  by_cases h0 : n < 0
  · obtain ⟨k, rfl⟩ : ∃ k : Nat, n = -((k : Int) + 1) := ⟨(-n - 1).toNat, by omega⟩
    have r := runN_rec t k f (t * f - g)
    have e1 : runZ f g t (-((k : Int) + 1) - 1) = runN t (k + 2) f (t * f - g) := by
      unfold runZ
      rw [if_pos (by omega)]; congr 1 <;> omega
    have e2 : runZ f g t (-((k : Int) + 1)) = runN t (k + 1) f (t * f - g) := by
      unfold runZ
      rw [if_pos (by omega)]; congr 1 <;> omega
    have e3 : runZ f g t (-((k : Int) + 1) + 1) = runN t k f (t * f - g) := by
      unfold runZ
      split
      · congr 1 <;> omega
      · have : k = 0 := by omega
        subst this; rfl
    rw [e1, e2, e3, r]; omega
  · by_cases h1 : n = 0
    · subst h1
      have e1 : runZ f g t (0 + 1) = g := rfl
      have e2 : runZ f g t 0 = f := rfl
      have e3 : runZ f g t (0 - 1) = t * f - g := rfl
      rw [e1, e2, e3]; omega
    · obtain ⟨k, rfl⟩ : ∃ k : Nat, n = (k : Int) + 1 := ⟨(n - 1).toNat, by omega⟩
      have r := runN_rec t k f g
      have e1 : runZ f g t ((k : Int) + 1 + 1) = runN t (k + 2) f g := by
        unfold runZ
        rw [if_neg (by omega)]; congr 1 <;> omega
      have e2 : runZ f g t ((k : Int) + 1) = runN t (k + 1) f g := by
        unfold runZ
        rw [if_neg (by omega)]; congr 1 <;> omega
      have e3 : runZ f g t ((k : Int) + 1 - 1) = runN t k f g := by
        unfold runZ
        rw [if_neg (by omega)]; congr 1 <;> omega
      rw [e1, e2, e3, r]
/-- the other way -/
theorem runZ_back (f g t n : Int) : runZ f (t * f - g) t n = runZ f g t (-n) := by
  have h := run_uniq t (fun k => runZ f g t (-k)) (fun k => by
    have := runZ_rec f g t (-k)
    rw [show -k + 1 = -(k - 1) by omega, show -k - 1 = -(k + 1) by omega] at this
    show runZ f g t (-(k + 1)) = t * runZ f g t (-k) - runZ f g t (-(k - 1))
    omega) n
  have e0 : runZ f g t (-0) = f := rfl
  have e1 : runZ f g t (-1) = t * f - g := rfl
  simp only [e0, e1] at h
  exact h
/-- how great -/
theorem runN_bd {a b : Nat} {t : Int} (ht : Bd b t) : ∀ (n : Nat) (f g : Int), Bd a f → Bd a g → Bd (a + n * (b + 1)) (runN t n f g) := by
  intro n
  induction n generalizing a with
  | zero => intro f g hf _; exact hf.le (by omega)
  | succ n ih =>
    intro f g hf hg
    have h := (ht.mul hg).sub' hf
    have := ih (a := a + b + 1) g (t * g - f) (hg.le (by omega)) (h.le (by omega))
    exact this.le (by rw [Nat.add_mul]; omega)
theorem runZ_bd {a b : Nat} {f g t n : Int} (hf : Bd a f) (hg : Bd a g) (ht : Bd b t) : Bd (a + (n.natAbs + 1) * (b + 1)) (runZ f g t n) := by
  unfold runZ
  split
  · exact (runN_bd (a := a + b + 1) ht n.natAbs f (t * f - g) (hf.le (by omega)) (((ht.mul hf).sub' hg).le (by omega))).le (by rw [Nat.add_mul]; omega)
  · exact (runN_bd ht n.natAbs f g hf hg).le (by rw [Nat.add_mul]; omega)
/-- rounds -/
def rndL (t f g : Int) : List Int := if t = 1 then [f, g, g - f, -f, -g, f - g] else if t = 0 then [f, g, -f, -g] else [f, g, -g - f]
def lenR (t : Int) : Int := if t = 1 then 6 else if t = 0 then 4 else 3
theorem rnd_1 (f g n : Int) : (rndL 1 f g)[(n % 6).toNat]? = some (runZ f g 1 n) := by
  have h := run_uniq 1 (fun k => if k % 6 = 0 then f else if k % 6 = 1 then g else if k % 6 = 2 then g - f else if k % 6 = 3 then -f else if k % 6 = 4 then -g else f - g) (fun k => by
    have hk : k % 6 = 0 ∨ k % 6 = 1 ∨ k % 6 = 2 ∨ k % 6 = 3 ∨ k % 6 = 4 ∨ k % 6 = 5 := by omega
    rcases hk with c | c | c | c | c | c
    · have e1 : (k + 1) % 6 = 1 := by omega
      have e2 : (k - 1) % 6 = 5 := by omega
      simp [c, e1, e2] <;> omega
    · have e1 : (k + 1) % 6 = 2 := by omega
      have e2 : (k - 1) % 6 = 0 := by omega
      simp [c, e1, e2]
    · have e1 : (k + 1) % 6 = 3 := by omega
      have e2 : (k - 1) % 6 = 1 := by omega
      simp [c, e1, e2] <;> omega
    · have e1 : (k + 1) % 6 = 4 := by omega
      have e2 : (k - 1) % 6 = 2 := by omega
      simp [c, e1, e2] <;> omega
    · have e1 : (k + 1) % 6 = 5 := by omega
      have e2 : (k - 1) % 6 = 3 := by omega
      simp [c, e1, e2] <;> omega
    · have e1 : (k + 1) % 6 = 0 := by omega
      have e2 : (k - 1) % 6 = 4 := by omega
      simp [c, e1, e2] <;> omega) n
  have h' : runZ f g 1 n = _ := h
  rw [h']
  have hk : n % 6 = 0 ∨ n % 6 = 1 ∨ n % 6 = 2 ∨ n % 6 = 3 ∨ n % 6 = 4 ∨ n % 6 = 5 := by omega
  rcases hk with c | c | c | c | c | c <;> simp [c, rndL]
theorem rnd_0 (f g n : Int) : (rndL 0 f g)[(n % 4).toNat]? = some (runZ f g 0 n) := by
  have h := run_uniq 0 (fun k => if k % 4 = 0 then f else if k % 4 = 1 then g else if k % 4 = 2 then -f else -g) (fun k => by
    have hk : k % 4 = 0 ∨ k % 4 = 1 ∨ k % 4 = 2 ∨ k % 4 = 3 := by omega
    rcases hk with c | c | c | c
    · have e1 : (k + 1) % 4 = 1 := by omega
      have e2 : (k - 1) % 4 = 3 := by omega
      simp [c, e1, e2]
    · have e1 : (k + 1) % 4 = 2 := by omega
      have e2 : (k - 1) % 4 = 0 := by omega
      simp [c, e1, e2]
    · have e1 : (k + 1) % 4 = 3 := by omega
      have e2 : (k - 1) % 4 = 1 := by omega
      simp [c, e1, e2]
    · have e1 : (k + 1) % 4 = 0 := by omega
      have e2 : (k - 1) % 4 = 2 := by omega
      simp [c, e1, e2]) n
  have h' : runZ f g 0 n = _ := h
  rw [h']
  have hk : n % 4 = 0 ∨ n % 4 = 1 ∨ n % 4 = 2 ∨ n % 4 = 3 := by omega
  rcases hk with c | c | c | c <;> simp [c, rndL]
theorem rnd_m1 (f g n : Int) : (rndL (-1) f g)[(n % 3).toNat]? = some (runZ f g (-1) n) := by
  have h := run_uniq (-1) (fun k => if k % 3 = 0 then f else if k % 3 = 1 then g else -g - f) (fun k => by
    have hk : k % 3 = 0 ∨ k % 3 = 1 ∨ k % 3 = 2 := by omega
    rcases hk with c | c | c
    · have e1 : (k + 1) % 3 = 1 := by omega
      have e2 : (k - 1) % 3 = 2 := by omega
      simp [c, e1, e2] <;> omega
    · have e1 : (k + 1) % 3 = 2 := by omega
      have e2 : (k - 1) % 3 = 0 := by omega
      simp [c, e1, e2]
    · have e1 : (k + 1) % 3 = 0 := by omega
      have e2 : (k - 1) % 3 = 1 := by omega
      simp [c, e1, e2] <;> omega) n
  have h' : runZ f g (-1) n = _ := h
  rw [h']
  have hk : n % 3 = 0 ∨ n % 3 = 1 ∨ n % 3 = 2 := by omega
  rcases hk with c | c | c <;> simp [c, rndL]
theorem rnd_at {t : Int} (h : t = 1 ∨ t = 0 ∨ t = -1) (f g n : Int) : (rndL t f g)[(n % lenR t).toNat]? = some (runZ f g t n) := by
  rcases h with rfl | rfl | rfl
  · exact rnd_1 f g n
  · exact rnd_0 f g n
  · exact rnd_m1 f g n
/-- lines -/
theorem line_2 (f g n : Int) : runZ f g 2 n = f + (g - f) * n := by
  have h := run_uniq 2 (fun k => f + (g - f) * k) (fun k => by
    show f + (g - f) * (k + 1) = 2 * (f + (g - f) * k) - (f + (g - f) * (k - 1))
    grind) n
  have e0 : f + (g - f) * 0 = f := by omega
  have e1 : f + (g - f) * 1 = g := by omega
  simp only [e0, e1] at h
  exact h
def sgnE (n : Int) : Int := if n % 2 = 0 then 1 else -1
theorem line_m2 (f g n : Int) : runZ f g (-2) n = sgnE n * (f + (g * (-1) - f) * n) := by
  have h := run_uniq (-2) (fun k => sgnE k * (f + (g * (-1) - f) * k)) (fun k => by
    show sgnE (k + 1) * (f + (g * (-1) - f) * (k + 1)) = -2 * (sgnE k * (f + (g * (-1) - f) * k)) - sgnE (k - 1) * (f + (g * (-1) - f) * (k - 1))
    have : (sgnE k = 1 ∧ sgnE (k + 1) = -1 ∧ sgnE (k - 1) = -1) ∨ (sgnE k = -1 ∧ sgnE (k + 1) = 1 ∧ sgnE (k - 1) = 1) := by
      unfold sgnE
      rcases (by omega : k % 2 = 0 ∨ k % 2 = 1) with c | c
      · have e1 : (k + 1) % 2 = 1 := by omega
        have e2 : (k - 1) % 2 = 1 := by omega
        simp [c, e1, e2]
      · have e1 : (k + 1) % 2 = 0 := by omega
        have e2 : (k - 1) % 2 = 0 := by omega
        simp [c, e1, e2]
    rcases this with ⟨e1, e2, e3⟩ | ⟨e1, e2, e3⟩ <;> rw [e1, e2, e3] <;> grind) n
  have e0 : sgnE 0 * (f + (g * (-1) - f) * 0) = f := by show 1 * _ = _; omega
  have e1 : sgnE 1 * (f + (g * (-1) - f) * 1) = g := by show -1 * _ = _; omega
  simp only [e0, e1] at h
  exact h
def tabRounds : List (Int × D) := [(1, .int 6), (0, .int 4), (-1, .int 3)]
theorem tab_at {t : Int} (h : t = 1 ∨ t = 0 ∨ t = -1) : tabRounds.lookup t = some (.int (lenR t)) := by
  rcases h with rfl | rfl | rfl <;> rfl
theorem tab_no {t : Int} (h : ¬ (t = 1 ∨ t = 0 ∨ t = -1)) : tabRounds.lookup t = none := by
  have h1 : ¬ t = 1 := fun c => h (.inl c)
  have h2 : ¬ t = 0 := fun c => h (.inr (.inl c))
  have h3 : ¬ t = -1 := fun c => h (.inr (.inr c))
  unfold tabRounds
  rw [List.lookup_cons, show (t == 1) = false from beq_eq_false_iff_ne.mpr h1]
  show List.lookup t [(0, PyData.int 4), (-1, .int 3)] = none
  rw [List.lookup_cons, show (t == 0) = false from beq_eq_false_iff_ne.mpr h2]
  show List.lookup t [(-1, PyData.int 3)] = none
  rw [List.lookup_cons, show (t == -1) = false from beq_eq_false_iff_ne.mpr h3]
  rfl
theorem roundsAt {K : PySem.W.Frag} {w : World} {mg : Str → Option Value} {h : Heap} {dR : Addr} {dn : Nat} {h1 h2 h3 : Int} {k1 k2 k3 v1 v2 v3 : Tok} (X : K.In h) (G : h.Ns mainGlobals mg)
    (a : PySem.W.nsIn K mainGlobals "ROUNDS" = some (some (.ref dR))) (b : K.lookup dR = some ⟨.type "dict", none, .dict #[⟨h1, .int 1 k1, .int 6 v1⟩, ⟨h2, .int 0 k2, .int 4 v2⟩, ⟨h3, .int (-1) k3, .int 3 v3⟩] dn, #[]⟩)
    (c : h1 = hashInt 1 ∧ h2 = hashInt 0 ∧ h3 = hashInt (-1)) (d : (dR == sysModules) = false) : DictAtI K w mg "ROUNDS" tabRounds :=
  ⟨dR, _, dn, PySem.W.mg_of X G a, b, d, .cons (.int 6) rfl c.1 ⟨_, rfl⟩ (fun _ => .int _) (.cons (.int 4) rfl c.2.1 ⟨_, rfl⟩ (fun _ => .int _) (.cons (.int 3) rfl c.2.2 ⟨_, rfl⟩ (fun _ => .int _) .nil))⟩
def N_not_long_words : List Str := ["word"]
def t_not_long_words : ATS := (aSeq (aIfS (aTest (aBin aGt (aCall bLen (aCons (aVar 0) aNil)) (aC (.int 400)))) aNever aNext)
    (aRet (aVar 0)))
def fn_not_long_words : AFn := fun avs s Q => ∃ w : List Int, avs = [.d (wD w)] ∧ w.length ≤ 400 ∧ Q (.d (wD w)) s
theorem h_not_long_words : ∀ avs s AQ, fn_not_long_words avs s AQ → t_not_long_words (endsA AQ) ⟨startA N_not_long_words avs, ⟨s, []⟩⟩ := by
  rintro _ s AQ ⟨w, rfl, hl, hq⟩
  show t_not_long_words (endsA AQ) ⟨[some (.d (.tuple (w.map .int)))], ⟨s, []⟩⟩
  unfold t_not_long_words
  walk_at "qs"
  rw [List.length_map, if_neg (by omega)]
  exact hq
def N_word_low : List Str := ["letters", "found", "letter"]
def lb_word_low_1 : ATS := (aIfS (aAnd (aTest (aBin aNe (aVar 1) (aLst aNil))) (aTest (aBin aEq (aBin aIx (aVar 1) (aUn aNeg (aC (.int 1)))) (aUn aNeg (aVar 2))))) (aDrop (aMt0 mPop (aVar 1))) (aDrop (aMt mApp (aVar 1) (aCons (aVar 2) aNil))))
def t_word_low : ATS := (aSeq (aSet 1 (aLstM aNil))
    (aSeq (aFor [2] (aItT (aVar 0)) (aGName 2) lb_word_low_1)
    (aRet (aCall bTuple (aCons (aVar 1) aNil)))))
def fn_word_low : AFn := fun avs s Q => ∃ w : List Int, avs = [.d (wD w)] ∧ w.length ≤ 1000 ∧ Q (.d (wD (lowW w))) s
theorem wl_loop (E : AEnds) (X : D) (s : Option Src) : ∀ (w f : List Int), f.length + w.length ≤ 1000 → E.nx ⟨[some (.d X), some (.o 0), none], ⟨s, [.l ((w.foldl lowS f).map .int)]⟩⟩ →
    aForL 1 [2] (aGName 2) lb_word_low_1 E (w.map .int) ⟨[some (.d X), some (.o 0), none], ⟨s, [.l (f.map .int)]⟩⟩ := by
  intro w
  induction w with
  | nil => intro f _ h; exact h
  | cons l r ih =>
    intro f hl h
    rw [List.length_cons] at hl
    have hl2 := lowS_len f l
    have nx := ih (lowS f l) (by omega) h
    rw [List.map_cons]
    unfold aForL lb_word_low_1
    walk_at "qs"
    refine ⟨(shaped_ints f).1, rfl, ?_⟩
    rw [eqv_nil]
    rcases List.eq_nil_or_concat f with rfl | ⟨g, k, rfl⟩
    · rw [if_neg (by simp)]
      rw [lowS_nil] at nx
      exact ⟨by simp, nx⟩
    · rw [List.concat_eq_append] at *
      rw [lowS_snoc] at nx
      have hlen : (g ++ [k]).length ≤ 1000 := by omega
      rw [if_pos (by simp), atD_neg1, List.map_append, List.map_cons, List.map_nil, List.getLast?_concat]
      walk_at "qs"
      rw [Int.zero_sub] at nx
      by_cases c : k = -l
      · rw [if_pos c]
        rw [if_pos c] at nx
        show aForL _ _ _ _ _ _ ⟨_, ⟨_, [MO.l ((g.map PyData.int ++ [PyData.int k]).dropLast)]⟩⟩
        rw [List.dropLast_concat]
        exact nx
      · rw [if_neg c]
        rw [if_neg c, List.map_append, List.map_append] at nx
        refine ⟨by simp at hlen ⊢; omega, nx⟩
theorem h_word_low : ∀ avs s AQ, fn_word_low avs s AQ → t_word_low (endsA AQ) ⟨startA N_word_low avs, ⟨s, []⟩⟩ := by
  rintro _ s AQ ⟨w, rfl, hl, hq⟩
  show t_word_low (endsA AQ) ⟨[some (.d (.tuple (w.map .int))), none, none], ⟨s, []⟩⟩
  unfold t_word_low
  walk_at "qs"
  refine wl_loop _ _ s w [] (by simpa using hl) ?_
  walk_at "qs"
  exact hq
def N_words_put : List Str := ["one", "other"]
def t_words_put : ATS := (aRet (aFn 1 fn_not_long_words (aCons (aFn 1 fn_word_low (aCons (aBin aAdd (aVar 0) (aVar 1)) aNil)) aNil)))
def fn_words_put : AFn := fun avs s Q => ∃ w o : List Int, avs = [.d (wD w), .d (wD o)] ∧ w.length + o.length ≤ 400 ∧ Q (.d (wD (lowW (w ++ o)))) s
theorem h_words_put : ∀ avs s AQ, fn_words_put avs s AQ → t_words_put (endsA AQ) ⟨startA N_words_put avs, ⟨s, []⟩⟩ := by
  rintro _ s AQ ⟨w, o, rfl, hl, hq⟩
  show t_words_put (endsA AQ) ⟨[some (.d (.tuple (w.map .int))), some (.d (.tuple (o.map .int)))], ⟨s, []⟩⟩
  unfold t_words_put
  walk_at "qs"
  have hlen := lowW_len (w ++ o)
  rw [List.length_append] at hlen
  refine ⟨by rw [List.length_map, List.length_map, sizeLine_eq]; omega, w ++ o, by rw [← List.map_append]; rfl, by rw [List.length_append]; omega, ?_⟩
  exact ⟨rfl, lowW (w ++ o), rfl, by omega, hq⟩
def N_power_told : List Str := ["one", "other", "behind"]
def t_power_told : ATS := (aSeq (aSet 2 (aFn 2 fn_words_put (aCons (aVar 0) (aCons (aVar 1) aNil))))
    (aRet (aTup (aCons (aFn 1 fn_trace_told (aCons (aVar 0) aNil)) (aCons (aFn 1 fn_trace_told (aCons (aVar 2) aNil)) (aCons (aFn 1 fn_trace_told (aCons (aVar 1) aNil)) aNil))))))
/-- what asks a word's trace -/
def TrOk (w : List Int) : Prop := (∀ l ∈ w, Ltr l) ∧ (∀ k, P4Ok (fourP (w.take k))) ∧ (trcP (fourP w)).length ≤ 4000
def fn_power_told : AFn := fun avs s Q => ∃ u w : List Int, avs = [.d (wD u), .d (wD w)] ∧ u.length + w.length ≤ 400 ∧ TrOk u ∧ TrOk w ∧ TrOk (lowW (u ++ w)) ∧ Q (.d (.tuple [poD (trcP (fourP u)), poD (trcP (fourP (lowW (u ++ w)))), poD (trcP (fourP w))])) s
theorem h_power_told : ∀ avs s AQ, fn_power_told avs s AQ → t_power_told (endsA AQ) ⟨startA N_power_told avs, ⟨s, []⟩⟩ := by
  rintro _ s AQ ⟨u, w, rfl, hl, ⟨u1, u2, u3⟩, ⟨w1, w2, w3⟩, ⟨v1, v2, v3⟩, hq⟩
  show t_power_told (endsA AQ) ⟨[some (.d (wD u)), some (.d (wD w)), none], ⟨s, []⟩⟩
  unfold t_power_told
  walk_at "qs"
  refine ⟨u, w, rfl, hl, ?_⟩
  generalize lowW (u ++ w) = v at *
  generalize ea : trcP (fourP u) = pa at *
  generalize eb : trcP (fourP v) = pb at *
  generalize ec : trcP (fourP w) = pc at *
  refine ⟨u, rfl, u1, u2, by rw [ea]; exact u3, ?_⟩
  refine ⟨rfl, v, rfl, v1, v2, by rw [eb]; exact v3, ?_⟩
  refine ⟨w, rfl, w1, w2, by rw [ec]; exact w3, ?_⟩
  rw [ea, eb, ec]
  walk_at "qs"
  exact hq
def N_power_numbers : List Str := ["told", "triple", "one"]
def le_power_numbers_1 : ATE := (aFn 2 fn_poly_value (aCons (aVar 2) (aCons (aVar 1) aNil)))
def t_power_numbers : ATS := (aRet (aCall bTuple (aCons (aLc (aItT (aVar 0)) (aGName 2) aYes le_power_numbers_1 [2]) aNil)))
/-- what asks a polynomial's value -/
def VlOk (e d : Nat) (p : Po) : Prop := p.length ≤ 1000000 ∧ PoOk d p
def fn_power_numbers : AFn := fun avs s Q => ∃ (p q r : Po) (x y z : Int) (d e : Nat), avs = [.d (.tuple [poD p, poD q, poD r]), .d (.tuple [.int x, .int y, .int z])] ∧ VlOk e d p ∧ VlOk e d q ∧ VlOk e d r ∧ 0 < e ∧ Bd e x ∧ Bd e y ∧ Bd e z ∧ d ≤ 2000 ∧ 3 * (e * (d + 1) + 1) + 64 < 1000000 ∧ Q (.d (.tuple [.int (valP p x y z), .int (valP q x y z), .int (valP r x y z)])) s
theorem h_power_numbers : ∀ avs s AQ, fn_power_numbers avs s AQ → t_power_numbers (endsA AQ) ⟨startA N_power_numbers avs, ⟨s, []⟩⟩ := by
  rintro _ s AQ ⟨p, q, r, x, y, z, d, e, rfl, h1, h2, h3, he, hx, hy, hz, hd, hs, hq⟩
  show t_power_numbers (endsA AQ) ⟨[some (.d (.tuple [poD p, poD q, poD r])), some (.d (.tuple [.int x, .int y, .int z])), none], ⟨s, []⟩⟩
  have st : ∀ (x0 : D) (p : Po) (K : Option D → Mm → Prop), VlOk e d p → K (some (.int (valP p x y z))) ⟨s, []⟩ → stepC (aGName 2) aYes le_power_numbers_1 [some (.d x0), some (.d (.tuple [.int x, .int y, .int z])), none] (poD p) ⟨s, []⟩ K := by
    intro x0 p K h hK
    unfold stepC le_power_numbers_1
    walk_at "qs"
    exact ⟨p, x, y, z, d, e, rfl, h.1, h.2, he, hx, hy, hz, hd, hs, hK⟩
  unfold t_power_numbers
  walk_at "qs"
  refine aLcL_step (st _ p _ h1 ?_)
  refine aLcL_step (st _ q _ h2 ?_)
  refine aLcL_step (st _ r _ h3 ?_)
  unfold aLcL
  exact hq
def N_line_at : List Str := ["first", "rise", "place"]
def t_line_at : ATS := (aRet (aBin aAdd (aVar 0) (aBin aMul (aVar 1) (aVar 2))))
def fn_line_at : AFn := fun avs s Q => ∃ f r n : Int, avs = [.d (.int f), .d (.int r), .d (.int n)] ∧ B64 n ∧ Q (.d (.int (f + r * n))) s
theorem h_line_at : ∀ avs s AQ, fn_line_at avs s AQ → t_line_at (endsA AQ) ⟨startA N_line_at avs, ⟨s, []⟩⟩ := by
  rintro _ s AQ ⟨f, r, n, rfl, hn, hq⟩
  show t_line_at (endsA AQ) ⟨[some (.d (.int f)), some (.d (.int r)), some (.d (.int n))], ⟨s, []⟩⟩
  unfold t_line_at
  walk_at "qs"
  exact ⟨MulOk.r hn.1 hn.2, hq⟩
def N_numbers_back : List Str := ["numbers", "first", "second", "step"]
def t_numbers_back : ATS := (aSeq (aAsg (aVar 0) (aGTup 3 (aGCons (aGName 1) (aGCons (aGName 2) (aGCons (aGName 3) aGNil)))))
    (aRet (aTup (aCons (aVar 1) (aCons (aBin aSub (aBin aMul (aVar 3) (aVar 1)) (aVar 2)) (aCons (aVar 3) aNil))))))
def fn_numbers_back : AFn := fun avs s Q => ∃ (f g t : Int) (a b : Nat), avs = [.d (.tuple [.int f, .int g, .int t])] ∧ Bd a f ∧ Bd b t ∧ a + b ≤ 10000 ∧ Q (.d (.tuple [.int f, .int (t * f - g), .int t])) s
theorem h_numbers_back : ∀ avs s AQ, fn_numbers_back avs s AQ → t_numbers_back (endsA AQ) ⟨startA N_numbers_back avs, ⟨s, []⟩⟩ := by
  rintro _ s AQ ⟨f, g, t, a, b, rfl, hf, ht, hl, hq⟩
  show t_numbers_back (endsA AQ) ⟨[some (.d (.tuple [.int f, .int g, .int t])), none, none, none], ⟨s, []⟩⟩
  unfold t_numbers_back
  walk_at "qs"
  exact ⟨MulOk.bd ht hf (by omega), hq⟩
def N_least_long : List Str := ["found", "lap"]
def lb_least_long_1 : ATS := (aAugM 0 (aC (.int 10)))
def t_least_long : ATS := (aSeq (aSet 0 (aC (.int 1)))
    (aSeq (aFor [1] (aRng1 (aCons (aC (.int 300)) aNil)) (aGName 1) lb_least_long_1)
    (aRet (aVar 0))))
def tenP (k : Nat) : Int := (10 : Int) ^ k
def fn_least_long : AFn := fun avs s Q => avs = [] ∧ Q (.d (.int (tenP 300))) s
theorem ll_loop (E : AEnds) (s : Option Src) : ∀ (ds : List D) (k : Nat), E.nx ⟨[some (.d (.int (tenP (k + ds.length)))), none], ⟨s, []⟩⟩ →
    aForL 0 [1] (aGName 1) lb_least_long_1 E ds ⟨[some (.d (.int (tenP k))), none], ⟨s, []⟩⟩ := by
  intro ds
  induction ds with
  | nil => intro k h; exact h
  | cons d ds ih =>
    intro k h
    rw [List.length_cons, show k + (ds.length + 1) = (k + 1) + ds.length by omega] at h
    have nx := ih (k + 1) h
    rw [show tenP (k + 1) = tenP k * 10 from by unfold tenP; rw [Int.pow_succ]] at nx
    generalize tenP k = t at *
    unfold aForL lb_least_long_1
    walk_at "qs"
    exact ⟨.inr ⟨by decide, by decide⟩, nx⟩
theorem h_least_long : ∀ avs s AQ, fn_least_long avs s AQ → t_least_long (endsA AQ) ⟨startA N_least_long avs, ⟨s, []⟩⟩ := by
  rintro _ s AQ ⟨rfl, hq⟩
  show t_least_long (endsA AQ) ⟨[none, none], ⟨s, []⟩⟩
  unfold t_least_long
  walk_at "qs"
  refine ⟨Rg.of (by decide) (by decide), ?_⟩
  refine ll_loop _ s _ 0 ?_
  walk_at "qs"
  rw [rngD_len]
  exact hq
theorem ten_big : (2 : Nat) ^ 990 < 10 ^ 300 := by decide +kernel
theorem ten_bd {i : Int} (h : Bd 990 i) : ¬ tenP 300 ≤ (if i < 0 then -i else i) := by
  unfold Bd at h
  have e : tenP 300 = ((10 ^ 300 : Nat) : Int) := by unfold tenP; rw [Int.natCast_pow]; rfl
  rw [e]
  have := ten_big
  generalize (10 : Nat) ^ 300 = a at *
  generalize (2 : Nat) ^ 990 = b at *
  split <;> omega
def N_not_long_numberruns : List Str := ["number"]
def t_not_long_numberruns : ATS := (aSeq (aIfS (aTest (aBin aGe (aCall bAbs (aCons (aVar 0) aNil)) (aFn 0 fn_least_long aNil))) aNever aNext)
    (aRet (aVar 0)))
def fn_not_long_numberruns : AFn := fun avs s Q => ∃ i : Int, avs = [.d (.int i)] ∧ Bd 990 i ∧ Q (.d (.int i)) s
theorem h_not_long_numberruns : ∀ avs s AQ, fn_not_long_numberruns avs s AQ → t_not_long_numberruns (endsA AQ) ⟨startA N_not_long_numberruns avs, ⟨s, []⟩⟩ := by
  rintro _ s AQ ⟨i, rfl, hb, hq⟩
  show t_not_long_numberruns (endsA AQ) ⟨[some (.d (.int i))], ⟨s, []⟩⟩
  have h := ten_bd hb
  unfold t_not_long_numberruns
  walk_at "qs"
  refine ⟨rfl, ?_⟩
  generalize tenP 300 = T at *
  walk_at "qs"
  rw [if_neg h]
  exact hq
def N_round_numbers : List Str := ["numbers", "first", "second", "step", "found", "lap"]
def lb_round_numbers_1 : ATS := (aSeq (aDrop (aMt mApp (aVar 4) (aCons (aVar 1) aNil)))
    (aPar 1 2 (aCons (aVar 2) (aCons (aBin aSub (aBin aMul (aVar 3) (aVar 2)) (aVar 1)) aNil))))
def t_round_numbers : ATS := (aSeq (aAsg (aVar 0) (aGTup 3 (aGCons (aGName 1) (aGCons (aGName 2) (aGCons (aGName 3) aGNil)))))
    (aSeq (aSet 4 (aLstM aNil))
    (aSeq (aFor [5] (aRng1 (aCons (aKixI tabRounds (aVar 3)) aNil)) (aGName 5) lb_round_numbers_1)
    (aRet (aVar 4)))))
def fn_round_numbers : AFn := fun avs s Q => ∃ (f g t : Int), avs = [.d (.tuple [.int f, .int g, .int t])] ∧ (t = 1 ∨ t = 0 ∨ t = -1) ∧ Q (.d (.list ((rndL t f g).map .int))) s
def nums (t : Int) : Nat → Int → Int → List Int
  | 0, _, _ => []
  | n + 1, f, g => f :: nums t n g (t * g - f)
theorem nums_rnd {t : Int} (h : t = 1 ∨ t = 0 ∨ t = -1) (f g : Int) : nums t (lenR t).toNat f g = rndL t f g := by
  rcases h with rfl | rfl | rfl
  · show nums 1 6 f g = [f, g, g - f, -f, -g, f - g]
    simp [nums]; omega
  · show nums 0 4 f g = [f, g, -f, -g]
    simp [nums]
  · show nums (-1) 3 f g = [f, g, -g - f]
    simp [nums]
theorem rn_loop (E : AEnds) (x0 : D) (t : Int) (s : Option Src) (ht : B64 t) : ∀ (ds : List D) (f g : Int) (l : List Int), l.length + ds.length < 1000 → (∀ f' g' : Int, E.nx ⟨[some (.d x0), some (.d (.int f')), some (.d (.int g')), some (.d (.int t)), some (.o 0), none], ⟨s, [.l ((l ++ nums t ds.length f g).map .int)]⟩⟩) →
    aForL 1 [5] (aGName 5) lb_round_numbers_1 E ds ⟨[some (.d x0), some (.d (.int f)), some (.d (.int g)), some (.d (.int t)), some (.o 0), none], ⟨s, [.l (l.map .int)]⟩⟩ := by
  intro ds
  induction ds with
  | nil => intro f g l _ h; have := h f g; rw [show nums t ([] : List D).length f g = [] from rfl, List.append_nil] at this; exact this
  | cons d ds ih =>
    intro f g l hl h
    rw [List.length_cons] at hl
    have nx := ih g (t * g - f) (l ++ [f]) (by rw [List.length_append]; simp; omega) (fun f' g' => by
      have := h f' g'
      rw [show nums t (d :: ds).length f g = f :: nums t ds.length g (t * g - f) from rfl] at this
      rw [List.append_assoc]; exact this)
    rw [List.map_append, List.map_cons, List.map_nil] at nx
    unfold aForL lb_round_numbers_1
    walk_at "qs"
    exact ⟨by rw [List.length_map]; omega, MulOk.l ht.1 ht.2, nx⟩
theorem h_round_numbers : ∀ avs s AQ, fn_round_numbers avs s AQ → t_round_numbers (endsA AQ) ⟨startA N_round_numbers avs, ⟨s, []⟩⟩ := by
  rintro _ s AQ ⟨f, g, t, rfl, ht, hq⟩
  show t_round_numbers (endsA AQ) ⟨[some (.d (.tuple [.int f, .int g, .int t])), none, none, none, none, none], ⟨s, []⟩⟩
  have b : B64 t := by rcases ht with rfl | rfl | rfl <;> (unfold B64; decide)
  have hr : lenR t = 6 ∨ lenR t = 4 ∨ lenR t = 3 := by rcases ht with rfl | rfl | rfl <;> decide
  have ln := nums_rnd ht f g
  unfold t_round_numbers
  walk_at "qs"
  rw [tab_at ht]
  walk_at "qs"
  refine ⟨Rg.of (by omega) (by omega), ?_⟩
  refine rn_loop _ _ t s b _ f g [] (by rw [rngD_len]; simp; omega) (fun f' g' => ?_)
  walk_at "qs"
  rw [rngD_len, ln]
  exact hq
def N_far_at : List Str := ["numbers", "place", "first", "second", "step", "bound", "lap"]
def lb_far_at_1 : ATS := (aSeq (aIfS (aAnd (aTest (aBin aGe (aCall bAbs (aCons (aVar 3) aNil)) (aVar 5))) (aTest (aBin aGt (aCall bAbs (aCons (aVar 3) aNil)) (aCall bAbs (aCons (aVar 2) aNil))))) aNever aNext)
    (aPar 2 3 (aCons (aVar 3) (aCons (aBin aSub (aBin aMul (aVar 4) (aVar 3)) (aVar 2)) aNil))))
def t_far_at : ATS := (aSeq (aAsg (aVar 0) (aGTup 3 (aGCons (aGName 2) (aGCons (aGName 3) (aGCons (aGName 4) aGNil)))))
    (aSeq (aIfS (aAnd (aTest (aBin aEq (aVar 2) (aC (.int 0)))) (aTest (aBin aEq (aVar 3) (aC (.int 0))))) (aRet (aC (.int 0))) aNext)
    (aSeq (aSet 5 (aFn 0 fn_least_long aNil))
    (aSeq (aFor [6] (aRng1 (aCons (aVar 1) aNil)) (aGName 6) lb_far_at_1)
    (aRet (aFn 1 fn_not_long_numberruns (aCons (aVar 2) aNil)))))))
def fn_far_at : AFn := fun avs s Q => ∃ (f g t : Int) (n b : Nat), avs = [.d (.tuple [.int f, .int g, .int t]), .d (.int (n : Int))] ∧ Bd b t ∧ b ≤ 5000 ∧ n ≤ 1000000 ∧ (∀ k, k ≤ n → Bd 990 (runN t k f g)) ∧ Q (.d (.int (runN t n f g))) s
theorem fa_loop (E : AEnds) (x0 x1 : D) (t : Int) (b : Nat) (ht : Bd b t) (hb : b ≤ 5000) (s : Option Src) : ∀ (ds : List D) (f g : Int), (∀ k, k ≤ ds.length → Bd 990 (runN t k f g)) → (∀ f' g' : Int, f' = runN t ds.length f g → E.nx ⟨[some (.d x0), some (.d x1), some (.d (.int f')), some (.d (.int g')), some (.d (.int t)), some (.d (.int (tenP 300))), none], ⟨s, []⟩⟩) →
    aForL 0 [6] (aGName 6) lb_far_at_1 E ds ⟨[some (.d x0), some (.d x1), some (.d (.int f)), some (.d (.int g)), some (.d (.int t)), some (.d (.int (tenP 300))), none], ⟨s, []⟩⟩ := by
  intro ds
  induction ds with
  | nil => intro f g _ h; exact h f g rfl
  | cons d ds ih =>
    intro f g hk h
    rw [List.length_cons] at hk
    have hg : Bd 990 g := hk 1 (by omega)
    have nx := ih g (t * g - f) (fun k hk' => hk (k + 1) (by omega)) (fun f' g' e => h f' g' (by rw [e, List.length_cons]; rfl))
    have hb' := ten_bd hg
    have hm : MulOk t g := MulOk.bd ht hg (by omega)
    generalize tenP 300 = T at *
    unfold aForL lb_far_at_1
    walk_at "qs"
    rw [if_neg hb']
    walk_at "qs"
    exact ⟨hm, nx⟩
theorem runN_00 (t : Int) : ∀ n, runN t n 0 0 = 0
  | 0 => rfl
  | n + 1 => by
    show runN t n 0 (t * 0 - 0) = 0
    rw [show t * 0 - 0 = 0 by omega]; exact runN_00 t n
theorem h_far_at : ∀ avs s AQ, fn_far_at avs s AQ → t_far_at (endsA AQ) ⟨startA N_far_at avs, ⟨s, []⟩⟩ := by
  rintro _ s AQ ⟨f, g, t, n, b, rfl, ht, hb, hn, hk, hq⟩
  show t_far_at (endsA AQ) ⟨[some (.d (.tuple [.int f, .int g, .int t])), some (.d (.int n)), none, none, none, none, none], ⟨s, []⟩⟩
  have fin : Bd 990 (runN t n f g) := hk n (Nat.le_refl _)
  unfold t_far_at
  walk_at "sq"
  walk_at "qs"
  walk_at "nx"
  walk_at "sq"
  have go : E2.nx ⟨[some (.d (.tuple [.int f, .int g, .int t])), some (.d (.int n)), some (.d (.int f)), some (.d (.int g)), some (.d (.int t)), none, none], ⟨s, []⟩⟩ := by
    walk_at "nx"
    walk_at "sq"
    walk_at "qs"
    refine ⟨rfl, ?_⟩
    walk_at "nx"
    walk_at "qs"
    refine ⟨Rg.of (by omega) (by omega), ?_⟩
    refine fa_loop _ _ _ t b ht hb s _ f g (by rw [rngD_len]; exact hk) (fun f' g' e => ?_)
    rw [rngD_len] at e
    walk_at "qs"
    refine ⟨f', rfl, by rw [e]; exact fin, ?_⟩
    rw [e]
    exact hq
  walk_at "qs"
  by_cases c1 : f = 0
  · rw [if_pos c1]
    walk_at "qs"
    by_cases c2 : g = 0
    · rw [if_pos c2, hR2]
      subst c1; subst c2
      rw [runN_00] at hq
      exact hq
    · rw [if_neg c2]; exact go
  · rw [if_neg c1]
    walk_at "qs"
    exact go
def N_number_at : List Str := ["numbers", "place", "first", "second", "step", "sign"]
def t_number_at : ATS := (aSeq (aAsg (aVar 0) (aGTup 3 (aGCons (aGName 2) (aGCons (aGName 3) (aGCons (aGName 4) aGNil)))))
    (aSeq (aIfS (aTest (aBin aGt (aCall bAbs (aCons (aVar 1) aNil)) (aC (.int 1000000)))) aNever aNext)
    (aSeq (aIfS (aTest (aKinI tabRounds (aVar 4))) (aRet (aFn 1 fn_not_long_numberruns (aCons (aBin aIx (aFn 1 fn_round_numbers (aCons (aVar 0) aNil)) (aBin aMod (aVar 1) (aKixI tabRounds (aVar 4)))) aNil))) aNext)
    (aSeq (aIfS (aTest (aBin aEq (aCall bAbs (aCons (aVar 4) aNil)) (aC (.int 2)))) (aSeq (aSet 5 (aIf (aOr (aTest (aBin aEq (aVar 4) (aC (.int 2)))) (aTest (aBin aEq (aBin aMod (aVar 1) (aC (.int 2))) (aC (.int 0))))) (aC (.int 1)) (aUn aNeg (aC (.int 1)))))
    (aRet (aFn 1 fn_not_long_numberruns (aCons (aBin aMul (aVar 5) (aFn 3 fn_line_at (aCons (aVar 2) (aCons (aBin aSub (aBin aMul (aVar 3) (aBin aFdiv (aVar 4) (aC (.int 2)))) (aVar 2)) (aCons (aVar 1) aNil))))) aNil)))) aNext)
    (aRet (aFn 2 fn_far_at (aCons (aIf (aTest (aBin aGe (aVar 1) (aC (.int 0)))) (aVar 0) (aFn 1 fn_numbers_back (aCons (aVar 0) aNil))) (aCons (aCall bAbs (aCons (aVar 1) aNil)) aNil))))))))
/-- a place may be told -/
def PathOk (f g t n : Int) : Prop := n.natAbs ≤ 1000000 ∧ Bd 990 (runZ f g t n) ∧ (¬ (t = 1 ∨ t = 0 ∨ t = -1 ∨ t = 2 ∨ t = -2) → ∀ k, k ≤ n.natAbs → Bd 990 (runN t k f (if n < 0 then t * f - g else g)))
def fn_number_at : AFn := fun avs s Q => ∃ (f g t n : Int) (a b : Nat), avs = [.d (.tuple [.int f, .int g, .int t]), .d (.int n)] ∧ Bd a f ∧ Bd b t ∧ a ≤ 3000 ∧ b ≤ 3000 ∧ PathOk f g t n ∧ Q (.d (.int (runZ f g t n))) s
theorem h_number_at : ∀ avs s AQ, fn_number_at avs s AQ → t_number_at (endsA AQ) ⟨startA N_number_at avs, ⟨s, []⟩⟩ := by
  rintro _ s AQ ⟨f, g, t, n, a, b, rfl, hf, ht, ha, hb, ⟨hn, hbd, hpath⟩, hq⟩
  show t_number_at (endsA AQ) ⟨[some (.d (.tuple [.int f, .int g, .int t])), some (.d (.int n)), none, none, none, none], ⟨s, []⟩⟩
  have hbn : B64 n := by unfold B64; omega
  unfold t_number_at
  walk_at "sq"
  walk_at "qs"
  walk_at "nx"
  walk_at "sq"
  walk_at "qs"
  rw [if_neg (by split <;> omega)]
  walk_at "nx"
  walk_at "sq"
  walk_at "qs"
  by_cases c : t = 1 ∨ t = 0 ∨ t = -1
  · rw [tab_at c, Option.isSome_some]
    walk_at "qs"
    have hat := rnd_at c f g n
    have hp : 0 < lenR t := by rcases c with rfl | rfl | rfl <;> decide
    refine ⟨f, g, t, rfl, c, hp, ?_⟩
    have e : atD ((rndL t f g).map PyData.int) (n % lenR t) = some (.int (runZ f g t n)) := by
      unfold atD
      rw [if_pos (Int.emod_nonneg _ (by omega)), List.getElem?_map, hat]; rfl
    walk_at "qs"
    rw [e]
    refine ⟨_, rfl, hbd, ?_⟩
    rw [hR2]
    exact hq
  · rw [tab_no c, Option.isSome_none]
    walk_at "qs"
    walk_at "nx"
    walk_at "sq"
    walk_at "qs"
    have line : ∀ (i : Int), (i = 1 ∨ i = -1) → i * (f + (g * (t / 2) - f) * n) = runZ f g t n → fn_line_at [AV.d (.int f), .d (.int (g * (t / 2) - f)), .d (.int n)] s fun av s' => match AV.d (.int i), av with
        | AV.d (.int i), AV.d (.int j) => MulOk i j ∧ fn_not_long_numberruns [AV.d (.int (i * j))] s' fun av s' => E2.rt av { s := s', o := [] }
        | x, x_1 => False := by
      intro i hi e
      refine ⟨_, _, _, rfl, hbn, ?_⟩
      refine ⟨MulOk.l (by omega) (by omega), _, rfl, ?_, ?_⟩
      · rw [e]; exact hbd
      · rw [e, hR2]; exact hq
    by_cases c2 : t = 2
    · rw [if_pos (by rw [c2]; decide), if_pos c2]
      refine ⟨?_, ?_, line 1 (.inl rfl) ?_⟩
      · exact .inl ⟨by decide, by decide⟩
      · rw [c2]; exact MulOk.r (by decide) (by decide)
      · rw [c2, line_2, show g * (2 / 2) = g from by omega]; omega
    · by_cases c3 : t = -2
      · rw [if_pos (by rw [c3]; decide), if_neg c2]
        refine ⟨by decide, ?_⟩
        by_cases c4 : n % 2 = 0
        · rw [if_pos c4]
          refine ⟨?_, ?_, line 1 (.inl rfl) ?_⟩
          · exact .inl ⟨by decide, by decide⟩
          · rw [c3]; exact MulOk.r (by decide) (by decide)
          · rw [c3, line_m2, sgnE, if_pos c4]; rfl
        · rw [if_neg c4]
          refine ⟨?_, ?_, line (-1) (.inr rfl) ?_⟩
          · exact .inl ⟨by decide, by decide⟩
          · rw [c3]; exact MulOk.r (by decide) (by decide)
          · rw [c3, line_m2, sgnE, if_neg c4]; rfl
      · rw [if_neg (by split <;> omega)]
        walk_at "nx"
        walk_at "qs"
        have hp := hpath (by omega)
        by_cases c5 : 0 ≤ n
        · rw [if_pos c5]
          walk_at "qs"
          rw [if_neg (show ¬ n < 0 by omega)] at hp
          refine ⟨f, g, t, n.natAbs, b, ?_, ht, by omega, hn, hp, ?_⟩
          · have e : n = (n.natAbs : Int) := by omega
            rw [if_neg (by omega), ← e]
          · rw [show runN t n.natAbs f g = runZ f g t n by unfold runZ; rw [if_neg (by omega)]]
            exact hq
        · rw [if_neg c5]
          walk_at "qs"
          rw [if_pos (show n < 0 by omega)] at hp
          refine ⟨f, g, t, a, b, rfl, hf, ht, by omega, ?_⟩
          walk_at "qs"
          refine ⟨f, t * f - g, t, n.natAbs, b, ?_, ht, by omega, hn, hp, ?_⟩
          · have e : -n = (n.natAbs : Int) := by omega
            rw [if_pos (by omega), e]
          · rw [show runN t n.natAbs f (t * f - g) = runZ f g t n by unfold runZ; rw [if_pos (by omega)]]
            exact hq
def N_round_told : List Str := ["length", "places", "least", "some", "late", "place"]
def lt_round_told_1 : ATT := (aTest (aBin aLt (aVar 5) (aVar 2)))
def le_round_told_2 : ATE := (aVar 5)
def lt_round_told_3 : ATT := (aTest (aBin aInL (aBin aMod (aVar 5) (aVar 2)) (aVar 3)))
def lb_round_told_4 : ATS := (aSeq (aSet 3 (aLc (aItL (aVar 1)) (aGName 5) lt_round_told_1 le_round_told_2 [5]))
    (aSeq (aSet 4 (aLc (aRng1 (aCons (aVar 0) aNil)) (aGName 5) lt_round_told_3 le_round_told_2 [5]))
    (aIfS (aAnd (aTest (aBin aEq (aBin aMod (aVar 0) (aVar 2)) (aC (.int 0)))) (aTest (aBin aEq (aVar 4) (aVar 1)))) (aRet (aTup (aCons (aC (.str "round")) (aCons (aVar 2) (aCons (aCall bTuple (aCons (aVar 3) aNil)) aNil))))) aNext)))
def t_round_told : ATS := (aSeq (aIfS (aTest (aBin aEq (aVar 1) (aLst aNil))) (aRet (aTup (aCons (aC (.str "these")) (aCons (aTup aNil) aNil)))) aNext)
    (aSeq (aFor [2, 3, 4, 5] (aRng2 (aCons (aC (.int 1)) (aCons (aBin aAdd (aVar 0) (aC (.int 1))) aNil))) (aGName 2) lb_round_told_4)
    (aRet (aTup (aCons (aC (.str "round")) (aCons (aVar 0) (aCons (aCall bTuple (aCons (aVar 1) aNil)) aNil)))))))
inductive Tw where
  | these (ps : List Int)
  | round (l : Int) (ps : List Int)
def twD : Tw → D
  | .these ps => .tuple [.str "these", .tuple (ps.map .int)]
  | .round l ps => .tuple [.str "round", .int l, .tuple (ps.map .int)]
def rgI (n : Nat) : List Int := (List.range n).map fun (i : Nat) => (i : Int)
def rtSome (l : Int) (ps : List Int) : List Int := ps.filter fun p => decide (p < l)
def rtLate (n : Nat) (l : Int) (ps : List Int) : List Int := (rgI n).filter fun p => decide (p % l ∈ rtSome l ps)
def rtGo (n : Nat) (ps : List Int) : List Int → Tw
  | [] => .round n ps
  | l :: r => if (n : Int) % l = 0 ∧ rtLate n l ps = ps then .round l (rtSome l ps) else rtGo n ps r
def rtF (n : Nat) (ps : List Int) : Tw := if ps = [] then .these [] else rtGo n ps ((List.range n).map fun (i : Nat) => (i : Int) + 1)
def fn_round_told : AFn := fun avs s Q => ∃ (n : Nat) (ps : List Int), avs = [.d (.int (n : Int)), .d (.list (ps.map .int))] ∧ 1 ≤ n ∧ n ≤ 6 ∧ ps.length ≤ 6 ∧ Q (.d (twD (rtF n ps))) s
theorem rngD_I (n : Nat) : rngD 0 n = (rgI n).map PyData.int := by
  unfold rgI rngD
  rw [List.map_map]
  refine List.map_congr_left fun i _ => ?_
  simp
theorem in_ints (ps : List Int) (x : Int) : (ps.map PyData.int).any (fun z => PyData.eqv z (.int x)) = decide (x ∈ ps) := by
  induction ps with
  | nil => rfl
  | cons a r ih =>
    rw [List.map_cons, List.any_cons, ih]
    by_cases c : a = x
    · subst c; simp [PyData.eqv]
    · have : x ≠ a := fun e => c e.symm
      simp [PyData.eqv, c, this]
theorem eqv_ints (a b : List Int) : PyData.eqv (.list (a.map .int)) (.list (b.map .int)) = decide (a = b) := by
  have go : ∀ a b : List Int, PyData.eqvAll (a.map .int) (b.map .int) = decide (a = b) := by
    intro a
    induction a with
    | nil => intro b; cases b <;> simp [PyData.eqvAll]
    | cons x r ih =>
      intro b
      cases b with
      | nil => simp [PyData.eqvAll]
      | cons y q =>
        rw [List.map_cons, List.map_cons]
        simp only [PyData.eqvAll, PyData.eqv, ih q]
        by_cases c : x = y <;> simp [c]
  simp [PyData.eqv, go a b]
theorem rt_loop (AQ : AV → Option Src → Prop) (E : AEnds) (n : Nat) (hn : 1 ≤ n ∧ n ≤ 6) (ps : List Int) (hps : ps.length ≤ 6) (s : Option Src) (hR : E.rt = (endsA AQ).rt) : ∀ ls : List Int, (∀ l ∈ ls, 1 ≤ l) → AQ (.d (twD (rtGo n ps ls))) s →
    (AQ (.d (twD (.round n ps))) s → E.nx ⟨[some (.d (.int n)), some (.d (.list (ps.map .int))), none, none, none, none], ⟨s, []⟩⟩) →
    aForL 0 [2, 3, 4, 5] (aGName 2) lb_round_told_4 E (ls.map .int) ⟨[some (.d (.int n)), some (.d (.list (ps.map .int))), none, none, none, none], ⟨s, []⟩⟩ := by
  intro ls
  induction ls with
  | nil => intro _ hq h; exact h hq
  | cons l ls ih =>
    intro hl hq h
    have hl1 := hl l List.mem_cons_self
    have nx := ih (fun k hk => hl k (List.mem_cons_of_mem _ hk))
    rw [List.map_cons]
    unfold aForL lb_round_told_4
    walk_at "sq"
    walk_at "qs"
    refine ⟨by rw [List.length_map]; omega, ?_⟩
    refine aLcL_map PyData.int (fun p => decide (p < l)) (fun p => .int p) (fun p hp K hK => ?_) ?_
    · unfold stepC lt_round_told_1 le_round_told_2
      walk_at "qs"
      by_cases c : p < l
      · rw [if_pos c]
        simpa [c] using hK
      · rw [if_neg c]
        simpa [c] using hK
    rw [show ps.filter (fun p => decide (p < l)) = rtSome l ps from rfl]
    have ls6 : (rtSome l ps).length ≤ 6 := Nat.le_trans (List.length_filter_le _ _) hps
    walk_at "nx"
    walk_at "sq"
    walk_at "qs"
    refine ⟨Rg.of (by omega) (by omega), by rw [rngD_len]; omega, ?_⟩
    rw [show ((n : Nat) : Int).toNat = n from rfl, rngD_I]
    rw [show (fun p => PyData.int p) = PyData.int from rfl]
    refine aLcL_map PyData.int (fun p => decide (p % l ∈ rtSome l ps)) (fun p => .int p) (fun p hp K hK => ?_) ?_
    · unfold stepC lt_round_told_3 le_round_told_2
      walk_at "qs"
      refine ⟨hl1, rfl, (shaped_ints _).1, ?_⟩
      rw [in_ints]
      by_cases c : p % l ∈ rtSome l ps
      · simp only [c, decide_true, if_true] at hK ⊢
        exact hK
      · simp only [c, decide_false, Bool.false_eq_true, if_false] at hK ⊢
        exact hK
    rw [show (rgI n).filter (fun p => decide (p % l ∈ rtSome l ps)) = rtLate n l ps from rfl]
    walk_at "nx"
    walk_at "qs"
    refine ⟨hl1, ?_⟩
    unfold rtGo at hq
    by_cases c1 : (n : Int) % l = 0
    · rw [if_pos c1]
      refine ⟨(shaped_ints _).1, (shaped_ints _).1, ?_⟩
      rw [show (fun p => PyData.int p) = PyData.int from rfl, eqv_ints]
      by_cases c2 : rtLate n l ps = ps
      · rw [if_pos (by simpa using c2), hR]
        rw [if_pos ⟨c1, c2⟩] at hq
        exact hq
      · rw [if_neg (by simpa using c2)]
        rw [if_neg (fun q => c2 q.2)] at hq
        exact nx hq h
    · rw [if_neg c1]
      rw [if_neg (fun q => c1 q.1)] at hq
      exact nx hq h
theorem rng1_I (n : Nat) : rngD 1 n = ((List.range n).map fun (i : Nat) => (i : Int) + 1).map PyData.int := by
  unfold rngD
  rw [List.map_map]
  refine List.map_congr_left fun i _ => ?_
  simp [Int.add_comm]
theorem h_round_told : ∀ avs s AQ, fn_round_told avs s AQ → t_round_told (endsA AQ) ⟨startA N_round_told avs, ⟨s, []⟩⟩ := by
  rintro _ s AQ ⟨n, ps, rfl, hn1, hn6, hps, hq⟩
  show t_round_told (endsA AQ) ⟨[some (.d (.int n)), some (.d (.list (ps.map .int))), none, none, none, none], ⟨s, []⟩⟩
  unfold t_round_told
  walk_at "sq"
  walk_at "qs"
  refine ⟨(shaped_ints ps).1, rfl, ?_⟩
  rw [eqv_nil]
  unfold rtF at hq
  by_cases c : ps = []
  · subst c
    rw [if_pos (show (List.map PyData.int []).isEmpty = true from rfl), hR2]
    rw [if_pos rfl] at hq
    exact hq
  · rw [if_neg (by cases ps with | nil => exact absurd rfl c | cons a r => simp)]
    rw [if_neg c] at hq
    walk_at "nx"
    walk_at "sq"
    walk_at "qs"
    refine ⟨Rg.of (by decide) (by decide), Rg.of (by omega) (by omega), ?_⟩
    rw [show ((n : Int) + 1 - 1).toNat = n by omega, rng1_I]
    refine rt_loop AQ _ n ⟨hn1, hn6⟩ ps hps s hR2 _ (fun l hl => ?_) hq (fun hq => ?_)
    · obtain ⟨i, _, rfl⟩ := List.mem_map.mp hl; omega
    · walk_at "nx"
      walk_at "qs"
      exact hq
/-! ### runs of a step above 2 -/
theorem abs_step {t x y : Int} (ht : 3 ≤ t.natAbs) : 3 * x.natAbs ≤ (t * x - y).natAbs + y.natAbs := by
  have h1 : 3 * x.natAbs ≤ t.natAbs * x.natAbs := Nat.mul_le_mul_right _ ht
  rw [← Int.natAbs_mul] at h1
  omega
section
variable {t f g : Int}
theorem u_rec (k : Nat) : runN t (k + 2) f g = t * runN t (k + 1) f g - runN t k f g := runN_rec t k f g
/-- not both nothing -/
theorem u_nz (h : ¬ (f = 0 ∧ g = 0)) : ∀ k, ¬ (runN t k f g = 0 ∧ runN t (k + 1) f g = 0)
  | 0 => h
  | k + 1 => fun ⟨h1, h2⟩ => u_nz h k ⟨by
    have := u_rec (t := t) (f := f) (g := g) k
    rw [h1, Int.mul_zero] at this
    have h3 : runN t (k + 2) f g = 0 := h2
    omega, h1⟩
def Gr (t f g : Int) (k : Nat) : Prop := (runN t k f g).natAbs < (runN t (k + 1) f g).natAbs
theorem grow (ht : 3 ≤ t.natAbs) {k : Nat} (h : Gr t f g k) : Gr t f g (k + 1) ∧ 2 * (runN t (k + 1) f g).natAbs ≤ (runN t (k + 2) f g).natAbs := by
  have h1 := abs_step (t := t) (x := runN t (k + 1) f g) (y := runN t k f g) ht
  rw [← u_rec] at h1
  unfold Gr at h ⊢
  rw [show k + 1 + 1 = k + 2 from rfl]
  omega
theorem grow_on (ht : 3 ≤ t.natAbs) {k : Nat} (h : Gr t f g k) : ∀ j, Gr t f g (k + j) ∧ (runN t k f g).natAbs ≤ (runN t (k + j) f g).natAbs
  | 0 => ⟨h, Nat.le_refl _⟩
  | j + 1 => by
    obtain ⟨h1, h2⟩ := grow_on ht h j
    refine ⟨(grow ht h1).1, ?_⟩
    have : (runN t (k + j) f g).natAbs < (runN t (k + j + 1) f g).natAbs := h1
    show _ ≤ (runN t (k + j + 1) f g).natAbs
    omega
theorem shrink (ht : 3 ≤ t.natAbs) {k : Nat} (h : ¬ Gr t f g (k + 1)) : 2 * (runN t (k + 1) f g).natAbs ≤ (runN t k f g).natAbs := by
  have h1 := abs_step (t := t) (x := runN t (k + 1) f g) (y := runN t (k + 2) f g) ht
  have e : t * runN t (k + 1) f g - runN t (k + 2) f g = runN t k f g := by
    have := u_rec (t := t) (f := f) (g := g) k; omega
  rw [e] at h1
  have h2 : ¬ (runN t (k + 1) f g).natAbs < (runN t (k + 2) f g).natAbs := h
  omega
/-- how far -/
def Far (t f g : Int) (a k : Nat) : Prop := (¬ Gr t f g k → (runN t k f g).natAbs * 2 ^ k < 2 ^ a) ∧ (Gr t f g k → ∃ q, q ≤ a + 1 ∧ q ≤ k ∧ 2 ^ (k - q) ≤ (runN t (k + 1) f g).natAbs ∧ 2 ^ (k - q) ≤ 2 * (runN t k f g).natAbs + 1)
theorem far_0 {a : Nat} (hf : Bd a f) : Far t f g a 0 := by
  refine ⟨fun _ => by rw [Nat.pow_zero, Nat.mul_one]; exact hf, fun h => ⟨0, by omega, Nat.le_refl _, ?_, by rw [Nat.sub_self, Nat.pow_zero]; omega⟩⟩
  have : (runN t 0 f g).natAbs < (runN t 1 f g).natAbs := h
  show 2 ^ 0 ≤ (runN t 1 f g).natAbs
  rw [Nat.pow_zero]; omega
theorem far_lt (h0 : ¬ (f = 0 ∧ g = 0)) {a k : Nat} (h : Far t f g a k) (hg : ¬ Gr t f g k) : k < a := by
  have h1 := h.1 hg
  have h2 := u_nz h0 (t := t) k
  have h3 : 1 ≤ (runN t k f g).natAbs := by
    unfold Gr at hg
    omega
  have h4 : 1 * 2 ^ k ≤ (runN t k f g).natAbs * 2 ^ k := Nat.mul_le_mul_right _ h3
  have h5 : 2 ^ k < 2 ^ a := by omega
  exact (Nat.pow_lt_pow_iff_right (by decide)).mp h5
theorem far_next (ht : 3 ≤ t.natAbs) (h0 : ¬ (f = 0 ∧ g = 0)) {a k : Nat} (h : Far t f g a k) : Far t f g a (k + 1) := by
  by_cases hg : Gr t f g k
  · obtain ⟨q, q1, q2, q3, q4⟩ := h.2 hg
    obtain ⟨g1, g2⟩ := grow ht hg
    refine ⟨fun c => absurd g1 c, fun _ => ⟨q, q1, by omega, ?_, ?_⟩⟩
    · rw [show k + 1 - q = (k - q) + 1 by omega, Nat.pow_succ]
      show _ ≤ (runN t (k + 2) f g).natAbs
      omega
    · rw [show k + 1 - q = (k - q) + 1 by omega, Nat.pow_succ]
      omega
  · have hlt := far_lt h0 h hg
    refine ⟨fun c => ?_, fun c => ⟨k + 1, by omega, Nat.le_refl _, ?_, by rw [Nat.sub_self, Nat.pow_zero]; omega⟩⟩
    · have h1 := shrink ht c
      have h2 := h.1 hg
      rw [Nat.pow_succ]
      have h3 : (2 * (runN t (k + 1) f g).natAbs) * 2 ^ k ≤ (runN t k f g).natAbs * 2 ^ k := Nat.mul_le_mul_right _ h1
      have e : (runN t (k + 1) f g).natAbs * (2 ^ k * 2) = (2 * (runN t (k + 1) f g).natAbs) * 2 ^ k := by rw [Nat.mul_comm (2 ^ k) 2, ← Nat.mul_assoc, Nat.mul_comm _ 2]
      omega
    · have : (runN t (k + 1) f g).natAbs < (runN t (k + 1 + 1) f g).natAbs := c
      rw [Nat.sub_self, Nat.pow_zero]; omega
/-- a place that is looked at -/
theorem far_most (ht : 3 ≤ t.natAbs) (h0 : ¬ (f = 0 ∧ g = 0)) {a k : Nat} {N : Int} (hN : Bd a N) (h : Far t f g a k) (c : (runN t k f g).natAbs ≤ N.natAbs ∨ ¬ Gr t f g k) : k ≤ 2 * a + 2 := by
  by_cases hg : Gr t f g k
  · rcases c with c | c
    · obtain ⟨q, q1, q2, q3, q4⟩ := h.2 hg
      unfold Bd at hN
      have h5 : 2 ^ (k - q) < 2 ^ (a + 1) := by rw [Nat.pow_succ]; omega
      have := (Nat.pow_lt_pow_iff_right (by decide)).mp h5
      omega
    · exact absurd hg c
  · have := far_lt h0 h hg; omega
theorem far_all (ht : 3 ≤ t.natAbs) (h0 : ¬ (f = 0 ∧ g = 0)) {a : Nat} (hf : Bd a f) : ∀ k, Far t f g a k
  | 0 => far_0 hf
  | k + 1 => far_next ht h0 (far_all ht h0 hf k)
/-- between, nothing is greater -/
theorem path_le (ht : 3 ≤ t.natAbs) : ∀ n k : Nat, k ≤ n → (runN t k f g).natAbs ≤ f.natAbs ∨ (runN t k f g).natAbs ≤ (runN t n f g).natAbs := by
  intro n k hk
  by_cases h : ∃ j, j ≤ k ∧ Gr t f g j
  · obtain ⟨j, hj, hg⟩ := h
    have h1 := (grow_on ht hg (k - j)).1
    rw [show j + (k - j) = k by omega] at h1
    have h2 := (grow_on ht h1 (n - k)).2
    rw [show k + (n - k) = n by omega] at h2
    exact .inr h2
  · left
    have go : ∀ i, i ≤ k → (runN t i f g).natAbs ≤ f.natAbs := by
      intro i
      induction i with
      | zero => intro _; exact Nat.le_refl _
      | succ i ih =>
        intro hi
        have h1 := ih (by omega)
        have h2 : ¬ (runN t i f g).natAbs < (runN t (i + 1) f g).natAbs := fun c => h ⟨i, by omega, c⟩
        omega
    exact go k (Nat.le_refl _)
end
theorem aE_abs2 (t : ATS) (E : AEnds) (a : AS) (h : ∀ E3 : AEnds, (∀ a, E.nx a → E3.nx a) → t E3 a) : t E a := h E (fun _ => id)
def N_far_places : List Str := ["numbers", "number", "first", "second", "step", "found", "place"]
def rs_far_places_1 : ATS := (aPar3 2 3 6 (aCons (aVar 3) (aCons (aBin aSub (aBin aMul (aVar 4) (aVar 3)) (aVar 2)) (aCons (aBin aAdd (aVar 6) (aC (.int 1))) aNil))))
def lc_far_places_2 : ATT := (aOr (aTest (aBin aLe (aCall bAbs (aCons (aVar 2) aNil)) (aCall bAbs (aCons (aVar 1) aNil)))) (aTest (aBin aLe (aCall bAbs (aCons (aVar 3) aNil)) (aCall bAbs (aCons (aVar 2) aNil)))))
def lb_far_places_3 : ATS := (aSeq (aIfS (aTest (aBin aEq (aVar 2) (aVar 1))) (aDrop (aMt mApp (aVar 5) (aCons (aVar 6) aNil))) aNext)
    rs_far_places_1)
def t_far_places : ATS := (aSeq (aAsg (aVar 0) (aGTup 3 (aGCons (aGName 2) (aGCons (aGName 3) (aGCons (aGName 4) aGNil)))))
    (aSeq (aPar 5 6 (aCons (aLstM aNil) (aCons (aC (.int 0)) aNil)))
    (aSeq (aWhile [] lc_far_places_2 lb_far_places_3)
    (aRet (aVar 5)))))
def fn_far_places : AFn := fun avs s Q => ∃ (f g t N : Int) (a b : Nat), avs = [.d (.tuple [.int f, .int g, .int t]), .d (.int N)] ∧ Bd a f ∧ Bd a g ∧ Bd a N ∧ Bd b t ∧ a ≤ 1000 ∧ b ≤ 100 ∧ 3 ≤ t.natAbs ∧ ¬ (f = 0 ∧ g = 0) ∧ ∀ ps : List Int, ps.Pairwise (· < ·) → (∀ n : Int, n ∈ ps ↔ 0 ≤ n ∧ runN t n.toNat f g = N) → (∀ n ∈ ps, n ≤ 2002) → ps.length ≤ 2100 → Q (.d (.list (ps.map .int))) s
theorem h_far_places : ∀ avs s AQ, fn_far_places avs s AQ → t_far_places (endsA AQ) ⟨startA N_far_places avs, ⟨s, []⟩⟩ := by
  rintro _ s AQ ⟨f, g, t, N, a, b, rfl, hf, hg, hN, ht, ha, hb, ht3, h0, hq⟩
  show t_far_places (endsA AQ) ⟨[some (.d (.tuple [.int f, .int g, .int t])), some (.d (.int N)), none, none, none, none, none], ⟨s, []⟩⟩
  have u_bd : ∀ k, k ≤ 2 * a + 4 → Bd 300000 (runN t k f g) := fun k hk => (runN_bd ht k f g hf hg).le (by
    have : k * (b + 1) ≤ 2004 * 101 := Nat.mul_le_mul (by omega) (by omega)
    omega)
  unfold t_far_places
  walk_at "sq"
  walk_at "qs"
  walk_at "nx"
  walk_at "sq"
  walk_at "qs"
  walk_at "nx"
  walk_at "sq"
  rw [aWhile_ap]
  refine ⟨fun x => ∃ (p : Nat) (ps : List Int), x = ⟨[some (.d (.tuple [.int f, .int g, .int t])), some (.d (.int N)), some (.d (.int (runN t p f g))), some (.d (.int (runN t (p + 1) f g))), some (.d (.int t)), some (.o 0), some (.d (.int (p : Int)))], ⟨s, [.l (ps.map .int)]⟩⟩ ∧ p ≤ 2 * a + 3 ∧ ps.length ≤ p ∧ ps.Pairwise (· < ·) ∧ (∀ n : Int, n ∈ ps ↔ 0 ≤ n ∧ n < p ∧ runN t n.toNat f g = N) ∧ ∀ n ∈ ps, n ≤ 2002,
    fun x => match x.g with | [_, _, _, _, _, _, some (.d (.int p))] => (2 * (a : Int) + 4 - p).toNat | _ => 0, ⟨0, [], by simp [clr]; exact ⟨rfl, rfl⟩, by omega, Nat.le_refl _, .nil, fun n => ⟨(fun h => nomatch h), fun h => by omega⟩, fun n h => nomatch h⟩, ?_⟩
  rintro _ ⟨p, ps, rfl, hp, hlen, hso, hmem, hsm⟩
  have hfar := far_all ht3 h0 hf p
  have b1 := u_bd (p + 1) (by omega)
  have eab : ∀ x : Int, (if x < 0 then -x else x) = (x.natAbs : Int) := fun x => by split <;> omega
  unfold lc_far_places_2
  walk_at "qs"
  rw [eab, eab, eab]
  have body : ∀ (_ : (runN t p f g).natAbs ≤ N.natAbs ∨ ¬ Gr t f g p) (E3 : AEnds), (∀ (p' : Nat) (ps' : List Int), p' = p + 1 → (ps'.length ≤ p' ∧ ps'.Pairwise (· < ·) ∧ (∀ n : Int, n ∈ ps' ↔ 0 ≤ n ∧ n < p' ∧ runN t n.toNat f g = N) ∧ ∀ n ∈ ps', n ≤ 2002) → E3.nx ⟨[some (.d (.tuple [.int f, .int g, .int t])), some (.d (.int N)), some (.d (.int (runN t p' f g))), some (.d (.int (runN t (p' + 1) f g))), some (.d (.int t)), some (.o 0), some (.d (.int (p' : Int)))], ⟨s, [.l (ps'.map .int)]⟩⟩) →
      lb_far_places_3 E3 ⟨[some (.d (.tuple [.int f, .int g, .int t])), some (.d (.int N)), some (.d (.int (runN t p f g))), some (.d (.int (runN t (p + 1) f g))), some (.d (.int t)), some (.o 0), some (.d (.int (p : Int)))], ⟨s, [.l (ps.map .int)]⟩⟩ := by
    intro cc E3 hE
    have hp2 := far_most ht3 h0 hN hfar cc
    have er := u_rec (t := t) (f := f) (g := g) p
    have e1 : ((p : Int) + 1) = ((p + 1 : Nat) : Int) := by omega
    unfold lb_far_places_3
    walk_at "sq"
    walk_at "qs"
    by_cases c : runN t p f g = N
    · rw [if_pos c]
      have fin := hE (p + 1) (ps ++ [(p : Int)]) rfl ⟨by rw [List.length_append]; simp; omega, by
        refine List.pairwise_append.mpr ⟨hso, by simp, fun x hx y hy => ?_⟩
        rw [List.mem_singleton.mp hy]
        exact ((hmem x).mp hx).2.1, fun n => by
        rw [List.mem_append, hmem, List.mem_singleton]
        constructor
        · rintro (⟨h1, h2, h3⟩ | rfl)
          · exact ⟨h1, by omega, h3⟩
          · exact ⟨by omega, by omega, by simpa using c⟩
        · rintro ⟨h1, h2, h3⟩
          rcases (by omega : n < p ∨ n = p) with h | h
          · exact .inl ⟨h1, h, h3⟩
          · exact .inr h, fun n hn => by
        rcases List.mem_append.mp hn with hn | hn
        · exact hsm n hn
        · rw [List.mem_singleton.mp hn]; omega⟩
      rw [show p + 1 + 1 = p + 2 from rfl, er, List.map_append, ← e1] at fin
      refine ⟨by rw [List.length_map]; omega, ?_⟩
      walk_at "nx"
      unfold rs_far_places_1
      generalize runN t p f g = u0 at *
      generalize runN t (p + 1) f g = u1 at *
      walk_at "qs"
      exact ⟨MulOk.bd ht b1 (by omega), fin⟩
    · rw [if_neg c]
      have fin := hE (p + 1) ps rfl ⟨by omega, hso, fun n => by
        rw [hmem]
        constructor
        · rintro ⟨h1, h2, h3⟩
          exact ⟨h1, by omega, h3⟩
        · rintro ⟨h1, h2, h3⟩
          rcases (by omega : n < p ∨ n = p) with h | h
          · exact ⟨h1, h, h3⟩
          · subst h
            exact absurd (by simpa using h3) c, hsm⟩
      rw [show p + 1 + 1 = p + 2 from rfl, er, ← e1] at fin
      walk_at "nx"
      unfold rs_far_places_1
      generalize runN t p f g = u0 at *
      generalize runN t (p + 1) f g = u1 at *
      walk_at "qs"
      exact ⟨MulOk.bd ht b1 (by omega), fin⟩
  have step : ∀ (cc : (runN t p f g).natAbs ≤ N.natAbs ∨ ¬ Gr t f g p), p ≤ 2 * a + 2 := fun cc => far_most ht3 h0 hN hfar cc
  have done : ¬ (runN t p f g).natAbs ≤ N.natAbs → Gr t f g p → ∀ n : Int, n ∈ ps ↔ 0 ≤ n ∧ runN t n.toNat f g = N := by
    intro c1 c2 n
    rw [hmem]
    refine ⟨fun ⟨h1, _, h3⟩ => ⟨h1, h3⟩, fun ⟨h1, h3⟩ => ⟨h1, ?_, h3⟩⟩
    rcases Int.lt_or_le n p with h | h
    · exact h
    · have h2 := (grow_on ht3 c2 (n.toNat - p)).2
      rw [show p + (n.toNat - p) = n.toNat by omega, h3] at h2
      exact absurd h2 c1
  by_cases c1 : (runN t p f g).natAbs ≤ N.natAbs
  · rw [if_pos (by omega)]
    refine aE_abs2 _ _ _ (fun E3 hn => body (.inl c1) E3 (fun p' ps' e h => hn _ ?_))
    subst e
    have := step (.inl c1)
    walk_at "qs"
    exact ⟨⟨p + 1, ps', rfl, by omega, h⟩, by show (2 * (a : Int) + 4 - ((p + 1 : Nat) : Int)).toNat < (2 * (a : Int) + 4 - p).toNat; omega⟩
  · rw [if_neg (by omega)]
    walk_at "qs"
    by_cases c2 : Gr t f g p
    · have c2' : (runN t p f g).natAbs < (runN t (p + 1) f g).natAbs := c2
      rw [if_neg (by omega)]
      walk_at "nx"
      walk_at "qs"
      exact hq ps hso (done c1 c2) hsm (by omega)
    · have c2' : ¬ (runN t p f g).natAbs < (runN t (p + 1) f g).natAbs := c2
      rw [if_pos (by omega)]
      refine aE_abs2 _ _ _ (fun E3 hn => body (.inr c2) E3 (fun p' ps' e h => hn _ ?_))
      subst e
      have := step (.inr c2)
      walk_at "qs"
      exact ⟨⟨p + 1, ps', rfl, by omega, h⟩, by show (2 * (a : Int) + 4 - ((p + 1 : Nat) : Int)).toNat < (2 * (a : Int) + 4 - p).toNat; omega⟩
def N_line_when : List Str := ["first", "rise", "number", "left"]
def t_line_when : ATS := (aSeq (aSet 3 (aBin aSub (aVar 2) (aVar 0)))
    (aRet (aIf (aTest (aBin aEq (aBin aModN (aVar 3) (aVar 1)) (aC (.int 0)))) (aLst (aCons (aBin aFdivN (aVar 3) (aVar 1)) aNil)) (aLst aNil))))
def fn_line_when : AFn := fun avs s Q => ∃ f r N : Int, avs = [.d (.int f), .d (.int r), .d (.int N)] ∧ r ≠ 0 ∧ Bd 3000 r ∧ ∀ L : List Int, L.length ≤ 1 → (∀ n, n ∈ L ↔ f + r * n = N) → Q (.d (.list (L.map .int))) s
theorem h_line_when : ∀ avs s AQ, fn_line_when avs s AQ → t_line_when (endsA AQ) ⟨startA N_line_when avs, ⟨s, []⟩⟩ := by
  rintro _ s AQ ⟨f, r, N, rfl, hr, hb, hq⟩
  show t_line_when (endsA AQ) ⟨[some (.d (.int f)), some (.d (.int r)), some (.d (.int N)), none], ⟨s, []⟩⟩
  have hdiv : DivN (N - f) r := by
    refine ⟨hr, ?_⟩
    have := (Nat.log2_lt (show r.natAbs ≠ 0 by omega)).mpr hb
    omega
  have key : r * (N - f).fdiv r + (N - f).fmod r = N - f := Int.mul_fdiv_add_fmod (N - f) r
  unfold t_line_when
  walk_at "sq"
  walk_at "qs"
  walk_at "nx"
  walk_at "qs"
  refine ⟨hr, ?_⟩
  by_cases c : (N - f).fmod r = 0
  · rw [if_pos c]
    refine ⟨hdiv, ?_⟩
    have h := hq [(N - f).fdiv r] (by simp) (fun n => by
      rw [List.mem_singleton]
      rw [c, Int.add_zero] at key
      constructor
      · rintro rfl; omega
      · intro h
        have : r * n = r * (N - f).fdiv r := by omega
        exact Int.eq_of_mul_eq_mul_left hr this)
    exact h
  · rw [if_neg c]
    have h := hq [] (by simp) (fun n => ⟨(fun h => nomatch h), fun h => by
      refine absurd ?_ c
      rw [show N - f = r * n by omega]
      exact Int.mul_fmod_right r n⟩)
    exact h
def N_lines_when : List Str := ["numbers", "number", "first", "second", "step", "sign", "rise", "due", "found", "place"]
def lt_lines_when_1 : ATT := (aTest (aBin aEq (aVar 2) (aBin aIx (aVar 7) (aVar 9))))
def le_lines_when_2 : ATE := (aVar 9)
def lt_lines_when_3 : ATT := (aTest (aBin aEq (aBin aMod (aVar 9) (aC (.int 2))) (aC (.int 0))))
def lt_lines_when_4 : ATT := (aTest (aBin aEq (aBin aMod (aVar 9) (aC (.int 2))) (aC (.int 1))))
def t_lines_when : ATS := (aSeq (aAsg (aVar 0) (aGTup 3 (aGCons (aGName 2) (aGCons (aGName 3) (aGCons (aGName 4) aGNil)))))
    (aSeq (aSet 5 (aBin aFdiv (aVar 4) (aC (.int 2))))
    (aSeq (aSet 6 (aBin aSub (aBin aMul (aVar 3) (aVar 5)) (aVar 2)))
    (aSeq (aSet 7 (aLst (aCons (aVar 1) (aCons (aBin aMul (aVar 1) (aVar 5)) aNil))))
    (aSeq (aIfS (aTest (aBin aEq (aVar 6) (aC (.int 0)))) (aRet (aFn 2 fn_round_told (aCons (aC (.int 2)) (aCons (aLc (aItT (aTup (aCons (aC (.int 0)) (aCons (aC (.int 1)) aNil)))) (aGName 9) lt_lines_when_1 le_lines_when_2 [9]) aNil)))) aNext)
    (aSeq (aSet 8 (aLcM (aItL (aFn 3 fn_line_when (aCons (aVar 2) (aCons (aVar 6) (aCons (aBin aIx (aVar 7) (aC (.int 0))) aNil))))) (aGName 9) lt_lines_when_3 le_lines_when_2 [9]))
    (aSeq (aDrop (aMt mExt (aVar 8) (aCons (aLc (aItL (aFn 3 fn_line_when (aCons (aVar 2) (aCons (aVar 6) (aCons (aBin aIx (aVar 7) (aC (.int 1))) aNil))))) (aGName 9) lt_lines_when_4 le_lines_when_2 [9]) aNil)))
    (aRet (aTup (aCons (aC (.str "these")) (aCons (aCall bTuple (aCons (aCall bSorted (aCons (aVar 8) aNil)) aNil)) aNil)))))))))))
def riseI (f g t : Int) : Int := g * (t / 2) - f
def sgI (t n : Int) : Int := if t = 2 ∨ n % 2 = 0 then 1 else -1
theorem line_run {t : Int} (ht : t = 2 ∨ t = -2) (f g n : Int) : runZ f g t n = sgI t n * (f + riseI f g t * n) := by
  rcases ht with rfl | rfl
  · rw [line_2, sgI, if_pos (.inl rfl), riseI, show (2 : Int) / 2 = 1 from rfl, Int.mul_one, Int.one_mul]
  · rw [line_m2, riseI, show (-2 : Int) / 2 = -1 from rfl]
    congr 1
    unfold sgnE sgI
    by_cases c : n % 2 = 0 <;> simp [c]
theorem sg_sq (t n : Int) : sgI t n * sgI t n = 1 := by unfold sgI; split <;> rfl
theorem line_iff {t : Int} (ht : t = 2 ∨ t = -2) (f g n N : Int) : runZ f g t n = N ↔ f + riseI f g t * n = N * sgI t n := by
  rw [line_run ht]
  have h := sg_sq t n
  generalize f + riseI f g t * n = x at *
  have e : sgI t n = 1 ∨ sgI t n = -1 := by unfold sgI; split <;> simp
  rcases e with e | e <;> rw [e] <;> omega
/-- places of a run that doesn't rise -/
def plcs2 (f g t N : Int) : List Int := [0, 1].filter fun p => decide (f = if p = 0 then N else N * (t / 2))
inductive LineS (f g t N : Int) : Tw → Prop
  | flat (h : riseI f g t = 0) : LineS f g t N (rtF 2 (plcs2 f g t N))
  | rise (ps : List Int) (h : riseI f g t ≠ 0) (hs : ps.Pairwise (· < ·)) (hm : ∀ n, n ∈ ps ↔ runZ f g t n = N) : LineS f g t N (.these ps)
def fn_lines_when : AFn := fun avs s Q => ∃ (f g t N : Int) (a : Nat), avs = [.d (.tuple [.int f, .int g, .int t]), .d (.int N)] ∧ (t = 2 ∨ t = -2) ∧ Bd a f ∧ Bd a g ∧ a ≤ 2000 ∧ ∀ w, LineS f g t N w → Q (.d (twD w)) s
theorem h_lines_when : ∀ avs s AQ, fn_lines_when avs s AQ → t_lines_when (endsA AQ) ⟨startA N_lines_when avs, ⟨s, []⟩⟩ := by
  rintro _ s AQ ⟨f, g, t, N, a, rfl, ht, hf, hg, ha, hq⟩
  show t_lines_when (endsA AQ) ⟨[some (.d (.tuple [.int f, .int g, .int t])), some (.d (.int N)), none, none, none, none, none, none, none, none], ⟨s, []⟩⟩
  have t2 : t / 2 = 1 ∨ t / 2 = -1 := by rcases ht with rfl | rfl <;> simp
  have bs : Bd 8 (t / 2) := by rcases t2 with e | e <;> rw [e] <;> exact Bd.lit
  have br : Bd 3000 (riseI f g t) := ((hg.mul bs).sub' hf).le (by omega)
  unfold t_lines_when
  walk_at "sq"
  walk_at "qs"
  walk_at "nx"
  walk_at "sq"
  walk_at "qs"
  refine ⟨.inl ⟨by decide, by decide⟩, ?_⟩
  walk_at "nx"
  walk_at "sq"
  walk_at "qs"
  refine ⟨MulOk.r (by omega) (by omega), ?_⟩
  rw [show g * (t / 2) - f = riseI f g t from rfl]
  walk_at "nx"
  walk_at "sq"
  walk_at "qs"
  refine ⟨MulOk.r (by omega) (by omega), ?_⟩
  walk_at "nx"
  walk_at "sq"
  walk_at "qs"
  by_cases c : riseI f g t = 0
  · rw [if_pos c]
    rw [show [PyData.int 0, .int 1] = [0, 1].map PyData.int from rfl]
    refine aLcL_map PyData.int (fun p => decide (f = if p = 0 then N else N * (t / 2))) (fun p => .int p) (fun p hp K hK => ?_) ?_
    · simp only [List.mem_cons, List.not_mem_nil, or_false] at hp
      unfold stepC lt_lines_when_1 le_lines_when_2
      rcases hp with rfl | rfl
      · walk_at "qs"
        simp only [if_true] at hK
        by_cases e : f = N
        · rw [if_pos e]; simpa [e] using hK
        · rw [if_neg e]; simpa [e] using hK
      · walk_at "qs"
        rw [show (if (1 : Int) = 0 then N else N * (t / 2)) = N * (t / 2) from rfl] at hK
        by_cases e : f = N * (t / 2)
        · rw [if_pos e]
          rw [decide_eq_true e] at hK
          exact hK
        · rw [if_neg e]
          rw [decide_eq_false e] at hK
          exact hK
    · rw [show [0, 1].filter (fun p => decide (f = if p = 0 then N else N * (t / 2))) = plcs2 f g t N from rfl]
      rw [show (fun p => PyData.int p) = PyData.int from rfl]
      refine ⟨2, plcs2 f g t N, rfl, by decide, by decide, Nat.le_trans (List.length_filter_le _ _) (by decide), ?_⟩
      rw [hR2]
      exact hq _ (.flat c)
  · rw [if_neg c]
    walk_at "nx"
    walk_at "sq"
    walk_at "qs"
    refine ⟨f, riseI f g t, N, rfl, c, br, fun L hL1 hL2 => ?_⟩
    walk_at "qs"
    refine ⟨by rw [List.length_map]; omega, ?_⟩
    refine aLcL_map PyData.int (fun p => decide (p % 2 = 0)) (fun p => .int p) (fun p hp K hK => ?_) ?_
    · unfold stepC lt_lines_when_3 le_lines_when_2
      walk_at "qs"
      refine ⟨by decide, ?_⟩
      by_cases e : p % 2 = 0
      · rw [if_pos e]
        rw [decide_eq_true e] at hK
        exact hK
      · rw [if_neg e]
        rw [decide_eq_false e] at hK
        exact hK
    rw [show (fun p => PyData.int p) = PyData.int from rfl]
    walk_at "nx"
    walk_at "sq"
    walk_at "qs"
    refine ⟨f, riseI f g t, N * (t / 2), rfl, c, br, fun M hM1 hM2 => ?_⟩
    walk_at "qs"
    refine ⟨by rw [List.length_map]; omega, ?_⟩
    refine aLcL_map PyData.int (fun p => decide (p % 2 = 1)) (fun p => .int p) (fun p hp K hK => ?_) ?_
    · unfold stepC lt_lines_when_4 le_lines_when_2
      walk_at "qs"
      refine ⟨by decide, ?_⟩
      by_cases e : p % 2 = 1
      · rw [if_pos e]
        rw [decide_eq_true e] at hK
        exact hK
      · rw [if_neg e]
        rw [decide_eq_false e] at hK
        exact hK
    rw [show (fun p => PyData.int p) = PyData.int from rfl]
    have lA := List.length_filter_le (fun p => decide (p % 2 = 0)) L
    have lB := List.length_filter_le (fun p => decide (p % 2 = 1)) M
    generalize eA : L.filter (fun p => decide (p % 2 = 0)) = A at *
    generalize eB : M.filter (fun p => decide (p % 2 = 1)) = B at *
    have mA : ∀ n, n ∈ A ↔ (f + riseI f g t * n = N ∧ n % 2 = 0) := fun n => by rw [← eA, List.mem_filter, hL2]; simp
    have mB : ∀ n, n ∈ B ↔ (f + riseI f g t * n = N * (t / 2) ∧ n % 2 = 1) := fun n => by rw [← eB, List.mem_filter, hM2]; simp
    have one : ∀ X : List Int, X.length ≤ 1 → X.Nodup := fun X h => by
      match X, h with
      | [], _ => exact .nil
      | [x], _ => simp
    have nd : (A ++ B).Nodup := List.nodup_append.mpr ⟨one A (by omega), one B (by omega), fun x hx y hy q => by
      have h1 := ((mA x).mp hx).2
      have h2 := ((mB y).mp hy).2
      omega⟩
    walk_at "qs"
    refine ⟨by rw [List.length_map, List.length_map]; omega, ?_⟩
    rw [← List.map_append]
    walk_at "nx"
    walk_at "qs"
    rw [intsD_map]
    intro ns' hp hs
    have hw : LineS f g t N (.these ns') := .rise ns' c (by
      have nd' : ns'.Nodup := hp.nodup_iff.mpr nd
      exact List.Pairwise.imp (fun {a b} h => by
        obtain ⟨h1, h2⟩ := h
        omega) (List.Pairwise.and hs nd')) (fun n => by
      rw [hp.mem_iff, List.mem_append, mA, mB, line_iff ht]
      rcases t2 with e | e
      · have et : t = 2 := by rcases ht with rfl | rfl <;> simp at e ⊢
        have es : sgI t n = 1 := by unfold sgI; rw [if_pos (.inl et)]
        rw [e, es, Int.mul_one]
        constructor
        · rintro (h | h) <;> exact h.1
        · intro h
          rcases (by omega : n % 2 = 0 ∨ n % 2 = 1) with g1 | g1
          · exact .inl ⟨h, g1⟩
          · exact .inr ⟨h, g1⟩
      · have et : t = -2 := by rcases ht with rfl | rfl <;> simp at e ⊢
        rw [e]
        rcases (by omega : n % 2 = 0 ∨ n % 2 = 1) with g1 | g1
        · have es : sgI t n = 1 := by unfold sgI; rw [if_pos (.inr g1)]
          rw [es, Int.mul_one]
          constructor
          · rintro (h | h)
            · exact h.1
            · omega
          · intro h; exact .inl ⟨h, g1⟩
        · have es : sgI t n = -1 := by unfold sgI; rw [if_neg (by omega)]
          rw [es]
          constructor
          · rintro (h | h)
            · omega
            · exact h.1
          · intro h; exact .inr ⟨h, g1⟩)
    exact hq _ hw
def N_numbers_when : List Str := ["numbers", "number", "first", "second", "step", "row", "back", "place", "one"]
def lt_numbers_when_1 : ATT := (aTest (aBin aEq (aVar 8) (aVar 1)))
def le_numbers_when_2 : ATE := (aVar 7)
def lt_numbers_when_3 : ATT := (aTest (aBin aGt (aVar 7) (aC (.int 0))))
def le_numbers_when_4 : ATE := (aUn aNeg (aVar 7))
def t_numbers_when : ATS := (aSeq (aAsg (aVar 0) (aGTup 3 (aGCons (aGName 2) (aGCons (aGName 3) (aGCons (aGName 4) aGNil)))))
    (aSeq (aIfS (aTest (aKinI tabRounds (aVar 4))) (aSeq (aSet 5 (aFn 1 fn_round_numbers (aCons (aVar 0) aNil)))
    (aRet (aFn 2 fn_round_told (aCons (aCall bLen (aCons (aVar 5) aNil)) (aCons (aLc (aEnum (aCons (aVar 5) aNil)) (aGTup 2 (aGCons (aGName 7) (aGCons (aGName 8) aGNil))) lt_numbers_when_1 le_numbers_when_2 [7, 8]) aNil))))) aNext)
    (aSeq (aIfS (aTest (aBin aEq (aCall bAbs (aCons (aVar 4) aNil)) (aC (.int 2)))) (aRet (aFn 2 fn_lines_when (aCons (aVar 0) (aCons (aVar 1) aNil)))) aNext)
    (aSeq (aIfS (aAnd (aTest (aBin aEq (aVar 2) (aC (.int 0)))) (aTest (aBin aEq (aVar 3) (aC (.int 0))))) (aRet (aFn 2 fn_round_told (aCons (aC (.int 1)) (aCons (aIf (aTest (aBin aEq (aVar 1) (aC (.int 0)))) (aLst (aCons (aC (.int 0)) aNil)) (aLst aNil)) aNil)))) aNext)
    (aSeq (aSet 6 (aLc (aItL (aFn 2 fn_far_places (aCons (aFn 1 fn_numbers_back (aCons (aVar 0) aNil)) (aCons (aVar 1) aNil)))) (aGName 7) lt_numbers_when_3 le_numbers_when_4 [7]))
    (aRet (aTup (aCons (aC (.str "these")) (aCons (aCall bTuple (aCons (aBin aAdd (aRev (aVar 6)) (aFn 2 fn_far_places (aCons (aVar 0) (aCons (aVar 1) aNil)))) aNil)) aNil)))))))))
def enumI (row : List Int) : List (Int × Int) := (List.range row.length).zipWith (fun (i : Nat) x => ((i : Int), x)) row
def pairI (p : Int × Int) : D := .tuple [.int p.1, .int p.2]
theorem enum_I (row : List Int) : enumD (row.map .int) = (enumI row).map pairI := by
  unfold enumD enumI
  rw [List.length_map, List.map_zipWith, List.zipWith_map_right]
  rfl
def plcs (row : List Int) (N : Int) : List Int := ((enumI row).filter fun p => decide (p.2 = N)).map (·.1)
theorem plcs_len (row : List Int) (N : Int) : (plcs row N).length ≤ row.length := by
  unfold plcs
  rw [List.length_map]
  refine Nat.le_trans (List.length_filter_le _ _) ?_
  unfold enumI
  simp
inductive WhenS (f g t N : Int) : Tw → Prop
  | rnd (h : t = 1 ∨ t = 0 ∨ t = -1) : WhenS f g t N (rtF (rndL t f g).length (plcs (rndL t f g) N))
  | line (h : t = 2 ∨ t = -2) (w : Tw) (hw : LineS f g t N w) : WhenS f g t N w
  | zero (h : f = 0 ∧ g = 0) : WhenS f g t N (rtF 1 (if N = 0 then [0] else []))
  | far (h : 3 ≤ t.natAbs) (ps : List Int) (hs : ps.Pairwise (· < ·)) (hm : ∀ n, n ∈ ps ↔ runZ f g t n = N) (hb : ∀ n ∈ ps, n.natAbs ≤ 2002) : WhenS f g t N (.these ps)
theorem far_join {f g t N : Int} {ps qs : List Int} (hs : ps.Pairwise (· < ·)) (hm : ∀ n : Int, n ∈ ps ↔ 0 ≤ n ∧ runN t n.toNat f g = N) (hb : ∀ n ∈ ps, n ≤ 2002)
    (hs' : qs.Pairwise (· < ·)) (hm' : ∀ n : Int, n ∈ qs ↔ 0 ≤ n ∧ runN t n.toNat f (t * f - g) = N) (hb' : ∀ n ∈ qs, n ≤ 2002) (ht : 3 ≤ t.natAbs) :
    WhenS f g t N (.these (((qs.filter fun p => decide (0 < p)).map fun p => -p).reverse ++ ps)) := by
  have mb : ∀ n : Int, n ∈ ((qs.filter fun p => decide (0 < p)).map fun p => -p).reverse ↔ (n < 0 ∧ runN t (-n).toNat f (t * f - g) = N) := by
    intro n
    rw [List.mem_reverse, List.mem_map]
    constructor
    · rintro ⟨p, hp, rfl⟩
      obtain ⟨h1, h2⟩ := List.mem_filter.mp hp
      have h3 : 0 < p := by simpa using h2
      have h4 := ((hm' p).mp h1).2
      exact ⟨by omega, by rw [Int.neg_neg]; exact h4⟩
    · rintro ⟨h1, h2⟩
      exact ⟨-n, List.mem_filter.mpr ⟨(hm' _).mpr ⟨by omega, h2⟩, by simp; omega⟩, by omega⟩
  refine .far ht _ ?_ (fun n => ?_) (fun n hn => ?_)
  · refine List.pairwise_append.mpr ⟨?_, hs, fun x hx y hy => ?_⟩
    · rw [List.pairwise_reverse, List.pairwise_map]
      exact (hs'.filter _).imp fun {a b} h => by omega
    · have h1 := ((mb x).mp hx).1
      have h2 := ((hm y).mp hy).1
      omega
  · rw [List.mem_append, mb, hm]
    unfold runZ
    by_cases c : n < 0
    · rw [if_pos c, show (-n).toNat = n.natAbs by omega]
      constructor
      · rintro (h | h)
        · exact h.2
        · omega
      · intro h; exact .inl ⟨c, h⟩
    · rw [if_neg c, show n.toNat = n.natAbs by omega]
      constructor
      · rintro (h | h)
        · omega
        · exact h.2
      · intro h; exact .inr ⟨by omega, h⟩
  · rcases List.mem_append.mp hn with h | h
    · rw [List.mem_reverse, List.mem_map] at h
      obtain ⟨p, hp, rfl⟩ := h
      have h1 := (List.mem_filter.mp hp).1
      have h2 := hb' p h1
      have h3 := ((hm' p).mp h1).1
      omega
    · have h2 := hb n h
      have h3 := ((hm n).mp h).1
      omega
def fn_numbers_when : AFn := fun avs s Q => ∃ (f g t N : Int) (a b : Nat), avs = [.d (.tuple [.int f, .int g, .int t]), .d (.int N)] ∧ Bd a f ∧ Bd a g ∧ Bd a N ∧ Bd b t ∧ a ≤ 890 ∧ b ≤ 100 ∧ ∀ w, WhenS f g t N w → Q (.d (twD w)) s
theorem h_numbers_when : ∀ avs s AQ, fn_numbers_when avs s AQ → t_numbers_when (endsA AQ) ⟨startA N_numbers_when avs, ⟨s, []⟩⟩ := by
  rintro _ s AQ ⟨f, g, t, N, a, b, rfl, hf, hg, hN, ht, ha, hb, hq⟩
  show t_numbers_when (endsA AQ) ⟨[some (.d (.tuple [.int f, .int g, .int t])), some (.d (.int N)), none, none, none, none, none, none, none], ⟨s, []⟩⟩
  unfold t_numbers_when
  walk_at "sq"
  walk_at "qs"
  walk_at "nx"
  walk_at "sq"
  walk_at "qs"
  by_cases c1 : t = 1 ∨ t = 0 ∨ t = -1
  · rw [tab_at c1, Option.isSome_some]
    walk_at "qs"
    have hlen : 1 ≤ (rndL t f g).length ∧ (rndL t f g).length ≤ 6 := by rcases c1 with rfl | rfl | rfl <;> simp [rndL]
    have fin := hq _ (.rnd c1)
    refine ⟨f, g, t, rfl, c1, ?_⟩
    walk_at "qs"
    rw [enum_I]
    have le : (enumI (rndL t f g)).length = (rndL t f g).length := by unfold enumI; simp
    refine ⟨by rw [List.length_map, le]; omega, ?_⟩
    refine aLcL_map pairI (fun p => decide (p.2 = N)) (fun p => .int p.1) (fun p hp K hK => ?_) ?_
    · unfold stepC lt_numbers_when_1 le_numbers_when_2 pairI
      walk_at "qs"
      by_cases e : p.2 = N
      · rw [if_pos e]
        rw [decide_eq_true e] at hK
        exact hK
      · rw [if_neg e]
        rw [decide_eq_false e] at hK
        exact hK
    have ep : ((enumI (rndL t f g)).filter fun p => decide (p.2 = N)).map (fun p => PyData.int p.1) = (plcs (rndL t f g) N).map PyData.int := by unfold plcs; rw [List.map_map]; rfl
    rw [ep, List.length_map]
    refine ⟨(rndL t f g).length, plcs (rndL t f g) N, rfl, hlen.1, hlen.2, Nat.le_trans (plcs_len (rndL t f g) N) hlen.2, ?_⟩
    rw [hR2]
    exact fin
  · rw [tab_no c1, Option.isSome_none]
    walk_at "qs"
    walk_at "nx"
    walk_at "sq"
    walk_at "qs"
    by_cases c2 : t = 2 ∨ t = -2
    · rw [if_pos (by rcases c2 with rfl | rfl <;> decide)]
      refine ⟨f, g, t, N, a, rfl, c2, hf, hg, by omega, fun w hw => ?_⟩
      rw [hR2]
      exact hq w (.line c2 w hw)
    · rw [if_neg (by split <;> omega)]
      have ht3 : 3 ≤ t.natAbs := by omega
      walk_at "nx"
      walk_at "sq"
      have go : ¬ (f = 0 ∧ g = 0) → E2.nx ⟨[some (.d (.tuple [.int f, .int g, .int t])), some (.d (.int N)), some (.d (.int f)), some (.d (.int g)), some (.d (.int t)), none, none, none, none], ⟨s, []⟩⟩ := by
        intro h0
        walk_at "nx"
        walk_at "sq"
        walk_at "qs"
        refine ⟨f, g, t, a, b, rfl, hf, ht, by omega, ?_⟩
        have hs := ((ht.mul hf).sub' hg).le (show max (b + a) a + 1 ≤ a + b + 1 by omega)
        have h0' : ¬ (f = 0 ∧ t * f - g = 0) := fun ⟨e1, e2⟩ => h0 ⟨e1, by rw [e1] at e2; omega⟩
        refine ⟨rfl, f, t * f - g, t, N, a + b + 1, b, rfl, hf.le (by omega), hs, hN.le (by omega), ht, by omega, hb, ht3, h0', fun qs q1 q2 q3 q4 => ?_⟩
        walk_at "qs"
        refine ⟨by rw [List.length_map]; omega, ?_⟩
        refine aLcL_map PyData.int (fun p => decide (0 < p)) (fun p => .int (-p)) (fun p hp K hK => ?_) ?_
        · unfold stepC lt_numbers_when_3 le_numbers_when_4
          walk_at "qs"
          by_cases e : 0 < p
          · rw [if_pos e]
            rw [decide_eq_true e] at hK
            exact hK
          · rw [if_neg e]
            rw [decide_eq_false e] at hK
            exact hK
        walk_at "nx"
        walk_at "qs"
        refine ⟨f, g, t, N, a, b, rfl, hf, hg, hN, ht, by omega, hb, ht3, h0, fun ps p1 p2 p3 p4 => ?_⟩
        have fin := hq _ (far_join p1 p2 p3 q1 q2 q3 ht3)
        have lq := List.length_filter_le (fun p => decide (0 < p)) qs
        walk_at "qs"
        refine ⟨by rw [List.length_reverse, List.length_map, List.length_map, sizeLine_eq]; omega, ?_⟩
        have e : ((qs.filter fun p => decide (0 < p)).map fun p => PyData.int (-p)).reverse ++ ps.map PyData.int = (((qs.filter fun p => decide (0 < p)).map fun p => -p).reverse ++ ps).map PyData.int := by
          rw [List.map_append, List.map_reverse, List.map_map]; rfl
        rw [e]
        exact fin
      walk_at "qs"
      by_cases c3 : f = 0
      · rw [if_pos c3]
        walk_at "qs"
        by_cases c4 : g = 0
        · rw [if_pos c4]
          have fin := hq _ (.zero ⟨c3, c4⟩)
          by_cases c5 : N = 0
          · rw [if_pos c5]
            rw [if_pos c5] at fin
            refine ⟨1, [0], rfl, by decide, by decide, by decide, ?_⟩
            rw [hR2]; exact fin
          · rw [if_neg c5]
            rw [if_neg c5] at fin
            refine ⟨1, [], rfl, by decide, by decide, by decide, ?_⟩
            rw [hR2]; exact fin
        · rw [if_neg c4]; exact go (fun q => c4 q.2)
      · rw [if_neg c3]
        walk_at "qs"
        exact go (fun q => c3 q.1)
/-! ### what is told of places -/
def subs : List Int → List (List Int)
  | [] => [[]]
  | a :: r => subs r ++ (subs r).map (a :: ·)
theorem sub_mem {l r : List Int} (h : l.Sublist r) : l ∈ subs r := by
  induction h with
  | slnil => exact List.mem_cons_self
  | cons a _ ih => exact List.mem_append_left _ ih
  | cons_cons a _ ih => exact List.mem_append_right _ (List.mem_map.mpr ⟨_, ih, rfl⟩)
def GoodR (n : Nat) (ps : List Int) (L : Int) (q : List Int) : Prop :=
  (1 ≤ L ∧ L ≤ 6) ∧ (n : Int) % L = 0 ∧ q ≠ [] ∧ q.Pairwise (· < ·) ∧ (∀ p ∈ q, 0 ≤ p ∧ p < L) ∧ (∀ i ∈ rgI n, (i % L ∈ q ↔ i ∈ ps)) ∧ ∀ e ∈ rgI 6, 1 ≤ e → e < L → L % e = 0 → ¬ (q.map fun p => (p + e) % L).Perm q
instance {n : Nat} {ps : List Int} {L : Int} {q : List Int} : Decidable (GoodR n ps L q) := by unfold GoodR; infer_instance
def goodB (n : Nat) (ps : List Int) : Bool := match rtF n ps with
  | .these q => decide (q = []) && decide (ps = [])
  | .round L q => decide (GoodR n ps L q)
theorem good_all : ∀ n ∈ [1, 2, 3, 4, 5, 6], ∀ ps ∈ subs (rgI n), goodB n ps = true := by decide +kernel
theorem rgI_mem {n : Nat} {i : Int} : i ∈ rgI n ↔ 0 ≤ i ∧ i < n := by
  unfold rgI
  rw [List.mem_map]
  constructor
  · rintro ⟨k, hk, rfl⟩
    have := List.mem_range.mp hk
    omega
  · rintro ⟨h1, h2⟩
    exact ⟨i.toNat, List.mem_range.mpr (by omega), by omega⟩
/-- a round's places -/
inductive RoundS (u : Int → Int) (N : Int) : Tw → Prop
  | none (h : ∀ n, u n ≠ N) : RoundS u N (.these [])
  | round (L : Int) (q : List Int) (hL : 1 ≤ L ∧ L ≤ 6) (hq : q ≠ []) (hs : q.Pairwise (· < ·)) (hr : ∀ p ∈ q, 0 ≤ p ∧ p < L) (hm : ∀ n : Int, n % L ∈ q ↔ u n = N)
      (hmin : ∀ e : Int, 1 ≤ e → e < L → L % e = 0 → ¬ (q.map fun p => (p + e) % L).Perm q) : RoundS u N (.round L q)
theorem round_spec {u : Int → Int} {N : Int} {n : Nat} (hn : 1 ≤ n ∧ n ≤ 6) {ps : List Int} (hs : ps.Sublist (rgI n)) (per : ∀ k : Int, k % n ∈ ps ↔ u k = N) : RoundS u N (rtF n ps) := by
  have h := good_all n (by simp; omega) ps (sub_mem hs)
  unfold goodB at h
  split at h
  · rename_i q e
    rw [e]
    simp only [Bool.and_eq_true, decide_eq_true_eq] at h
    obtain ⟨h1, h2⟩ := h
    subst h1; subst h2
    refine .none fun k hk => ?_
    have := (per k).mpr hk
    cases this
  · rename_i L q e
    rw [e]
    have g : GoodR n ps L q := by simpa using h
    obtain ⟨g1, g2, g3, g4, g5, g6, g7⟩ := g
    refine .round L q g1 g3 g4 g5 (fun k => ?_) (fun e h1 h2 h3 => g7 e (rgI_mem.mpr ⟨by omega, by omega⟩) h1 h2 h3)
    have h0 : (0 : Int) < n := by omega
    have hk := g6 (k % n) (rgI_mem.mpr ⟨Int.emod_nonneg _ (by omega), Int.emod_lt_of_pos _ h0⟩)
    rw [per k, Int.emod_emod_of_dvd k (Int.dvd_of_emod_eq_zero g2)] at hk
    exact hk
theorem enum_fst (row : List Int) : (enumI row).map (·.1) = rgI row.length := by
  unfold enumI rgI
  refine List.ext_getElem? fun i => ?_
  simp only [List.getElem?_map, List.getElem?_zipWith]
  by_cases h : i < row.length
  · simp [List.getElem?_range h, List.getElem?_eq_getElem h]
  · have h' : row.length ≤ i := by omega
    simp [List.getElem?_eq_none h', List.getElem?_eq_none (show (List.range row.length).length ≤ i by simpa using h')]
theorem plcs_sub (row : List Int) (N : Int) : (plcs row N).Sublist (rgI row.length) := by
  rw [← enum_fst]
  exact List.filter_sublist.map _
theorem plcs_mem {row : List Int} {N i : Int} (h0 : 0 ≤ i) : i ∈ plcs row N ↔ row[i.toNat]? = some N := by
  unfold plcs enumI
  rw [List.mem_map]
  constructor
  · rintro ⟨p, hp, rfl⟩
    obtain ⟨h1, h2⟩ := List.mem_filter.mp hp
    obtain ⟨k, hk⟩ := List.getElem?_of_mem h1
    rw [List.getElem?_zipWith] at hk
    have h3 : p.2 = N := by simpa using h2
    split at hk
    · rename_i a b ea eb
      have ha : a = k := by
        have := List.getElem?_eq_some_iff.mp ea
        obtain ⟨z, e⟩ := this
        simpa using e.symm
      cases hk
      subst ha
      simp only [] at h3
      simpa [h3] using eb
    · cases hk
  · intro h
    have hlt := (List.getElem?_eq_some_iff.mp h).1
    refine ⟨(i, N), List.mem_filter.mpr ⟨?_, by simp⟩, rfl⟩
    refine List.mem_of_getElem? (i := i.toNat) ?_
    rw [List.getElem?_zipWith, List.getElem?_range hlt, h]
    simp; omega
theorem lenR_pos {t : Int} (c : t = 1 ∨ t = 0 ∨ t = -1) (f g : Int) : ((rndL t f g).length : Int) = lenR t ∧ 1 ≤ (rndL t f g).length ∧ (rndL t f g).length ≤ 6 := by
  rcases c with rfl | rfl | rfl <;> simp [rndL, lenR]
theorem rnd_spec {f g t N : Int} (c : t = 1 ∨ t = 0 ∨ t = -1) : RoundS (fun n => runZ f g t n) N (rtF (rndL t f g).length (plcs (rndL t f g) N)) := by
  obtain ⟨e, h1, h2⟩ := lenR_pos c f g
  refine round_spec ⟨h1, h2⟩ (plcs_sub _ _) fun k => ?_
  have hp : (0 : Int) < lenR t := by omega
  rw [e, plcs_mem (Int.emod_nonneg _ (by omega)), rnd_at c]
  simp
theorem flat_spec {f g t N : Int} (ht : t = 2 ∨ t = -2) (h : riseI f g t = 0) : RoundS (fun n => runZ f g t n) N (rtF 2 (plcs2 f g t N)) := by
  refine round_spec ⟨by decide, by decide⟩ (show (plcs2 f g t N).Sublist [0, 1] from List.filter_sublist) fun k => ?_
  show _ ↔ runZ f g t k = N
  rw [line_iff ht, h, Int.zero_mul, Int.add_zero]
  have e2 : ((2 : Nat) : Int) = 2 := rfl
  rw [e2]
  unfold plcs2
  rw [List.mem_filter]
  rcases (by omega : k % 2 = 0 ∨ k % 2 = 1) with g1 | g1
  · have es : sgI t k = 1 := by unfold sgI; rw [if_pos (.inr g1)]
    rw [g1, es]; simp
  · rw [g1]
    have es : sgI t k = t / 2 := by
      unfold sgI
      rcases ht with rfl | rfl
      · simp
      · rw [if_neg (by omega)]; rfl
    rw [es]; simp
theorem zero_spec {f g t N : Int} (h : f = 0 ∧ g = 0) : RoundS (fun n => runZ f g t n) N (rtF 1 (if N = 0 then [0] else [])) := by
  have z : ∀ n, runZ f g t n = 0 := fun n => by
    rw [h.1, h.2]
    unfold runZ
    split
    · rw [show t * 0 - 0 = 0 by omega]; exact runN_00 t _
    · exact runN_00 t _
  refine round_spec ⟨by decide, by decide⟩ ?_ fun k => ?_
  · split
    · exact List.Sublist.refl _
    · exact List.nil_sublist _
  · show _ ↔ runZ f g t k = N
    rw [z]
    have : k % ((1 : Nat) : Int) = 0 := by omega
    rw [this]
    by_cases c : N = 0
    · rw [if_pos c]; simp [c]
    · rw [if_neg c]; simp; omega
/-- what the law leans on -/
inductive WSpec (f g t N : Int) : Tw → Prop
  | these (ps : List Int) (hs : ps.Pairwise (· < ·)) (hm : ∀ n, n ∈ ps ↔ runZ f g t n = N) (hb : ∀ n ∈ ps, PathOk f g t n) (hl : ps.length ≤ 1000000) : WSpec f g t N (.these ps)
  | round (L : Int) (q : List Int) (hL : 1 ≤ L ∧ L ≤ 6) (hq : q ≠ []) (hs : q.Pairwise (· < ·)) (hr : ∀ p ∈ q, 0 ≤ p ∧ p < L) (hm : ∀ n : Int, n % L ∈ q ↔ runZ f g t n = N)
      (hmin : ∀ e : Int, 1 ≤ e → e < L → L % e = 0 → ¬ (q.map fun p => (p + e) % L).Perm q) (hb : ∀ p ∈ q, PathOk f g t (p + 12 * L)) : WSpec f g t N (.round L q)
theorem spec_of_round {f g t N : Int} {w : Tw} (h : RoundS (fun n => runZ f g t n) N w) (hN : Bd 890 N) (hp : (t = 1 ∨ t = 0 ∨ t = -1 ∨ t = 2 ∨ t = -2) ∨ (f = 0 ∧ g = 0)) : WSpec f g t N w := by
  cases h with
  | none h => exact .these [] .nil (fun n => ⟨(fun h => nomatch h), fun e => absurd e (h n)⟩) (fun n h => nomatch h) (Nat.zero_le _)
  | round L q hL hq hs hr hm hmin =>
    refine .round L q hL hq hs hr hm hmin fun p hpq => ?_
    obtain ⟨r1, r2⟩ := hr p hpq
    have e : (p + 12 * L) % L = p := by
      rw [Int.mul_comm, Int.add_mul_emod_self_left]
      exact Int.emod_eq_of_lt r1 r2
    have hv : runZ f g t (p + 12 * L) = N := (hm _).mp (by rw [e]; exact hpq)
    refine ⟨by omega, by rw [hv]; exact hN.le (by decide), fun hn => ?_⟩
    rcases hp with hp | ⟨hf, hg⟩
    · exact absurd hp hn
    · intro k _
      rw [hf, hg]
      have : runN t k 0 (if p + 12 * L < 0 then t * 0 - 0 else 0) = 0 := by
        rw [show t * 0 - 0 = 0 by omega, ite_self]; exact runN_00 t k
      rw [this]
      unfold Bd; decide +kernel
theorem asc_len : ∀ (ps : List Int) (lo hi : Int), ps.Pairwise (· < ·) → (∀ n ∈ ps, lo ≤ n ∧ n ≤ hi) → lo ≤ hi + 1 → (ps.length : Int) ≤ hi + 1 - lo
  | [], lo, hi, _, _, h => by simp; omega
  | a :: r, lo, hi, hs, hb, _ => by
    obtain ⟨h1, h2⟩ := List.pairwise_cons.mp hs
    have ha := hb a List.mem_cons_self
    have := asc_len r (a + 1) hi h2 (fun n hn => ⟨by have := h1 n hn; omega, (hb n (List.mem_cons_of_mem _ hn)).2⟩) (by omega)
    rw [List.length_cons]; omega
theorem Bd.of_le {a : Nat} {x y : Int} (h : Bd a y) (hx : x.natAbs ≤ y.natAbs) : Bd a x := Nat.lt_of_le_of_lt hx h
theorem when_spec {f g t N : Int} {w : Tw} {a : Nat} (h : WhenS f g t N w) (hf : Bd a f) (hN : Bd a N) (ha : a ≤ 890) (hsm : f.natAbs ≤ 100000) (hk : (∃ k : Int, k.natAbs ≤ 6 ∧ N = runZ f g t k) ∨ N.natAbs ≤ 4) : WSpec f g t N w := by
  have hN' := hN.le ha
  cases h with
  | rnd c => exact spec_of_round (rnd_spec c) hN' (.inl (by omega))
  | zero c => exact spec_of_round (zero_spec c) hN' (.inr c)
  | line c w hw =>
    cases hw with
    | flat hr => exact spec_of_round (flat_spec c hr) hN' (.inl (by omega))
    | rise ps hr hs hm =>
      have bnd : ∀ n ∈ ps, n.natAbs ≤ 250000 := by
       intro n hn
       have hv := (hm n).mp hn
       have e1 := (line_iff c f g n N).mp hv
       have sg : sgI t n = 1 ∨ sgI t n = -1 := by unfold sgI; split <;> simp
       generalize sgI t n = σ at *
       have big : ∀ x y : Int, riseI f g t * x = y → x.natAbs ≤ y.natAbs := by
         intro x y e
         have h1 : 1 * x.natAbs ≤ (riseI f g t).natAbs * x.natAbs := Nat.mul_le_mul_right _ (by omega)
         rw [← Int.natAbs_mul, e] at h1
         omega
       rcases hk with ⟨k, hk6, hk⟩ | hk
       · rw [line_run c] at hk
         have sk : sgI t k = 1 ∨ sgI t k = -1 := by unfold sgI; split <;> simp
         generalize sgI t k = τ at *
         have d1 : riseI f g t * (n - k) = riseI f g t * n - riseI f g t * k := Int.mul_sub _ _ _
         have d2 : riseI f g t * (n + k) = riseI f g t * n + riseI f g t * k := Int.mul_add _ _ _
         rcases sg with rfl | rfl <;> rcases sk with rfl | rfl
         · have := big (n - k) 0 (by omega); omega
         · have := big (n + k) (-2 * f) (by omega); omega
         · have := big (n + k) (-2 * f) (by omega); omega
         · have := big (n - k) 0 (by omega); omega
       · have := big n (N * σ - f) (by omega)
         rcases sg with rfl | rfl <;> omega
      refine .these ps hs hm (fun n hn => ⟨by have := bnd n hn; omega, by rw [(hm n).mp hn]; exact hN'.le (by decide), fun q => absurd (by omega) q⟩) ?_
      have := asc_len ps (-250000) 250000 hs (fun n hn => by have := bnd n hn; omega) (by decide)
      omega
  | far ht ps hs hm hb =>
    refine .these ps hs hm (fun n hn => ?_) (by
      have := asc_len ps (-2002) 2002 hs (fun n hn => by have := hb n hn; omega) (by decide)
      omega)
    have hv := (hm n).mp hn
    refine ⟨by have := hb n hn; omega, by rw [hv]; exact hN'.le (by decide), fun _ k hk => ?_⟩
    have hpl := path_le (f := f) (g := if n < 0 then t * f - g else g) ht n.natAbs k hk
    have hv2 : runN t n.natAbs f (if n < 0 then t * f - g else g) = N := by
      rw [← hv]; unfold runZ
      by_cases c : n < 0
      · rw [if_pos c, if_pos c]
      · rw [if_neg c, if_neg c]
    rw [hv2] at hpl
    rcases hpl with h | h
    · exact (hf.of_le h).le (by omega)
    · exact (hN.of_le h).le (by omega)
def N__law_pick : List Str := ["source", "many", "left", "mixed"]
def lc__law_pick_1 : ATT := (aAnd (aTest (aBin aGt (aVar 1) (aC (.int 1)))) (aAnd (aTest (aBin aLt (aSrcF .left (aVar 0)) (aC (.int 2)))) (aTest (aBin aGt (aCall bLen (aCons (aSrcC (aVar 0)) aNil)) (aC (.int 0))))))
def lb__law_pick_2 : ATS := (aSrcPut .left (aVar 0) (aMt0 mPopC (aSrcC (aVar 0))))
def t__law_pick : ATS := (aSeq (aWhile [] lc__law_pick_1 lb__law_pick_2)
    (aSeq (aSet 2 (aSrcF .left (aVar 0)))
    (aSeq (aIfS (aOr (aTest (aBin aLt (aVar 1) (aC (.int 2)))) (aTest (aBin aGt (aVar 2) (aC (.int 1))))) (aSeq (aSrcPut .left (aVar 0) (aBin aFdiv (aVar 2) (aCall bMax (aCons (aC (.int 1)) (aCons (aVar 1) aNil)))))
    (aRet (aBin aMod (aCall bInt (aCons (aVar 2) aNil)) (aCall bMax (aCons (aC (.int 1)) (aCons (aVar 1) aNil)))))) aNext)
    (aSeq (aSrcPut .turn (aVar 0) (aBin aAdd (aSrcF .turn (aVar 0)) (aC (.int 1))))
    (aSeq (aSet 3 (aBin aMod (aCall bInt (aCons (aBin aAdd (aSrcF .mixed (aVar 0)) (aBin aMul (aSrcF .turn (aVar 0)) (aC (.int 104729)))) aNil)) (aC (.int 998244353))))
    (aSeq (aSet 3 (aBin aMod (aCall bInt (aCons (aBin aAdd (aBin aMul (aVar 3) (aVar 3)) (aBin aMul (aSrcF .turn (aVar 0)) (aC (.int 17)))) aNil)) (aC (.int 2147483647))))
    (aSeq (aSrcPut .mixed (aVar 0) (aVar 3))
    (aRet (aBin aMod (aCall bInt (aCons (aBin aFdiv (aVar 3) (aC (.int 16))) aNil)) (aVar 1))))))))))
/-- a drawn number -/
def fn__law_pick : AFn := fun avs s Q => ∃ (S : Src) (n : Int), avs = [.src, .d (.int n)] ∧ s = some S ∧ n < 1073741824 ∧ ∀ (r : Int) S', 0 ≤ r → r < max 1 n → Q (.d (.int r)) (some S')
theorem h__law_pick : ∀ avs s AQ, fn__law_pick avs s AQ → t__law_pick (endsA AQ) ⟨startA N__law_pick avs, ⟨s, []⟩⟩ := by
  rintro _ _ AQ ⟨S, n, rfl, rfl, hn, hq⟩
  show t__law_pick (endsA AQ) ⟨[some .src, some (.d (.int n)), none, none], ⟨some S, []⟩⟩
  unfold t__law_pick
  walk_at "qs"
  refine ⟨fun a => ∃ S' : Src, a = ⟨[some .src, some (.d (.int n)), none, none], ⟨some S', []⟩⟩, fun a => match a.m.s with | some S' => S'.cells.length | none => 0, ⟨S, rfl⟩, ?_⟩
  rintro _ ⟨S, rfl⟩
  have hmax : (if n > 1 then n else 1) = max 1 n := by omega
  -- what follows the loop
  have tail : ∀ S : Src, aSeq (aSet 2 (aSrcF .left (aVar 0)))
    (aSeq (aIfS (aOr (aTest (aBin aLt (aVar 1) (aC (.int 2)))) (aTest (aBin aGt (aVar 2) (aC (.int 1))))) (aSeq (aSrcPut .left (aVar 0) (aBin aFdiv (aVar 2) (aCall bMax (aCons (aC (.int 1)) (aCons (aVar 1) aNil)))))
    (aRet (aBin aMod (aCall bInt (aCons (aVar 2) aNil)) (aCall bMax (aCons (aC (.int 1)) (aCons (aVar 1) aNil)))))) aNext)
    (aSeq (aSrcPut .turn (aVar 0) (aBin aAdd (aSrcF .turn (aVar 0)) (aC (.int 1))))
    (aSeq (aSet 3 (aBin aMod (aCall bInt (aCons (aBin aAdd (aSrcF .mixed (aVar 0)) (aBin aMul (aSrcF .turn (aVar 0)) (aC (.int 104729)))) aNil)) (aC (.int 998244353))))
    (aSeq (aSet 3 (aBin aMod (aCall bInt (aCons (aBin aAdd (aBin aMul (aVar 3) (aVar 3)) (aBin aMul (aSrcF .turn (aVar 0)) (aC (.int 17)))) aNil)) (aC (.int 2147483647))))
    (aSeq (aSrcPut .mixed (aVar 0) (aVar 3))
    (aRet (aBin aMod (aCall bInt (aCons (aBin aFdiv (aVar 3) (aC (.int 16))) aNil)) (aVar 1)))))))) (endsA AQ) ⟨[some .src, some (.d (.int n)), none, none], ⟨some S, []⟩⟩ := by
    intro S
    have fin1 : ∀ S', (0 < (if n > 1 then n else 1)) ∧ AQ (.d (.int (S.left % (if n > 1 then n else 1)))) (some S') := fun S' => by
      rw [hmax]
      exact ⟨by omega, hq _ _ (Int.emod_nonneg _ (by omega)) (Int.emod_lt_of_pos _ (by omega))⟩
    have dv : DivOk S.left (if n > 1 then n else 1) := .inl ⟨by rw [hmax]; omega, by rw [hmax]; omega⟩
    walk_at "qs"
    by_cases c1 : n < 2
    · simp only [c1, decide_true, if_true]
      walk_at "qs"
      exact ⟨dv, fin1 _⟩
    · simp only [c1, decide_false, Bool.false_eq_true, if_false]
      walk_at "qs"
      by_cases c2 : 1 < S.left
      · simp only [c2, decide_true, if_true]
        walk_at "qs"
        exact ⟨dv, fin1 _⟩
      · simp only [c2, decide_false, Bool.false_eq_true, if_false]
        walk_at "qs"
        refine ⟨.inl (.inr (by decide)), by decide, ?_⟩
        walk_at "qs"
        have h1 := Int.emod_nonneg (S.mixed + (S.turn + 1) * 104729) (show (998244353 : Int) ≠ 0 by decide)
        have h2 := Int.emod_lt_of_pos (S.mixed + (S.turn + 1) * 104729) (show (0 : Int) < 998244353 by decide)
        refine ⟨.inl (.inl ⟨by omega, by omega⟩), .inl (.inr (by decide)), by decide, ?_⟩
        walk_at "qs"
        refine ⟨.inl ⟨by decide, by decide⟩, by omega, hq _ _ (Int.emod_nonneg _ (by omega)) ?_⟩
        have := Int.emod_lt_of_pos (((S.mixed + (S.turn + 1) * 104729) % 998244353 * ((S.mixed + (S.turn + 1) * 104729) % 998244353) + (S.turn + 1) * 17) % 2147483647 / 16) (show (0 : Int) < n by omega)
        omega
  unfold lc__law_pick_1 lb__law_pick_2
  walk_at "qs"
  by_cases c1 : 1 < n
  · simp only [c1, decide_true, if_true]
    walk_at "qs"
    by_cases c2 : S.left < 2
    · simp only [c2, decide_true, if_true]
      walk_at "qs"
      by_cases c3 : (0 : Int) < ((S.cells.map PyData.int).length : Nat)
      · simp only [c3, decide_true, if_true]
        walk_at "qs"
        rw [List.length_map] at c3
        cases e : S.cells.getLast? with
        | none =>
          rw [List.getLast?_eq_none_iff] at e
          rw [e] at c3
          simp at c3
        | some i =>
          walk_at "qs"
          refine ⟨⟨_, rfl⟩, ?_⟩
          show S.cells.dropLast.length < S.cells.length
          rw [List.length_dropLast]; omega
      · simp only [c3, decide_false, Bool.false_eq_true, if_false]
        walk_at "qs"
        (have tl := tail S; revert tl; walk_at "qs"; intro tl; simp only [c1, decide_true, decide_false, Bool.false_eq_true, if_true, if_false] at tl ⊢; exact tl)
    · simp only [c2, decide_false, Bool.false_eq_true, if_false]
      walk_at "qs"
      (have tl := tail S; revert tl; walk_at "qs"; intro tl; simp only [c1, decide_true, decide_false, Bool.false_eq_true, if_true, if_false] at tl ⊢; exact tl)
  · simp only [c1, decide_false, Bool.false_eq_true, if_false]
    walk_at "qs"
    (have tl := tail S; revert tl; walk_at "qs"; intro tl; simp only [c1, decide_true, decide_false, Bool.false_eq_true, if_true, if_false] at tl ⊢; exact tl)
def N__law_of : List Str := ["source", "some"]
def t__law_of : ATS := (aRet (aBin aIx (aVar 1) (aFn 2 fn__law_pick (aCons (aVar 0) (aCons (aCall bLen (aCons (aVar 1) aNil)) aNil)))))
/-- a drawn member -/
def fn__law_of : AFn := fun avs s Q => ∃ (S : Src) (ds : List D), avs = [.src, .d (.list ds)] ∧ s = some S ∧ 0 < ds.length ∧ ds.length < 1073741824 ∧ ∀ d ∈ ds, ∀ S', Q (.d d) (some S')
theorem h__law_of : ∀ avs s AQ, fn__law_of avs s AQ → t__law_of (endsA AQ) ⟨startA N__law_of avs, ⟨s, []⟩⟩ := by
  rintro _ _ AQ ⟨S, ds, rfl, rfl, h0, hn, hq⟩
  show t__law_of (endsA AQ) ⟨[some .src, some (.d (.list ds))], ⟨some S, []⟩⟩
  unfold t__law_of
  walk_at "qs"
  refine ⟨S, _, rfl, rfl, by omega, fun r S' h1 h2 => ?_⟩
  walk_at "qs"
  have hr : r.toNat < ds.length := by omega
  have e : atD ds r = some ds[r.toNat] := by
    unfold atD
    rw [if_pos h1, List.getElem?_eq_getElem hr]
  rw [e]
  exact hq _ (List.getElem_mem hr) S'
def N__law_source : List Str := ["script", "mixed", "cell"]
def lb__law_source_1 : ATS := (aSet 1 (aBin aMod (aCall bInt (aCons (aBin aAdd (aBin aAdd (aBin aMul (aVar 1) (aC (.int 69069))) (aBin aMul (aVar 2) (aC (.int 31)))) (aC (.int 5))) aNil)) (aC (.int 2147483629))))
def le__law_source_2 : ATE := (aCall bAbs (aCons (aVar 2) aNil))
def t__law_source : ATS := (aSeq (aSet 1 (aC (.int 11)))
    (aSeq (aFor [2] (aItS (aVar 0)) (aGName 2) lb__law_source_1)
    (aRet (aSrcNew (aRevM (aLc (aItS (aVar 0)) (aGName 2) aYes le__law_source_2 [2])) (aC (.int 1)) (aVar 1) (aC (.int 0))))))
/-- a source is made of the script: which one is left open -/
def fn__law_source : AFn := fun avs s Q => ∃ ns : List Int, avs = [.scr ns] ∧ s = none ∧ ns.length ≤ 63 ∧ ∀ S', Q .src (some S')
theorem source_loop (E : AEnds) (ns0 : List Int) : ∀ (ns : List Int) (mi : Int), (∀ mi, E.nx ⟨[some (.scr ns0), some (.d (.int mi)), none], ⟨none, []⟩⟩) →
    aForL 0 [2] (aGName 2) lb__law_source_1 E (ns.map PyData.int) ⟨[some (.scr ns0), some (.d (.int mi)), none], ⟨none, []⟩⟩
  | [], mi, h => h mi
  | n :: ns, mi, h => by
    unfold aForL
    rw [List.map_cons]
    unfold lb__law_source_1
    walk_at "qs"
    refine ⟨.inl (.inr (by decide)), .inl (.inr (by decide)), by decide, ?_⟩
    walk_at "qs"
    exact source_loop E ns0 ns _ h
theorem filterMap_some' {α β : Type} (f : α → β) (l : List α) : l.filterMap (fun x => some (f x)) = l.map f := by
  induction l with
  | nil => rfl
  | cons a l ih => simp [ih]
theorem h__law_source : ∀ avs s AQ, fn__law_source avs s AQ → t__law_source (endsA AQ) ⟨startA N__law_source avs, ⟨s, []⟩⟩ := by
  rintro _ _ AQ ⟨ns, rfl, rfl, hn, hq⟩
  show t__law_source (endsA AQ) ⟨[some (.scr ns), none, none], ⟨none, []⟩⟩
  unfold t__law_source
  walk_at "qs"
  refine source_loop _ ns ns 11 fun mi => ?_
  walk_at "qs"
  refine ⟨by rw [List.length_map]; omega, aLcL_pure (fun d => match d with | .int i => some (.int (if i < 0 then -i else i)) | _ => none) (fun d hd K hK => ?_) ?_⟩
  · obtain ⟨i, _, rfl⟩ := List.mem_map.mp hd
    unfold stepC le__law_source_2
    walk_at "qs"
    exact hK
  · walk_at "qs"
    refine ⟨(ns.map fun i => if i < 0 then -i else i).reverse, ?_, hq _⟩
    rw [List.filterMap_map]
    have e : ((fun d : D => match d with | .int i => some (PyData.int (if i < 0 then -i else i)) | _ => none) ∘ PyData.int) = fun i => some (PyData.int (if i < 0 then -i else i)) := rfl
    rw [e, filterMap_some', List.map_reverse, List.map_map]
    rfl
def N__law_low : List Str := ["letters", "found", "letter"]
def lb__law_low_1 : ATS := (aIfS (aTest (aBin aEq (aSlice (aVar 1) (aPart (aUn aNeg (aC (.int 1)))) aNoPart) (aLst (aCons (aBin aSub (aC (.int 0)) (aVar 2)) aNil)))) (aDrop (aMt0 mPop (aVar 1))) (aDrop (aMt mApp (aVar 1) (aCons (aVar 2) aNil))))
def t__law_low : ATS := (aSeq (aSet 1 (aLstM aNil))
    (aSeq (aFor [2] (aItV 0) (aGName 2) lb__law_low_1)
    (aRet (aCall bTuple (aCons (aVar 1) aNil)))))
theorem cut_tail (g : List Int) (k : Int) : cutD ((g ++ [k]).map PyData.int) (some (-1)) none = [PyData.int k] := by
  unfold cutD
  have h : HT.sIx ((g ++ [k]).map PyData.int).length 0 (some (-1)) = g.length := by
    show (if (-1 : Int) < 0 then ((-1 : Int) + (((g ++ [k]).map PyData.int).length : Int)).toNat else min (-1 : Int).toNat ((g ++ [k]).map PyData.int).length) = _
    rw [if_pos (by decide), List.length_map, List.length_append]; simp; omega
  rw [HT.sIx_none, h, List.map_append, List.length_append, List.length_map]
  rw [List.drop_append_of_le_length (by rw [List.length_map]; exact Nat.le_refl _), List.drop_of_length_le (by rw [List.length_map]; exact Nat.le_refl _)]
  simp
def fn__law_low : AFn := fun avs s Q => ∃ w : List Int, (avs = [.d (.list (w.map .int))] ∨ avs = [.d (wD w)]) ∧ w.length ≤ 1000 ∧ Q (.d (wD (lowW w))) s
theorem eqv_one (k j : Int) : PyData.eqv (.list [.int k]) (.list [.int j]) = decide (k = j) := by simp [PyData.eqv, PyData.eqvAll, Bool.beq_eq_decide_eq]
theorem low_loop (E : AEnds) (X : D) (s : Option Src) : ∀ (w f : List Int), f.length + w.length ≤ 1000 → E.nx ⟨[some (.d X), some (.o 0), none], ⟨s, [.l ((w.foldl lowS f).map .int)]⟩⟩ →
    aForL 1 [2] (aGName 2) lb__law_low_1 E (w.map .int) ⟨[some (.d X), some (.o 0), none], ⟨s, [.l (f.map .int)]⟩⟩ := by
  intro w
  induction w with
  | nil => intro f _ h; exact h
  | cons l r ih =>
    intro f hl h
    rw [List.length_cons] at hl
    have hl2 := lowS_len f l
    have nx := ih (lowS f l) (by omega) h
    rw [List.map_cons]
    unfold aForL lb__law_low_1
    walk_at "qs"
    rcases List.eq_nil_or_concat f with rfl | ⟨g, k, rfl⟩
    · rw [lowS_nil] at nx
      refine ⟨rfl, rfl, ?_⟩
      rw [show cutD (List.map PyData.int []) (some (-1)) none = [] from rfl]
      rw [if_neg (by simp [PyData.eqv, PyData.eqvAll])]
      exact ⟨by simp, nx⟩
    · rw [List.concat_eq_append] at *
      rw [lowS_snoc] at nx
      have hlen : (g ++ [k]).length ≤ 1000 := by omega
      rw [cut_tail]
      refine ⟨rfl, rfl, ?_⟩
      rw [eqv_one]
      by_cases c : k = 0 - l
      · rw [if_pos c] at nx
        rw [if_pos (by simpa using c), List.map_append, List.map_cons, List.map_nil, List.getLast?_concat]
        walk_at "qs"
        show aForL _ _ _ _ _ _ ⟨_, ⟨_, [MO.l ((g.map PyData.int ++ [PyData.int k]).dropLast)]⟩⟩
        rw [List.dropLast_concat]
        exact nx
      · rw [if_neg c, List.map_append] at nx
        rw [if_neg (by simpa using c)]
        refine ⟨by rw [List.length_map]; omega, nx⟩
theorem h__law_low : ∀ avs s AQ, fn__law_low avs s AQ → t__law_low (endsA AQ) ⟨startA N__law_low avs, ⟨s, []⟩⟩ := by
  rintro avs s AQ ⟨w, h, hl, hq⟩
  have go : ∀ X : D, (X = .list (w.map .int) ∨ X = .tuple (w.map .int)) → t__law_low (endsA AQ) ⟨[some (.d X), none, none], ⟨s, []⟩⟩ := by
    intro X hX
    unfold t__law_low
    rcases hX with rfl | rfl
    all_goals
      walk_at "qs"
      refine low_loop _ _ s w [] (by simpa using hl) ?_
      walk_at "qs"
      exact hq
  rcases h with rfl | rfl
  · exact go _ (.inl rfl)
  · exact go _ (.inr rfl)
def N__law_word : List Str := ["source", "most", "k"]
def le__law_word_1 : ATE := (aFn 2 fn__law_of (aCons (aVar 0) (aCons (aLst (aCons (aC (.int 1)) (aCons (aUn aNeg (aC (.int 1))) (aCons (aC (.int 2)) (aCons (aUn aNeg (aC (.int 2))) aNil))))) aNil)))
def t__law_word : ATS := (aRet (aFn 1 fn__law_low (aCons (aLc (aRng1 (aCons (aFn 2 fn__law_pick (aCons (aVar 0) (aCons (aBin aAdd (aVar 1) (aC (.int 1))) aNil))) aNil)) (aGName 2) aYes le__law_word_1 [2]) aNil)))
def fn__law_word : AFn := fun avs s Q => ∃ (S : Src) (n : Nat), avs = [.src, .d (.int (n : Int))] ∧ s = some S ∧ n ≤ 100 ∧ ∀ (w : List Int) (S' : Src), (∀ l ∈ w, Ltr l) → w.length ≤ n → Q (.d (wD w)) (some S')
theorem h__law_word : ∀ avs s AQ, fn__law_word avs s AQ → t__law_word (endsA AQ) ⟨startA N__law_word avs, ⟨s, []⟩⟩ := by
  rintro _ _ AQ ⟨S, n, rfl, rfl, hn, hq⟩
  show t__law_word (endsA AQ) ⟨[some .src, some (.d (.int n)), none], ⟨some S, []⟩⟩
  unfold t__law_word
  walk_at "qs"
  refine ⟨S, n + 1, rfl, rfl, by omega, fun r S1 r1 r2 => ?_⟩
  walk_at "qs"
  refine ⟨Rg.of (by omega) (by omega), ?_⟩
  refine ⟨by rw [rngD_len]; omega, aLcL_inv (fun i acc m => i = acc.length ∧ (∃ w : List Int, acc = w.map .int ∧ ∀ l ∈ w, Ltr l) ∧ ∃ S, m = ⟨some S, []⟩) ⟨rfl, ⟨[], rfl, fun _ h => nomatch h⟩, S1, rfl⟩ (fun j d acc m K _ hI hK _ => ?_) (fun acc m hI => ?_)⟩
  · obtain ⟨h1, ⟨w, rfl, hw⟩, S2, rfl⟩ := hI
    unfold stepC le__law_word_1
    walk_at "qs"
    refine ⟨S2, _, rfl, rfl, by decide, by decide, fun d hd S3 => ?_⟩
    obtain ⟨l, rfl, hlt⟩ : ∃ l : Int, d = .int l ∧ Ltr l := by
      simp only [List.mem_cons, List.not_mem_nil, or_false] at hd
      rcases hd with rfl | rfl | rfl | rfl
      · exact ⟨1, rfl, .inl rfl⟩
      · exact ⟨-1, rfl, .inr (.inl rfl)⟩
      · exact ⟨2, rfl, .inr (.inr (.inl rfl))⟩
      · exact ⟨-2, rfl, .inr (.inr (.inr rfl))⟩
    refine hK _ _ ⟨by rw [h1, List.length_append]; rfl, ⟨w ++ [l], by simp, fun k hk => ?_⟩, S3, rfl⟩
    rcases List.mem_append.mp hk with hk | hk
    · exact hw k hk
    · rw [List.mem_singleton.mp hk]; exact hlt
  · obtain ⟨h1, ⟨w, rfl, hw⟩, S2, rfl⟩ := hI
    rw [rngD_len] at h1
    have hc : (w.map PyData.int).length = w.length := List.length_map _
    have hlen : w.length ≤ n := by omega
    walk_at "qs"
    refine ⟨w, .inl rfl, by omega, hq _ S2 (lowW_ltr hw) (Nat.le_trans (lowW_len w) hlen)⟩
def N__law_by : List Str := ["one", "other", "a", "b", "c", "d", "e", "f", "g", "h"]
def t__law_by : ATS := (aSeq (aAsg (aVar 0) (aGTup 4 (aGCons (aGName 2) (aGCons (aGName 3) (aGCons (aGName 4) (aGCons (aGName 5) aGNil))))))
    (aSeq (aAsg (aVar 1) (aGTup 4 (aGCons (aGName 6) (aGCons (aGName 7) (aGCons (aGName 8) (aGCons (aGName 9) aGNil))))))
    (aRet (aTup (aCons (aBin aAdd (aBin aMul (aVar 2) (aVar 6)) (aBin aMul (aVar 3) (aVar 8))) (aCons (aBin aAdd (aBin aMul (aVar 2) (aVar 7)) (aBin aMul (aVar 3) (aVar 9))) (aCons (aBin aAdd (aBin aMul (aVar 4) (aVar 6)) (aBin aMul (aVar 5) (aVar 8))) (aCons (aBin aAdd (aBin aMul (aVar 4) (aVar 7)) (aBin aMul (aVar 5) (aVar 9))) aNil))))))))
def fn__law_by : AFn := fn_tt
theorem h__law_by : ∀ avs s AQ, fn__law_by avs s AQ → t__law_by (endsA AQ) ⟨startA N__law_by avs, ⟨s, []⟩⟩ := by
  rintro _ s AQ ⟨⟨p, q, r, v⟩, ⟨e, f, g, h⟩, rfl, ⟨h1, h2, h3, h4⟩, ⟨g1, g2, g3, g4⟩, hq⟩
  show t__law_by (endsA AQ) ⟨[some (.d (.tuple [.int p, .int q, .int r, .int v])), some (.d (.tuple [.int e, .int f, .int g, .int h])), none, none, none, none, none, none, none, none], ⟨s, []⟩⟩
  unfold t__law_by
  walk_at "qs"
  walk_at "mos"
  exact hq
def N__law_undone : List Str := ["word", "letter"]
def le__law_undone_1 : ATE := (aBin aSub (aC (.int 0)) (aVar 1))
def t__law_undone : ATS := (aRet (aCall bTuple (aCons (aLc (aItT (aRevT (aVar 0))) (aGName 1) aYes le__law_undone_1 [1]) aNil)))
def undW (w : List Int) : List Int := (w.reverse).map fun l => -l
def fn__law_undone : AFn := fun avs s Q => ∃ w : List Int, avs = [.d (wD w)] ∧ w.length ≤ 1000 ∧ Q (.d (wD (undW w))) s
theorem h__law_undone : ∀ avs s AQ, fn__law_undone avs s AQ → t__law_undone (endsA AQ) ⟨startA N__law_undone avs, ⟨s, []⟩⟩ := by
  rintro _ s AQ ⟨w, rfl, hl, hq⟩
  show t__law_undone (endsA AQ) ⟨[some (.d (.tuple (w.map .int))), none], ⟨s, []⟩⟩
  have st : ∀ (x0 : D) (l : Int) (K : Option D → Mm → Prop), K (some (.int (-l))) ⟨s, []⟩ → stepC (aGName 1) aYes le__law_undone_1 [some (.d x0), none] (.int l) ⟨s, []⟩ K := by
    intro x0 l K hK
    unfold stepC le__law_undone_1
    walk_at "qs"
    rw [Int.zero_sub]; exact hK
  unfold t__law_undone
  walk_at "qs"
  rw [← List.map_reverse]
  refine ⟨by rw [List.length_map, List.length_reverse]; omega, ?_⟩
  refine aLcL_all PyData.int (fun l => .int (-l)) (fun l _ K hK => st _ l K hK) ?_
  have e : wD (undW w) = .tuple (w.reverse.map fun l => PyData.int (-l)) := by unfold undW wD; rw [List.map_map]; rfl
  rw [e] at hq
  exact hq
def N__law_table_of : List Str := ["pair", "word", "found", "letter", "p", "q", "r", "s"]
def lb__law_table_of_1 : ATS := (aSeq (aAsg (aBin aIx (aVar 0) (aBin aSub (aCall bAbs (aCons (aVar 3) aNil)) (aC (.int 1)))) (aGTup 4 (aGCons (aGName 4) (aGCons (aGName 5) (aGCons (aGName 6) (aGCons (aGName 7) aGNil))))))
    (aSet 2 (aFn 2 fn__law_by (aCons (aVar 2) (aCons (aIf (aTest (aBin aGt (aVar 3) (aC (.int 0)))) (aTup (aCons (aVar 4) (aCons (aVar 5) (aCons (aVar 6) (aCons (aVar 7) aNil))))) (aTup (aCons (aVar 7) (aCons (aBin aSub (aC (.int 0)) (aVar 5)) (aCons (aBin aSub (aC (.int 0)) (aVar 6)) (aCons (aVar 4) aNil)))))) aNil)))))
def t__law_table_of : ATS := (aSeq (aSet 2 (aTup (aCons (aC (.int 1)) (aCons (aC (.int 0)) (aCons (aC (.int 0)) (aCons (aC (.int 1)) aNil))))))
    (aSeq (aFor [3, 4, 5, 6, 7] (aItT (aVar 1)) (aGName 3) lb__law_table_of_1)
    (aRet (aVar 2))))
def fn__law_table_of : AFn := fun avs s Q => ∃ (t u : T4) (w : List Int) (b : Nat), avs = [.d (.tuple [tbD t, tbD u]), .d (wD w)] ∧ (∀ l ∈ w, LtrT l) ∧ Bt b t ∧ Bt b u ∧ 0 < b ∧ (b + 1) * (w.length + 1) ≤ 900 ∧ Q (.d (tbD (wrdI t u w))) s
theorem ltS_neg (t u : T4) : ltS t u (-1) = (t.2.2.2, 0 - t.2.1, 0 - t.2.2.1, t.1) ∧ ltS t u (-2) = (u.2.2.2, 0 - u.2.1, 0 - u.2.2.1, u.1) := by
  obtain ⟨a, b, c, d⟩ := t; obtain ⟨e, f, g, h⟩ := u
  constructor <;> simp [ltS, ltI, invT, Int.zero_sub]
theorem tof_loop (E : AEnds) (t u : T4) (X : D) (b n : Nat) (ht : Bt b t) (hu : Bt b u) (hn : n ≤ 900) (s : Option Src) : ∀ (w : List Int) (m : T4) (k : Nat), (∀ l ∈ w, LtrT l) → Bt k m → k + (b + 1) * w.length ≤ n → b ≤ n →
    E.nx ⟨[some (.d (.tuple [tbD t, tbD u])), some (.d X), some (.d (tbD (w.foldl (fun m l => mulT m (ltS t u l)) m))), none, none, none, none, none], ⟨s, []⟩⟩ →
    aForL 0 [3, 4, 5, 6, 7] (aGName 3) lb__law_table_of_1 E (w.map .int) ⟨[some (.d (.tuple [tbD t, tbD u])), some (.d X), some (.d (tbD m)), none, none, none, none, none], ⟨s, []⟩⟩ := by
  intro w
  induction w with
  | nil => intro m k _ _ _ _ h; exact h
  | cons l r ih =>
    intro m k hw hm hk hb h
    have nx := ih (mulT m (ltS t u l)) (k + (b + 1)) (fun l hl => hw l (List.mem_cons_of_mem _ hl)) ((hm.mul (bt_ltS ht hu l)).le (by omega)) (by rw [List.length_cons, Nat.mul_succ] at hk; omega) hb h
    have hmB : Bt 1000 m := hm.le (by omega)
    have hlb := (bt_ltS ht hu l).le (show b ≤ 1000 by omega)
    have hl := hw l List.mem_cons_self
    obtain ⟨n1, n2⟩ := ltS_neg t u
    rw [List.map_cons]
    unfold aForL lb__law_table_of_1
    rw [show tbD t = .tuple [.int t.1, .int t.2.1, .int t.2.2.1, .int t.2.2.2] from rfl, show tbD u = .tuple [.int u.1, .int u.2.1, .int u.2.2.1, .int u.2.2.2] from rfl] at *
    rcases hl with rfl | rfl | rfl | rfl
    · walk_at "qs"
      exact ⟨rfl, m, ltS t u 1, rfl, hmB, hlb, nx⟩
    · walk_at "qs"
      exact ⟨rfl, m, ltS t u (-1), by rw [n1]; rfl, hmB, hlb, nx⟩
    · walk_at "qs"
      exact ⟨rfl, m, ltS t u 2, rfl, hmB, hlb, nx⟩
    · walk_at "qs"
      exact ⟨rfl, m, ltS t u (-2), by rw [n2]; rfl, hmB, hlb, nx⟩
theorem h__law_table_of : ∀ avs s AQ, fn__law_table_of avs s AQ → t__law_table_of (endsA AQ) ⟨startA N__law_table_of avs, ⟨s, []⟩⟩ := by
  rintro _ s AQ ⟨t, u, w, b, rfl, hw, ht, hu, h0, hb, hq⟩
  show t__law_table_of (endsA AQ) ⟨[some (.d (.tuple [tbD t, tbD u])), some (.d (.tuple (w.map .int))), none, none, none, none, none, none], ⟨s, []⟩⟩
  unfold t__law_table_of
  walk_at "qs"
  rw [Nat.mul_succ] at hb
  refine tof_loop _ t u _ b 900 ht hu (Nat.le_refl _) s w (1, 0, 0, 1) 1 hw bt_one (by omega) (by omega) ?_
  walk_at "qs"
  exact hq
def N__law_small : List Str := ["source", "some"]
def t__law_small : ATS := (aSeq (aSet 1 (aLst (aCons (aTup (aCons (aC (.int 2)) (aCons (aC (.int 1)) (aCons (aC (.int 1)) (aCons (aC (.int 1)) aNil))))) (aCons (aTup (aCons (aC (.int 1)) (aCons (aC (.int 1)) (aCons (aC (.int 0)) (aCons (aC (.int 1)) aNil))))) (aCons (aTup (aCons (aUn aNeg (aC (.int 1))) (aCons (aC (.int 2)) (aCons (aC (.int 0)) (aCons (aUn aNeg (aC (.int 1))) aNil))))) (aCons (aTup (aCons (aC (.int 0)) (aCons (aC (.int 1)) (aCons (aUn aNeg (aC (.int 1))) (aCons (aC (.int 0)) aNil))))) (aCons (aTup (aCons (aC (.int 0)) (aCons (aUn aNeg (aC (.int 1))) (aCons (aC (.int 1)) (aCons (aC (.int 1)) aNil))))) (aCons (aTup (aCons (aC (.int 0)) (aCons (aUn aNeg (aC (.int 1))) (aCons (aC (.int 1)) (aCons (aUn aNeg (aC (.int 1))) aNil))))) (aCons (aTup (aCons (aC (.int 1)) (aCons (aC (.int 0)) (aCons (aC (.int 0)) (aCons (aC (.int 1)) aNil))))) aNil)))))))))
    (aRet (aTup (aCons (aFn 2 fn__law_of (aCons (aVar 0) (aCons (aBin aAdd (aVar 1) (aLst (aCons (aTup (aCons (aC (.int 3)) (aCons (aC (.int 1)) (aCons (aC (.int 2)) (aCons (aC (.int 1)) aNil))))) aNil))) aNil))) (aCons (aFn 2 fn__law_of (aCons (aVar 0) (aCons (aBin aAdd (aVar 1) (aLst (aCons (aTup (aCons (aUn aNeg (aC (.int 2))) (aCons (aC (.int 1)) (aCons (aUn aNeg (aC (.int 1))) (aCons (aC (.int 0)) aNil))))) aNil))) aNil))) aNil)))))
def fn__law_small : AFn := fun avs s Q => ∃ S : Src, avs = [.src] ∧ s = some S ∧ ∀ (T U : T4) (S' : Src), detT T = 1 → Bt 2 T → detT U = 1 → Bt 2 U → Q (.d (.tuple [tbD T, tbD U])) (some S')
theorem sm_ok {d : D} (h : d ∈ [PyData.tuple [.int 2, .int 1, .int 1, .int 1], .tuple [.int 1, .int 1, .int 0, .int 1], .tuple [.int (-1), .int 2, .int 0, .int (-1)], .tuple [.int 0, .int 1, .int (-1), .int 0], .tuple [.int 0, .int (-1), .int 1, .int 1], .tuple [.int 0, .int (-1), .int 1, .int (-1)], .tuple [.int 1, .int 0, .int 0, .int 1], .tuple [.int 3, .int 1, .int 2, .int 1], .tuple [.int (-2), .int 1, .int (-1), .int 0]]) : ∃ T : T4, d = tbD T ∧ detT T = 1 ∧ Bt 2 T := by
  simp only [List.mem_cons, List.not_mem_nil, or_false] at h
  rcases h with rfl | rfl | rfl | rfl | rfl | rfl | rfl | rfl | rfl
  · exact ⟨(2, 1, 1, 1), rfl, by decide, by unfold Bt Bd; decide⟩
  · exact ⟨(1, 1, 0, 1), rfl, by decide, by unfold Bt Bd; decide⟩
  · exact ⟨(-1, 2, 0, -1), rfl, by decide, by unfold Bt Bd; decide⟩
  · exact ⟨(0, 1, -1, 0), rfl, by decide, by unfold Bt Bd; decide⟩
  · exact ⟨(0, -1, 1, 1), rfl, by decide, by unfold Bt Bd; decide⟩
  · exact ⟨(0, -1, 1, -1), rfl, by decide, by unfold Bt Bd; decide⟩
  · exact ⟨(1, 0, 0, 1), rfl, by decide, by unfold Bt Bd; decide⟩
  · exact ⟨(3, 1, 2, 1), rfl, by decide, by unfold Bt Bd; decide⟩
  · exact ⟨(-2, 1, -1, 0), rfl, by decide, by unfold Bt Bd; decide⟩
theorem h__law_small : ∀ avs s AQ, fn__law_small avs s AQ → t__law_small (endsA AQ) ⟨startA N__law_small avs, ⟨s, []⟩⟩ := by
  rintro _ _ AQ ⟨S, rfl, rfl, hq⟩
  show t__law_small (endsA AQ) ⟨[some .src, none], ⟨some S, []⟩⟩
  unfold t__law_small
  walk_at "sq"
  walk_at "qs"
  walk_at "nx"
  walk_at "qs"
  refine ⟨by simp [sizeLine_eq], S, _, rfl, rfl, by decide, by decide, fun d hd S1 => ?_⟩
  obtain ⟨T, rfl, h1, h2⟩ := sm_ok (d := d) (by
    simp only [List.mem_cons, List.not_mem_nil, or_false] at hd ⊢
    rcases hd with h | h | h | h | h | h | h | h <;> simp [h])
  walk_at "qs"
  refine ⟨by simp [sizeLine_eq], S1, _, rfl, rfl, by decide, by decide, fun d hd S2 => ?_⟩
  obtain ⟨U, rfl, h3, h4⟩ := sm_ok (d := d) (by
    simp only [List.mem_cons, List.not_mem_nil, or_false] at hd ⊢
    rcases hd with h | h | h | h | h | h | h | h <;> simp [h])
  walk_at "qs"
  exact hq T U S2 h1 h2 h3 h4
def takF (v : List Int) : Nat → List Int → List Int
  | 0, f => f
  | k + 1, f => takF v k (v.foldl lowS f)
def sidW (w : List Int) (n : Int) : List Int := if 0 < n then w else undW w
def takW (w : List Int) (n : Int) : List Int := takF (sidW w n) n.natAbs []
theorem und_len (w : List Int) : (undW w).length = w.length := by unfold undW; rw [List.length_map, List.length_reverse]
theorem sid_len (w : List Int) (n : Int) : (sidW w n).length = w.length := by unfold sidW; split; rfl; exact und_len w
theorem takF_len (v : List Int) : ∀ (k : Nat) (f : List Int), (takF v k f).length ≤ f.length + k * v.length
  | 0, f => by show f.length ≤ _; omega
  | k + 1, f => by
    have h1 := takF_len v k (v.foldl lowS f)
    have h2 := lowF_len v f
    show (takF v k (v.foldl lowS f)).length ≤ _
    rw [Nat.add_mul]; omega
def N__law_taken : List Str := ["pair", "one", "other", "n", "table", "late", "lap"]
def lb__law_taken_1 : ATS := (aSet 4 (aFn 2 fn__law_by (aCons (aVar 4) (aCons (aVar 5) aNil))))
def t__law_taken : ATS := (aSeq (aPar 4 5 (aCons (aFn 2 fn__law_table_of (aCons (aVar 0) (aCons (aVar 1) aNil))) (aCons (aFn 2 fn__law_table_of (aCons (aVar 0) (aCons (aIf (aTest (aBin aGt (aVar 3) (aC (.int 0)))) (aVar 2) (aFn 1 fn__law_undone (aCons (aVar 2) aNil))) aNil))) aNil)))
    (aSeq (aFor [6] (aRng1 (aCons (aCall bAbs (aCons (aVar 3) aNil)) aNil)) (aGName 6) lb__law_taken_1)
    (aRet (aBin aAdd (aBin aIx (aVar 4) (aC (.int 0))) (aBin aIx (aVar 4) (aC (.int 3)))))))
def itM (W : T4) : Nat → T4 → T4
  | 0, m => m
  | k + 1, m => itM W k (mulT m W)
def takT (T U : T4) (u w : List Int) (n : Int) : Int := trT (itM (wrdI T U (sidW w n)) n.natAbs (wrdI T U u))
def fn__law_taken : AFn := fun avs s Q => ∃ (T U : T4) (u w : List Int) (n : Int), avs = [.d (.tuple [tbD T, tbD U]), .d (wD u), .d (wD w), .d (.int n)] ∧ (∀ l ∈ u, Ltr l) ∧ (∀ l ∈ w, Ltr l) ∧ u.length ≤ 4 ∧ w.length ≤ 3 ∧ n.natAbs ≤ 8 ∧ Bt 2 T ∧ Bt 2 U ∧ Q (.d (.int (takT T U u w n))) s
theorem wrd_bt {t u : T4} (ht : Bt 2 t) (hu : Bt 2 u) : ∀ (w : List Int) (m : T4) (k : Nat), Bt k m → Bt (k + 3 * w.length) (w.foldl (fun m l => mulT m (ltS t u l)) m)
  | [], m, k, h => h
  | l :: r, m, k, h => by
    have := wrd_bt ht hu r _ _ (h.mul (bt_ltS ht hu l))
    rw [List.foldl_cons]
    exact this.le (by rw [List.length_cons]; omega)
theorem lk_loop (E : AEnds) (x0 x1 x2 x3 : D) (W : T4) (hW : Bt 20 W) (s : Option Src) : ∀ (ds : List D) (m : T4) (k : Nat), Bt k m → k + 21 * ds.length ≤ 900 → E.nx ⟨[some (.d x0), some (.d x1), some (.d x2), some (.d x3), some (.d (tbD (itM W ds.length m))), some (.d (tbD W)), none], ⟨s, []⟩⟩ →
    aForL 0 [6] (aGName 6) lb__law_taken_1 E ds ⟨[some (.d x0), some (.d x1), some (.d x2), some (.d x3), some (.d (tbD m)), some (.d (tbD W)), none], ⟨s, []⟩⟩ := by
  intro ds
  induction ds with
  | nil => intro m k _ _ h; exact h
  | cons d ds ih =>
    intro m k hm hk h
    rw [List.length_cons] at hk
    have nx := ih (mulT m W) (k + 21) ((hm.mul hW).le (by omega)) (by omega) h
    unfold aForL lb__law_taken_1
    walk_at "qs"
    exact ⟨m, W, rfl, hm.le (by omega), hW.le (by omega), nx⟩
theorem h__law_taken : ∀ avs s AQ, fn__law_taken avs s AQ → t__law_taken (endsA AQ) ⟨startA N__law_taken avs, ⟨s, []⟩⟩ := by
  rintro _ s AQ ⟨T, U, u, w, n, rfl, hu, hw, lu, lw, hn, hT, hU, hq⟩
  show t__law_taken (endsA AQ) ⟨[some (.d (.tuple [tbD T, tbD U])), some (.d (wD u)), some (.d (wD w)), some (.d (.int n)), none, none, none], ⟨s, []⟩⟩
  have e : (if n < 0 then -n else n).toNat = n.natAbs := by split <;> omega
  have lwu : (sidW w n).length ≤ 3 := by rw [sid_len]; exact lw
  have hsl : ∀ l ∈ sidW w n, Ltr l := by
    unfold sidW
    split
    · exact hw
    · intro l hl
      obtain ⟨k, hk, rfl⟩ := List.mem_map.mp hl
      exact ltr_neg (hw k (List.mem_reverse.mp hk))
  have bA : Bt 20 (wrdI T U u) := (wrd_bt hT hU u (1, 0, 0, 1) 1 bt_one).le (by omega)
  have bW : Bt 20 (wrdI T U (sidW w n)) := (wrd_bt hT hU (sidW w n) (1, 0, 0, 1) 1 bt_one).le (by omega)
  unfold t__law_taken
  walk_at "sq"
  walk_at "qs"
  refine ⟨T, U, u, 2, rfl, hu, hT, hU, by decide, by omega, ?_⟩
  have rest : fn__law_table_of [AV.d (.tuple [tbD T, tbD U]), .d (wD (sidW w n))] s fun av1 s' => E2.nx ⟨[some (.d (.tuple [tbD T, tbD U])), some (.d (wD u)), some (.d (wD w)), some (.d (.int n)), some (.d (tbD (wrdI T U u))), some av1, none], ⟨s', []⟩⟩ := by
    refine ⟨T, U, sidW w n, 2, rfl, hsl, hT, hU, by decide, by omega, ?_⟩
    walk_at "nx"
    walk_at "sq"
    walk_at "qs"
    refine ⟨Rg.of (by split <;> omega) (by split <;> omega), ?_⟩
    refine lk_loop _ _ _ _ _ _ bW s _ _ 20 bA (by rw [rngD_len, e]; omega) ?_
    rw [rngD_len, e]
    walk_at "nx"
    unfold takT at hq
    generalize itM (wrdI T U (sidW w n)) n.natAbs (wrdI T U u) = m at *
    rw [show tbD m = .tuple [.int m.1, .int m.2.1, .int m.2.2.1, .int m.2.2.2] from rfl]
    walk_at "qs"
    exact hq
  unfold sidW at rest
  by_cases c : 0 < n
  · walk_at "qs"
    rw [if_pos c]
    rw [if_pos c] at rest
    exact rest
  · walk_at "qs"
    rw [if_neg c]
    rw [if_neg c] at rest
    refine ⟨w, rfl, by omega, ?_⟩
    walk_at "qs"
    first | exact rest | exact ⟨rfl, rest⟩
/-! ### a polynomial's repr -/
mutual
/-- ints of 64 bits -/
def IntsC : D → Prop
  | .none => True
  | .bool _ => True
  | .int i => B64 i
  | .str _ => False
  | .list xs => IntsCs xs
  | .tuple xs => IntsCs xs
  | .dict _ => False
def IntsCs : List D → Prop
  | [] => True
  | x :: xs => IntsC x ∧ IntsCs xs
end
mutual
theorem IntsC.b : ∀ d : D, IntsC d → IntsB d
  | .none, _ => trivial
  | .bool _, _ => trivial
  | .int _, h => log_64 h.1 h.2
  | .str _, h => h.elim
  | .list xs, h => IntsCs.b xs h
  | .tuple xs, h => IntsCs.b xs h
  | .dict _, h => h.elim
theorem IntsCs.b : ∀ ds : List D, IntsCs ds → IntsBs ds
  | [], _ => trivial
  | d :: ds, h => ⟨IntsC.b d h.1, IntsCs.b ds h.2⟩
end
mutual
theorem IntsC.sh : ∀ d : D, IntsC d → d.leavesShort 100 = true
  | .none, _ => rfl
  | .bool _, _ => rfl
  | .int i, h => by
    have h' : i.natAbs.log2 < 65 := by
      by_cases h0 : i.natAbs = 0
      · rw [h0]; decide
      · have e : (2 : Nat) ^ 65 = 36893488147419103232 := by decide
        have h2 : i.natAbs < 2 ^ 65 := by rw [e]; have := h.1; have := h.2; omega
        exact (Nat.log2_lt h0).mpr h2
    have e := int_text_length_le (k := 65) (by decide) h'
    simp only [PyData.leavesShort, decide_eq_true_eq]
    show (Str.ofString (toString i)).length ≤ 100
    rw [PySem.ofString_length]; omega
  | .str _, h => h.elim
  | .list xs, h => by simpa [PyData.leavesShort] using IntsCs.sh xs h
  | .tuple xs, h => by simpa [PyData.leavesShort] using IntsCs.sh xs h
  | .dict _, h => h.elim
theorem IntsCs.sh : ∀ ds : List D, IntsCs ds → PyData.leavesShortAll 100 ds = true
  | [], _ => rfl
  | d :: ds, h => by simp [PyData.leavesShortAll, IntsC.sh d h.1, IntsCs.sh ds h.2]
end
theorem RepOk.of64 {d : D} (h : IntsC d) (hd : d.depth ≤ 64) (hb : d.bulk ≤ 140000) : RepOk d := by
  obtain ⟨h1, _⟩ := (IntsC.b d h).show_
  refine ⟨(IntsC.b d h).noDict, h1, hd, ?_⟩
  have e := PyData.shown_le_bulk 100 (by decide) d (IntsC.sh d h)
  rw [sizeLine_eq]
  omega
/-- what a repr leans on -/
def Rp (d : D) (n k : Nat) : Prop := IntsC d ∧ d.depth ≤ n ∧ d.bulk ≤ k
theorem rp_ok {d : D} {n k : Nat} (h : Rp d n k) (hn : n ≤ 64) (hk : k ≤ 140000) : RepOk d := RepOk.of64 h.1 (by have := h.2.1; omega) (by have := h.2.2; omega)
theorem rp_po {p : Po} {d : Nat} (hp : PoOk d p) (hd : d ≤ 2000) (hl : p.length ≤ 4000) : Rp (poD p) 3 24000 := by
  have go : ∀ q : Po, (∀ t ∈ q, t ∈ p) → IntsCs (q.map tmD) ∧ PyData.depthAll (q.map tmD) ≤ 2 ∧ PyData.bulkAll (q.map tmD) = 6 * q.length := by
    intro q
    induction q with
    | nil => intro _; exact ⟨trivial, Nat.zero_le _, rfl⟩
    | cons t q ih =>
      intro hm
      obtain ⟨h1, h2, h3⟩ := ih fun u hu => hm u (List.mem_cons_of_mem _ hu)
      obtain ⟨q1, q2, q3, q4⟩ := hp t (hm t List.mem_cons_self)
      obtain ⟨⟨a, b, c⟩, m⟩ := t
      simp only [] at q1 q2 q3 q4
      have ba : B64 a := ⟨by omega, by omega⟩
      have bb : B64 b := ⟨by omega, by omega⟩
      have bc : B64 c := ⟨by omega, by omega⟩
      refine ⟨⟨⟨⟨ba, bb, bc, trivial⟩, q4, trivial⟩, h1⟩, ?_, ?_⟩
      · simp only [List.map_cons, PyData.depthAll]
        have : (tmD ((a, b, c), m)).depth = 2 := by simp [tmD, trD, PyData.depth, PyData.depthAll]
        omega
      · simp only [List.map_cons, PyData.bulkAll, h3, List.length_cons]
        have : (tmD ((a, b, c), m)).bulk = 5 := by simp [tmD, trD, PyData.bulk, PyData.bulkAll]
        omega
  obtain ⟨h1, h2, h3⟩ := go p fun _ h => h
  refine ⟨h1, ?_, ?_⟩
  · show PyData.depth (.tuple (p.map tmD)) ≤ 3
    simp only [PyData.depth]; omega
  · show PyData.bulk (.tuple (p.map tmD)) ≤ 24000
    simp only [PyData.bulk]; omega
theorem rp_p4 {f : P4} {d : Nat} (hp : ∀ p ∈ fL f, PoOk d p) (hd : d ≤ 2000) (ok : P4Ok f) : Rp (p4D f) 4 100000 := by
  obtain ⟨a1, a2, a3⟩ := rp_po (hp f.1 (by simp [fL])) hd ok.1
  obtain ⟨b1, b2, b3⟩ := rp_po (hp f.2.1 (by simp [fL])) hd ok.2.1
  obtain ⟨c1, c2, c3⟩ := rp_po (hp f.2.2.1 (by simp [fL])) hd ok.2.2.1
  obtain ⟨e1, e2, e3⟩ := rp_po (hp f.2.2.2 (by simp [fL])) hd ok.2.2.2
  refine ⟨⟨a1, b1, c1, e1, trivial⟩, ?_, ?_⟩
  · show PyData.depth (.tuple [poD f.1, poD f.2.1, poD f.2.2.1, poD f.2.2.2]) ≤ 4
    simp only [PyData.depth, PyData.depthAll]; omega
  · show PyData.bulk (.tuple [poD f.1, poD f.2.1, poD f.2.2.1, poD f.2.2.2]) ≤ 100000
    simp only [PyData.bulk, PyData.bulkAll]; omega
/-! ### the total degree -/
def wt (k : T3) : Int := k.1 + k.2.1 + k.2.2
def Wg (m : Int) (p : Po) : Prop := AllK (fun k => wt k ≤ m) p
theorem Wg.le {m n : Int} {p : Po} (h : Wg m p) (hn : m ≤ n) : Wg n p := fun t ht => by have := h t ht; simp only [] at this ⊢; omega
instance {m : Int} {p : Po} : Decidable (Wg m p) := by unfold Wg AllK; infer_instance
theorem wg_sum {ps : List (Po × Po)} {m : Int} (h : ∀ pr ∈ ps, ∃ c d : Int, Wg c pr.1 ∧ Wg d pr.2 ∧ c + d ≤ m) : Wg m (sumP ps) :=
  all_sum fun pr hpr t ht o ho => by
    obtain ⟨c, d, h1, h2, h3⟩ := h pr hpr
    have e1 := h1 t ht
    have e2 := h2 o ho
    unfold wt at *
    unfold shT
    simp only [] at e1 e2 ⊢
    omega
structure Wg4 (n : Int) (f : P4) : Prop where
  a : Wg n f.1
  b : Wg (n - 1) f.2.1
  c : Wg (n - 1) f.2.2.1
  e : Wg (n - 2) f.2.2.2
theorem units_wg : (Wg 0 pO ∧ Wg 1 pX ∧ Wg 1 pY ∧ Wg 1 pZ ∧ Wg 0 pLO ∧ Wg 1 pLY ∧ Wg 2 pLeft) ∧ (Wg 0 (tkP pO (-1)) ∧ Wg 1 (tkP pX (-1)) ∧ Wg 1 (tkP pY (-1)) ∧ Wg 1 (tkP pZ (-1)) ∧ Wg 0 (tkP pLO (-1)) ∧ Wg 1 (tkP pLY (-1)) ∧ Wg 2 (tkP pLeft (-1))) := by decide
theorem letP_wg {n : Int} {f : P4} (h : Wg4 n f) {l : Int} (hl : Ltr l) : Wg4 (n + 1) (letP f l) := by
  obtain ⟨a, b, c, e⟩ := f
  obtain ⟨h1, h2, h3, h4⟩ := h
  obtain ⟨⟨u1, u2, u3, u4, u5, u6, u7⟩, v1, v2, v3, v4, v5, v6, v7⟩ := units_wg
  simp only [] at h1 h2 h3 h4
  rcases hl with rfl | rfl | rfl | rfl
  · have e : placesP (a, b, c, e) 1 = [[(pLO, b), (pLeft, c), (pLY, e)], [(pO, a), (pX, b), (pY, c), (pZ, e)], [(pX, c), (pO, e)], [(pLO, c)]] := rfl
    unfold letP
    rw [e]
    refine ⟨wg_sum ?_, wg_sum ?_, wg_sum ?_, wg_sum ?_⟩ <;>
      (intro pr hpr; simp only [List.mem_cons, List.not_mem_nil, or_false] at hpr; rcases hpr with rfl | rfl | rfl | rfl <;> exact ⟨_, _, by assumption, by assumption, by omega⟩)
  · have e : placesP (a, b, c, e) (-1) = [[(tkP pLO (-1), b), (tkP pLeft (-1), c), (tkP pLY (-1), e), (pX, a)], [(tkP pO (-1), a), (tkP pX (-1), b), (tkP pY (-1), c), (tkP pZ (-1), e), (pX, b)], [(tkP pX (-1), c), (tkP pO (-1), e), (pX, c)], [(tkP pLO (-1), c), (pX, e)]] := rfl
    unfold letP
    rw [e]
    refine ⟨wg_sum ?_, wg_sum ?_, wg_sum ?_, wg_sum ?_⟩ <;>
      (intro pr hpr; simp only [List.mem_cons, List.not_mem_nil, or_false] at hpr; rcases hpr with rfl | rfl | rfl | rfl | rfl <;> exact ⟨_, _, by assumption, by assumption, by omega⟩)
  · have e : placesP (a, b, c, e) 2 = [[(pLO, c)], [(pLO, e)], [(pO, a), (pY, c)], [(pO, b), (pY, e)]] := rfl
    unfold letP
    rw [e]
    refine ⟨wg_sum ?_, wg_sum ?_, wg_sum ?_, wg_sum ?_⟩ <;>
      (intro pr hpr; simp only [List.mem_cons, List.not_mem_nil, or_false] at hpr; rcases hpr with rfl | rfl | rfl | rfl <;> exact ⟨_, _, by assumption, by assumption, by omega⟩)
  · have e : placesP (a, b, c, e) (-2) = [[(tkP pLO (-1), c), (pY, a)], [(tkP pLO (-1), e), (pY, b)], [(tkP pO (-1), a), (tkP pY (-1), c), (pY, c)], [(tkP pO (-1), b), (tkP pY (-1), e), (pY, e)]] := rfl
    unfold letP
    rw [e]
    refine ⟨wg_sum ?_, wg_sum ?_, wg_sum ?_, wg_sum ?_⟩ <;>
      (intro pr hpr; simp only [List.mem_cons, List.not_mem_nil, or_false] at hpr; rcases hpr with rfl | rfl | rfl | rfl | rfl <;> exact ⟨_, _, by assumption, by assumption, by omega⟩)
theorem foldP_wg : ∀ (w : List Int) (f : P4) (n : Int), (∀ l ∈ w, Ltr l) → Wg4 n f → Wg4 (n + w.length) (w.foldl letP f)
  | [], f, n, _, h => by
    have e : n + (([] : List Int).length : Int) = n := by simp
    rw [e]; exact h
  | l :: r, f, n, hw, h => by
    have ih := foldP_wg r (letP f l) (n + 1) (fun m hm => hw m (List.mem_cons_of_mem _ hm)) (letP_wg h (hw l List.mem_cons_self))
    rw [List.foldl_cons]
    have e : n + ((l :: r).length : Int) = n + 1 + (r.length : Int) := by rw [List.length_cons]; omega
    rw [e]; exact ih
theorem fourP_wg {w : List Int} (hw : ∀ l ∈ w, Ltr l) : Wg4 w.length (fourP w) := by
  have := foldP_wg w begP 0 hw ⟨by decide, (fun _ h => nomatch h), (fun _ h => nomatch h), (fun _ h => nomatch h)⟩
  rw [Int.zero_add] at this
  exact this
theorem trcP_wg {n : Int} {f : P4} (h : Wg4 n f) : Wg n (trcP f) := by
  obtain ⟨⟨u1, u2, u3, u4, u5, u6, u7⟩, _⟩ := units_wg
  obtain ⟨h1, h2, h3, h4⟩ := h
  have t1 : Wg 0 pTwo := by decide
  unfold trcP
  refine wg_sum fun pr hpr => ?_
  simp only [List.mem_cons, List.not_mem_nil, or_false] at hpr
  rcases hpr with rfl | rfl | rfl | rfl <;> exact ⟨_, _, by assumption, by assumption, by omega⟩
/-- how many terms -/
theorem nodup_sub {α : Type} [DecidableEq α] : ∀ (L l : List α), l.Nodup → (∀ a ∈ l, a ∈ L) → l.length ≤ L.length
  | [], [], _, _ => Nat.le_refl _
  | [], a :: l, _, h => nomatch h a List.mem_cons_self
  | b :: L, l, hd, h => by
    have ih := nodup_sub L (l.erase b) (hd.erase b) fun a ha => by
      have h1 := (hd.mem_erase_iff).mp ha
      rcases List.mem_cons.mp (h a h1.2) with e | e
      · exact absurd e h1.1
      · exact e
    rw [List.length_erase] at ih
    rw [List.length_cons]
    split at ih <;> omega
def all17 : List (Nat × Nat × Nat) := (List.range 18).flatMap fun i => (List.range (18 - i)).flatMap fun j => (List.range (18 - i - j)).map fun k => (i, j, k)
theorem all17_len : all17.length = 1140 := by decide +kernel
theorem wg_len {p : Po} (hc : Cn p) (h : Wg 17 p) : p.length ≤ 1140 := by
  have e : p.length = ((p.map (·.1)).map fun k : T3 => (k.1.toNat, k.2.1.toNat, k.2.2.toNat)).length := by simp
  rw [e, ← all17_len]
  refine nodup_sub _ _ ?_ fun a ha => ?_
  · have hn := hc.nd
    unfold Nd at hn
    refine List.pairwise_map.mpr (List.Pairwise.imp_of_mem (R := fun a b => a ≠ b) (fun {a b} ha hb ne q => ne ?_) hn)
    obtain ⟨t, ht, rfl⟩ := List.mem_map.mp ha
    obtain ⟨u, hu, rfl⟩ := List.mem_map.mp hb
    have h1 := hc.ps t ht
    have h2 := hc.ps u hu
    simp only [Prod.mk.injEq] at q
    refine Prod.ext ?_ (Prod.ext ?_ ?_) <;> omega
  · obtain ⟨k, hk, rfl⟩ := List.mem_map.mp ha
    obtain ⟨t, ht, rfl⟩ := List.mem_map.mp hk
    have h1 := hc.ps t ht
    have h2 : wt t.1 ≤ 17 := h t ht
    unfold wt at h2
    refine List.mem_flatMap.mpr ⟨t.1.1.toNat, List.mem_range.mpr (by omega), List.mem_flatMap.mpr ⟨t.1.2.1.toNat, List.mem_range.mpr (by omega), List.mem_map.mpr ⟨t.1.2.2.toNat, List.mem_range.mpr (by omega), rfl⟩⟩⟩
theorem trok_of {w : List Int} (hw : ∀ l ∈ w, Ltr l) (hl : w.length ≤ 16) : TrOk w := by
  refine ⟨hw, fun k => ?_, ?_⟩
  · have hk : ∀ l ∈ w.take k, Ltr l := fun l hl => hw l (List.mem_of_mem_take hl)
    have hlen : (w.take k).length ≤ 16 := by rw [List.length_take]; omega
    have g := fourP_wg hk
    have p := fourP_pg hk
    have le : ((w.take k).length : Int) ≤ 17 := by omega
    exact ⟨Nat.le_trans (wg_len p.a.cn (g.a.le le)) (by decide), Nat.le_trans (wg_len p.b.cn (g.b.le (by omega))) (by decide), Nat.le_trans (wg_len p.c.cn (g.c.le (by omega))) (by decide), Nat.le_trans (wg_len p.e.cn (g.e.le (by omega))) (by decide)⟩
  · exact Nat.le_trans (wg_len (trcP_pg (fourP_pg hw)).cn ((trcP_wg (fourP_wg hw)).le (by omega))) (by decide)
/-- a value -/
theorem mono_le {x y z : Int} {M m : Nat} (hM : 0 < M) (hx : x.natAbs ≤ M) (hy : y.natAbs ≤ M) (hz : z.natAbs ≤ M) {k : T3} (hk : 0 ≤ k.1 ∧ 0 ≤ k.2.1 ∧ 0 ≤ k.2.2) (hw : wt k ≤ m) : (mono x y z k).natAbs ≤ M ^ m := by
  unfold mono
  rw [Int.natAbs_mul, Int.natAbs_mul, Int.natAbs_pow, Int.natAbs_pow, Int.natAbs_pow]
  have h1 := Nat.pow_le_pow_left hx k.1.toNat
  have h2 := Nat.pow_le_pow_left hy k.2.1.toNat
  have h3 := Nat.pow_le_pow_left hz k.2.2.toNat
  refine Nat.le_trans (Nat.mul_le_mul h1 (Nat.mul_le_mul h2 h3)) ?_
  rw [← Nat.pow_add, ← Nat.pow_add]
  unfold wt at hw
  exact Nat.pow_le_pow_right hM (by omega)
theorem val_wg {p : Po} {m e n : Nat} {x y z : Int} (hp : Ps p) (hw : Wg m p) (hn : nmP p < 2 ^ n) (hx : Bd e x) (hy : Bd e y) (hz : Bd e z) : Bd (n + e * m) (valP p x y z) := by
  rw [valP_lin]
  have h := lin_bd (φ := mono x y z) (B := (2 ^ e) ^ m) (p := p) fun t ht => mono_le (Nat.two_pow_pos e) (Nat.le_of_lt hx) (Nat.le_of_lt hy) (Nat.le_of_lt hz) (hp t ht) (hw t ht)
  unfold Bd
  rw [Nat.pow_add, Nat.pow_mul]
  exact Nat.lt_of_le_of_lt h (Nat.mul_lt_mul_of_pos_right hn (Nat.pow_pos (Nat.two_pow_pos e)))
/-! ### four numbers by four numbers, behind one another -/
def mulV (v q : T4) (x y z : Int) : T4 :=
  let a := letV v 1 x y z
  let b := letV v 2 x y z
  let c := letV a 2 x y z
  (q.1 * v.1 + q.2.1 * a.1 + q.2.2.1 * b.1 + q.2.2.2 * c.1, q.1 * v.2.1 + q.2.1 * a.2.1 + q.2.2.1 * b.2.1 + q.2.2.2 * c.2.1, q.1 * v.2.2.1 + q.2.1 * a.2.2.1 + q.2.2.1 * b.2.2.1 + q.2.2.2 * c.2.2.1, q.1 * v.2.2.2 + q.2.1 * a.2.2.2 + q.2.2.1 * b.2.2.2 + q.2.2.2 * c.2.2.2)
theorem letV_1 (v : T4) (x y z : Int) : letV v 1 x y z = (-v.2.1 + (z - x * y) * v.2.2.1 - y * v.2.2.2, v.1 + x * v.2.1 + y * v.2.2.1 + z * v.2.2.2, x * v.2.2.1 + v.2.2.2, -v.2.2.1) := rfl
theorem letV_2 (v : T4) (x y z : Int) : letV v 2 x y z = (-v.2.2.1, -v.2.2.2, v.1 + y * v.2.2.1, v.2.1 + y * v.2.2.2) := rfl
theorem letV_m1 (v : T4) (x y z : Int) : letV v (-1) x y z = (x * v.1 - (-v.2.1 + (z - x * y) * v.2.2.1 - y * v.2.2.2), x * v.2.1 - (v.1 + x * v.2.1 + y * v.2.2.1 + z * v.2.2.2), x * v.2.2.1 - (x * v.2.2.1 + v.2.2.2), x * v.2.2.2 + v.2.2.1) := rfl
theorem letV_m2 (v : T4) (x y z : Int) : letV v (-2) x y z = (y * v.1 + v.2.2.1, y * v.2.1 + v.2.2.2, y * v.2.2.1 - (v.1 + y * v.2.2.1), y * v.2.2.2 - (v.2.1 + y * v.2.2.2)) := rfl
theorem mulV_let (v q : T4) (x y z : Int) {l : Int} (hl : Ltr l) : letV (mulV v q x y z) l x y z = mulV v (letV q l x y z) x y z := by
  obtain ⟨a, b, c, d⟩ := v; obtain ⟨e, f, g, h⟩ := q
  rcases hl with rfl | rfl | rfl | rfl <;> simp only [mulV, letV_1, letV_2, letV_m1, letV_m2] <;> (refine Prod.ext ?_ (Prod.ext ?_ (Prod.ext ?_ ?_)) <;> simp only [] <;> grind)
theorem mulV_one (v : T4) (x y z : Int) : mulV v (1, 0, 0, 0) x y z = v := by
  obtain ⟨a, b, c, d⟩ := v
  simp [mulV]
def nrmV (q : T4) (x y z : Int) : Int := q.1 * q.1 + q.2.1 * q.2.1 + q.2.2.1 * q.2.2.1 + q.2.2.2 * q.2.2.2 + x * q.1 * q.2.1 + y * q.1 * q.2.2.1 + z * q.1 * q.2.2.2 + (x * y - z) * q.2.1 * q.2.2.1 + y * q.2.1 * q.2.2.2 + x * q.2.2.1 * q.2.2.2
def trV (q : T4) (x y z : Int) : Int := 2 * q.1 + x * q.2.1 + y * q.2.2.1 + z * q.2.2.2
def sclV (n : Int) (v : T4) : T4 := (n * v.1, n * v.2.1, n * v.2.2.1, n * v.2.2.2)
def subV (v w : T4) : T4 := (v.1 - w.1, v.2.1 - w.2.1, v.2.2.1 - w.2.2.1, v.2.2.2 - w.2.2.2)
theorem nrm_let (q : T4) (x y z : Int) {l : Int} (hl : Ltr l) : nrmV (letV q l x y z) x y z = nrmV q x y z := by
  obtain ⟨e, f, g, h⟩ := q
  rcases hl with rfl | rfl | rfl | rfl <;> simp only [nrmV, letV_1, letV_2, letV_m1, letV_m2] <;> grind
theorem ham (v q : T4) (x y z : Int) : mulV (mulV v q x y z) q x y z = subV (sclV (trV q x y z) (mulV v q x y z)) (sclV (nrmV q x y z) v) := by
  obtain ⟨a, b, c, d⟩ := v; obtain ⟨e, f, g, h⟩ := q
  simp only [mulV, letV_1, letV_2, nrmV, trV, subV, sclV]
  refine Prod.ext ?_ (Prod.ext ?_ (Prod.ext ?_ ?_)) <;> simp only [] <;> grind
theorem tr_sub (n : Int) (v w : T4) (x y z : Int) : trV (subV (sclV n v) w) x y z = n * trV v x y z - trV w x y z := by
  obtain ⟨a, b, c, d⟩ := v; obtain ⟨e, f, g, h⟩ := w
  simp only [trV, subV, sclV]; grind
/-- a word behind -/
def runV (w : List Int) (x y z : Int) (v : T4) : T4 := w.foldl (fun v l => letV v l x y z) v
def oneV : T4 := (1, 0, 0, 0)
theorem runV_mul (x y z : Int) : ∀ (w : List Int) (v q : T4), (∀ l ∈ w, Ltr l) → runV w x y z (mulV v q x y z) = mulV v (runV w x y z q) x y z
  | [], _, _, _ => rfl
  | l :: r, v, q, h => by
    show runV r x y z (letV (mulV v q x y z) l x y z) = mulV v (runV r x y z (letV q l x y z)) x y z
    rw [mulV_let v q x y z (h l List.mem_cons_self), runV_mul x y z r v _ fun k hk => h k (List.mem_cons_of_mem _ hk)]
theorem runV_nrm (x y z : Int) : ∀ (w : List Int) (q : T4), (∀ l ∈ w, Ltr l) → nrmV (runV w x y z q) x y z = nrmV q x y z
  | [], _, _ => rfl
  | l :: r, q, h => by
    show nrmV (runV r x y z (letV q l x y z)) x y z = _
    rw [runV_nrm x y z r _ fun k hk => h k (List.mem_cons_of_mem _ hk), nrm_let q x y z (h l List.mem_cons_self)]
def trW (w : List Int) (x y z : Int) : Int := trV (runV w x y z oneV) x y z
theorem runV_ham (x y z : Int) {w : List Int} (h : ∀ l ∈ w, Ltr l) (v : T4) : runV w x y z (runV w x y z v) = subV (sclV (trW w x y z) (runV w x y z v)) v := by
  have e : ∀ v, runV w x y z v = mulV v (runV w x y z oneV) x y z := fun v => by
    have := runV_mul x y z w v oneV h
    rw [show mulV v oneV x y z = v from mulV_one v x y z] at this
    exact this
  have n1 : nrmV (runV w x y z oneV) x y z = 1 := by
    rw [runV_nrm x y z w oneV h]; simp [nrmV, oneV]
  rw [e (runV w x y z v), e v, ham, n1]
  obtain ⟨a, b, c, d⟩ := v
  simp only [sclV, Int.one_mul]; rfl
theorem runV_app (x y z : Int) (w o : List Int) (v : T4) : runV (w ++ o) x y z v = runV o x y z (runV w x y z v) := by unfold runV; rw [List.foldl_append]
theorem und_ltr {w : List Int} (h : ∀ l ∈ w, Ltr l) : ∀ l ∈ undW w, Ltr l := fun l hl => by
  obtain ⟨k, hk, rfl⟩ := List.mem_map.mp hl
  exact ltr_neg (h k (List.mem_reverse.mp hk))
theorem und_und (w : List Int) : undW (undW w) = w := by
  unfold undW
  rw [← List.map_reverse, List.reverse_reverse, List.map_map]
  have : (fun l : Int => -l) ∘ (fun l => -l) = id := by funext l; simp
  rw [this, List.map_id]
theorem runV_und1 (x y z : Int) : ∀ (w : List Int) (v : T4), (∀ l ∈ w, Ltr l) → runV w x y z (runV (undW w) x y z v) = v
  | [], _, _ => rfl
  | l :: r, v, h => by
    have e : undW (l :: r) = undW r ++ [-l] := by unfold undW; rw [List.reverse_cons, List.map_append]; rfl
    rw [e, runV_app]
    show runV r x y z (letV (letV (runV (undW r) x y z v) (-l) x y z) l x y z) = v
    rw [letV_back _ _ _ _ _ (h l List.mem_cons_self)]
    exact runV_und1 x y z r v fun k hk => h k (List.mem_cons_of_mem _ hk)
theorem runV_und2 (x y z : Int) (w : List Int) (v : T4) (h : ∀ l ∈ w, Ltr l) : runV (undW w) x y z (runV w x y z v) = v := by
  have := runV_und1 x y z (undW w) v (und_ltr h)
  rw [und_und] at this
  exact this
theorem tr_und (x y z : Int) {w : List Int} (h : ∀ l ∈ w, Ltr l) : trW (undW w) x y z = trW w x y z := by
  have c := runV_ham x y z h (runV (undW w) x y z oneV)
  rw [runV_und1 x y z w _ h] at c
  have d : trV (runV w x y z oneV) x y z = trV (subV (sclV (trW w x y z) oneV) (runV (undW w) x y z oneV)) x y z := congrArg (fun v => trV v x y z) c
  rw [tr_sub, show trV oneV x y z = 2 by simp [trV, oneV]] at d
  have e : trV (runV w x y z oneV) x y z = trW w x y z := rfl
  have f : trV (runV (undW w) x y z oneV) x y z = trW (undW w) x y z := rfl
  rw [e, f] at d
  omega
/-- what falls out -/
theorem runV_low (x y z : Int) (v : T4) : ∀ (w f : List Int), (∀ l ∈ f, Ltr l) → (∀ l ∈ w, Ltr l) → runV (w.foldl lowS f) x y z v = runV w x y z (runV f x y z v)
  | [], f, _, _ => rfl
  | l :: r, f, hf, hw => by
    have hl := hw l List.mem_cons_self
    have hs : ∀ k ∈ lowS f l, Ltr k := lowF_all [l] f hf (fun k hk => by rw [List.mem_singleton.mp hk]; exact hl)
    rw [List.foldl_cons, runV_low x y z v r (lowS f l) hs fun k hk => hw k (List.mem_cons_of_mem _ hk)]
    show runV r x y z (runV (lowS f l) x y z v) = runV r x y z (letV (runV f x y z v) l x y z)
    congr 1
    rcases List.eq_nil_or_concat f with rfl | ⟨g, k, rfl⟩
    · rfl
    · rw [List.concat_eq_append] at hf ⊢
      rw [lowS_snoc]
      split
      · rename_i c
        rw [runV_app, c, Int.zero_sub]
        exact (letV_back _ _ _ _ _ hl).symm
      · rw [runV_app, runV_app]; rfl
/-- taken so often -/
def itV (w : List Int) (x y z : Int) : Nat → T4 → T4
  | 0, v => v
  | k + 1, v => itV w x y z k (runV w x y z v)
theorem itV_out (w : List Int) (x y z : Int) : ∀ (k : Nat) (v : T4), itV w x y z (k + 1) v = runV w x y z (itV w x y z k v)
  | 0, _ => rfl
  | k + 1, v => by
    show itV w x y z (k + 1) (runV w x y z v) = _
    rw [itV_out w x y z k]; rfl
theorem takF_ltr {v : List Int} (h : ∀ l ∈ v, Ltr l) : ∀ (k : Nat) (f : List Int), (∀ l ∈ f, Ltr l) → ∀ l ∈ takF v k f, Ltr l
  | 0, _, hf => hf
  | k + 1, f, hf => takF_ltr h k _ (lowF_all v f hf h)
theorem runV_tak (x y z : Int) (u : T4) {v : List Int} (h : ∀ l ∈ v, Ltr l) : ∀ (k : Nat) (f : List Int), (∀ l ∈ f, Ltr l) → runV (takF v k f) x y z u = itV v x y z k (runV f x y z u)
  | 0, _, _ => rfl
  | k + 1, f, hf => by
    show runV (takF v k (v.foldl lowS f)) x y z u = itV v x y z k (runV v x y z (runV f x y z u))
    rw [runV_tak x y z u h k _ (lowF_all v f hf h), runV_low x y z u v f hf h]
/-- the run of two words -/
def runU (u w : List Int) (x y z n : Int) : Int := trV (itV (sidW w n) x y z n.natAbs (runV u x y z oneV)) x y z
theorem runU_rec {u w : List Int} (hw : ∀ l ∈ w, Ltr l) (x y z n : Int) : runU u w x y z (n + 1) = trW w x y z * runU u w x y z n - runU u w x y z (n - 1) := by
  have cut : ∀ Z : T4, trV (runV w x y z (runV w x y z Z)) x y z = trW w x y z * trV (runV w x y z Z) x y z - trV Z x y z := fun Z => by rw [runV_ham x y z hw, tr_sub]
  unfold runU
  generalize runV u x y z oneV = V
  by_cases h0 : n < 0
  · obtain ⟨k, rfl⟩ : ∃ k : Nat, n = -((k : Int) + 1) := ⟨(-n - 1).toNat, by omega⟩
    have s1 : sidW w (-((k : Int) + 1) - 1) = undW w := by unfold sidW; rw [if_neg (by omega)]
    have s2 : sidW w (-((k : Int) + 1)) = undW w := by unfold sidW; rw [if_neg (by omega)]
    have s3 : sidW w (-((k : Int) + 1) + 1) = undW w := by unfold sidW; rw [if_neg (by omega)]
    have n1 : (-((k : Int) + 1) - 1).natAbs = k + 2 := by omega
    have n2 : (-((k : Int) + 1)).natAbs = k + 1 := by omega
    have n3 : (-((k : Int) + 1) + 1).natAbs = k := by omega
    have c := cut (itV (undW w) x y z (k + 2) V)
    rw [s1, s2, s3, n1, n2, n3]
    have e1 : runV w x y z (itV (undW w) x y z (k + 2) V) = itV (undW w) x y z (k + 1) V := by rw [itV_out, runV_und1 x y z w _ hw]
    have e2 : runV w x y z (itV (undW w) x y z (k + 1) V) = itV (undW w) x y z k V := by rw [itV_out, runV_und1 x y z w _ hw]
    rw [e1, e2] at c
    exact c
  · by_cases h1 : n = 0
    · subst h1
      have c := cut (runV (undW w) x y z V)
      rw [runV_und1 x y z w _ hw] at c
      exact c
    · obtain ⟨k, rfl⟩ : ∃ k : Nat, n = (k : Int) + 1 := ⟨(n - 1).toNat, by omega⟩
      have s1 : sidW w ((k : Int) + 1 + 1) = w := by unfold sidW; rw [if_pos (by omega)]
      have s2 : sidW w ((k : Int) + 1) = w := by unfold sidW; rw [if_pos (by omega)]
      have n1 : ((k : Int) + 1 + 1).natAbs = k + 2 := by omega
      have n2 : ((k : Int) + 1).natAbs = k + 1 := by omega
      have n3 : ((k : Int) + 1 - 1).natAbs = k := by omega
      have e3 : itV (sidW w ((k : Int) + 1 - 1)) x y z k V = itV w x y z k V := by
        by_cases c : k = 0
        · subst c; rfl
        · have : sidW w ((k : Int) + 1 - 1) = w := by unfold sidW; rw [if_pos (by omega)]
          rw [this]
      have c := cut (itV w x y z k V)
      rw [s1, s2, n1, n2, n3, e3, itV_out, itV_out]
      exact c
/-! ### words' traces, as told -/
theorem val_beg (x y z : Int) : val4 begP x y z = oneV := by
  have h := val_units x y z
  show (valP pO x y z, (0 : Int), (0 : Int), (0 : Int)) = _
  rw [h.1]; rfl
theorem four_val (x y z : Int) : ∀ (w : List Int) (f : P4), (∀ l ∈ w, Ltr l) → P4s f → val4 (w.foldl letP f) x y z = runV w x y z (val4 f x y z)
  | [], _, _, _ => rfl
  | l :: r, f, hw, hf => by
    have hl := hw l List.mem_cons_self
    rw [List.foldl_cons, four_val x y z r (letP f l) (fun k hk => hw k (List.mem_cons_of_mem _ hk)) (letP_ps hf hl), letP_val hf hl]; rfl
theorem val_trP {w : List Int} (hw : ∀ l ∈ w, Ltr l) (x y z : Int) : valP (trcP (fourP w)) x y z = trW w x y z := by
  have h := four_val x y z w begP hw beg_ps
  rw [val_beg] at h
  have hp := (fourP_pg hw).ps
  rw [val_trc hp]
  unfold trW
  rw [← h]; rfl
theorem sid_ltr {w : List Int} (h : ∀ l ∈ w, Ltr l) (n : Int) : ∀ l ∈ sidW w n, Ltr l := by
  unfold sidW
  split
  · exact h
  · exact und_ltr h
/-- u with w taken n times behind -/
def vW (u w : List Int) (n : Int) : List Int := (takW w n).foldl lowS u
theorem tak_ltr {w : List Int} (h : ∀ l ∈ w, Ltr l) (n : Int) : ∀ l ∈ takW w n, Ltr l := takF_ltr (sid_ltr h n) _ [] (fun _ h => nomatch h)
theorem tak_len (w : List Int) (n : Int) : (takW w n).length ≤ n.natAbs * w.length := by
  have := takF_len (sidW w n) n.natAbs []
  rw [sid_len] at this
  unfold takW
  simpa using this
theorem vW_ltr {u w : List Int} (hu : ∀ l ∈ u, Ltr l) (hw : ∀ l ∈ w, Ltr l) (n : Int) : ∀ l ∈ vW u w n, Ltr l := lowF_all _ u hu (tak_ltr hw n)
theorem vW_len (u w : List Int) (n : Int) : (vW u w n).length ≤ u.length + n.natAbs * w.length := by
  have h1 := lowF_len (takW w n) u
  have h2 := tak_len w n
  unfold vW; omega
theorem vW_val {u w : List Int} (hu : ∀ l ∈ u, Ltr l) (hw : ∀ l ∈ w, Ltr l) (n x y z : Int) : trW (vW u w n) x y z = runU u w x y z n := by
  unfold trW vW runU
  rw [runV_low x y z oneV (takW w n) u hu (tak_ltr hw n)]
  unfold takW
  rw [runV_tak x y z _ (sid_ltr hw n) n.natAbs [] (fun _ h => nomatch h)]; rfl
theorem app_ltr {u w : List Int} (hu : ∀ l ∈ u, Ltr l) (hw : ∀ l ∈ w, Ltr l) : ∀ l ∈ u ++ w, Ltr l := fun l h => (List.mem_append.mp h).elim (hu l) (hw l)
theorem low_val {u w : List Int} (hu : ∀ l ∈ u, Ltr l) (hw : ∀ l ∈ w, Ltr l) (x y z : Int) : trW (lowW (u ++ w)) x y z = trV (runV w x y z (runV u x y z oneV)) x y z := by
  unfold trW lowW
  rw [runV_low x y z oneV (u ++ w) [] (fun _ h => nomatch h) (app_ltr hu hw)]
  show trV (runV (u ++ w) x y z oneV) x y z = _
  rw [runV_app]
theorem low_1 {u w : List Int} (hu : ∀ l ∈ u, Ltr l) (hw : ∀ l ∈ w, Ltr l) (x y z : Int) : trW (lowW (u ++ w)) x y z = runU u w x y z 1 := low_val hu hw x y z
theorem low_m1 {u w : List Int} (hu : ∀ l ∈ u, Ltr l) (hw : ∀ l ∈ w, Ltr l) (x y z : Int) : trW (lowW (u ++ undW w)) x y z = runU u w x y z (-1) := low_val hu (und_ltr hw) x y z
theorem put_1 {u w : List Int} (hu : ∀ l ∈ u, Ltr l) (hw : ∀ l ∈ w, Ltr l) (x y z : Int) : trW (w.foldl lowS u) x y z = runU u w x y z 1 := by
  unfold trW
  rw [runV_low x y z oneV w u hu hw]; rfl
theorem runU_0 (u w : List Int) (x y z : Int) : runU u w x y z 0 = trW u x y z := rfl
theorem runU_run {u w : List Int} (hw : ∀ l ∈ w, Ltr l) (x y z n : Int) : runZ (runU u w x y z 0) (runU u w x y z 1) (trW w x y z) n = runU u w x y z n :=
  run_uniq (trW w x y z) (fun n => runU u w x y z n) (fun n => runU_rec hw x y z n) n
theorem runU_back {u w : List Int} (hw : ∀ l ∈ w, Ltr l) (x y z n : Int) : runZ (runU u w x y z 0) (runU u w x y z (-1)) (trW w x y z) n = runZ (runU u w x y z 0) (runU u w x y z 1) (trW w x y z) (-n) := by
  have h := runU_rec (u := u) hw x y z 0
  rw [show (0 : Int) + 1 = 1 from rfl, show (0 : Int) - 1 = -1 from rfl] at h
  rw [show runU u w x y z (-1) = trW w x y z * runU u w x y z 0 - runU u w x y z 1 by omega]
  exact runZ_back _ _ _ _
theorem po_ok {w : List Int} (hw : ∀ l ∈ w, Ltr l) {k : Nat} (hl : w.length ≤ k) (hk : k ≤ 16) : PoOk (1 + k) (trcP (fourP w)) := by
  have h := (trcP_pg (fourP_pg hw)).le (show 1 + w.length ≤ 1 + k by omega) (Nat.mul_le_mul_left 5 (Nat.pow_le_pow_right (by decide : 0 < 5) (show w.length ≤ 16 by omega)))
  exact h.ok (by decide)
theorem rep_w {w : List Int} (hw : ∀ l ∈ w, Ltr l) (hl : w.length ≤ 16) : Rp (poD (trcP (fourP w))) 3 24000 := rp_po (po_ok hw hl (Nat.le_refl _)) (by decide) (trok_of hw hl).2.2
theorem tr_bd {w : List Int} (hw : ∀ l ∈ w, Ltr l) {k : Nat} (hl : w.length ≤ k) {x y z : Int} (hx : Bd 22 x) (hy : Bd 22 y) (hz : Bd 22 z) : Bd (3 * (k + 1) + 22 * k) (trW w x y z) := by
  rw [← val_trP hw]
  have pg := trcP_pg (fourP_pg hw)
  refine val_wg pg.cn.ps ((trcP_wg (fourP_wg hw)).le (by omega)) ?_ hx hy hz
  have h1 := pg.nm
  have h2 : 5 * 5 ^ w.length = 5 ^ (w.length + 1) := by rw [Nat.pow_succ, Nat.mul_comm]
  have h3 : 5 ^ (w.length + 1) < 8 ^ (w.length + 1) := Nat.pow_lt_pow_left (by decide) (by omega)
  have h4 : (2 : Nat) ^ (3 * (k + 1)) = 8 ^ (k + 1) := by rw [Nat.pow_mul]
  have h5 : (8 : Nat) ^ (w.length + 1) ≤ 8 ^ (k + 1) := Nat.pow_le_pow_right (by decide) (by omega)
  omega
theorem mulT_assoc (a b c : T4) : mulT (mulT a b) c = mulT a (mulT b c) := by
  obtain ⟨a1, a2, a3, a4⟩ := a; obtain ⟨b1, b2, b3, b4⟩ := b; obtain ⟨c1, c2, c3, c4⟩ := c
  simp only [mulT]
  refine Prod.ext ?_ (Prod.ext ?_ (Prod.ext ?_ ?_)) <;> simp only [] <;> grind
theorem mulT_one (a : T4) : mulT a (1, 0, 0, 1) = a ∧ mulT (1, 0, 0, 1) a = a := by
  obtain ⟨a1, a2, a3, a4⟩ := a
  constructor <;> simp [mulT]
theorem mulT_inv {a : T4} (h : detT a = 1) : mulT a (invT a) = (1, 0, 0, 1) ∧ mulT (invT a) a = (1, 0, 0, 1) := by
  obtain ⟨p, q, r, s⟩ := a
  simp only [detT] at h
  constructor <;> (simp only [mulT, invT]; refine Prod.ext ?_ (Prod.ext ?_ (Prod.ext ?_ ?_)) <;> simp only [] <;> grind)
theorem det_ltS {t u : T4} (h1 : detT t = 1) (h2 : detT u = 1) {l : Int} (hl : Ltr l) : detT (ltS t u l) = 1 := by
  have hi : ∀ a : T4, detT a = 1 → detT (invT a) = 1 := fun a h => by
    obtain ⟨p, q, r, s⟩ := a
    simp only [detT, invT] at *; grind
  rcases hl with rfl | rfl | rfl | rfl
  · exact h1
  · exact hi t h1
  · exact h2
  · exact hi u h2
theorem ltS_inv (t u : T4) {l : Int} (hl : Ltr l) : ltS t u (-l) = invT (ltS t u l) := by
  have hii : ∀ a : T4, invT (invT a) = a := fun a => by
    obtain ⟨p, q, r, s⟩ := a
    simp [invT]
  rcases hl with rfl | rfl | rfl | rfl
  · rfl
  · exact (hii t).symm
  · rfl
  · exact (hii u).symm
def wrdF (t u : T4) (m : T4) (w : List Int) : T4 := w.foldl (fun m l => mulT m (ltS t u l)) m
theorem wrdF_mul (t u : T4) : ∀ (w : List Int) (m : T4), wrdF t u m w = mulT m (wrdI t u w)
  | [], m => (mulT_one m).1.symm
  | l :: r, m => by
    show wrdF t u (mulT m (ltS t u l)) r = mulT m (wrdF t u (mulT (1, 0, 0, 1) (ltS t u l)) r)
    rw [wrdF_mul t u r, wrdF_mul t u r (mulT (1, 0, 0, 1) (ltS t u l)), (mulT_one _).2, mulT_assoc]
theorem wrd_app (t u : T4) (w o : List Int) : wrdI t u (w ++ o) = mulT (wrdI t u w) (wrdI t u o) := by
  show wrdF t u (1, 0, 0, 1) (w ++ o) = _
  unfold wrdF
  rw [List.foldl_append]
  exact wrdF_mul t u o _
theorem wrd_one (t u : T4) (l : Int) : wrdI t u [l] = ltS t u l := (mulT_one _).2
theorem wrd_low {t u : T4} (h1 : detT t = 1) (h2 : detT u = 1) : ∀ (w f : List Int), (∀ l ∈ f, Ltr l) → (∀ l ∈ w, Ltr l) → wrdI t u (w.foldl lowS f) = wrdI t u (f ++ w)
  | [], f, _, _ => by rw [List.append_nil]; rfl
  | l :: r, f, hf, hw => by
    have hl := hw l List.mem_cons_self
    have hs : ∀ k ∈ lowS f l, Ltr k := lowF_all [l] f hf (fun k hk => by rw [List.mem_singleton.mp hk]; exact hl)
    rw [List.foldl_cons, wrd_low h1 h2 r (lowS f l) hs fun k hk => hw k (List.mem_cons_of_mem _ hk), wrd_app, show f ++ l :: r = (f ++ [l]) ++ r by simp, wrd_app t u (f ++ [l]) r]
    congr 1
    rcases List.eq_nil_or_concat f with rfl | ⟨g, k, rfl⟩
    · rw [lowS_nil]; rfl
    · rw [List.concat_eq_append] at hf ⊢
      rw [lowS_snoc]
      split
      · rename_i c
        rw [wrd_app, wrd_app, wrd_one, wrd_one, c, Int.zero_sub, ltS_inv t u hl, mulT_assoc, (mulT_inv (det_ltS h1 h2 hl)).2, (mulT_one _).1]
      · rfl
/-- what falls out changes no table -/
theorem wrdI_low {t u : T4} (h1 : detT t = 1) (h2 : detT u = 1) {w : List Int} (h : ∀ l ∈ w, Ltr l) : wrdI t u (lowW w) = wrdI t u w := by
  have := wrd_low h1 h2 w [] (fun _ h => nomatch h) h
  simpa [lowW] using this
theorem itM_mul (W : T4) : ∀ (k : Nat) (A m : T4), mulT A (itM W k m) = itM W k (mulT A m)
  | 0, _, _ => rfl
  | k + 1, A, m => by
    show mulT A (itM W k (mulT m W)) = itM W k (mulT (mulT A m) W)
    rw [itM_mul W k A, mulT_assoc]
theorem wrd_tak {T U : T4} (h1 : detT T = 1) (h2 : detT U = 1) {v : List Int} (hv : ∀ l ∈ v, Ltr l) : ∀ (k : Nat) (f : List Int), (∀ l ∈ f, Ltr l) → wrdI T U (takF v k f) = itM (wrdI T U v) k (wrdI T U f)
  | 0, _, _ => rfl
  | k + 1, f, hf => by
    show wrdI T U (takF v k (v.foldl lowS f)) = itM (wrdI T U v) k (mulT (wrdI T U f) (wrdI T U v))
    rw [wrd_tak h1 h2 hv k _ (lowF_all v f hf hv), wrd_low h1 h2 v f hf hv, wrd_app]
theorem tak_vW {T U : T4} (h1 : detT T = 1) (h2 : detT U = 1) {u w : List Int} (hu : ∀ l ∈ u, Ltr l) (hw : ∀ l ∈ w, Ltr l) (n : Int) : takT T U u w n = trT (wrdI T U (vW u w n)) := by
  unfold takT vW
  rw [wrd_low h1 h2 (takW w n) u hu (tak_ltr hw n), wrd_app]
  unfold takW
  rw [wrd_tak h1 h2 (sid_ltr hw n) _ [] (fun _ h => nomatch h), itM_mul, show wrdI T U [] = (1, 0, 0, 1) from rfl, (mulT_one _).1]
def N__law_in : List Str := ["told", "n"]
def t__law_in : ATS := (aSeq (aIfS (aTest (aBin aEq (aBin aIx (aVar 0) (aC (.int 0))) (aC (.str "these")))) (aRet (aBin aInT (aVar 1) (aBin aIx (aVar 0) (aC (.int 1))))) aNext)
    (aRet (aBin aInT (aBin aMod (aCall bInt (aCons (aVar 1) aNil)) (aBin aIx (aVar 0) (aC (.int 1)))) (aBin aIx (aVar 0) (aC (.int 2))))))
def inW : Tw → Int → Prop
  | .these ps, n => n ∈ ps
  | .round L q, n => n % L ∈ q
instance : ∀ (w : Tw) (n : Int), Decidable (inW w n)
  | .these ps, n => inferInstanceAs (Decidable (n ∈ ps))
  | .round L q, n => inferInstanceAs (Decidable (n % L ∈ q))
def LenW : Tw → Prop
  | .these _ => True
  | .round L _ => 1 ≤ L
def fn__law_in : AFn := fun avs s Q => ∃ (w : Tw) (n : Int), avs = [.d (twD w), .d (.int n)] ∧ LenW w ∧ Q (.d (.bool (decide (inW w n)))) s
theorem h__law_in : ∀ avs s AQ, fn__law_in avs s AQ → t__law_in (endsA AQ) ⟨startA N__law_in avs, ⟨s, []⟩⟩ := by
  rintro _ s AQ ⟨w, n, rfl, hl, hq⟩
  show t__law_in (endsA AQ) ⟨[some (.d (twD w)), some (.d (.int n))], ⟨s, []⟩⟩
  unfold t__law_in
  cases w with
  | these ps =>
    unfold twD
    walk_at "qs"
    first | refine ⟨rfl, (shaped_ints ps).2, ?_⟩ | refine ⟨(shaped_ints ps).2, ?_⟩
    rw [in_ints]
    exact hq
  | round L q =>
    unfold twD
    walk_at "qs"
    first | refine ⟨hl, rfl, (shaped_ints q).2, ?_⟩ | refine ⟨hl, (shaped_ints q).2, ?_⟩ | (rw [if_neg (by decide)]; refine ⟨hl, rfl, (shaped_ints q).2, ?_⟩)
    rw [in_ints]
    exact hq
def N__law_form_right : List Str := ["told", "length", "places", "less", "late", "place"]
def lt__law_form_right_1 : ATT := (aNot (aTest (aChain aLt aLt (aUn aNeg (aC (.int 1))) (aVar 5) (aVar 1))))
def le__law_form_right_2 : ATE := (aVar 5)
def le__law_form_right_3 : ATE := (aBin aMod (aCall bInt (aCons (aBin aAdd (aVar 5) (aVar 3)) aNil)) (aVar 1))
def lb__law_form_right_4 : ATS := (aIfS (aTest (aBin aEq (aBin aMod (aCall bInt (aCons (aVar 1) aNil)) (aVar 3)) (aC (.int 0)))) (aSeq (aSet 4 (aLc (aItL (aVar 2)) (aGName 5) aYes le__law_form_right_3 [5]))
    (aIfS (aTest (aBin aEq (aCall bSorted (aCons (aVar 4) aNil)) (aVar 2))) (aRet (aC (.bool false))) aNext)) aNext)
def t__law_form_right : ATS := (aSeq (aIfS (aTest (aBin aEq (aBin aIx (aVar 0) (aC (.int 0))) (aC (.str "these")))) (aRet (aBin aEq (aCall bList (aCons (aBin aIx (aVar 0) (aC (.int 1))) aNil)) (aCall bSortedT (aCons (aBin aIx (aVar 0) (aC (.int 1))) aNil)))) aNext)
    (aSeq (aAsg (aTup (aCons (aBin aIx (aVar 0) (aC (.int 1))) (aCons (aCall bList (aCons (aBin aIx (aVar 0) (aC (.int 2))) aNil)) aNil))) (aGTup 2 (aGCons (aGName 1) (aGCons (aGName 2) aGNil))))
    (aSeq (aIfS (aOr (aTest (aBin aNe (aVar 2) (aCall bSorted (aCons (aVar 2) aNil)))) (aOr (aTest (aBin aEq (aVar 2) (aLst aNil))) (aTest (aBin aNe (aLc (aItL (aVar 2)) (aGName 5) lt__law_form_right_1 le__law_form_right_2 [5]) (aLst aNil))))) (aRet (aC (.bool false))) aNext)
    (aSeq (aFor [3, 4, 5] (aRng2 (aCons (aC (.int 1)) (aCons (aVar 1) aNil))) (aGName 3) lb__law_form_right_4)
    (aRet (aC (.bool true)))))))
def FormW : Tw → Prop
  | .these ps => ps.Pairwise (· < ·) ∧ ps.length ≤ 1000000
  | .round L q => (1 ≤ L ∧ L ≤ 6) ∧ q ≠ [] ∧ q.Pairwise (· < ·) ∧ (∀ p ∈ q, 0 ≤ p ∧ p < L) ∧ (∀ e : Int, 1 ≤ e → e < L → L % e = 0 → ¬ (q.map fun p => (p + e) % L).Perm q) ∧ q.length ≤ 6
def fn__law_form_right : AFn := fun avs s Q => ∃ w : Tw, avs = [.d (twD w)] ∧ FormW w ∧ Q (.d (.bool true)) s
theorem srt_lt {ps ns : List Int} (hs : ps.Pairwise (· < ·)) (hp : ns.Perm ps) (hn : ns.Pairwise (· ≤ ·)) : ns = ps :=
  List.Perm.eq_of_pairwise (fun x y _ _ h1 h2 => Int.le_antisymm h1 h2) hn (hs.imp fun {a b} h => Int.le_of_lt h) hp
theorem fr_loop (E : AEnds) (x0 : D) (L : Int) (q : List Int) (hL : 1 ≤ L ∧ L ≤ 6) (hlen : q.length ≤ 6) (hmin : ∀ e : Int, 1 ≤ e → e < L → L % e = 0 → ¬ (q.map fun p => (p + e) % L).Perm q) (s : Option Src) (h : E.nx ⟨[some (.d x0), some (.d (.int L)), some (.d (.list (q.map .int))), none, none, none], ⟨s, []⟩⟩) : ∀ es : List Int, (∀ e ∈ es, 1 ≤ e ∧ e < L) →
    aForL 0 [3, 4, 5] (aGName 3) lb__law_form_right_4 E (es.map .int) ⟨[some (.d x0), some (.d (.int L)), some (.d (.list (q.map .int))), none, none, none], ⟨s, []⟩⟩ := by
  intro es
  induction es with
  | nil => intro _; exact h
  | cons e es ih =>
    intro he
    obtain ⟨e1, e2⟩ := he e List.mem_cons_self
    have nx := ih fun k hk => he k (List.mem_cons_of_mem _ hk)
    rw [List.map_cons]
    unfold aForL
    walk_at "qs"
    refine aE_abs2 _ _ _ (fun E3 hn => ?_)
    unfold lb__law_form_right_4
    walk_at "qs"
    refine ⟨e1, ?_⟩
    by_cases c : L % e = 0
    · rw [if_pos c]
      refine ⟨by rw [List.length_map]; omega, ?_⟩
      refine aLcL_all PyData.int (fun p => .int ((p + e) % L)) (fun p hp K hK => ?_) ?_
      · unfold stepC le__law_form_right_3
        walk_at "qs"
        exact ⟨hL.1, hK⟩
      rw [show (q.map fun p => PyData.int ((p + e) % L)) = (q.map fun p => (p + e) % L).map PyData.int by rw [List.map_map]; rfl]
      have hm := hmin e e1 e2 c
      generalize (q.map fun p => (p + e) % L) = late at *
      walk_at "qs"
      rw [intsD_map]
      intro ns' hp hs
      refine ⟨(shaped_ints _).1, (shaped_ints _).1, ?_⟩
      rw [eqv_ints, if_neg (by
        intro z
        have z' : ns' = q := by simpa using z
        rw [z'] at hp
        exact hm hp.symm)]
      refine hn _ ?_
      walk_at "qs"
      exact nx
    · rw [if_neg c]
      refine hn _ ?_
      walk_at "qs"
      exact nx
theorem h__law_form_right : ∀ avs s AQ, fn__law_form_right avs s AQ → t__law_form_right (endsA AQ) ⟨startA N__law_form_right avs, ⟨s, []⟩⟩ := by
  rintro _ s AQ ⟨w, rfl, hw, hq⟩
  show t__law_form_right (endsA AQ) ⟨[some (.d (twD w)), none, none, none, none, none], ⟨s, []⟩⟩
  unfold t__law_form_right
  cases w with
  | these ps =>
    unfold twD
    walk_at "sq"
    walk_at "qs"
    rw [intsD_map]
    intro ns' hp hs
    refine ⟨(shaped_ints _).1, (shaped_ints _).1, ?_⟩
    rw [eqv_ints, srt_lt hw.1 hp hs, hR2]
    simp only [decide_true]
    exact hq
  | round L q =>
    obtain ⟨hL, hne, hs, hr, hmin, hlen⟩ := hw
    unfold twD
    walk_at "sq"
    walk_at "qs"
    rw [if_neg (by decide)]
    walk_at "nx"
    walk_at "sq"
    walk_at "qs"
    walk_at "nx"
    walk_at "sq"
    walk_at "qs"
    rw [intsD_map]
    intro ns' hp hss
    have e1 := srt_lt hs hp hss
    subst e1
    refine ⟨(shaped_ints _).1, (shaped_ints _).1, ?_⟩
    rw [eqv_ints, if_neg (by simp)]
    refine ⟨(shaped_ints _).1, rfl, ?_⟩
    rw [eqv_nil, if_neg (by cases ns' with | nil => exact absurd rfl hne | cons a r => simp)]
    refine ⟨by rw [List.length_map]; omega, ?_⟩
    refine aLcL_map PyData.int (fun _ => false) (fun p => .int p) (fun p hp K hK => ?_) ?_
    · obtain ⟨r1, r2⟩ := hr p hp
      unfold stepC lt__law_form_right_1 le__law_form_right_2
      walk_at "qs"
      have c1 : (-1 : Int) < p := by omega
      simp only [c1, r2, decide_true, if_true, Bool.not_true, Bool.false_eq_true, if_false]
      exact hK
    rw [show ns'.filter (fun _ => false) = [] from by simp]
    refine ⟨rfl, rfl, ?_⟩
    rw [if_neg (by decide)]
    walk_at "nx"
    walk_at "qs"
    refine ⟨Rg.of (by decide) (by decide), Rg.of (by omega) (by omega), ?_⟩
    rw [show L - 1 = (((L - 1).toNat : Nat) : Int) by omega]
    rw [show ((((L - 1).toNat : Nat) : Int)).toNat = (L - 1).toNat from rfl, rng1_I]
    refine fr_loop _ _ L ns' hL hlen hmin s ?_ _ (fun e he => ?_)
    · walk_at "qs"
      exact hq
    · obtain ⟨i, hi, rfl⟩ := List.mem_map.mp he
      have := List.mem_range.mp hi
      omega
def N_law : List Str := ["script", "source", "lap", "pair", "one", "other", "run", "numbers", "due", "table", "window", "number", "told", "n", "late"]
def le_law_1 : ATE := (aFn 4 fn__law_taken (aCons (aVar 3) (aCons (aVar 4) (aCons (aVar 5) (aCons (aVar 13) aNil)))))
def le_law_2 : ATE := (aFn 2 fn_number_at (aCons (aVar 7) (aCons (aVar 13) aNil)))
def le_law_3 : ATE := (aFn 2 fn__law_in (aCons (aVar 12) (aCons (aVar 13) aNil)))
def le_law_4 : ATE := (aBin aEq (aVar 14) (aVar 11))
def lt_law_5 : ATT := (aTest (aBin aNe (aFn 2 fn_number_at (aCons (aVar 7) (aCons (aVar 13) aNil))) (aVar 11)))
def le_law_6 : ATE := (aVar 13)
def lt_law_7 : ATT := (aTest (aBin aNe (aFn 2 fn_number_at (aCons (aVar 7) (aCons (aBin aAdd (aVar 13) (aBin aMul (aC (.int 12)) (aBin aIx (aVar 12) (aC (.int 1))))) aNil))) (aVar 11)))
def rs_law_8 : ATS := (aIfS (aAnd (aTest (aBin aEq (aBin aIx (aVar 12) (aC (.int 0))) (aC (.str "round")))) (aTest (aBin aNe (aLc (aItT (aBin aIx (aVar 12) (aC (.int 2)))) (aGName 13) lt_law_7 le_law_6 [13]) (aLst aNil)))) (aRet (aC (.bool false))) aNext)
def rs_law_9 : ATS := (aSeq (aIfS (aAnd (aTest (aBin aEq (aBin aIx (aVar 12) (aC (.int 0))) (aC (.str "these")))) (aTest (aBin aNe (aLc (aItT (aBin aIx (aVar 12) (aC (.int 1)))) (aGName 13) lt_law_5 le_law_6 [13]) (aLst aNil)))) (aRet (aC (.bool false))) aNext)
    rs_law_8)
def rs_law_10 : ATS := (aSeq (aIfS (aTest (aBin aNe (aLc (aRng2 (aCons (aUn aNeg (aC (.int 5))) (aCons (aC (.int 7)) aNil))) (aGName 13) aYes le_law_3 [13]) (aLc (aItL (aVar 10)) (aGName 14) aYes le_law_4 [14]))) (aRet (aC (.bool false))) aNext)
    rs_law_9)
def lb_law_11 : ATS := (aSeq (aSet 12 (aFn 2 fn_numbers_when (aCons (aVar 7) (aCons (aVar 11) aNil))))
    (aSeq (aIfS (aNot (aTru (aFn 1 fn__law_form_right (aCons (aVar 12) aNil)))) (aRet (aC (.bool false))) aNext)
    rs_law_10))
def rs_law_12 : ATS := (aFor [11, 12, 13, 14] (aItT (aTup (aCons (aFn 2 fn__law_of (aCons (aVar 1) (aCons (aVar 10) aNil))) (aCons (aBin aSub (aFn 2 fn__law_pick (aCons (aVar 1) (aCons (aC (.int 9)) aNil))) (aC (.int 4))) aNil)))) (aGName 11) lb_law_11)
def rs_law_13 : ATS := (aSeq (aSet 9 (aFn 2 fn_word_table (aCons (aVar 3) (aCons (aVar 4) aNil))))
    (aSeq (aIfS (aTest (aBin aNe (aBin aAdd (aBin aIx (aVar 9) (aC (.int 0))) (aBin aIx (aVar 9) (aC (.int 3)))) (aBin aIx (aVar 10) (aC (.int 5))))) (aRet (aC (.bool false))) aNext)
    rs_law_12))
def rs_law_14 : ATS := (aSeq (aSet 10 (aLc (aRng2 (aCons (aUn aNeg (aC (.int 5))) (aCons (aC (.int 7)) aNil))) (aGName 13) aYes le_law_1 [13]))
    (aSeq (aIfS (aTest (aBin aNe (aCall bRepr (aCons (aLc (aRng2 (aCons (aUn aNeg (aC (.int 5))) (aCons (aC (.int 7)) aNil))) (aGName 13) aYes le_law_2 [13]) aNil)) (aCall bRepr (aCons (aVar 10) aNil)))) (aRet (aC (.bool false))) aNext)
    rs_law_13))
def lb_law_15 : ATS := (aSeq (aSet 3 (aFn 1 fn__law_small (aCons (aVar 1) aNil)))
    (aSeq (aAsg (aTup (aCons (aFn 2 fn__law_word (aCons (aVar 1) (aCons (aC (.int 4)) aNil))) (aCons (aFn 2 fn__law_word (aCons (aVar 1) (aCons (aC (.int 3)) aNil))) aNil))) (aGTup 2 (aGCons (aGName 4) (aGCons (aGName 5) aGNil))))
    (aSeq (aSet 6 (aFn 2 fn_power_told (aCons (aVar 4) (aCons (aVar 5) aNil))))
    (aSeq (aSet 7 (aFn 2 fn_power_numbers (aCons (aVar 6) (aCons (aFn 1 fn_traced (aCons (aVar 3) aNil)) aNil))))
    (aSeq (aSet 8 (aCall bTuple (aCons (aLst (aCons (aFn 4 fn__law_taken (aCons (aVar 3) (aCons (aVar 4) (aCons (aVar 5) (aCons (aC (.int 0)) aNil))))) (aCons (aFn 4 fn__law_taken (aCons (aVar 3) (aCons (aVar 4) (aCons (aVar 5) (aCons (aC (.int 1)) aNil))))) aNil))) aNil)))
    (aSeq (aSet 9 (aFn 2 fn__law_table_of (aCons (aVar 3) (aCons (aVar 5) aNil))))
    (aSeq (aIfS (aTest (aBin aNe (aCall bRepr (aCons (aVar 7) aNil)) (aCall bRepr (aCons (aBin aAdd (aVar 8) (aTup (aCons (aBin aAdd (aBin aIx (aVar 9) (aC (.int 0))) (aBin aIx (aVar 9) (aC (.int 3)))) aNil))) aNil)))) (aRet (aC (.bool false))) aNext)
    rs_law_14)))))))
def t_law : ATS := (aSeq (aSet 1 (aFn 1 fn__law_source (aCons (aVar 0) aNil)))
    (aSeq (aFor [2, 3, 4, 5, 6, 7, 8, 9, 10, 11, 12, 13, 14] (aRng1 (aCons (aC (.int 3)) aNil)) (aGName 2) lb_law_15)
    (aSeq (aSet 6 (aTup (aCons (aTup (aCons (aC (.int 0)) (aCons (aC (.int 0)) (aCons (aC (.int 3)) aNil)))) (aCons (aTup (aCons (aC (.int 0)) (aCons (aC (.int 0)) (aCons (aC (.int 2)) aNil)))) (aCons (aTup (aCons (aC (.int 4)) (aCons (aUn aNeg (aC (.int 4))) (aCons (aUn aNeg (aC (.int 2))) aNil)))) (aCons (aTup (aCons (aC (.int 2)) (aCons (aC (.int 1)) (aCons (aC (.int 1)) aNil)))) aNil))))))
    (aSeq (aSet 12 (aLst (aCons (aFn 2 fn_numbers_when (aCons (aBin aIx (aVar 6) (aC (.int 0))) (aCons (aC (.int 0)) aNil))) (aCons (aFn 2 fn_numbers_when (aCons (aBin aIx (aVar 6) (aC (.int 1))) (aCons (aC (.int 1)) aNil))) (aCons (aFn 2 fn_numbers_when (aCons (aBin aIx (aVar 6) (aC (.int 2))) (aCons (aC (.int 4)) aNil))) (aCons (aFn 2 fn_numbers_when (aCons (aBin aIx (aVar 6) (aC (.int 3))) (aCons (aC (.int 1)) aNil))) aNil))))))
    (aRet (aBin aEq (aCall bRepr (aCons (aVar 12) aNil)) (aCall bRepr (aCons (aLst (aCons (aTup (aCons (aC (.str "round")) (aCons (aC (.int 1)) (aCons (aTup (aCons (aC (.int 0)) aNil)) aNil)))) (aCons (aTup (aCons (aC (.str "these")) (aCons (aTup aNil) aNil))) (aCons (aTup (aCons (aC (.str "round")) (aCons (aC (.int 2)) (aCons (aTup (aCons (aC (.int 0)) aNil)) aNil)))) (aCons (aTup (aCons (aC (.str "round")) (aCons (aC (.int 6)) (aCons (aTup (aCons (aC (.int 1)) (aCons (aC (.int 5)) aNil))) aNil)))) aNil))))) aNil))))))))
def fn_law : AFn := lawFn
structure Lp (T U : T4) (u w : List Int) (F G t : Int) : Prop where
  hu : ∀ l ∈ u, Ltr l
  hw : ∀ l ∈ w, Ltr l
  lu : u.length ≤ 4
  lw : w.length ≤ 3
  d1 : detT T = 1
  d2 : detT U = 1
  bT : Bt 2 T
  bU : Bt 2 U
  eF : valP (trcP (fourP u)) (trM T U).1 (trM T U).2.1 (trM T U).2.2 = F
  eG : valP (trcP (fourP (lowW (u ++ w)))) (trM T U).1 (trM T U).2.1 (trM T U).2.2 = G
  et : valP (trcP (fourP w)) (trM T U).1 (trM T U).2.1 (trM T U).2.2 = t
  tab : ∀ n, takT T U u w n = runZ F G t n
  eU : trT (wrdI T U u) = F
  eW : trT (wrdI T U w) = t
  bF : Bd 178 F
  bG : Bd 178 G
  bt : Bd 78 t
  sm : F.natAbs ≤ 100000
theorem low_len (u w : List Int) : (lowW (u ++ w)).length ≤ u.length + w.length := by have := lowW_len (u ++ w); rw [List.length_append] at this; exact this
theorem det_bd {T U : T4} (hT : Bt 2 T) (hU : Bt 2 U) : Bd 22 (trM T U).1 ∧ Bd 22 (trM T U).2.1 ∧ Bd 22 (trM T U).2.2 := by
  have hm := hT.mul hU
  exact ⟨(hT.1.add' hT.2.2.2).le (by decide), (hU.1.add' hU.2.2.2).le (by decide), (hm.1.add' hm.2.2.2).le (by decide)⟩
theorem lp_of {T U : T4} {u w : List Int} (hu : ∀ l ∈ u, Ltr l) (hw : ∀ l ∈ w, Ltr l) (lu : u.length ≤ 4) (lw : w.length ≤ 3) (d1 : detT T = 1) (d2 : detT U = 1) (bT : Bt 2 T) (bU : Bt 2 U) :
    Lp T U u w (runU u w (trM T U).1 (trM T U).2.1 (trM T U).2.2 0) (runU u w (trM T U).1 (trM T U).2.1 (trM T U).2.2 1) (trW w (trM T U).1 (trM T U).2.1 (trM T U).2.2) := by
  obtain ⟨hx, hy, hz⟩ := det_bd bT bU
  have la := lowW_ltr (app_ltr hu hw)
  have l1 := low_len u w
  have eU : trT (wrdI T U u) = runU u w (trM T U).1 (trM T U).2.1 (trM T U).2.2 0 := by rw [runU_0, ← val_trP hu, trace_tells d1 d2 hu]
  refine ⟨hu, hw, lu, lw, d1, d2, bT, bU, by rw [val_trP hu]; rfl, by rw [val_trP la, low_1 hu hw], val_trP hw _ _ _, fun n => ?_, eU, by rw [← val_trP hw, trace_tells d1 d2 hw], ?_, ?_, ?_, ?_⟩
  · rw [tak_vW d1 d2 hu hw, ← trace_tells d1 d2 (vW_ltr hu hw n), val_trP (vW_ltr hu hw n), vW_val hu hw, runU_run hw]
  · rw [runU_0]; exact (tr_bd hu lu hx hy hz).le (by decide)
  · rw [← low_1 hu hw]; exact tr_bd la (show _ ≤ 7 by omega) hx hy hz
  · exact tr_bd hw lw hx hy hz
  · rw [← eU]
    have b := (wrd_bt bT bU u (1, 0, 0, 1) 1 bt_one).le (show _ ≤ 13 by omega)
    have b1 : Bd 13 (wrdI T U u).1 := b.1
    have b2 : Bd 13 (wrdI T U u).2.2.2 := b.2.2.2
    unfold Bd at b1 b2
    show ((wrdI T U u).1 + (wrdI T U u).2.2.2).natAbs ≤ 100000
    omega
theorem Lp.path {T U : T4} {u w : List Int} {F G t : Int} (P : Lp T U u w F G t) {n : Int} (hn : n.natAbs ≤ 8) : PathOk F G t n := by
  refine ⟨by omega, (runZ_bd P.bF P.bG P.bt).le (by omega), fun _ k hk => ?_⟩
  have b : Bd 257 (if n < 0 then t * F - G else G) := by
    split
    · exact ((P.bt.mul P.bF).sub' P.bG).le (by decide)
    · exact P.bG.le (by decide)
  exact (runN_bd P.bt k F _ (P.bF.le (by decide)) b).le (by omega)
theorem ints_i {k : Nat} {i : Int} (h : Bd k i) (hk : k < 1900) : IntsB (.int i) := h.log_lt hk
def prD (T U : T4) : D := .tuple [tbD T, tbD U]
def numD (F G t : Int) : D := .tuple [.int F, .int G, .int t]
def wI : List Int := [-5, -4, -3, -2, -1, 0, 1, 2, 3, 4, 5, 6]
theorem wI_sm : ∀ n ∈ wI, n.natAbs ≤ 6 := by decide
theorem rng_wI : rngD (-5) (Int.toNat (7 - -5)) = wI.map PyData.int := rfl
def wnD (F G t : Int) : D := .list ((wI.map fun n => runZ F G t n).map PyData.int)
theorem rep_ints {k : Nat} (hk : k < 1900) : ∀ L : List Int, (∀ i ∈ L, Bd k i) → IntsBs (L.map .int) ∧ PyData.depthAll (L.map PyData.int) = 0 ∧ PyData.bulkAll (L.map PyData.int) = L.length
  | [], _ => ⟨trivial, rfl, rfl⟩
  | i :: L, h => by
    obtain ⟨h1, h2, h3⟩ := rep_ints hk L fun j hj => h j (List.mem_cons_of_mem _ hj)
    refine ⟨⟨ints_i (h i List.mem_cons_self) hk, h1⟩, ?_, ?_⟩
    · simp only [List.map_cons, PyData.depthAll, h2, PyData.depth]; rfl
    · simp only [List.map_cons, PyData.bulkAll, h3, PyData.bulk, List.length_cons]; omega
theorem rep_win {T U : T4} {u w : List Int} {F G t : Int} (P : Lp T U u w F G t) : RepOk (wnD F G t) := by
  obtain ⟨h1, h2, h3⟩ := rep_ints (k := 889) (by decide) (wI.map fun n => runZ F G t n) (fun i hi => by
    obtain ⟨n, hn, rfl⟩ := List.mem_map.mp hi
    have := wI_sm n hn
    exact (runZ_bd P.bF P.bG P.bt).le (by omega))
  refine RepOk.of h1 ?_ ?_
  · simp only [wnD, PyData.depth]; omega
  · simp only [wnD, PyData.bulk]; rw [h3, List.length_map]; decide
theorem bool_map (f : Int → Bool) (ns : List Int) : SeqAt.shaped (.list (ns.map fun n => PyData.bool (f n))) = true ∧ PyData.eqv (.list (ns.map fun n => PyData.bool (f n))) (.list (ns.map fun n => PyData.bool (f n))) = true := by
  constructor
  · have h : PyData.canLayAll0 (ns.map fun n => PyData.bool (f n)) = true ∧ PyData.depthAll (ns.map fun n => PyData.bool (f n)) = 0 := by
      induction ns with
      | nil => exact ⟨rfl, rfl⟩
      | cons n ns ih => exact ⟨by simp [PyData.canLayAll0, PyData.canLay0, ih.1], by simp [PyData.depthAll, PyData.depth, ih.2]⟩
    simp [SeqAt.shaped, PyData.canLay0, PyData.depth, h.1, h.2]
  · rw [PyData.eqv]
    induction ns with
    | nil => rfl
    | cons n ns ih =>
      rw [List.map_cons, PyData.eqvAll, ih]
      simp [PyData.eqv]
theorem form_of {f g t N : Int} {w : Tw} (h : WSpec f g t N w) : FormW w := by
  cases h with
  | these ps hs hm hb hl => exact ⟨hs, hl⟩
  | round L q hL hq hs hr hm hmin hb =>
    refine ⟨hL, hq, hs, hr, hmin, ?_⟩
    have := asc_len q 0 (L - 1) hs (fun n hn => by have := hr n hn; omega) (by omega)
    omega
theorem rep_num {F G t : Int} (bF : Bd 178 F) (bG : Bd 178 G) (bt : Bd 78 t) : RepOk (.tuple [.int F, .int G, .int t]) := by
  obtain ⟨h1, h2, h3⟩ := rep_ints (k := 178) (by decide) [F, G, t] (fun i hi => by
    simp only [List.mem_cons, List.not_mem_nil, or_false] at hi
    rcases hi with rfl | rfl | rfl
    · exact bF
    · exact bG
    · exact bt.le (by decide))
  simp only [List.map_cons, List.map_nil] at h1 h2 h3
  refine RepOk.of h1 ?_ ?_
  · simp only [PyData.depth]; omega
  · simp only [PyData.bulk]; rw [h3]; simp
def FormOk (w : Tw) : Prop := FormW w ∧ LenW w

theorem p9 (E : AEnds) (ns : List Int) (T U : T4) (u w : List Int) (F G t : Int) (P : Lp T U u w F G t) (x2 x6 x8 x9 : D) (N : Int) (bN : Bd 889 N) (W : Tw) (hW : WSpec F G t N W) (S : Src) (h : E.nx ⟨[some (.scr ns), some (.src), some (.d x2), some (.d (prD T U)), some (.d (wD u)), some (.d (wD w)), some (.d x6), some (.d (numD F G t)), some (.d x8), some (.d x9), some (.d (wnD F G t)), some (.d (.int N)), some (.d (twD W)), none, none], ⟨some S, []⟩⟩) :
    rs_law_9 E ⟨[some (.scr ns), some (.src), some (.d x2), some (.d (prD T U)), some (.d (wD u)), some (.d (wD w)), some (.d x6), some (.d (numD F G t)), some (.d x8), some (.d x9), some (.d (wnD F G t)), some (.d (.int N)), some (.d (twD W)), none, none], ⟨some S, []⟩⟩ := by
  have bF := P.bF
  have bt := P.bt
  have stp5 : ∀ (n : Int) (K : Option D → Mm → Prop), PathOk F G t n → runZ F G t n = N → K none ⟨some S, []⟩ → stepC (aGName 13) lt_law_5 le_law_6 [some (.scr ns), some (.src), some (.d x2), some (.d (prD T U)), some (.d (wD u)), some (.d (wD w)), some (.d x6), some (.d (numD F G t)), some (.d x8), some (.d x9), some (.d (wnD F G t)), some (.d (.int N)), some (.d (twD W)), none, none] (.int n) ⟨some S, []⟩ K := by
    intro n K hp e hK
    unfold stepC lt_law_5 le_law_6
    rw [show numD F G t = .tuple [.int F, .int G, .int t] from rfl]
    walk_at "qs"
    refine ⟨F, G, t, n, 178, 78, rfl, bF, bt, by decide, by decide, hp, ?_⟩
    rw [e]
    walk_at "qs"
    exact hK
  unfold rs_law_9
  cases hW with
  | these ps hs hm hb hl =>
    unfold twD at stp5 h ⊢
    walk_at "sq"
    walk_at "qs"
    refine ⟨by rw [List.length_map]; exact hl, ?_⟩
    refine aLcL_map PyData.int (fun _ => false) (fun p => .int p) (fun p hp K hK => stp5 p K (hb p hp) ((hm p).mp hp) hK) ?_
    rw [show ps.filter (fun _ => false) = [] from by simp]
    refine ⟨rfl, rfl, ?_⟩
    rw [if_neg (by decide)]
    walk_at "nx"
    unfold rs_law_8
    walk_at "qs"
    first | exact h | (rw [if_neg (by decide)]; exact h)
  | round L q hL hq hs hr hm hmin hb =>
    have stp7 : ∀ (n : Int) (K : Option D → Mm → Prop), PathOk F G t (n + 12 * L) → runZ F G t (n + 12 * L) = N → K none ⟨some S, []⟩ → stepC (aGName 13) lt_law_7 le_law_6 [some (.scr ns), some (.src), some (.d x2), some (.d (prD T U)), some (.d (wD u)), some (.d (wD w)), some (.d x6), some (.d (numD F G t)), some (.d x8), some (.d x9), some (.d (wnD F G t)), some (.d (.int N)), some (.d (twD (.round L q))), none, none] (.int n) ⟨some S, []⟩ K := by
      intro n K hp e hK
      unfold stepC lt_law_7 le_law_6 twD
      rw [show numD F G t = .tuple [.int F, .int G, .int t] from rfl]
      walk_at "qs"
      refine ⟨MulOk.l (by decide) (by decide), F, G, t, n + 12 * L, 178, 78, rfl, bF, bt, by decide, by decide, hp, ?_⟩
      rw [e]
      walk_at "qs"
      exact hK
    have hl6 : q.length ≤ 6 := by
      have := asc_len q 0 (L - 1) hs (fun n hn => by have := hr n hn; omega) (by omega)
      omega
    unfold twD at stp7 h ⊢
    walk_at "sq"
    walk_at "qs"
    rw [if_neg (by decide)]
    walk_at "nx"
    unfold rs_law_8
    walk_at "qs"
    refine ⟨by rw [List.length_map]; omega, ?_⟩
    refine aLcL_map PyData.int (fun _ => false) (fun p => .int p) (fun p hp K hK => stp7 p K (hb p hp) ((hm _).mp (by
      obtain ⟨r1, r2⟩ := hr p hp
      rw [Int.mul_comm, Int.add_mul_emod_self_left, Int.emod_eq_of_lt r1 r2]
      exact hp)) hK) ?_
    rw [show q.filter (fun _ => false) = [] from by simp]
    refine ⟨rfl, rfl, ?_⟩
    rw [if_neg (by decide)]
    exact h

theorem p10 (E : AEnds) (ns : List Int) (T U : T4) (u w : List Int) (F G t : Int) (P : Lp T U u w F G t) (x2 x6 x8 x9 : D) (N : Int) (bN : Bd 889 N) (W : Tw) (hW : WSpec F G t N W) (S : Src) (h : E.nx ⟨[some (.scr ns), some (.src), some (.d x2), some (.d (prD T U)), some (.d (wD u)), some (.d (wD w)), some (.d x6), some (.d (numD F G t)), some (.d x8), some (.d x9), some (.d (wnD F G t)), some (.d (.int N)), some (.d (twD W)), none, none], ⟨some S, []⟩⟩) :
    rs_law_10 E ⟨[some (.scr ns), some (.src), some (.d x2), some (.d (prD T U)), some (.d (wD u)), some (.d (wD w)), some (.d x6), some (.d (numD F G t)), some (.d x8), some (.d x9), some (.d (wnD F G t)), some (.d (.int N)), some (.d (twD W)), none, none], ⟨some S, []⟩⟩ := by
  have hl : LenW W := by
    cases hW with
    | these ps => exact trivial
    | round L q hL => exact hL.1
  have stp3 : ∀ (n : Int) (K : Option D → Mm → Prop), K (some (.bool (decide (inW W n)))) ⟨some S, []⟩ → stepC (aGName 13) aYes le_law_3 [some (.scr ns), some (.src), some (.d x2), some (.d (prD T U)), some (.d (wD u)), some (.d (wD w)), some (.d x6), some (.d (numD F G t)), some (.d x8), some (.d x9), some (.d (wnD F G t)), some (.d (.int N)), some (.d (twD W)), none, none] (.int n) ⟨some S, []⟩ K := by
    intro n K hK
    unfold stepC le_law_3
    walk_at "qs"
    exact ⟨W, n, rfl, hl, hK⟩
  have stp4 : ∀ (n : Int) (K : Option D → Mm → Prop), K (some (.bool (decide (runZ F G t n = N)))) ⟨some S, []⟩ → stepC (aGName 14) aYes le_law_4 [some (.scr ns), some (.src), some (.d x2), some (.d (prD T U)), some (.d (wD u)), some (.d (wD w)), some (.d x6), some (.d (numD F G t)), some (.d x8), some (.d x9), some (.d (wnD F G t)), some (.d (.int N)), some (.d (twD W)), none, none] (.int (runZ F G t n)) ⟨some S, []⟩ K := by
    intro n K hK
    unfold stepC le_law_4
    walk_at "qs"
    exact hK
  have e : ∀ n : Int, decide (inW W n) = decide (runZ F G t n = N) := fun n => by
    refine decide_eq_decide.mpr ?_
    cases hW with
    | these ps hs hm => exact hm n
    | round L q hL hq hs hr hm => exact hm n
  have nx := p9 E ns T U u w F G t P x2 x6 x8 x9 N bN W hW S h
  unfold rs_law_10
  unfold wnD at *
  walk_at "sq"
  walk_at "qs"
  refine ⟨Rg.of (by decide) (by decide), Rg.of (by decide) (by decide), ?_⟩
  rw [rng_wI]
  refine ⟨by rw [List.length_map]; decide, ?_⟩
  refine aLcL_all PyData.int (fun n => .bool (decide (inW W n))) (fun n _ K hK => stp3 n K hK) ?_
  walk_at "qs"
  refine ⟨by rw [List.length_map, List.length_map]; decide, ?_⟩
  rw [List.map_map]
  refine aLcL_all (PyData.int ∘ fun n => runZ F G t n) (fun n => .bool (decide (runZ F G t n = N))) (fun n _ K hK => stp4 n K hK) ?_
  have e2 : (fun n => PyData.bool (decide (inW W n))) = fun n => PyData.bool (decide (runZ F G t n = N)) := funext fun n => by rw [e n]
  rw [e2]
  have b := bool_map (fun n => decide (runZ F G t n = N)) wI
  refine ⟨b.1, b.1, ?_⟩
  rw [b.2, if_neg (by decide)]
  exact hE2 _ nx

theorem p11 (E : AEnds) (ns : List Int) (T U : T4) (u w : List Int) (F G t : Int) (P : Lp T U u w F G t) (x2 x6 x8 x9 : D) (N : Int) (bN : Bd 889 N) (hk : (∃ k : Int, k.natAbs ≤ 6 ∧ N = runZ F G t k) ∨ N.natAbs ≤ 4) (S : Src) (h : ∀ W, E.nx ⟨[some (.scr ns), some (.src), some (.d x2), some (.d (prD T U)), some (.d (wD u)), some (.d (wD w)), some (.d x6), some (.d (numD F G t)), some (.d x8), some (.d x9), some (.d (wnD F G t)), some (.d (.int N)), some (.d (twD W)), none, none], ⟨some S, []⟩⟩) :
    lb_law_11 E ⟨[some (.scr ns), some (.src), some (.d x2), some (.d (prD T U)), some (.d (wD u)), some (.d (wD w)), some (.d x6), some (.d (numD F G t)), some (.d x8), some (.d x9), some (.d (wnD F G t)), some (.d (.int N)), none, none, none], ⟨some S, []⟩⟩ := by
  unfold lb_law_11
  walk_at "qs"
  refine ⟨F, G, t, N, 889, 100, rfl, P.bF.le (by decide), P.bG.le (by decide), bN, P.bt.le (by decide), by decide, by decide, fun W hW => ?_⟩
  have hS := when_spec hW (P.bF.le (by decide)) bN (by decide) P.sm hk
  walk_at "qs"
  have nx := p10 E ns T U u w F G t P x2 x6 x8 x9 N bN W hS S (h W)
  refine ⟨W, rfl, form_of hS, ?_⟩
  walk_at "qs"
  exact nx

theorem p12 (E : AEnds) (ns : List Int) (T U : T4) (u w : List Int) (F G t : Int) (P : Lp T U u w F G t) (x2 x6 x8 x9 : D) (S : Src) (h : ∀ S, E.nx ⟨[some (.scr ns), some (.src), some (.d x2), some (.d (prD T U)), some (.d (wD u)), some (.d (wD w)), some (.d x6), some (.d (numD F G t)), some (.d x8), some (.d x9), some (.d (wnD F G t)), none, none, none, none], ⟨some S, []⟩⟩) :
    rs_law_12 E ⟨[some (.scr ns), some (.src), some (.d x2), some (.d (prD T U)), some (.d (wD u)), some (.d (wD w)), some (.d x6), some (.d (numD F G t)), some (.d x8), some (.d x9), some (.d (wnD F G t)), none, none, none, none], ⟨some S, []⟩⟩ := by
  have stp : ∀ (N : Int) (E : AEnds) (ds : List D), Bd 889 N → ((∃ k : Int, k.natAbs ≤ 6 ∧ N = runZ F G t k) ∨ N.natAbs ≤ 4) → ∀ S, (∀ S, aForL 0 [11, 12, 13, 14] (aGName 11) lb_law_11 E ds ⟨[some (.scr ns), some (.src), some (.d x2), some (.d (prD T U)), some (.d (wD u)), some (.d (wD w)), some (.d x6), some (.d (numD F G t)), some (.d x8), some (.d x9), some (.d (wnD F G t)), none, none, none, none], ⟨some S, []⟩⟩) → aForL 0 [11, 12, 13, 14] (aGName 11) lb_law_11 E (.int N :: ds) ⟨[some (.scr ns), some (.src), some (.d x2), some (.d (prD T U)), some (.d (wD u)), some (.d (wD w)), some (.d x6), some (.d (numD F G t)), some (.d x8), some (.d x9), some (.d (wnD F G t)), none, none, none, none], ⟨some S, []⟩⟩ := by
    intro N E ds bN hk S nx
    unfold aForL
    walk_at "qs"
    refine p11 _ ns T U u w F G t P x2 x6 x8 x9 N bN hk S (fun W => ?_)
    walk_at "qs"
    exact nx S
  unfold rs_law_12
  walk_at "qs"
  refine ⟨S, _, rfl, rfl, by simp [wI], by simp [wI], fun d hd S1 => ?_⟩
  obtain ⟨i, hi, rfl⟩ := List.mem_map.mp hd
  obtain ⟨k, hk, rfl⟩ := List.mem_map.mp hi
  have hk6 := wI_sm k hk
  walk_at "qs"
  refine ⟨S1, 9, rfl, rfl, by decide, fun r S2 r0 r1 => ?_⟩
  walk_at "qs"
  refine stp _ _ _ ((runZ_bd P.bF P.bG P.bt).le (by omega)) (.inl ⟨k, hk6, rfl⟩) S2 (fun S3 => ?_)
  refine stp _ _ _ (Bd.le (a := 5) (by unfold Bd; omega) (by decide)) (.inr (by omega)) S3 (fun S4 => ?_)
  exact h S4

theorem p13 (E : AEnds) (ns : List Int) (T U : T4) (u w : List Int) (F G t : Int) (P : Lp T U u w F G t) (x2 x6 x8 x9 : D) (S : Src) (h : ∀ S, E.nx ⟨[some (.scr ns), some (.src), some (.d x2), some (.d (prD T U)), some (.d (wD u)), some (.d (wD w)), some (.d x6), some (.d (numD F G t)), some (.d x8), some (.d (tbD (wrdI T U u))), some (.d (wnD F G t)), none, none, none, none], ⟨some S, []⟩⟩) :
    rs_law_13 E ⟨[some (.scr ns), some (.src), some (.d x2), some (.d (prD T U)), some (.d (wD u)), some (.d (wD w)), some (.d x6), some (.d (numD F G t)), some (.d x8), some (.d x9), some (.d (wnD F G t)), none, none, none, none], ⟨some S, []⟩⟩ := by
  unfold rs_law_13
  walk_at "qs"
  have lu := P.lu
  refine ⟨T, U, u, 2, rfl, P.hu, P.bT, P.bU, by decide, by omega, ?_⟩
  have e := P.eU
  have nx := p12 E ns T U u w F G t P x2 x6 x8 (tbD (wrdI T U u)) S h
  clear h
  unfold trT at e
  generalize wrdI T U u = m at *
  unfold tbD wnD wI at *
  simp only [List.map_cons, List.map_nil] at nx ⊢
  walk_at "qs"
  have r0 : runZ F G t 0 = F := rfl
  rw [e, r0, if_neg (fun c => c rfl)]
  exact nx

theorem p14 (E : AEnds) (ns : List Int) (T U : T4) (u w : List Int) (F G t : Int) (P : Lp T U u w F G t) (x2 x6 x8 x9 : D) (S : Src) (h : ∀ S, E.nx ⟨[some (.scr ns), some (.src), some (.d x2), some (.d (prD T U)), some (.d (wD u)), some (.d (wD w)), some (.d x6), some (.d (numD F G t)), some (.d x8), some (.d (tbD (wrdI T U u))), some (.d (wnD F G t)), none, none, none, none], ⟨some S, []⟩⟩) :
    rs_law_14 E ⟨[some (.scr ns), some (.src), some (.d x2), some (.d (prD T U)), some (.d (wD u)), some (.d (wD w)), some (.d x6), some (.d (numD F G t)), some (.d x8), some (.d x9), none, none, none, none, none], ⟨some S, []⟩⟩ := by
  have nx := p13 E ns T U u w F G t P x2 x6 x8 x9 S h
  have stp1 : ∀ (n : Int) (K : Option D → Mm → Prop), n.natAbs ≤ 6 → K (some (.int (runZ F G t n))) ⟨some S, []⟩ → stepC (aGName 13) aYes le_law_1 [some (.scr ns), some (.src), some (.d x2), some (.d (prD T U)), some (.d (wD u)), some (.d (wD w)), some (.d x6), some (.d (numD F G t)), some (.d x8), some (.d x9), none, none, none, none, none] (.int n) ⟨some S, []⟩ K := by
    intro n K hn hK
    unfold stepC le_law_1 prD
    walk_at "qs"
    refine ⟨T, U, u, w, n, rfl, P.hu, P.hw, P.lu, P.lw, by omega, P.bT, P.bU, ?_⟩
    rw [P.tab]
    exact hK
  have stp2 : ∀ (n : Int) (K : Option D → Mm → Prop), n.natAbs ≤ 6 → K (some (.int (runZ F G t n))) ⟨some S, []⟩ → stepC (aGName 13) aYes le_law_2 [some (.scr ns), some (.src), some (.d x2), some (.d (prD T U)), some (.d (wD u)), some (.d (wD w)), some (.d x6), some (.d (numD F G t)), some (.d x8), some (.d x9), some (.d (wnD F G t)), none, none, none, none] (.int n) ⟨some S, []⟩ K := by
    intro n K hn hK
    unfold stepC le_law_2 numD
    walk_at "qs"
    exact ⟨F, G, t, n, 178, 78, rfl, P.bF, P.bt, by decide, by decide, P.path (by omega), hK⟩
  unfold rs_law_14
  walk_at "qs"
  refine ⟨Rg.of (by decide) (by decide), Rg.of (by decide) (by decide), ?_⟩
  rw [rng_wI]
  refine ⟨by rw [List.length_map]; decide, ?_⟩
  refine aLcL_all PyData.int (fun n => .int (runZ F G t n)) (fun n hn K hK => stp1 n K (wI_sm n hn) hK) ?_
  rw [show PyData.list (wI.map fun n => PyData.int (runZ F G t n)) = wnD F G t by unfold wnD; rw [List.map_map]; rfl]
  walk_at "qs"
  refine ⟨Rg.of (by decide) (by decide), Rg.of (by decide) (by decide), ?_⟩
  refine ⟨by rw [List.length_map]; decide, ?_⟩
  refine aLcL_all PyData.int (fun n => .int (runZ F G t n)) (fun n hn K hK => stp2 n K (wI_sm n hn) hK) ?_
  rw [show PyData.list (wI.map fun n => PyData.int (runZ F G t n)) = wnD F G t by unfold wnD; rw [List.map_map]; rfl]
  have rp := rep_win P
  generalize wnD F G t = wn at *
  refine ⟨rp, rp, ?_⟩
  rw [if_neg (fun c => c rfl)]
  exact nx

theorem p15 (E : AEnds) (ns : List Int) (x2 : D) (S : Src) (h : ∀ (x3 x4 x5 x6 x7 x8 x9 x10 : D) S, E.nx ⟨[some (.scr ns), some (.src), some (.d x2), some (.d x3), some (.d x4), some (.d x5), some (.d x6), some (.d x7), some (.d x8), some (.d x9), some (.d x10), none, none, none, none], ⟨some S, []⟩⟩) :
    lb_law_15 E ⟨[some (.scr ns), some (.src), some (.d x2), none, none, none, none, none, none, none, none, none, none, none, none], ⟨some S, []⟩⟩ := by
  unfold lb_law_15
  walk_at "qs"
  refine ⟨S, rfl, rfl, fun T U S1 d1 bT d2 bU => ?_⟩
  walk_at "qs"
  refine ⟨S1, 4, rfl, rfl, by decide, fun u S2 hu lu => ?_⟩
  walk_at "qs"
  refine ⟨S2, 3, rfl, rfl, by decide, fun w S3 hw lw => ?_⟩
  walk_at "qs"
  have P := lp_of hu hw lu lw d1 d2 bT bU
  have lo := lowW_ltr (app_ltr hu hw)
  have l1 := low_len u w
  have ku := trok_of hu (by omega)
  have kw := trok_of hw (by omega)
  have kb := trok_of lo (by omega)
  have vu : VlOk 22 8 (trcP (fourP u)) := ⟨by have := ku.2.2; omega, po_ok hu (show _ ≤ 7 by omega) (by decide)⟩
  have vw : VlOk 22 8 (trcP (fourP w)) := ⟨by have := kw.2.2; omega, po_ok hw (show _ ≤ 7 by omega) (by decide)⟩
  have vb : VlOk 22 8 (trcP (fourP (lowW (u ++ w)))) := ⟨by have := kb.2.2; omega, po_ok lo (show _ ≤ 7 by omega) (by decide)⟩
  obtain ⟨hx, hy, hz⟩ := det_bd bT bU
  generalize runU u w (trM T U).1 (trM T U).2.1 (trM T U).2.2 0 = F at P
  generalize runU u w (trM T U).1 (trM T U).2.1 (trM T U).2.2 1 = G at P
  generalize trW w (trM T U).1 (trM T U).2.1 (trM T U).2.2 = t at P
  refine ⟨u, w, rfl, by omega, ku, kw, kb, ?_⟩
  have nx := fun (x6 x8 x9 : D) S => p14 E ns T U u w F G t P x2 x6 x8 x9 S (fun S => h _ _ _ _ _ _ _ _ S)
  have eF := P.eF
  have eG := P.eG
  have et := P.et
  have eW := P.eW
  have t0 : takT T U u w 0 = F := P.tab 0
  have t1 : takT T U u w 1 = G := by rw [P.tab]; unfold runZ; rw [if_neg (by decide)]; rfl
  have bF := P.bF
  have bG := P.bG
  have bt := P.bt
  unfold trT at eW
  generalize trcP (fourP u) = pu at *
  generalize trcP (fourP (lowW (u ++ w))) = pb at *
  generalize trcP (fourP w) = pw at *
  walk_at "qs"
  refine ⟨T, U, rfl, bT.le (by decide), bU.le (by decide), ?_⟩
  refine ⟨rfl, pu, pb, pw, (trM T U).1, (trM T U).2.1, (trM T U).2.2, 8, 22, rfl, vu, vb, vw, by decide, hx, hy, hz, by decide, by decide, ?_⟩
  rw [eF, eG, et]
  walk_at "qs"
  refine ⟨T, U, u, w, 0, rfl, hu, hw, lu, lw, by decide, bT, bU, ?_⟩
  rw [t0]
  walk_at "qs"
  refine ⟨T, U, u, w, 1, rfl, hu, hw, lu, lw, by decide, bT, bU, ?_⟩
  rw [t1]
  walk_at "qs"
  refine ⟨T, U, w, 2, rfl, hw, bT, bU, by decide, by omega, ?_⟩
  generalize wrdI T U w = m at *
  rw [show tbD m = .tuple [.int m.1, .int m.2.1, .int m.2.2.1, .int m.2.2.2] from rfl]
  walk_at "qs"
  rw [eW]
  have rp := rep_num bF bG bt
  refine ⟨rp, by rw [sizeLine_eq]; decide, rp, ?_⟩
  rw [if_neg (fun c => c rfl)]
  exact nx _ _ _ S3

theorem lap_loop (E : AEnds) (ns : List Int) (h : ∀ S, E.nx ⟨[some (.scr ns), some (.src), none, none, none, none, none, none, none, none, none, none, none, none, none], ⟨some S, []⟩⟩) : ∀ (ds : List D) (S : Src), aForL 0 [2, 3, 4, 5, 6, 7, 8, 9, 10, 11, 12, 13, 14] (aGName 2) lb_law_15 E ds ⟨[some (.scr ns), some (.src), none, none, none, none, none, none, none, none, none, none, none, none, none], ⟨some S, []⟩⟩ := by
  intro ds
  induction ds with
  | nil => intro S; exact h S
  | cons d ds ih =>
    intro S
    unfold aForL
    walk_at "qs"
    refine p15 _ ns d S (fun _ _ _ _ _ _ _ _ S => ?_)
    walk_at "qs"
    exact ih S
theorem c_far {w : Tw} (h : WhenS 0 0 3 0 w) : w = .round 1 [0] := by
  cases h with
  | rnd c => exact absurd c (by decide)
  | line c => exact absurd c (by decide)
  | zero => rfl
  | far ht ps hs hm hb =>
    have h1 : runZ 0 0 3 3000 = 0 := by
      unfold runZ
      rw [if_neg (by decide)]
      exact runN_00 3 _
    have := hb 3000 ((hm 3000).mpr h1)
    omega
theorem c_two {w : Tw} (h : WhenS 0 0 2 1 w) : w = .these [] := by
  cases h with
  | rnd c => exact absurd c (by decide)
  | line c w hw =>
    cases hw with
    | flat => rfl
    | rise ps hr => exact absurd (by decide) hr
  | zero => rfl
  | far ht => exact absurd ht (by decide)
theorem c_neg {w : Tw} (h : WhenS 4 (-4) (-2) 4 w) : w = .round 2 [0] := by
  cases h with
  | rnd c => exact absurd c (by decide)
  | line c w hw =>
    cases hw with
    | flat => rfl
    | rise ps hr => exact absurd (by decide) hr
  | zero c => exact absurd c (by decide)
  | far ht => exact absurd ht (by decide)
theorem c_one {w : Tw} (h : WhenS 2 1 1 1 w) : w = .round 6 [1, 5] := by
  cases h with
  | rnd c => rfl
  | line c => exact absurd c (by decide)
  | zero c => exact absurd c (by decide)
  | far ht => exact absurd ht (by decide)
def cstD : D := .list [.tuple [.str (Str.ofString "round"), .int 1, .tuple [.int 0]], .tuple [.str (Str.ofString "these"), .tuple []], .tuple [.str (Str.ofString "round"), .int 2, .tuple [.int 0]], .tuple [.str (Str.ofString "round"), .int 6, .tuple [.int 1, .int 5]]]
theorem h_law : ∀ avs s AQ, fn_law avs s AQ → t_law (endsA AQ) ⟨startA N_law avs, ⟨s, []⟩⟩ := by
  rintro _ _ AQ ⟨ns, rfl, rfl, hn, hq⟩
  show t_law (endsA AQ) ⟨[some (.scr ns), none, none, none, none, none, none, none, none, none, none, none, none, none, none], ⟨none, []⟩⟩
  unfold t_law
  walk_at "sq"
  walk_at "qs"
  refine ⟨ns, rfl, rfl, hn, fun S => ?_⟩
  walk_at "nx"
  walk_at "sq"
  walk_at "qs"
  refine ⟨Rg.of (by decide) (by decide), ?_⟩
  refine lap_loop _ ns (fun S => ?_) _ S
  walk_at "nx"
  walk_at "sq"
  walk_at "qs"
  walk_at "nx"
  walk_at "sq"
  walk_at "qs"
  refine ⟨0, 0, 3, 0, 8, 8, rfl, Bd.lit, Bd.lit, Bd.lit, Bd.lit, by decide, by decide, fun w1 h1 => ?_⟩
  rw [c_far h1]
  walk_at "qs"
  refine ⟨0, 0, 2, 1, 8, 8, rfl, Bd.lit, Bd.lit, Bd.lit, Bd.lit, by decide, by decide, fun w2 h2 => ?_⟩
  rw [c_two h2]
  walk_at "qs"
  refine ⟨4, -4, -2, 4, 8, 8, rfl, Bd.lit, Bd.lit, Bd.lit, Bd.lit, by decide, by decide, fun w3 h3 => ?_⟩
  rw [c_neg h3]
  walk_at "qs"
  refine ⟨2, 1, 1, 1, 8, 8, rfl, Bd.lit, Bd.lit, Bd.lit, Bd.lit, by decide, by decide, fun w4 h4 => ?_⟩
  rw [c_one h4]
  unfold twD
  walk_at "qs"
  walk_at "nx"
  walk_at "qs"
  have rp : RepOk cstD := by
    unfold cstD
    refine RepOk.of ?_ (by simp only [PyData.depth, PyData.depthAll]; decide) (by simp only [PyData.bulk, PyData.bulkAll]; decide +kernel)
    simp only [IntsB, IntsBs, and_true, true_and]
    decide +kernel
  exact ⟨rp, rp, hq _⟩


/-! ### the text by places -/
def topS (i : Nat) : Stmt := PySem.Challenge.pw_tracetriples_k47_whole_at_triples_of_pai.main.body.getD i (.Pass ⟨0, 0, 0, 0⟩)
/-- what the top leaves of names -/
structure Txt (w : World) (K : PySem.W.Frag) (mg : Str → Option Value) : Prop where
  n_abs : mg "abs" = none
  n_enumerate : mg "enumerate" = none
  n_int : mg "int" = none
  n_len : mg "len" = none
  n_list : mg "list" = none
  n_max : mg "max" = none
  n_range : mg "range" = none
  n_repr : mg "repr" = none
  n_sorted : mg "sorted" = none
  n_str : mg "str" = none
  n_sum : mg "sum" = none
  n_tuple : mg "tuple" = none
  n_zip : mg "zip" = none
  k_BEGUN : ConstAt K mg "BEGUN" (.tuple [.tuple [.tuple [.tuple [.int 0, .int 0, .int 0], .int 1]], .tuple [], .tuple [], .tuple []])
  k_LEFT_OVER : ConstAt K mg "LEFT_OVER" (.tuple [.tuple [.tuple [.int 0, .int 0, .int 1], .int 1], .tuple [.tuple [.int 1, .int 1, .int 0], .int (-1)]])
  k_LESS_ONE : ConstAt K mg "LESS_ONE" (.tuple [.tuple [.tuple [.int 0, .int 0, .int 0], .int (-1)]])
  k_LESS_Y : ConstAt K mg "LESS_Y" (.tuple [.tuple [.tuple [.int 0, .int 1, .int 0], .int (-1)]])
  k_MOST_FIGURES_numberruns : ConstAt K mg "MOST_FIGURES_numberruns" (.int 300)
  k_MOST_FIGURES_pairtables : ConstAt K mg "MOST_FIGURES_pairtables" (.int 300)
  k_MOST_LETTERS : ConstAt K mg "MOST_LETTERS" (.int 400)
  k_MOST_PLACE : ConstAt K mg "MOST_PLACE" (.int 1000000)
  k_MOST_TERMS : ConstAt K mg "MOST_TERMS" (.int 4000)
  k_NOTHING : ConstAt K mg "NOTHING" (.tuple [])
  k_ONE_pairtables : ConstAt K mg "ONE_pairtables" (.tuple [.int 1, .int 0, .int 0, .int 1])
  k_ONE_polysums : ConstAt K mg "ONE_polysums" (.tuple [.tuple [.tuple [.int 0, .int 0, .int 0], .int 1]])
  k_ROUND : ConstAt K mg "ROUND" (.str "round")
  k_THESE : ConstAt K mg "THESE" (.str "these")
  k_TWO : ConstAt K mg "TWO" (.tuple [.tuple [.tuple [.int 0, .int 0, .int 0], .int 2]])
  k_X : ConstAt K mg "X" (.tuple [.tuple [.tuple [.int 1, .int 0, .int 0], .int 1]])
  k_Y : ConstAt K mg "Y" (.tuple [.tuple [.tuple [.int 0, .int 1, .int 0], .int 1]])
  k_Z : ConstAt K mg "Z" (.tuple [.tuple [.tuple [.int 0, .int 0, .int 1], .int 1]])
  d_ROUNDS : DictAtI K w mg "ROUNDS" tabRounds
theorem hu65 {k : Nat} {A : Around} (hr : Room k A) : A.units + 65 < cLine := by have := hr.un; omega
theorem reprU {k : Nat} {A : Around} (hr : Room k A) : A.units + 100 < cLine := by have := hr.un; omega
abbrev s__law_form_right : Stmt := topS 88
theorem sc__law_form_right : FnScope N__law_form_right ["told"] (defScope s__law_form_right) := ⟨rfl, rfl, rfl, by decide +kernel, rfl, by decide +kernel, by decide +kernel⟩
theorem ok__law_form_right {P : Program} {w : World} {K : PySem.W.Frag} {mg : Str → Option Value} {base : Heap} (T : Txt w K mg) (D : DefAt K mg "_law_form_right" s__law_form_right ["told"]) : Callee P w K mg base "_law_form_right" 1 1 fn__law_form_right :=
  D.callee (N := N__law_form_right) (t := t__law_form_right) sc__law_form_right rfl (fun f cdv A outer s H E hr hgd => (qss_cons (qs_if (qt_cmp (oq_eq hr.units) (q_ix iq_seq (qv 0) q_int (fun _ _ => rfl)) q_str (nomark _)) (qss_one (qs_ret (q_cmp (oq_eq hr.units) (q_callTy cq_list (by rfl) T.n_list bt_list (qa_cons (q_ix iq_seq (qv 0) q_int (fun _ _ => rfl)) qa_nil)) (q_callB cq_sortedT (by rfl) T.n_sorted bt_sorted (qa_cons (q_ix iq_seq (qv 0) q_int (fun _ _ => rfl)) qa_nil)) (nomark _)))) qss_nil)
      (qss_cons (qs_asg (vs := allv) (q_tup (qa_cons (q_ix iq_seq (qv 0) q_int (fun _ _ => rfl)) (qa_cons (q_callTy cq_list (by rfl) T.n_list bt_list (qa_cons (q_ix iq_seq (qv 0) q_int (fun _ _ => rfl)) qa_nil)) qa_nil))) (qg_tup rfl (qgs_cons (qg_name (i := 1) sc__law_form_right.nd rfl (.inr rfl) (by decide)) (qgs_cons (qg_name (i := 2) sc__law_form_right.nd rfl (.inl rfl) (by decide)) qgs_nil))))
      (qss_cons (qs_if (qt_w (qw_or (qt_cmp (oq_ne hr.units) (qv 2) (q_callB cq_sorted (by rfl) T.n_sorted bt_sorted (qa_cons (qv 2) qa_nil)) (nomark _)) (qw_or (qt_cmp (oq_eq hr.units) (qv 2) (q_lst qa_nil) (nomark _)) (qw_or1 (qt_cmp (oq_ne hr.units) (q_lc (own := [("place", 5)]) rfl sc__law_form_right.nd (qi_lst (qv 2)) (blkOk_by (N := N__law_form_right) (sc := defScope s__law_form_right) (own := [("place", 5)]) (by decide +kernel)) (fun _ _ _ _ _ => (qg_name (i := 5) sc__law_form_right.nd rfl (.inl rfl) (by decide))) (fun _ _ _ _ _ => (qts_one (qt_not (qt_chain oq_lt oq_lt (q_neg q_int) (qv 5) (qv 1) (by with_unfolding_all rfl))))) (fun _ _ _ _ _ => (qv 5))) (q_lst qa_nil) (nomark _)))))) (qss_one (qs_ret q_bl)) qss_nil)
      (qss_cons (qs_for (vs := allv) [3, 4, 5] PassesOwn.never rfl (qi_range2 (by rfl) T.n_range (qa_cons q_int (qa_cons (qv 1) qa_nil))) (qg_name (i := 3) sc__law_form_right.nd rfl (.inr rfl) (by decide)) (qss_one (qs_if (qt_cmp (oq_eq hr.units) (q_op oq_mod (q_callTy cq_int (by rfl) T.n_int bt_int (qa_cons (qv 1) qa_nil)) (qv 3)) q_int (nomark _)) (qss_cons (qs_setLc (i := 4) (own := [("place", 5)]) rfl sc__law_form_right.nd rfl rfl (sw_true rfl rfl rfl (by decide +kernel)) (qi_lst (qv 2)) (blkOk_by (N := N__law_form_right) (sc := defScope s__law_form_right) (own := [("place", 5)]) (by decide +kernel)) (fun _ _ _ _ _ => (qg_name (i := 5) sc__law_form_right.nd rfl (.inl rfl) (by decide))) (fun _ _ _ _ _ => qts_nil) (fun _ _ _ _ _ => (q_op oq_mod (q_callTy cq_int (by rfl) T.n_int bt_int (qa_cons (q_op oq_add (qv 5) (qv 3)) qa_nil)) (qv 1))))
      (qss_one (qs_if (qt_cmp (oq_eq hr.units) (q_callB cq_sorted (by rfl) T.n_sorted bt_sorted (qa_cons (qv 4) qa_nil)) (qv 2) (nomark _)) (qss_one (qs_ret q_bl)) qss_nil))) qss_nil)))
      (qss_one (qs_ret q_bl))))))) h__law_form_right
abbrev s__law_in : Stmt := topS 87
theorem sc__law_in : FnScope N__law_in ["told", "n"] (defScope s__law_in) := ⟨rfl, rfl, rfl, by decide +kernel, rfl, by decide +kernel, by decide +kernel⟩
theorem ok__law_in {P : Program} {w : World} {K : PySem.W.Frag} {mg : Str → Option Value} {base : Heap} (T : Txt w K mg) (D : DefAt K mg "_law_in" s__law_in ["told", "n"]) : Callee P w K mg base "_law_in" 1 2 fn__law_in :=
  D.callee (N := N__law_in) (t := t__law_in) sc__law_in rfl (fun f cdv A outer s H E hr hgd => (qss_cons (qs_if (qt_cmp (oq_eq hr.units) (q_ix iq_seq (qv 0) q_int (fun _ _ => rfl)) q_str (nomark _)) (qss_one (qs_ret (q_cmp (oq_inT (hu65 hr)) (qv 1) (q_ix iq_seq (qv 0) q_int (fun _ _ => rfl)) (by rfl)))) qss_nil)
      (qss_one (qs_ret (q_cmp (oq_inT (hu65 hr)) (q_op oq_mod (q_callTy cq_int (by rfl) T.n_int bt_int (qa_cons (qv 1) qa_nil)) (q_ix iq_seq (qv 0) q_int (fun _ _ => rfl))) (q_ix iq_seq (qv 0) q_int (fun _ _ => rfl)) (by rfl)))))) h__law_in
abbrev s__law_pick : Stmt := topS 78
theorem sc__law_pick : FnScope N__law_pick ["source", "many"] (defScope s__law_pick) := ⟨rfl, rfl, rfl, by decide +kernel, rfl, by decide +kernel, by decide +kernel⟩
theorem ok__law_pick {P : Program} {w : World} {K : PySem.W.Frag} {mg : Str → Option Value} {base : Heap} (T : Txt w K mg) (D : DefAt K mg "_law_pick" s__law_pick ["source", "many"]) : Callee P w K mg base "_law_pick" 1 2 fn__law_pick :=
  D.callee (N := N__law_pick) (t := t__law_pick) sc__law_pick rfl (fun f cdv A outer s H E hr hgd => (qss_cons (qs_while [] PassesOwn.never (qt_w (qw_and (qt_cmp oq_gt (qv 1) q_int (nomark _)) (qw_and (qt_cmp oq_lt (q_srcF .left (hu_of hr) (qv 0)) q_int (nomark _)) (qw_and1 (qt_cmp oq_gt (q_callB cq_len (by rfl) T.n_len bt_len (qa_cons (q_srcC (hu_of hr) (qv 0)) qa_nil)) q_int (nomark _)))))) (qss_one (qs_srcPut .left (hu_of hr) (qv 0) (q_mt0 mq_popC PySem.F.slot_list_pop PySem.F.type_list_pop (q_srcC (hu_of hr) (qv 0))))))
      (qss_cons (qs_set (i := 2) sc__law_pick.nd rfl (.inl rfl) (q_srcF .left (hu_of hr) (qv 0)))
      (qss_cons (qs_if (qt_w (qw_or (qt_cmp oq_lt (qv 1) q_int (nomark _)) (qw_or1 (qt_cmp oq_gt (qv 2) q_int (nomark _))))) (qss_cons (qs_srcPut .left (hu_of hr) (qv 0) (q_op oq_fdiv (qv 2) (q_callB (cq_max rfl) (by rfl) T.n_max bt_max (qa_cons q_int (qa_cons (qv 1) qa_nil)))))
      (qss_one (qs_ret (q_op oq_mod (q_callTy cq_int (by rfl) T.n_int bt_int (qa_cons (qv 2) qa_nil)) (q_callB (cq_max rfl) (by rfl) T.n_max bt_max (qa_cons q_int (qa_cons (qv 1) qa_nil))))))) qss_nil)
      (qss_cons (qs_srcPut .turn (hu_of hr) (qv 0) (q_op oq_add (q_srcF .turn (hu_of hr) (qv 0)) q_int))
      (qss_cons (qs_set (i := 3) sc__law_pick.nd rfl (.inl rfl) (q_op oq_mod (q_callTy cq_int (by rfl) T.n_int bt_int (qa_cons (q_op oq_add (q_srcF .mixed (hu_of hr) (qv 0)) (q_op oq_mul (q_srcF .turn (hu_of hr) (qv 0)) q_int)) qa_nil)) q_int))
      (qss_cons (qs_set (i := 3) sc__law_pick.nd rfl (.inl rfl) (q_op oq_mod (q_callTy cq_int (by rfl) T.n_int bt_int (qa_cons (q_op oq_add (q_op oq_mul (qv 3) (qv 3)) (q_op oq_mul (q_srcF .turn (hu_of hr) (qv 0)) q_int)) qa_nil)) q_int))
      (qss_cons (qs_srcPut .mixed (hu_of hr) (qv 0) (qv 3))
      (qss_one (qs_ret (q_op oq_mod (q_callTy cq_int (by rfl) T.n_int bt_int (qa_cons (q_op oq_fdiv (qv 3) q_int) qa_nil)) (qv 1)))))))))))) h__law_pick
abbrev s__law_of : Stmt := topS 79
theorem sc__law_of : FnScope N__law_of ["source", "some"] (defScope s__law_of) := ⟨rfl, rfl, rfl, by decide +kernel, rfl, by decide +kernel, by decide +kernel⟩
theorem ok__law_of {P : Program} {w : World} {K : PySem.W.Frag} {mg : Str → Option Value} {base : Heap} (T : Txt w K mg) (c__law_pick : Callee P w K mg base "_law_pick" 1 2 fn__law_pick) (D : DefAt K mg "_law_of" s__law_of ["source", "some"]) : Callee P w K mg base "_law_of" 2 2 fn__law_of :=
  D.callee (N := N__law_of) (t := t__law_of) sc__law_of rfl (fun f cdv A outer s H E hr hgd => (qss_one (qs_ret (q_ix iq_seq (qv 1) (q_call c__law_pick (hr.mono (by decide)) hgd (qa_cons (qv 0) (qa_cons (q_callB cq_len (by rfl) T.n_len bt_len (qa_cons (qv 1) qa_nil)) qa_nil))) (fun _ _ => rfl))))) h__law_of
abbrev s__law_small : Stmt := topS 85
theorem sc__law_small : FnScope N__law_small ["source"] (defScope s__law_small) := ⟨rfl, rfl, rfl, by decide +kernel, rfl, by decide +kernel, by decide +kernel⟩
theorem ok__law_small {P : Program} {w : World} {K : PySem.W.Frag} {mg : Str → Option Value} {base : Heap} (T : Txt w K mg) (c__law_of : Callee P w K mg base "_law_of" 2 2 fn__law_of) (D : DefAt K mg "_law_small" s__law_small ["source"]) : Callee P w K mg base "_law_small" 3 1 fn__law_small :=
  D.callee (N := N__law_small) (t := t__law_small) sc__law_small rfl (fun f cdv A outer s H E hr hgd => (qss_cons (qs_set (i := 1) sc__law_small.nd rfl (.inl rfl) (q_lst (qa_cons (q_tup (qa_cons q_int (qa_cons q_int (qa_cons q_int (qa_cons q_int qa_nil))))) (qa_cons (q_tup (qa_cons q_int (qa_cons q_int (qa_cons q_int (qa_cons q_int qa_nil))))) (qa_cons (q_tup (qa_cons (q_neg q_int) (qa_cons q_int (qa_cons q_int (qa_cons (q_neg q_int) qa_nil))))) (qa_cons (q_tup (qa_cons q_int (qa_cons q_int (qa_cons (q_neg q_int) (qa_cons q_int qa_nil))))) (qa_cons (q_tup (qa_cons q_int (qa_cons (q_neg q_int) (qa_cons q_int (qa_cons q_int qa_nil))))) (qa_cons (q_tup (qa_cons q_int (qa_cons (q_neg q_int) (qa_cons q_int (qa_cons (q_neg q_int) qa_nil))))) (qa_cons (q_tup (qa_cons q_int (qa_cons q_int (qa_cons q_int (qa_cons q_int qa_nil))))) qa_nil)))))))))
      (qss_one (qs_ret (q_tup (qa_cons (q_call c__law_of (hr.mono (by decide)) hgd (qa_cons (qv 0) (qa_cons (q_op oq_add (qv 1) (q_lst (qa_cons (q_tup (qa_cons q_int (qa_cons q_int (qa_cons q_int (qa_cons q_int qa_nil))))) qa_nil))) qa_nil))) (qa_cons (q_call c__law_of (hr.mono (by decide)) hgd (qa_cons (qv 0) (qa_cons (q_op oq_add (qv 1) (q_lst (qa_cons (q_tup (qa_cons (q_neg q_int) (qa_cons q_int (qa_cons (q_neg q_int) (qa_cons q_int qa_nil))))) qa_nil))) qa_nil))) qa_nil))))))) h__law_small
abbrev s__law_source : Stmt := topS 77
theorem sc__law_source : FnScope N__law_source ["script"] (defScope s__law_source) := ⟨rfl, rfl, rfl, by decide +kernel, rfl, by decide +kernel, by decide +kernel⟩
theorem ok__law_source {P : Program} {w : World} {K : PySem.W.Frag} {mg : Str → Option Value} {base : Heap} (T : Txt w K mg) (D : DefAt K mg "_law_source" s__law_source ["script"]) : Callee P w K mg base "_law_source" 1 1 fn__law_source :=
  D.callee (N := N__law_source) (t := t__law_source) sc__law_source rfl (fun f cdv A outer s H E hr hgd => (qss_cons (qs_set (i := 1) sc__law_source.nd rfl (.inl rfl) q_int)
      (qss_cons (qs_for (vs := allv) [2] PassesOwn.never rfl (qi_scr (qv 0)) (qg_name (i := 2) sc__law_source.nd rfl (.inl rfl) (by decide)) (qss_one (qs_set (i := 1) sc__law_source.nd rfl (.inl rfl) (q_op oq_mod (q_callTy cq_int (by rfl) T.n_int bt_int (qa_cons (q_op oq_add (q_op oq_add (q_op oq_mul (qv 1) q_int) (q_op oq_mul (qv 2) q_int)) q_int) qa_nil)) q_int))))
      (qss_one (qs_ret (q_srcNew (q_revM (q_lc (own := [("cell", 2)]) rfl sc__law_source.nd (qi_scr (qv 0)) (blkOk_by (N := N__law_source) (sc := defScope s__law_source) (own := [("cell", 2)]) (by decide +kernel)) (fun _ _ _ _ _ => (qg_name (i := 2) sc__law_source.nd rfl (.inl rfl) (by decide))) (fun _ _ _ _ _ => qts_nil) (fun _ _ _ _ _ => (q_callB cq_abs (by rfl) T.n_abs bt_abs (qa_cons (qv 2) qa_nil))))) q_int (qv 1) q_int)))))) h__law_source
abbrev s__law_by : Stmt := topS 83
theorem sc__law_by : FnScope N__law_by ["one", "other"] (defScope s__law_by) := ⟨rfl, rfl, rfl, by decide +kernel, rfl, by decide +kernel, by decide +kernel⟩
theorem ok__law_by {P : Program} {w : World} {K : PySem.W.Frag} {mg : Str → Option Value} {base : Heap} (T : Txt w K mg) (D : DefAt K mg "_law_by" s__law_by ["one", "other"]) : Callee P w K mg base "_law_by" 1 2 fn__law_by :=
  D.callee (N := N__law_by) (t := t__law_by) sc__law_by rfl (fun f cdv A outer s H E hr hgd => (qss_cons (qs_asg (vs := allv) (qv 0) (qg_tup rfl (qgs_cons (qg_name (i := 2) sc__law_by.nd rfl (.inl rfl) (by decide)) (qgs_cons (qg_name (i := 3) sc__law_by.nd rfl (.inl rfl) (by decide)) (qgs_cons (qg_name (i := 4) sc__law_by.nd rfl (.inl rfl) (by decide)) (qgs_cons (qg_name (i := 5) sc__law_by.nd rfl (.inl rfl) (by decide)) qgs_nil))))))
      (qss_cons (qs_asg (vs := allv) (qv 1) (qg_tup rfl (qgs_cons (qg_name (i := 6) sc__law_by.nd rfl (.inl rfl) (by decide)) (qgs_cons (qg_name (i := 7) sc__law_by.nd rfl (.inl rfl) (by decide)) (qgs_cons (qg_name (i := 8) sc__law_by.nd rfl (.inl rfl) (by decide)) (qgs_cons (qg_name (i := 9) sc__law_by.nd rfl (.inl rfl) (by decide)) qgs_nil))))))
      (qss_one (qs_ret (q_tup (qa_cons (q_op oq_add (q_op oq_mul (qv 2) (qv 6)) (q_op oq_mul (qv 3) (qv 8))) (qa_cons (q_op oq_add (q_op oq_mul (qv 2) (qv 7)) (q_op oq_mul (qv 3) (qv 9))) (qa_cons (q_op oq_add (q_op oq_mul (qv 4) (qv 6)) (q_op oq_mul (qv 5) (qv 8))) (qa_cons (q_op oq_add (q_op oq_mul (qv 4) (qv 7)) (q_op oq_mul (qv 5) (qv 9))) qa_nil)))))))))) h__law_by
abbrev s__law_table_of : Stmt := topS 84
theorem sc__law_table_of : FnScope N__law_table_of ["pair", "word"] (defScope s__law_table_of) := ⟨rfl, rfl, rfl, by decide +kernel, rfl, by decide +kernel, by decide +kernel⟩
theorem ok__law_table_of {P : Program} {w : World} {K : PySem.W.Frag} {mg : Str → Option Value} {base : Heap} (T : Txt w K mg) (c__law_by : Callee P w K mg base "_law_by" 1 2 fn__law_by) (D : DefAt K mg "_law_table_of" s__law_table_of ["pair", "word"]) : Callee P w K mg base "_law_table_of" 2 2 fn__law_table_of :=
  D.callee (N := N__law_table_of) (t := t__law_table_of) sc__law_table_of rfl (fun f cdv A outer s H E hr hgd => (qss_cons (qs_set (i := 2) sc__law_table_of.nd rfl (.inl rfl) (q_tup (qa_cons q_int (qa_cons q_int (qa_cons q_int (qa_cons q_int qa_nil))))))
      (qss_cons (qs_for (vs := allv) [3, 4, 5, 6, 7] PassesOwn.never rfl (qi_tup (qv 1)) (qg_name (i := 3) sc__law_table_of.nd rfl (.inl rfl) (by decide)) (qss_cons (qs_asg (vs := allv) (q_ix iq_seq (qv 0) (q_op oq_sub (q_callB cq_abs (by rfl) T.n_abs bt_abs (qa_cons (qv 3) qa_nil)) q_int) (fun _ _ => rfl)) (qg_tup rfl (qgs_cons (qg_name (i := 4) sc__law_table_of.nd rfl (.inl rfl) (by decide)) (qgs_cons (qg_name (i := 5) sc__law_table_of.nd rfl (.inl rfl) (by decide)) (qgs_cons (qg_name (i := 6) sc__law_table_of.nd rfl (.inl rfl) (by decide)) (qgs_cons (qg_name (i := 7) sc__law_table_of.nd rfl (.inl rfl) (by decide)) qgs_nil))))))
      (qss_one (qs_set (i := 2) sc__law_table_of.nd rfl (.inl rfl) (q_call c__law_by (hr.mono (by decide)) hgd (qa_cons (qv 2) (qa_cons (q_if (qt_cmp oq_gt (qv 3) q_int (nomark _)) (q_tup (qa_cons (qv 4) (qa_cons (qv 5) (qa_cons (qv 6) (qa_cons (qv 7) qa_nil))))) (q_tup (qa_cons (qv 7) (qa_cons (q_op oq_sub q_int (qv 5)) (qa_cons (q_op oq_sub q_int (qv 6)) (qa_cons (qv 4) qa_nil)))))) qa_nil)))))))
      (qss_one (qs_ret (qv 2)))))) h__law_table_of
abbrev s__law_undone : Stmt := topS 81
theorem sc__law_undone : FnScope N__law_undone ["word"] (defScope s__law_undone) := ⟨rfl, rfl, rfl, by decide +kernel, rfl, by decide +kernel, by decide +kernel⟩
theorem ok__law_undone {P : Program} {w : World} {K : PySem.W.Frag} {mg : Str → Option Value} {base : Heap} (T : Txt w K mg) (D : DefAt K mg "_law_undone" s__law_undone ["word"]) : Callee P w K mg base "_law_undone" 1 1 fn__law_undone :=
  D.callee (N := N__law_undone) (t := t__law_undone) sc__law_undone rfl (fun f cdv A outer s H E hr hgd => (qss_one (qs_ret (q_callTy cq_tuple (by rfl) T.n_tuple bt_tuple (qa_cons (q_lc (own := [("letter", 1)]) rfl sc__law_undone.nd (qi_tup (q_revT (qv 0))) (blkOk_by (N := N__law_undone) (sc := defScope s__law_undone) (own := [("letter", 1)]) (by decide +kernel)) (fun _ _ _ _ _ => (qg_name (i := 1) sc__law_undone.nd rfl (.inl rfl) (by decide))) (fun _ _ _ _ _ => qts_nil) (fun _ _ _ _ _ => (q_op oq_sub q_int (qv 1)))) qa_nil))))) h__law_undone
abbrev s__law_taken : Stmt := topS 86
theorem sc__law_taken : FnScope N__law_taken ["pair", "one", "other", "n"] (defScope s__law_taken) := ⟨rfl, rfl, rfl, by decide +kernel, rfl, by decide +kernel, by decide +kernel⟩
theorem ok__law_taken {P : Program} {w : World} {K : PySem.W.Frag} {mg : Str → Option Value} {base : Heap} (T : Txt w K mg) (c__law_by : Callee P w K mg base "_law_by" 1 2 fn__law_by) (c__law_table_of : Callee P w K mg base "_law_table_of" 2 2 fn__law_table_of) (c__law_undone : Callee P w K mg base "_law_undone" 1 1 fn__law_undone) (D : DefAt K mg "_law_taken" s__law_taken ["pair", "one", "other", "n"]) : Callee P w K mg base "_law_taken" 3 4 fn__law_taken :=
  D.callee (N := N__law_taken) (t := t__law_taken) sc__law_taken rfl (fun f cdv A outer s H E hr hgd => (qss_cons (qs_par (i := 4) (j := 5) rfl sc__law_taken.nd rfl rfl (by decide) rfl rfl (qa_cons (q_call c__law_table_of (hr.mono (by decide)) hgd (qa_cons (qv 0) (qa_cons (qv 1) qa_nil))) (qa_cons (q_call c__law_table_of (hr.mono (by decide)) hgd (qa_cons (qv 0) (qa_cons (q_if (qt_cmp oq_gt (qv 3) q_int (nomark _)) (qv 2) (q_call c__law_undone (hr.mono (by decide)) hgd (qa_cons (qv 2) qa_nil))) qa_nil))) qa_nil)) (by rfl))
      (qss_cons (qs_for (vs := allv) [6] PassesOwn.never rfl (qi_range1 (by rfl) T.n_range (qa_cons (q_callB cq_abs (by rfl) T.n_abs bt_abs (qa_cons (qv 3) qa_nil)) qa_nil)) (qg_name (i := 6) sc__law_taken.nd rfl (.inl rfl) (by decide)) (qss_one (qs_set (i := 4) sc__law_taken.nd rfl (.inl rfl) (q_call c__law_by (hr.mono (by decide)) hgd (qa_cons (qv 4) (qa_cons (qv 5) qa_nil))))))
      (qss_one (qs_ret (q_op oq_add (q_ix iq_seq (qv 4) q_int (fun _ _ => rfl)) (q_ix iq_seq (qv 4) q_int (fun _ _ => rfl)))))))) h__law_taken
abbrev s__law_low : Stmt := topS 80
theorem sc__law_low : FnScope N__law_low ["letters"] (defScope s__law_low) := ⟨rfl, rfl, rfl, by decide +kernel, rfl, by decide +kernel, by decide +kernel⟩
theorem ok__law_low {P : Program} {w : World} {K : PySem.W.Frag} {mg : Str → Option Value} {base : Heap} (T : Txt w K mg) (D : DefAt K mg "_law_low" s__law_low ["letters"]) : Callee P w K mg base "_law_low" 1 1 fn__law_low :=
  D.callee (N := N__law_low) (t := t__law_low) sc__law_low rfl (fun f cdv A outer s H E hr hgd => (qss_cons (qs_set (i := 1) sc__law_low.nd rfl (.inl rfl) (q_lstM qa_nil))
      (qss_cons (qs_for (vs := allv) [2] PassesOwn.never rfl (qi_var (qv 0)) (qg_name (i := 2) sc__law_low.nd rfl (.inl rfl) (by decide)) (qss_one (qs_if (qt_cmp (oq_eq hr.units) (q_slice (qv 1) (qo_some (q_neg q_int)) qo_none) (q_lst (qa_cons (q_op oq_sub q_int (qv 2)) qa_nil)) (nomark _)) (qss_one (qs_expr (q_mt0 mq_pop PySem.F.slot_list_pop PySem.F.type_list_pop (qv 1)))) (qss_one (qs_expr (q_mt mq_append PySem.F.slot_list_append PySem.F.type_list_append (qv 1) (qa_cons (qv 2) qa_nil)))))))
      (qss_one (qs_ret (q_callTy cq_tuple (by rfl) T.n_tuple bt_tuple (qa_cons (qv 1) qa_nil))))))) h__law_low
abbrev s__law_word : Stmt := topS 82
theorem sc__law_word : FnScope N__law_word ["source", "most"] (defScope s__law_word) := ⟨rfl, rfl, rfl, by decide +kernel, rfl, by decide +kernel, by decide +kernel⟩
theorem ok__law_word {P : Program} {w : World} {K : PySem.W.Frag} {mg : Str → Option Value} {base : Heap} (T : Txt w K mg) (c__law_low : Callee P w K mg base "_law_low" 1 1 fn__law_low) (c__law_of : Callee P w K mg base "_law_of" 2 2 fn__law_of) (c__law_pick : Callee P w K mg base "_law_pick" 1 2 fn__law_pick) (D : DefAt K mg "_law_word" s__law_word ["source", "most"]) : Callee P w K mg base "_law_word" 3 2 fn__law_word :=
  D.callee (N := N__law_word) (t := t__law_word) sc__law_word rfl (fun f cdv A outer s H E hr hgd => (qss_one (qs_ret (q_call c__law_low (hr.mono (by decide)) hgd (qa_cons (q_lc (own := [("k", 2)]) rfl sc__law_word.nd (qi_range1 (by rfl) T.n_range (qa_cons (q_call c__law_pick (hr.mono (by decide)) hgd (qa_cons (qv 0) (qa_cons (q_op oq_add (qv 1) q_int) qa_nil))) qa_nil)) (blkOk_by (N := N__law_word) (sc := defScope s__law_word) (own := [("k", 2)]) (by decide +kernel)) (fun _ _ _ _ _ => (qg_name (i := 2) sc__law_word.nd rfl (.inl rfl) (by decide))) (fun _ _ _ _ _ => qts_nil) (fun _ _ _ _ _ => (q_call c__law_of (hr.mono (by decide)) hgd (qa_cons (qv 0) (qa_cons (q_lst (qa_cons q_int (qa_cons (q_neg q_int) (qa_cons q_int (qa_cons (q_neg q_int) qa_nil))))) qa_nil))))) qa_nil))))) h__law_word
abbrev s_least_long : Stmt := topS 11
theorem sc_least_long : FnScope N_least_long [] (defScope s_least_long) := ⟨rfl, rfl, rfl, by decide +kernel, rfl, by decide +kernel, by decide +kernel⟩
theorem ok_least_long {P : Program} {w : World} {K : PySem.W.Frag} {mg : Str → Option Value} {base : Heap} (T : Txt w K mg) (D : DefAt K mg "least_long" s_least_long []) : Callee P w K mg base "least_long" 1 0 fn_least_long :=
  D.callee (N := N_least_long) (t := t_least_long) sc_least_long rfl (fun f cdv A outer s H E hr hgd => (qss_cons (qs_set (i := 0) sc_least_long.nd rfl (.inl rfl) q_int)
      (qss_cons (qs_for (vs := allv) [1] PassesOwn.never rfl (qi_range1 (by rfl) T.n_range (qa_cons (q_const T.k_MOST_FIGURES_numberruns) qa_nil)) (qg_name (i := 1) sc_least_long.nd rfl (.inl rfl) (by decide)) (qss_one (qs_augM (i := 0) sc_least_long.nd rfl (.inl rfl) q_int)))
      (qss_one (qs_ret (qv 0)))))) h_least_long
abbrev s_not_long_numberruns : Stmt := topS 12
theorem sc_not_long_numberruns : FnScope N_not_long_numberruns ["number"] (defScope s_not_long_numberruns) := ⟨rfl, rfl, rfl, by decide +kernel, rfl, by decide +kernel, by decide +kernel⟩
theorem ok_not_long_numberruns {P : Program} {w : World} {K : PySem.W.Frag} {mg : Str → Option Value} {base : Heap} (T : Txt w K mg) (c_least_long : Callee P w K mg base "least_long" 1 0 fn_least_long) (D : DefAt2 K mg "not_long_numberruns" "not_long" s_not_long_numberruns ["number"]) : Callee P w K mg base "not_long_numberruns" 2 1 fn_not_long_numberruns :=
  D.callee (N := N_not_long_numberruns) (t := t_not_long_numberruns) sc_not_long_numberruns rfl (fun f cdv A outer s H E hr hgd => (qss_cons (qs_if (qt_cmp oq_ge (q_callB cq_abs (by rfl) T.n_abs bt_abs (qa_cons (qv 0) qa_nil)) (q_call0 c_least_long (hr.mono (by decide)) hgd) (nomark _)) (qss_one qs_never) qss_nil)
      (qss_one (qs_ret (qv 0))))) h_not_long_numberruns
abbrev s_far_at : Stmt := topS 16
theorem sc_far_at : FnScope N_far_at ["numbers", "place"] (defScope s_far_at) := ⟨rfl, rfl, rfl, by decide +kernel, rfl, by decide +kernel, by decide +kernel⟩
theorem ok_far_at {P : Program} {w : World} {K : PySem.W.Frag} {mg : Str → Option Value} {base : Heap} (T : Txt w K mg) (c_least_long : Callee P w K mg base "least_long" 1 0 fn_least_long) (c_not_long_numberruns : Callee P w K mg base "not_long_numberruns" 2 1 fn_not_long_numberruns) (D : DefAt K mg "far_at" s_far_at ["numbers", "place"]) : Callee P w K mg base "far_at" 3 2 fn_far_at :=
  D.callee (N := N_far_at) (t := t_far_at) sc_far_at rfl (fun f cdv A outer s H E hr hgd => (qss_cons (qs_asg (vs := allv) (qv 0) (qg_tup rfl (qgs_cons (qg_name (i := 2) sc_far_at.nd rfl (.inl rfl) (by decide)) (qgs_cons (qg_name (i := 3) sc_far_at.nd rfl (.inl rfl) (by decide)) (qgs_cons (qg_name (i := 4) sc_far_at.nd rfl (.inl rfl) (by decide)) qgs_nil)))))
      (qss_cons (qs_if (qt_w (qw_and (qt_cmp (oq_eq hr.units) (qv 2) q_int (nomark _)) (qw_and1 (qt_cmp (oq_eq hr.units) (qv 3) q_int (nomark _))))) (qss_one (qs_ret q_int)) qss_nil)
      (qss_cons (qs_set (i := 5) sc_far_at.nd rfl (.inl rfl) (q_call0 c_least_long (hr.mono (by decide)) hgd))
      (qss_cons (qs_for (vs := allv) [6] PassesOwn.never rfl (qi_range1 (by rfl) T.n_range (qa_cons (qv 1) qa_nil)) (qg_name (i := 6) sc_far_at.nd rfl (.inl rfl) (by decide)) (qss_cons (qs_if (qt_w (qw_and (qt_cmp oq_ge (q_callB cq_abs (by rfl) T.n_abs bt_abs (qa_cons (qv 3) qa_nil)) (qv 5) (nomark _)) (qw_and1 (qt_cmp oq_gt (q_callB cq_abs (by rfl) T.n_abs bt_abs (qa_cons (qv 3) qa_nil)) (q_callB cq_abs (by rfl) T.n_abs bt_abs (qa_cons (qv 2) qa_nil)) (nomark _))))) (qss_one qs_never) qss_nil)
      (qss_one (qs_par (i := 2) (j := 3) rfl sc_far_at.nd rfl rfl (by decide) rfl rfl (qa_cons (qv 3) (qa_cons (q_op oq_sub (q_op oq_mul (qv 4) (qv 3)) (qv 2)) qa_nil)) (by rfl)))))
      (qss_one (qs_ret (q_call c_not_long_numberruns (hr.mono (by decide)) hgd (qa_cons (qv 2) qa_nil))))))))) h_far_at
abbrev s_line_at : Stmt := topS 15
theorem sc_line_at : FnScope N_line_at ["first", "rise", "place"] (defScope s_line_at) := ⟨rfl, rfl, rfl, by decide +kernel, rfl, by decide +kernel, by decide +kernel⟩
theorem ok_line_at {P : Program} {w : World} {K : PySem.W.Frag} {mg : Str → Option Value} {base : Heap} (T : Txt w K mg) (D : DefAt K mg "line_at" s_line_at ["first", "rise", "place"]) : Callee P w K mg base "line_at" 1 3 fn_line_at :=
  D.callee (N := N_line_at) (t := t_line_at) sc_line_at rfl (fun f cdv A outer s H E hr hgd => (qss_one (qs_ret (q_op oq_add (qv 0) (q_op oq_mul (qv 1) (qv 2)))))) h_line_at
abbrev s_numbers_back : Stmt := topS 14
theorem sc_numbers_back : FnScope N_numbers_back ["numbers"] (defScope s_numbers_back) := ⟨rfl, rfl, rfl, by decide +kernel, rfl, by decide +kernel, by decide +kernel⟩
theorem ok_numbers_back {P : Program} {w : World} {K : PySem.W.Frag} {mg : Str → Option Value} {base : Heap} (T : Txt w K mg) (D : DefAt K mg "numbers_back" s_numbers_back ["numbers"]) : Callee P w K mg base "numbers_back" 1 1 fn_numbers_back :=
  D.callee (N := N_numbers_back) (t := t_numbers_back) sc_numbers_back rfl (fun f cdv A outer s H E hr hgd => (qss_cons (qs_asg (vs := allv) (qv 0) (qg_tup rfl (qgs_cons (qg_name (i := 1) sc_numbers_back.nd rfl (.inl rfl) (by decide)) (qgs_cons (qg_name (i := 2) sc_numbers_back.nd rfl (.inl rfl) (by decide)) (qgs_cons (qg_name (i := 3) sc_numbers_back.nd rfl (.inl rfl) (by decide)) qgs_nil)))))
      (qss_one (qs_ret (q_tup (qa_cons (qv 1) (qa_cons (q_op oq_sub (q_op oq_mul (qv 3) (qv 1)) (qv 2)) (qa_cons (qv 3) qa_nil)))))))) h_numbers_back
abbrev s_round_numbers : Stmt := topS 18
theorem sc_round_numbers : FnScope N_round_numbers ["numbers"] (defScope s_round_numbers) := ⟨rfl, rfl, rfl, by decide +kernel, rfl, by decide +kernel, by decide +kernel⟩
theorem ok_round_numbers {P : Program} {w : World} {K : PySem.W.Frag} {mg : Str → Option Value} {base : Heap} (T : Txt w K mg) (D : DefAt K mg "round_numbers" s_round_numbers ["numbers"]) : Callee P w K mg base "round_numbers" 1 1 fn_round_numbers :=
  D.callee (N := N_round_numbers) (t := t_round_numbers) sc_round_numbers rfl (fun f cdv A outer s H E hr hgd => (qss_cons (qs_asg (vs := allv) (qv 0) (qg_tup rfl (qgs_cons (qg_name (i := 1) sc_round_numbers.nd rfl (.inl rfl) (by decide)) (qgs_cons (qg_name (i := 2) sc_round_numbers.nd rfl (.inl rfl) (by decide)) (qgs_cons (qg_name (i := 3) sc_round_numbers.nd rfl (.inl rfl) (by decide)) qgs_nil)))))
      (qss_cons (qs_set (i := 4) sc_round_numbers.nd rfl (.inl rfl) (q_lstM qa_nil))
      (qss_cons (qs_for (vs := allv) [5] PassesOwn.never rfl (qi_range1 (by rfl) T.n_range (qa_cons (q_kixI T.d_ROUNDS (qv 3)) qa_nil)) (qg_name (i := 5) sc_round_numbers.nd rfl (.inl rfl) (by decide)) (qss_cons (qs_expr (q_mt mq_append PySem.F.slot_list_append PySem.F.type_list_append (qv 4) (qa_cons (qv 1) qa_nil)))
      (qss_one (qs_par (i := 1) (j := 2) rfl sc_round_numbers.nd rfl rfl (by decide) rfl rfl (qa_cons (qv 2) (qa_cons (q_op oq_sub (q_op oq_mul (qv 3) (qv 2)) (qv 1)) qa_nil)) (by rfl)))))
      (qss_one (qs_ret (qv 4))))))) h_round_numbers
abbrev s_number_at : Stmt := topS 17
theorem sc_number_at : FnScope N_number_at ["numbers", "place"] (defScope s_number_at) := ⟨rfl, rfl, rfl, by decide +kernel, rfl, by decide +kernel, by decide +kernel⟩
theorem ok_number_at {P : Program} {w : World} {K : PySem.W.Frag} {mg : Str → Option Value} {base : Heap} (T : Txt w K mg) (c_far_at : Callee P w K mg base "far_at" 3 2 fn_far_at) (c_line_at : Callee P w K mg base "line_at" 1 3 fn_line_at) (c_not_long_numberruns : Callee P w K mg base "not_long_numberruns" 2 1 fn_not_long_numberruns) (c_numbers_back : Callee P w K mg base "numbers_back" 1 1 fn_numbers_back) (c_round_numbers : Callee P w K mg base "round_numbers" 1 1 fn_round_numbers) (D : DefAt K mg "number_at" s_number_at ["numbers", "place"]) : Callee P w K mg base "number_at" 4 2 fn_number_at :=
  D.callee (N := N_number_at) (t := t_number_at) sc_number_at rfl (fun f cdv A outer s H E hr hgd => (qss_cons (qs_asg (vs := allv) (qv 0) (qg_tup rfl (qgs_cons (qg_name (i := 2) sc_number_at.nd rfl (.inl rfl) (by decide)) (qgs_cons (qg_name (i := 3) sc_number_at.nd rfl (.inl rfl) (by decide)) (qgs_cons (qg_name (i := 4) sc_number_at.nd rfl (.inl rfl) (by decide)) qgs_nil)))))
      (qss_cons (qs_if (qt_cmp oq_gt (q_callB cq_abs (by rfl) T.n_abs bt_abs (qa_cons (qv 1) qa_nil)) (q_const T.k_MOST_PLACE) (nomark _)) (qss_one qs_never) qss_nil)
      (qss_cons (qs_if (qt_kinI T.d_ROUNDS (qv 4)) (qss_one (qs_ret (q_call c_not_long_numberruns (hr.mono (by decide)) hgd (qa_cons (q_ix iq_seq (q_call c_round_numbers (hr.mono (by decide)) hgd (qa_cons (qv 0) qa_nil)) (q_op oq_mod (qv 1) (q_kixI T.d_ROUNDS (qv 4))) (fun _ _ => rfl)) qa_nil)))) qss_nil)
      (qss_cons (qs_if (qt_cmp (oq_eq hr.units) (q_callB cq_abs (by rfl) T.n_abs bt_abs (qa_cons (qv 4) qa_nil)) q_int (nomark _)) (qss_cons (qs_set (i := 5) sc_number_at.nd rfl (.inl rfl) (q_if (qt_w (qw_or (qt_cmp (oq_eq hr.units) (qv 4) q_int (nomark _)) (qw_or1 (qt_cmp (oq_eq hr.units) (q_op oq_mod (qv 1) q_int) q_int (nomark _))))) q_int (q_neg q_int)))
      (qss_one (qs_ret (q_call c_not_long_numberruns (hr.mono (by decide)) hgd (qa_cons (q_op oq_mul (qv 5) (q_call c_line_at (hr.mono (by decide)) hgd (qa_cons (qv 2) (qa_cons (q_op oq_sub (q_op oq_mul (qv 3) (q_op oq_fdiv (qv 4) q_int)) (qv 2)) (qa_cons (qv 1) qa_nil))))) qa_nil))))) qss_nil)
      (qss_one (qs_ret (q_call c_far_at (hr.mono (by decide)) hgd (qa_cons (q_if (qt_cmp oq_ge (qv 1) q_int (nomark _)) (qv 0) (q_call c_numbers_back (hr.mono (by decide)) hgd (qa_cons (qv 0) qa_nil))) (qa_cons (q_callB cq_abs (by rfl) T.n_abs bt_abs (qa_cons (qv 1) qa_nil)) qa_nil)))))))))) h_number_at
abbrev s_far_places : Stmt := topS 22
theorem sc_far_places : FnScope N_far_places ["numbers", "number"] (defScope s_far_places) := ⟨rfl, rfl, rfl, by decide +kernel, rfl, by decide +kernel, by decide +kernel⟩
theorem ok_far_places {P : Program} {w : World} {K : PySem.W.Frag} {mg : Str → Option Value} {base : Heap} (T : Txt w K mg) (D : DefAt K mg "far_places" s_far_places ["numbers", "number"]) : Callee P w K mg base "far_places" 1 2 fn_far_places :=
  D.callee (N := N_far_places) (t := t_far_places) sc_far_places rfl (fun f cdv A outer s H E hr hgd => (qss_cons (qs_asg (vs := allv) (qv 0) (qg_tup rfl (qgs_cons (qg_name (i := 2) sc_far_places.nd rfl (.inl rfl) (by decide)) (qgs_cons (qg_name (i := 3) sc_far_places.nd rfl (.inl rfl) (by decide)) (qgs_cons (qg_name (i := 4) sc_far_places.nd rfl (.inl rfl) (by decide)) qgs_nil)))))
      (qss_cons (qs_par (i := 5) (j := 6) rfl sc_far_places.nd rfl rfl (by decide) rfl rfl (qa_cons (q_lstM qa_nil) (qa_cons q_int qa_nil)) (by rfl))
      (qss_cons (qs_while [] PassesOwn.never (qt_w (qw_or (qt_cmp oq_le (q_callB cq_abs (by rfl) T.n_abs bt_abs (qa_cons (qv 2) qa_nil)) (q_callB cq_abs (by rfl) T.n_abs bt_abs (qa_cons (qv 1) qa_nil)) (nomark _)) (qw_or1 (qt_cmp oq_le (q_callB cq_abs (by rfl) T.n_abs bt_abs (qa_cons (qv 3) qa_nil)) (q_callB cq_abs (by rfl) T.n_abs bt_abs (qa_cons (qv 2) qa_nil)) (nomark _))))) (qss_cons (qs_if (qt_cmp (oq_eq hr.units) (qv 2) (qv 1) (nomark _)) (qss_one (qs_expr (q_mt mq_append PySem.F.slot_list_append PySem.F.type_list_append (qv 5) (qa_cons (qv 6) qa_nil)))) qss_nil)
      (qss_one (qs_par3 (i := 2) (j := 3) (l := 6) rfl sc_far_places.nd rfl rfl rfl (by decide) (by decide) (by decide) rfl rfl rfl (qa_cons (qv 3) (qa_cons (q_op oq_sub (q_op oq_mul (qv 4) (qv 3)) (qv 2)) (qa_cons (q_op oq_add (qv 6) q_int) qa_nil))) (by rfl)))))
      (qss_one (qs_ret (qv 5))))))) h_far_places
abbrev s_line_when : Stmt := topS 20
theorem sc_line_when : FnScope N_line_when ["first", "rise", "number"] (defScope s_line_when) := ⟨rfl, rfl, rfl, by decide +kernel, rfl, by decide +kernel, by decide +kernel⟩
theorem ok_line_when {P : Program} {w : World} {K : PySem.W.Frag} {mg : Str → Option Value} {base : Heap} (T : Txt w K mg) (D : DefAt K mg "line_when" s_line_when ["first", "rise", "number"]) : Callee P w K mg base "line_when" 1 3 fn_line_when :=
  D.callee (N := N_line_when) (t := t_line_when) sc_line_when rfl (fun f cdv A outer s H E hr hgd => (qss_cons (qs_set (i := 3) sc_line_when.nd rfl (.inl rfl) (q_op oq_sub (qv 2) (qv 0)))
      (qss_one (qs_ret (q_if (qt_cmp (oq_eq hr.units) (q_op oq_modN (qv 3) (qv 1)) q_int (nomark _)) (q_lst (qa_cons (q_op oq_fdivN (qv 3) (qv 1)) qa_nil)) (q_lst qa_nil)))))) h_line_when
abbrev s_round_told : Stmt := topS 19
theorem sc_round_told : FnScope N_round_told ["length", "places"] (defScope s_round_told) := ⟨rfl, rfl, rfl, by decide +kernel, rfl, by decide +kernel, by decide +kernel⟩
theorem ok_round_told {P : Program} {w : World} {K : PySem.W.Frag} {mg : Str → Option Value} {base : Heap} (T : Txt w K mg) (D : DefAt K mg "round_told" s_round_told ["length", "places"]) : Callee P w K mg base "round_told" 1 2 fn_round_told :=
  D.callee (N := N_round_told) (t := t_round_told) sc_round_told rfl (fun f cdv A outer s H E hr hgd => (qss_cons (qs_if (qt_cmp (oq_eq hr.units) (qv 1) (q_lst qa_nil) (nomark _)) (qss_one (qs_ret (q_tup (qa_cons (q_const T.k_THESE) (qa_cons (q_tup qa_nil) qa_nil))))) qss_nil)
      (qss_cons (qs_for (vs := allv) [2, 3, 4, 5] PassesOwn.never rfl (qi_range2 (by rfl) T.n_range (qa_cons q_int (qa_cons (q_op oq_add (qv 0) q_int) qa_nil))) (qg_name (i := 2) sc_round_told.nd rfl (.inr rfl) (by decide)) (qss_cons (qs_set (i := 3) sc_round_told.nd rfl (.inr rfl) (q_lc (own := [("place", 5)]) rfl sc_round_told.nd (qi_lst (qv 1)) (blkOk_by (N := N_round_told) (sc := defScope s_round_told) (own := [("place", 5)]) (by decide +kernel)) (fun _ _ _ _ _ => (qg_name (i := 5) sc_round_told.nd rfl (.inl rfl) (by decide))) (fun _ _ _ _ _ => (qts_one (qt_cmp oq_lt (qv 5) (qv 2) (nomark _)))) (fun _ _ _ _ _ => (qv 5))))
      (qss_cons (qs_setLc (i := 4) (own := [("place", 5)]) rfl sc_round_told.nd rfl rfl (sw_true rfl rfl rfl (by decide +kernel)) (qi_range1 (by rfl) T.n_range (qa_cons (qv 0) qa_nil)) (blkOk_by (N := N_round_told) (sc := defScope s_round_told) (own := [("place", 5)]) (by decide +kernel)) (fun _ _ _ _ _ => (qg_name (i := 5) sc_round_told.nd rfl (.inl rfl) (by decide))) (fun _ _ _ _ _ => (qts_one (qt_cmp (oq_inL (hu65 hr)) (q_op oq_mod (qv 5) (qv 2)) (qv 3) (by rfl)))) (fun _ _ _ _ _ => (qv 5)))
      (qss_one (qs_if (qt_w (qw_and (qt_cmp (oq_eq hr.units) (q_op oq_mod (qv 0) (qv 2)) q_int (nomark _)) (qw_and1 (qt_cmp (oq_eq hr.units) (qv 4) (qv 1) (nomark _))))) (qss_one (qs_ret (q_tup (qa_cons (q_const T.k_ROUND) (qa_cons (qv 2) (qa_cons (q_callTy cq_tuple (by rfl) T.n_tuple bt_tuple (qa_cons (qv 3) qa_nil)) qa_nil)))))) qss_nil)))))
      (qss_one (qs_ret (q_tup (qa_cons (q_const T.k_ROUND) (qa_cons (qv 0) (qa_cons (q_callTy cq_tuple (by rfl) T.n_tuple bt_tuple (qa_cons (qv 1) qa_nil)) qa_nil))))))))) h_round_told
abbrev s_lines_when : Stmt := topS 21
theorem sc_lines_when : FnScope N_lines_when ["numbers", "number"] (defScope s_lines_when) := ⟨rfl, rfl, rfl, by decide +kernel, rfl, by decide +kernel, by decide +kernel⟩
theorem ok_lines_when {P : Program} {w : World} {K : PySem.W.Frag} {mg : Str → Option Value} {base : Heap} (T : Txt w K mg) (c_line_when : Callee P w K mg base "line_when" 1 3 fn_line_when) (c_round_told : Callee P w K mg base "round_told" 1 2 fn_round_told) (D : DefAt K mg "lines_when" s_lines_when ["numbers", "number"]) : Callee P w K mg base "lines_when" 2 2 fn_lines_when :=
  D.callee (N := N_lines_when) (t := t_lines_when) sc_lines_when rfl (fun f cdv A outer s H E hr hgd => (qss_cons (qs_asg (vs := allv) (qv 0) (qg_tup rfl (qgs_cons (qg_name (i := 2) sc_lines_when.nd rfl (.inr rfl) (by decide)) (qgs_cons (qg_name (i := 3) sc_lines_when.nd rfl (.inl rfl) (by decide)) (qgs_cons (qg_name (i := 4) sc_lines_when.nd rfl (.inl rfl) (by decide)) qgs_nil)))))
      (qss_cons (qs_set (i := 5) sc_lines_when.nd rfl (.inl rfl) (q_op oq_fdiv (qv 4) q_int))
      (qss_cons (qs_set (i := 6) sc_lines_when.nd rfl (.inl rfl) (q_op oq_sub (q_op oq_mul (qv 3) (qv 5)) (qv 2)))
      (qss_cons (qs_set (i := 7) sc_lines_when.nd rfl (.inr rfl) (q_lst (qa_cons (qv 1) (qa_cons (q_op oq_mul (qv 1) (qv 5)) qa_nil))))
      (qss_cons (qs_if (qt_cmp (oq_eq hr.units) (qv 6) q_int (nomark _)) (qss_one (qs_ret (q_call c_round_told (hr.mono (by decide)) hgd (qa_cons q_int (qa_cons (q_lc (own := [("place", 9)]) rfl sc_lines_when.nd (qi_tup (q_tup (qa_cons q_int (qa_cons q_int qa_nil)))) (blkOk_by (N := N_lines_when) (sc := defScope s_lines_when) (own := [("place", 9)]) (by decide +kernel)) (fun _ _ _ _ _ => (qg_name (i := 9) sc_lines_when.nd rfl (.inl rfl) (by decide))) (fun _ _ _ _ _ => (qts_one (qt_cmp (oq_eq hr.units) (qv 2) (q_ix iq_seq (qv 7) (qv 9) (fun _ _ => rfl)) (nomark _)))) (fun _ _ _ _ _ => (qv 9))) qa_nil))))) qss_nil)
      (qss_cons (qs_setLcM (i := 8) (own := [("place", 9)]) rfl sc_lines_when.nd rfl rfl (sw_true rfl rfl rfl (by decide +kernel)) (qi_lst (q_call c_line_when (hr.mono (by decide)) hgd (qa_cons (qv 2) (qa_cons (qv 6) (qa_cons (q_ix iq_seq (qv 7) q_int (fun _ _ => rfl)) qa_nil))))) (blkOk_by (N := N_lines_when) (sc := defScope s_lines_when) (own := [("place", 9)]) (by decide +kernel)) (fun _ _ _ _ _ => (qg_name (i := 9) sc_lines_when.nd rfl (.inl rfl) (by decide))) (fun _ _ _ _ _ => (qts_one (qt_cmp (oq_eq hr.units) (q_op oq_mod (qv 9) q_int) q_int (nomark _)))) (fun _ _ _ _ _ => (qv 9)))
      (qss_cons (qs_expr (q_mt mq_extend PySem.F.slot_list_extend PySem.F.type_list_extend (qv 8) (qa_cons (q_lc (own := [("place", 9)]) rfl sc_lines_when.nd (qi_lst (q_call c_line_when (hr.mono (by decide)) hgd (qa_cons (qv 2) (qa_cons (qv 6) (qa_cons (q_ix iq_seq (qv 7) q_int (fun _ _ => rfl)) qa_nil))))) (blkOk_by (N := N_lines_when) (sc := defScope s_lines_when) (own := [("place", 9)]) (by decide +kernel)) (fun _ _ _ _ _ => (qg_name (i := 9) sc_lines_when.nd rfl (.inl rfl) (by decide))) (fun _ _ _ _ _ => (qts_one (qt_cmp (oq_eq hr.units) (q_op oq_mod (qv 9) q_int) q_int (nomark _)))) (fun _ _ _ _ _ => (qv 9))) qa_nil)))
      (qss_one (qs_ret (q_tup (qa_cons (q_const T.k_THESE) (qa_cons (q_callTy cq_tuple (by rfl) T.n_tuple bt_tuple (qa_cons (q_callB cq_sorted (by rfl) T.n_sorted bt_sorted (qa_cons (qv 8) qa_nil)) qa_nil)) qa_nil))))))))))))) h_lines_when
abbrev s_numbers_when : Stmt := topS 23
theorem sc_numbers_when : FnScope N_numbers_when ["numbers", "number"] (defScope s_numbers_when) := ⟨rfl, rfl, rfl, by decide +kernel, rfl, by decide +kernel, by decide +kernel⟩
theorem ok_numbers_when {P : Program} {w : World} {K : PySem.W.Frag} {mg : Str → Option Value} {base : Heap} (T : Txt w K mg) (c_far_places : Callee P w K mg base "far_places" 1 2 fn_far_places) (c_lines_when : Callee P w K mg base "lines_when" 2 2 fn_lines_when) (c_numbers_back : Callee P w K mg base "numbers_back" 1 1 fn_numbers_back) (c_round_numbers : Callee P w K mg base "round_numbers" 1 1 fn_round_numbers) (c_round_told : Callee P w K mg base "round_told" 1 2 fn_round_told) (D : DefAt K mg "numbers_when" s_numbers_when ["numbers", "number"]) : Callee P w K mg base "numbers_when" 3 2 fn_numbers_when :=
  D.callee (N := N_numbers_when) (t := t_numbers_when) sc_numbers_when rfl (fun f cdv A outer s H E hr hgd => (qss_cons (qs_asg (vs := allv) (qv 0) (qg_tup rfl (qgs_cons (qg_name (i := 2) sc_numbers_when.nd rfl (.inl rfl) (by decide)) (qgs_cons (qg_name (i := 3) sc_numbers_when.nd rfl (.inl rfl) (by decide)) (qgs_cons (qg_name (i := 4) sc_numbers_when.nd rfl (.inl rfl) (by decide)) qgs_nil)))))
      (qss_cons (qs_if (qt_kinI T.d_ROUNDS (qv 4)) (qss_cons (qs_set (i := 5) sc_numbers_when.nd rfl (.inl rfl) (q_call c_round_numbers (hr.mono (by decide)) hgd (qa_cons (qv 0) qa_nil)))
      (qss_one (qs_ret (q_call c_round_told (hr.mono (by decide)) hgd (qa_cons (q_callB cq_len (by rfl) T.n_len bt_len (qa_cons (qv 5) qa_nil)) (qa_cons (q_lc (own := [("place", 7), ("one", 8)]) rfl sc_numbers_when.nd (qi_enum (by rfl) T.n_enumerate (qa_cons (qv 5) qa_nil)) (blkOk_by (N := N_numbers_when) (sc := defScope s_numbers_when) (own := [("place", 7), ("one", 8)]) (by decide +kernel)) (fun _ _ _ _ _ => (qg_tup rfl (qgs_cons (qg_name (i := 7) sc_numbers_when.nd rfl (.inl rfl) (by decide)) (qgs_cons (qg_name (i := 8) sc_numbers_when.nd rfl (.inl rfl) (by decide)) qgs_nil)))) (fun _ _ _ _ _ => (qts_one (qt_cmp (oq_eq hr.units) (qv 8) (qv 1) (nomark _)))) (fun _ _ _ _ _ => (qv 7))) qa_nil)))))) qss_nil)
      (qss_cons (qs_if (qt_cmp (oq_eq hr.units) (q_callB cq_abs (by rfl) T.n_abs bt_abs (qa_cons (qv 4) qa_nil)) q_int (nomark _)) (qss_one (qs_ret (q_call c_lines_when (hr.mono (by decide)) hgd (qa_cons (qv 0) (qa_cons (qv 1) qa_nil))))) qss_nil)
      (qss_cons (qs_if (qt_w (qw_and (qt_cmp (oq_eq hr.units) (qv 2) q_int (nomark _)) (qw_and1 (qt_cmp (oq_eq hr.units) (qv 3) q_int (nomark _))))) (qss_one (qs_ret (q_call c_round_told (hr.mono (by decide)) hgd (qa_cons q_int (qa_cons (q_if (qt_cmp (oq_eq hr.units) (qv 1) q_int (nomark _)) (q_lst (qa_cons q_int qa_nil)) (q_lst qa_nil)) qa_nil))))) qss_nil)
      (qss_cons (qs_setLc (i := 6) (own := [("place", 7)]) rfl sc_numbers_when.nd rfl rfl (sw_true rfl rfl rfl (by decide +kernel)) (qi_lst (q_call c_far_places (hr.mono (by decide)) hgd (qa_cons (q_call c_numbers_back (hr.mono (by decide)) hgd (qa_cons (qv 0) qa_nil)) (qa_cons (qv 1) qa_nil)))) (blkOk_by (N := N_numbers_when) (sc := defScope s_numbers_when) (own := [("place", 7)]) (by decide +kernel)) (fun _ _ _ _ _ => (qg_name (i := 7) sc_numbers_when.nd rfl (.inl rfl) (by decide))) (fun _ _ _ _ _ => (qts_one (qt_cmp oq_gt (qv 7) q_int (nomark _)))) (fun _ _ _ _ _ => (q_neg (qv 7))))
      (qss_one (qs_ret (q_tup (qa_cons (q_const T.k_THESE) (qa_cons (q_callTy cq_tuple (by rfl) T.n_tuple bt_tuple (qa_cons (q_op oq_add (q_rev (qv 6)) (q_call c_far_places (hr.mono (by decide)) hgd (qa_cons (qv 0) (qa_cons (qv 1) qa_nil)))) qa_nil)) qa_nil))))))))))) h_numbers_when
abbrev s_number_powers : Stmt := topS 48
theorem sc_number_powers : FnScope N_number_powers ["number", "most"] (defScope s_number_powers) := ⟨rfl, rfl, rfl, by decide +kernel, rfl, by decide +kernel, by decide +kernel⟩
theorem ok_number_powers {P : Program} {w : World} {K : PySem.W.Frag} {mg : Str → Option Value} {base : Heap} (T : Txt w K mg) (D : DefAt K mg "number_powers" s_number_powers ["number", "most"]) : Callee P w K mg base "number_powers" 1 2 fn_number_powers :=
  D.callee (N := N_number_powers) (t := t_number_powers) sc_number_powers rfl (fun f cdv A outer s H E hr hgd => (qss_cons (qs_set (i := 2) sc_number_powers.nd rfl (.inl rfl) (q_lstM (qa_cons q_int qa_nil)))
      (qss_cons (qs_for (vs := allv) [3] PassesOwn.never rfl (qi_range1 (by rfl) T.n_range (qa_cons (qv 1) qa_nil)) (qg_name (i := 3) sc_number_powers.nd rfl (.inl rfl) (by decide)) (qss_one (qs_expr (q_mt mq_append PySem.F.slot_list_append PySem.F.type_list_append (qv 2) (qa_cons (q_op oq_mul (q_ix iq_seq (qv 2) (q_neg q_int) (fun _ _ => rfl)) (qv 0)) qa_nil)))))
      (qss_one (qs_ret (qv 2)))))) h_number_powers
abbrev s_poly_degrees : Stmt := topS 47
theorem sc_poly_degrees : FnScope N_poly_degrees ["one"] (defScope s_poly_degrees) := ⟨rfl, rfl, rfl, by decide +kernel, rfl, by decide +kernel, by decide +kernel⟩
theorem ok_poly_degrees {P : Program} {w : World} {K : PySem.W.Frag} {mg : Str → Option Value} {base : Heap} (T : Txt w K mg) (D : DefAt K mg "poly_degrees" s_poly_degrees ["one"]) : Callee P w K mg base "poly_degrees" 1 1 fn_poly_degrees :=
  D.callee (N := N_poly_degrees) (t := t_poly_degrees) sc_poly_degrees rfl (fun f cdv A outer s H E hr hgd => (qss_one (qs_ret (q_callTy cq_tuple (by rfl) T.n_tuple bt_tuple (qa_cons (q_lc (own := [("k", 1)]) rfl sc_poly_degrees.nd (qi_range1 (by rfl) T.n_range (qa_cons q_int qa_nil)) (blkOk_by (N := N_poly_degrees) (sc := defScope s_poly_degrees) (own := [("k", 1)]) (by decide +kernel)) (fun _ _ _ _ _ => (qg_name (i := 1) sc_poly_degrees.nd rfl (.inr rfl) (by decide))) (fun _ _ _ _ _ => qts_nil) (fun _ _ _ _ _ => (q_callB (cq_maxL rfl) (by rfl) T.n_max bt_max (qa_cons (q_op oq_add (q_lst (qa_cons q_int qa_nil)) (q_lc (own := [("powers", 2), ("number", 3)]) rfl sc_poly_degrees.nd (qi_tup (qv 0)) (blkOk_by (by first | kernel_rfl | rfl)) (fun _ _ _ _ _ => (qg_tup rfl (qgs_cons (qg_name (i := 2) sc_poly_degrees.nd rfl (.inl rfl) (by decide)) (qgs_cons (qg_name (i := 3) sc_poly_degrees.nd rfl (.inl rfl) (by decide)) qgs_nil)))) (fun _ _ _ _ _ => qts_nil) (fun _ _ _ _ _ => (q_ix iq_seq (qv 2) (qv 1) (fun _ _ => rfl))))) qa_nil)))) qa_nil))))) h_poly_degrees
abbrev s_poly_value : Stmt := topS 49
theorem sc_poly_value : FnScope N_poly_value ["one", "triple"] (defScope s_poly_value) := ⟨rfl, rfl, rfl, by decide +kernel, rfl, by decide +kernel, by decide +kernel⟩
theorem ok_poly_value {P : Program} {w : World} {K : PySem.W.Frag} {mg : Str → Option Value} {base : Heap} (T : Txt w K mg) (c_number_powers : Callee P w K mg base "number_powers" 1 2 fn_number_powers) (c_poly_degrees : Callee P w K mg base "poly_degrees" 1 1 fn_poly_degrees) (D : DefAt K mg "poly_value" s_poly_value ["one", "triple"]) : Callee P w K mg base "poly_value" 2 2 fn_poly_value :=
  D.callee (N := N_poly_value) (t := t_poly_value) sc_poly_value rfl (fun f cdv A outer s H E hr hgd => (qss_cons (qs_set (i := 2) sc_poly_value.nd rfl (.inr rfl) (q_lc (own := [("number", 3), ("most", 4)]) rfl sc_poly_value.nd (qi_zipS (by rfl) T.n_zip (qa_cons (qv 1) (qa_cons (q_call c_poly_degrees (hr.mono (by decide)) hgd (qa_cons (qv 0) qa_nil)) qa_nil))) (blkOk_by (N := N_poly_value) (sc := defScope s_poly_value) (own := [("number", 3), ("most", 4)]) (by decide +kernel)) (fun _ _ _ _ _ => (qg_tup rfl (qgs_cons (qg_name (i := 3) sc_poly_value.nd rfl (.inl rfl) (by decide)) (qgs_cons (qg_name (i := 4) sc_poly_value.nd rfl (.inl rfl) (by decide)) qgs_nil)))) (fun _ _ _ _ _ => qts_nil) (fun _ _ _ _ _ => (q_call c_number_powers (hr.mono (by decide)) hgd (qa_cons (qv 3) (qa_cons (qv 4) qa_nil))))))
      (qss_one (qs_ret (q_callB (cq_sum rfl) (by rfl) T.n_sum bt_sum (qa_cons (q_lc (own := [("number", 3), ("i", 5), ("j", 6), ("k", 7)]) rfl sc_poly_value.nd (qi_tup (qv 0)) (blkOk_by (N := N_poly_value) (sc := defScope s_poly_value) (own := [("number", 3), ("i", 5), ("j", 6), ("k", 7)]) (by decide +kernel)) (fun _ _ _ _ _ => (qg_tup rfl (qgs_cons (qg_tup rfl (qgs_cons (qg_name (i := 5) sc_poly_value.nd rfl (.inl rfl) (by decide)) (qgs_cons (qg_name (i := 6) sc_poly_value.nd rfl (.inl rfl) (by decide)) (qgs_cons (qg_name (i := 7) sc_poly_value.nd rfl (.inl rfl) (by decide)) qgs_nil)))) (qgs_cons (qg_name (i := 3) sc_poly_value.nd rfl (.inl rfl) (by decide)) qgs_nil)))) (fun _ _ _ _ _ => qts_nil) (fun _ _ _ _ _ => (q_op oq_mul (q_op oq_mul (q_op oq_mul (qv 3) (q_ix iq_seq (q_ix iq_seq (qv 2) q_int (fun _ _ => rfl)) (qv 5) (fun _ _ => rfl))) (q_ix iq_seq (q_ix iq_seq (qv 2) q_int (fun _ _ => rfl)) (qv 6) (fun _ _ => rfl))) (q_ix iq_seq (q_ix iq_seq (qv 2) q_int (fun _ _ => rfl)) (qv 7) (fun _ _ => rfl))))) qa_nil)))))) h_poly_value
abbrev s_power_numbers : Stmt := topS 75
theorem sc_power_numbers : FnScope N_power_numbers ["told", "triple"] (defScope s_power_numbers) := ⟨rfl, rfl, rfl, by decide +kernel, rfl, by decide +kernel, by decide +kernel⟩
theorem ok_power_numbers {P : Program} {w : World} {K : PySem.W.Frag} {mg : Str → Option Value} {base : Heap} (T : Txt w K mg) (c_poly_value : Callee P w K mg base "poly_value" 2 2 fn_poly_value) (D : DefAt K mg "power_numbers" s_power_numbers ["told", "triple"]) : Callee P w K mg base "power_numbers" 3 2 fn_power_numbers :=
  D.callee (N := N_power_numbers) (t := t_power_numbers) sc_power_numbers rfl (fun f cdv A outer s H E hr hgd => (qss_one (qs_ret (q_callTy cq_tuple (by rfl) T.n_tuple bt_tuple (qa_cons (q_lc (own := [("one", 2)]) rfl sc_power_numbers.nd (qi_tup (qv 0)) (blkOk_by (N := N_power_numbers) (sc := defScope s_power_numbers) (own := [("one", 2)]) (by decide +kernel)) (fun _ _ _ _ _ => (qg_name (i := 2) sc_power_numbers.nd rfl (.inl rfl) (by decide))) (fun _ _ _ _ _ => qts_nil) (fun _ _ _ _ _ => (q_call c_poly_value (hr.mono (by decide)) hgd (qa_cons (qv 2) (qa_cons (qv 1) qa_nil))))) qa_nil))))) h_power_numbers
abbrev s_four_by_one : Stmt := topS 56
theorem sc_four_by_one : FnScope N_four_by_one ["four"] (defScope s_four_by_one) := ⟨rfl, rfl, rfl, by decide +kernel, rfl, by decide +kernel, by decide +kernel⟩
theorem ok_four_by_one {P : Program} {w : World} {K : PySem.W.Frag} {mg : Str → Option Value} {base : Heap} (T : Txt w K mg) (D : DefAt K mg "four_by_one" s_four_by_one ["four"]) : Callee P w K mg base "four_by_one" 1 1 fn_four_by_one :=
  D.callee (N := N_four_by_one) (t := t_four_by_one) sc_four_by_one rfl (fun f cdv A outer s H E hr hgd => (qss_cons (qs_asg (vs := allv) (qv 0) (qg_tup rfl (qgs_cons (qg_name (i := 1) sc_four_by_one.nd rfl (.inl rfl) (by decide)) (qgs_cons (qg_name (i := 2) sc_four_by_one.nd rfl (.inl rfl) (by decide)) (qgs_cons (qg_name (i := 3) sc_four_by_one.nd rfl (.inl rfl) (by decide)) (qgs_cons (qg_name (i := 4) sc_four_by_one.nd rfl (.inl rfl) (by decide)) qgs_nil))))))
      (qss_cons (qs_set (i := 5) sc_four_by_one.nd rfl (.inl rfl) (q_lst (qa_cons (q_tup (qa_cons (q_const T.k_LESS_ONE) (qa_cons (qv 2) qa_nil))) (qa_cons (q_tup (qa_cons (q_const T.k_LEFT_OVER) (qa_cons (qv 3) qa_nil))) (qa_cons (q_tup (qa_cons (q_const T.k_LESS_Y) (qa_cons (qv 4) qa_nil))) qa_nil)))))
      (qss_one (qs_ret (q_lst (qa_cons (qv 5) (qa_cons (q_lst (qa_cons (q_tup (qa_cons (q_const T.k_ONE_polysums) (qa_cons (qv 1) qa_nil))) (qa_cons (q_tup (qa_cons (q_const T.k_X) (qa_cons (qv 2) qa_nil))) (qa_cons (q_tup (qa_cons (q_const T.k_Y) (qa_cons (qv 3) qa_nil))) (qa_cons (q_tup (qa_cons (q_const T.k_Z) (qa_cons (qv 4) qa_nil))) qa_nil))))) (qa_cons (q_lst (qa_cons (q_tup (qa_cons (q_const T.k_X) (qa_cons (qv 3) qa_nil))) (qa_cons (q_tup (qa_cons (q_const T.k_ONE_polysums) (qa_cons (qv 4) qa_nil))) qa_nil))) (qa_cons (q_lst (qa_cons (q_tup (qa_cons (q_const T.k_LESS_ONE) (qa_cons (qv 3) qa_nil))) qa_nil)) qa_nil)))))))))) h_four_by_one
abbrev s_four_by_other : Stmt := topS 57
theorem sc_four_by_other : FnScope N_four_by_other ["four"] (defScope s_four_by_other) := ⟨rfl, rfl, rfl, by decide +kernel, rfl, by decide +kernel, by decide +kernel⟩
theorem ok_four_by_other {P : Program} {w : World} {K : PySem.W.Frag} {mg : Str → Option Value} {base : Heap} (T : Txt w K mg) (D : DefAt K mg "four_by_other" s_four_by_other ["four"]) : Callee P w K mg base "four_by_other" 1 1 fn_four_by_other :=
  D.callee (N := N_four_by_other) (t := t_four_by_other) sc_four_by_other rfl (fun f cdv A outer s H E hr hgd => (qss_cons (qs_asg (vs := allv) (qv 0) (qg_tup rfl (qgs_cons (qg_name (i := 1) sc_four_by_other.nd rfl (.inl rfl) (by decide)) (qgs_cons (qg_name (i := 2) sc_four_by_other.nd rfl (.inl rfl) (by decide)) (qgs_cons (qg_name (i := 3) sc_four_by_other.nd rfl (.inl rfl) (by decide)) (qgs_cons (qg_name (i := 4) sc_four_by_other.nd rfl (.inl rfl) (by decide)) qgs_nil))))))
      (qss_one (qs_ret (q_lst (qa_cons (q_lst (qa_cons (q_tup (qa_cons (q_const T.k_LESS_ONE) (qa_cons (qv 3) qa_nil))) qa_nil)) (qa_cons (q_lst (qa_cons (q_tup (qa_cons (q_const T.k_LESS_ONE) (qa_cons (qv 4) qa_nil))) qa_nil)) (qa_cons (q_lst (qa_cons (q_tup (qa_cons (q_const T.k_ONE_polysums) (qa_cons (qv 1) qa_nil))) (qa_cons (q_tup (qa_cons (q_const T.k_Y) (qa_cons (qv 3) qa_nil))) qa_nil))) (qa_cons (q_lst (qa_cons (q_tup (qa_cons (q_const T.k_ONE_polysums) (qa_cons (qv 2) qa_nil))) (qa_cons (q_tup (qa_cons (q_const T.k_Y) (qa_cons (qv 4) qa_nil))) qa_nil))) qa_nil))))))))) h_four_by_other
abbrev s_poly_taken : Stmt := topS 46
theorem sc_poly_taken : FnScope N_poly_taken ["one", "number"] (defScope s_poly_taken) := ⟨rfl, rfl, rfl, by decide +kernel, rfl, by decide +kernel, by decide +kernel⟩
theorem ok_poly_taken {P : Program} {w : World} {K : PySem.W.Frag} {mg : Str → Option Value} {base : Heap} (T : Txt w K mg) (D : DefAt K mg "poly_taken" s_poly_taken ["one", "number"]) : Callee P w K mg base "poly_taken" 1 2 fn_poly_taken :=
  D.callee (N := N_poly_taken) (t := t_poly_taken) sc_poly_taken rfl (fun f cdv A outer s H E hr hgd => (qss_one (qs_ret (q_if (qt_cmp (oq_ne hr.units) (qv 1) q_int (nomark _)) (q_callTy cq_tuple (by rfl) T.n_tuple bt_tuple (qa_cons (q_lc (own := [("powers", 2), ("late", 3)]) rfl sc_poly_taken.nd (qi_tup (qv 0)) (blkOk_by (N := N_poly_taken) (sc := defScope s_poly_taken) (own := [("powers", 2), ("late", 3)]) (by decide +kernel)) (fun _ _ _ _ _ => (qg_tup rfl (qgs_cons (qg_name (i := 2) sc_poly_taken.nd rfl (.inl rfl) (by decide)) (qgs_cons (qg_name (i := 3) sc_poly_taken.nd rfl (.inl rfl) (by decide)) qgs_nil)))) (fun _ _ _ _ _ => qts_nil) (fun _ _ _ _ _ => (q_tup (qa_cons (qv 2) (qa_cons (q_op oq_mul (qv 1) (qv 3)) qa_nil))))) qa_nil)) (q_const T.k_NOTHING))))) h_poly_taken
abbrev s_less_all : Stmt := topS 58
theorem sc_less_all : FnScope N_less_all ["pairs"] (defScope s_less_all) := ⟨rfl, rfl, rfl, by decide +kernel, rfl, by decide +kernel, by decide +kernel⟩
theorem ok_less_all {P : Program} {w : World} {K : PySem.W.Frag} {mg : Str → Option Value} {base : Heap} (T : Txt w K mg) (c_poly_taken : Callee P w K mg base "poly_taken" 1 2 fn_poly_taken) (D : DefAt K mg "less_all" s_less_all ["pairs"]) : Callee P w K mg base "less_all" 2 1 fn_less_all :=
  D.callee (N := N_less_all) (t := t_less_all) sc_less_all rfl (fun f cdv A outer s H E hr hgd => (qss_one (qs_ret (q_lc (own := [("short", 1), ("one", 2)]) rfl sc_less_all.nd (qi_lst (qv 0)) (blkOk_by (N := N_less_all) (sc := defScope s_less_all) (own := [("short", 1), ("one", 2)]) (by decide +kernel)) (fun _ _ _ _ _ => (qg_tup rfl (qgs_cons (qg_name (i := 1) sc_less_all.nd rfl (.inl rfl) (by decide)) (qgs_cons (qg_name (i := 2) sc_less_all.nd rfl (.inl rfl) (by decide)) qgs_nil)))) (fun _ _ _ _ _ => qts_nil) (fun _ _ _ _ _ => (q_tup (qa_cons (q_call c_poly_taken (hr.mono (by decide)) hgd (qa_cons (qv 1) (qa_cons (q_neg q_int) qa_nil))) (qa_cons (qv 2) qa_nil)))))))) h_less_all
abbrev s_poly_told : Stmt := topS 45
theorem sc_poly_told : FnScope N_poly_told ["terms"] (defScope s_poly_told) := ⟨rfl, rfl, rfl, by decide +kernel, rfl, by decide +kernel, by decide +kernel⟩
theorem ok_poly_told {P : Program} {w : World} {K : PySem.W.Frag} {mg : Str → Option Value} {base : Heap} (T : Txt w K mg) (D : DefAt K mg "poly_told" s_poly_told ["terms"]) : Callee P w K mg base "poly_told" 1 1 fn_poly_told :=
  D.callee (N := N_poly_told) (t := t_poly_told) sc_poly_told rfl (fun f cdv A outer s H E hr hgd => (qss_cons (qs_set (i := 1) sc_poly_told.nd rfl (.inl rfl) (q_callTy cq_tuple (by rfl) T.n_tuple bt_tuple (qa_cons (q_lc (own := [("powers", 2)]) rfl sc_poly_told.nd (qi_lst (q_callB (cq_sortX rfl) (by rfl) T.n_sorted bt_sorted (qa_cons (qv 0) qa_nil))) (blkOk_by (N := N_poly_told) (sc := defScope s_poly_told) (own := [("powers", 2)]) (by decide +kernel)) (fun _ _ _ _ _ => (qg_name (i := 2) sc_poly_told.nd rfl (.inl rfl) (by decide))) (fun _ _ _ _ _ => (qts_one (qt_cmp (oq_ne hr.units) (q_xix (hu_of hr) (qv 0) (qv 2)) q_int (nomark _)))) (fun _ _ _ _ _ => (q_tup (qa_cons (qv 2) (qa_cons (q_xix (hu_of hr) (qv 0) (qv 2)) qa_nil))))) qa_nil)))
      (qss_cons (qs_if (qt_cmp oq_gt (q_callB cq_len (by rfl) T.n_len bt_len (qa_cons (qv 1) qa_nil)) (q_const T.k_MOST_TERMS) (nomark _)) (qss_one qs_never) qss_nil)
      (qss_one (qs_ret (qv 1)))))) h_poly_told
abbrev s_sum_of_products : Stmt := topS 55
theorem sc_sum_of_products : FnScope N_sum_of_products ["pairs"] (defScope s_sum_of_products) := ⟨rfl, rfl, rfl, by decide +kernel, rfl, by decide +kernel, by decide +kernel⟩
theorem ok_sum_of_products {P : Program} {w : World} {K : PySem.W.Frag} {mg : Str → Option Value} {base : Heap} (T : Txt w K mg) (c_poly_told : Callee P w K mg base "poly_told" 1 1 fn_poly_told) (D : DefAt K mg "sum_of_products" s_sum_of_products ["pairs"]) : Callee P w K mg base "sum_of_products" 2 1 fn_sum_of_products :=
  D.callee (N := N_sum_of_products) (t := t_sum_of_products) sc_sum_of_products rfl (fun f cdv A outer s H E hr hgd => (qss_cons (qs_set (i := 1) sc_sum_of_products.nd rfl (.inl rfl) q_xnew)
      (qss_cons (qs_for (vs := allv) [2, 3, 4, 5, 6, 7, 8, 9, 10, 11, 12] PassesOwn.never rfl (qi_lst (qv 0)) (qg_tup rfl (qgs_cons (qg_name (i := 2) sc_sum_of_products.nd rfl (.inl rfl) (by decide)) (qgs_cons (qg_name (i := 3) sc_sum_of_products.nd rfl (.inl rfl) (by decide)) qgs_nil))) (qss_one (qs_for (vs := allv) [4, 5, 6, 7, 8, 9, 10, 11, 12] PassesOwn.never rfl (qi_tup (qv 2)) (qg_tup rfl (qgs_cons (qg_tup rfl (qgs_cons (qg_name (i := 4) sc_sum_of_products.nd rfl (.inl rfl) (by decide)) (qgs_cons (qg_name (i := 5) sc_sum_of_products.nd rfl (.inl rfl) (by decide)) (qgs_cons (qg_name (i := 6) sc_sum_of_products.nd rfl (.inl rfl) (by decide)) qgs_nil)))) (qgs_cons (qg_name (i := 7) sc_sum_of_products.nd rfl (.inl rfl) (by decide)) qgs_nil))) (qss_one (qs_for (vs := allv) [8, 9, 10, 11, 12] PassesOwn.never rfl (qi_tup (qv 3)) (qg_tup rfl (qgs_cons (qg_tup rfl (qgs_cons (qg_name (i := 8) sc_sum_of_products.nd rfl (.inl rfl) (by decide)) (qgs_cons (qg_name (i := 9) sc_sum_of_products.nd rfl (.inl rfl) (by decide)) (qgs_cons (qg_name (i := 10) sc_sum_of_products.nd rfl (.inl rfl) (by decide)) qgs_nil)))) (qgs_cons (qg_name (i := 11) sc_sum_of_products.nd rfl (.inl rfl) (by decide)) qgs_nil))) (qss_cons (qs_set (i := 12) sc_sum_of_products.nd rfl (.inl rfl) (q_tup (qa_cons (q_op oq_add (qv 8) (qv 4)) (qa_cons (q_op oq_add (qv 9) (qv 5)) (qa_cons (q_op oq_add (qv 10) (qv 6)) qa_nil)))))
      (qss_one (qs_xput (hu_of hr) (qv 1) (qv 12) (q_op oq_add (q_xget (hu_of hr) (qv 1) (qv 12) q_int) (q_op oq_mul (qv 7) (qv 11)))))))))))
      (qss_one (qs_norm 0 [] (qs_ret (q_call c_poly_told (hr.mono (by decide)) hgd (qa_cons (qv 1) qa_nil)))))))) h_sum_of_products
abbrev s_four_letter : Stmt := topS 59
theorem sc_four_letter : FnScope N_four_letter ["four", "letter"] (defScope s_four_letter) := ⟨rfl, rfl, rfl, by decide +kernel, rfl, by decide +kernel, by decide +kernel⟩
theorem ok_four_letter {P : Program} {w : World} {K : PySem.W.Frag} {mg : Str → Option Value} {base : Heap} (T : Txt w K mg) (c_four_by_one : Callee P w K mg base "four_by_one" 1 1 fn_four_by_one) (c_four_by_other : Callee P w K mg base "four_by_other" 1 1 fn_four_by_other) (c_less_all : Callee P w K mg base "less_all" 2 1 fn_less_all) (c_sum_of_products : Callee P w K mg base "sum_of_products" 2 1 fn_sum_of_products) (D : DefAt K mg "four_letter" s_four_letter ["four", "letter"]) : Callee P w K mg base "four_letter" 3 2 fn_four_letter :=
  D.callee (N := N_four_letter) (t := t_four_letter) sc_four_letter rfl (fun f cdv A outer s H E hr hgd => (qss_cons (qs_set (i := 2) sc_four_letter.nd rfl (.inl rfl) (q_if (qt_cmp (oq_eq hr.units) (q_callB cq_abs (by rfl) T.n_abs bt_abs (qa_cons (qv 1) qa_nil)) q_int (nomark _)) (q_call c_four_by_one (hr.mono (by decide)) hgd (qa_cons (qv 0) qa_nil)) (q_call c_four_by_other (hr.mono (by decide)) hgd (qa_cons (qv 0) qa_nil))))
      (qss_cons (qs_if (qt_cmp oq_lt (qv 1) q_int (nomark _)) (qss_cons (qs_set (i := 3) sc_four_letter.nd rfl (.inr rfl) (q_if (qt_cmp (oq_eq hr.units) (qv 1) (q_neg q_int) (nomark _)) (q_const T.k_X) (q_const T.k_Y)))
      (qss_one (qs_setLc (i := 2) (own := [("k", 4), ("pairs", 5)]) rfl sc_four_letter.nd rfl rfl (sw_true rfl rfl rfl (by decide +kernel)) (qi_enum (by rfl) T.n_enumerate (qa_cons (qv 2) qa_nil)) (blkOk_by (N := N_four_letter) (sc := defScope s_four_letter) (own := [("k", 4), ("pairs", 5)]) (by decide +kernel)) (fun _ _ _ _ _ => (qg_tup rfl (qgs_cons (qg_name (i := 4) sc_four_letter.nd rfl (.inl rfl) (by decide)) (qgs_cons (qg_name (i := 5) sc_four_letter.nd rfl (.inl rfl) (by decide)) qgs_nil)))) (fun _ _ _ _ _ => qts_nil) (fun _ _ _ _ _ => (q_op oq_add (q_call c_less_all (hr.mono (by decide)) hgd (qa_cons (qv 5) qa_nil)) (q_lst (qa_cons (q_tup (qa_cons (qv 3) (qa_cons (q_ix iq_seq (qv 0) (qv 4) (fun _ _ => rfl)) qa_nil))) qa_nil))))))) qss_nil)
      (qss_one (qs_ret (q_callTy cq_tuple (by rfl) T.n_tuple bt_tuple (qa_cons (q_lc (own := [("pairs", 5)]) rfl sc_four_letter.nd (qi_lst (qv 2)) (blkOk_by (N := N_four_letter) (sc := defScope s_four_letter) (own := [("pairs", 5)]) (by decide +kernel)) (fun _ _ _ _ _ => (qg_name (i := 5) sc_four_letter.nd rfl (.inl rfl) (by decide))) (fun _ _ _ _ _ => qts_nil) (fun _ _ _ _ _ => (q_call c_sum_of_products (hr.mono (by decide)) hgd (qa_cons (qv 5) qa_nil)))) qa_nil))))))) h_four_letter
abbrev s_four_told : Stmt := topS 60
theorem sc_four_told : FnScope N_four_told ["word"] (defScope s_four_told) := ⟨rfl, rfl, rfl, by decide +kernel, rfl, by decide +kernel, by decide +kernel⟩
theorem ok_four_told {P : Program} {w : World} {K : PySem.W.Frag} {mg : Str → Option Value} {base : Heap} (T : Txt w K mg) (c_four_letter : Callee P w K mg base "four_letter" 3 2 fn_four_letter) (D : DefAt K mg "four_told" s_four_told ["word"]) : Callee P w K mg base "four_told" 4 1 fn_four_told :=
  D.callee (N := N_four_told) (t := t_four_told) sc_four_told rfl (fun f cdv A outer s H E hr hgd => (qss_cons (qs_set (i := 1) sc_four_told.nd rfl (.inl rfl) (q_const T.k_BEGUN))
      (qss_cons (qs_for (vs := allv) [2] PassesOwn.never rfl (qi_tup (qv 0)) (qg_name (i := 2) sc_four_told.nd rfl (.inl rfl) (by decide)) (qss_one (qs_set (i := 1) sc_four_told.nd rfl (.inl rfl) (q_call c_four_letter (hr.mono (by decide)) hgd (qa_cons (qv 1) (qa_cons (qv 2) qa_nil))))))
      (qss_one (qs_ret (qv 1)))))) h_four_told
abbrev s_trace_of_traces : Stmt := topS 63
theorem sc_trace_of_traces : FnScope N_trace_of_traces ["four"] (defScope s_trace_of_traces) := ⟨rfl, rfl, rfl, by decide +kernel, rfl, by decide +kernel, by decide +kernel⟩
theorem ok_trace_of_traces {P : Program} {w : World} {K : PySem.W.Frag} {mg : Str → Option Value} {base : Heap} (T : Txt w K mg) (c_sum_of_products : Callee P w K mg base "sum_of_products" 2 1 fn_sum_of_products) (D : DefAt2 K mg "trace_of_traces" "trace_of" s_trace_of_traces ["four"]) : Callee P w K mg base "trace_of_traces" 3 1 fn_trace_of_traces :=
  D.callee (N := N_trace_of_traces) (t := t_trace_of_traces) sc_trace_of_traces rfl (fun f cdv A outer s H E hr hgd => (qss_one (qs_ret (q_call c_sum_of_products (hr.mono (by decide)) hgd (qa_cons (q_lst (qa_cons (q_tup (qa_cons (q_const T.k_TWO) (qa_cons (q_ix iq_seq (qv 0) q_int (fun _ _ => rfl)) qa_nil))) (qa_cons (q_tup (qa_cons (q_const T.k_X) (qa_cons (q_ix iq_seq (qv 0) q_int (fun _ _ => rfl)) qa_nil))) (qa_cons (q_tup (qa_cons (q_const T.k_Y) (qa_cons (q_ix iq_seq (qv 0) q_int (fun _ _ => rfl)) qa_nil))) (qa_cons (q_tup (qa_cons (q_const T.k_Z) (qa_cons (q_ix iq_seq (qv 0) q_int (fun _ _ => rfl)) qa_nil))) qa_nil))))) qa_nil))))) h_trace_of_traces
abbrev s_trace_told : Stmt := topS 65
theorem sc_trace_told : FnScope N_trace_told ["word"] (defScope s_trace_told) := ⟨rfl, rfl, rfl, by decide +kernel, rfl, by decide +kernel, by decide +kernel⟩
theorem ok_trace_told {P : Program} {w : World} {K : PySem.W.Frag} {mg : Str → Option Value} {base : Heap} (T : Txt w K mg) (c_four_told : Callee P w K mg base "four_told" 4 1 fn_four_told) (c_trace_of_traces : Callee P w K mg base "trace_of_traces" 3 1 fn_trace_of_traces) (D : DefAt K mg "trace_told" s_trace_told ["word"]) : Callee P w K mg base "trace_told" 5 1 fn_trace_told :=
  D.callee (N := N_trace_told) (t := t_trace_told) sc_trace_told rfl (fun f cdv A outer s H E hr hgd => (qss_one (qs_ret (q_call c_trace_of_traces (hr.mono (by decide)) hgd (qa_cons (q_call c_four_told (hr.mono (by decide)) hgd (qa_cons (qv 0) qa_nil)) qa_nil))))) h_trace_told
abbrev s_not_long_words : Stmt := topS 69
theorem sc_not_long_words : FnScope N_not_long_words ["word"] (defScope s_not_long_words) := ⟨rfl, rfl, rfl, by decide +kernel, rfl, by decide +kernel, by decide +kernel⟩
theorem ok_not_long_words {P : Program} {w : World} {K : PySem.W.Frag} {mg : Str → Option Value} {base : Heap} (T : Txt w K mg) (D : DefAt2 K mg "not_long_words" "not_long" s_not_long_words ["word"]) : Callee P w K mg base "not_long_words" 1 1 fn_not_long_words :=
  D.callee (N := N_not_long_words) (t := t_not_long_words) sc_not_long_words rfl (fun f cdv A outer s H E hr hgd => (qss_cons (qs_if (qt_cmp oq_gt (q_callB cq_len (by rfl) T.n_len bt_len (qa_cons (qv 0) qa_nil)) (q_const T.k_MOST_LETTERS) (nomark _)) (qss_one qs_never) qss_nil)
      (qss_one (qs_ret (qv 0))))) h_not_long_words
abbrev s_word_low : Stmt := topS 71
theorem sc_word_low : FnScope N_word_low ["letters"] (defScope s_word_low) := ⟨rfl, rfl, rfl, by decide +kernel, rfl, by decide +kernel, by decide +kernel⟩
theorem ok_word_low {P : Program} {w : World} {K : PySem.W.Frag} {mg : Str → Option Value} {base : Heap} (T : Txt w K mg) (D : DefAt K mg "word_low" s_word_low ["letters"]) : Callee P w K mg base "word_low" 1 1 fn_word_low :=
  D.callee (N := N_word_low) (t := t_word_low) sc_word_low rfl (fun f cdv A outer s H E hr hgd => (qss_cons (qs_set (i := 1) sc_word_low.nd rfl (.inl rfl) (q_lstM qa_nil))
      (qss_cons (qs_for (vs := allv) [2] PassesOwn.never rfl (qi_tup (qv 0)) (qg_name (i := 2) sc_word_low.nd rfl (.inl rfl) (by decide)) (qss_one (qs_if (qt_w (qw_and (qt_cmp (oq_ne hr.units) (qv 1) (q_lst qa_nil) (nomark _)) (qw_and1 (qt_cmp (oq_eq hr.units) (q_ix iq_seq (qv 1) (q_neg q_int) (fun _ _ => rfl)) (q_neg (qv 2)) (nomark _))))) (qss_one (qs_expr (q_mt0 mq_pop PySem.F.slot_list_pop PySem.F.type_list_pop (qv 1)))) (qss_one (qs_expr (q_mt mq_append PySem.F.slot_list_append PySem.F.type_list_append (qv 1) (qa_cons (qv 2) qa_nil)))))))
      (qss_one (qs_ret (q_callTy cq_tuple (by rfl) T.n_tuple bt_tuple (qa_cons (qv 1) qa_nil))))))) h_word_low
abbrev s_words_put : Stmt := topS 72
theorem sc_words_put : FnScope N_words_put ["one", "other"] (defScope s_words_put) := ⟨rfl, rfl, rfl, by decide +kernel, rfl, by decide +kernel, by decide +kernel⟩
theorem ok_words_put {P : Program} {w : World} {K : PySem.W.Frag} {mg : Str → Option Value} {base : Heap} (T : Txt w K mg) (c_not_long_words : Callee P w K mg base "not_long_words" 1 1 fn_not_long_words) (c_word_low : Callee P w K mg base "word_low" 1 1 fn_word_low) (D : DefAt K mg "words_put" s_words_put ["one", "other"]) : Callee P w K mg base "words_put" 2 2 fn_words_put :=
  D.callee (N := N_words_put) (t := t_words_put) sc_words_put rfl (fun f cdv A outer s H E hr hgd => (qss_one (qs_ret (q_call c_not_long_words (hr.mono (by decide)) hgd (qa_cons (q_call c_word_low (hr.mono (by decide)) hgd (qa_cons (q_op oq_add (qv 0) (qv 1)) qa_nil)) qa_nil))))) h_words_put
abbrev s_power_told : Stmt := topS 74
theorem sc_power_told : FnScope N_power_told ["one", "other"] (defScope s_power_told) := ⟨rfl, rfl, rfl, by decide +kernel, rfl, by decide +kernel, by decide +kernel⟩
theorem ok_power_told {P : Program} {w : World} {K : PySem.W.Frag} {mg : Str → Option Value} {base : Heap} (T : Txt w K mg) (c_trace_told : Callee P w K mg base "trace_told" 5 1 fn_trace_told) (c_words_put : Callee P w K mg base "words_put" 2 2 fn_words_put) (D : DefAt K mg "power_told" s_power_told ["one", "other"]) : Callee P w K mg base "power_told" 6 2 fn_power_told :=
  D.callee (N := N_power_told) (t := t_power_told) sc_power_told rfl (fun f cdv A outer s H E hr hgd => (qss_cons (qs_set (i := 2) sc_power_told.nd rfl (.inl rfl) (q_call c_words_put (hr.mono (by decide)) hgd (qa_cons (qv 0) (qa_cons (qv 1) qa_nil))))
      (qss_one (qs_ret (q_tup (qa_cons (q_call c_trace_told (hr.mono (by decide)) hgd (qa_cons (qv 0) qa_nil)) (qa_cons (q_call c_trace_told (hr.mono (by decide)) hgd (qa_cons (qv 2) qa_nil)) (qa_cons (q_call c_trace_told (hr.mono (by decide)) hgd (qa_cons (qv 1) qa_nil)) qa_nil)))))))) h_power_told
abbrev s_table_times : Stmt := topS 28
theorem sc_table_times : FnScope N_table_times ["one", "other"] (defScope s_table_times) := ⟨rfl, rfl, rfl, by decide +kernel, rfl, by decide +kernel, by decide +kernel⟩
theorem ok_table_times {P : Program} {w : World} {K : PySem.W.Frag} {mg : Str → Option Value} {base : Heap} (T : Txt w K mg) (D : DefAt K mg "table_times" s_table_times ["one", "other"]) : Callee P w K mg base "table_times" 1 2 fn_table_times :=
  D.callee (N := N_table_times) (t := t_table_times) sc_table_times rfl (fun f cdv A outer s H E hr hgd => (qss_cons (qs_asg (vs := allv) (qv 0) (qg_tup rfl (qgs_cons (qg_name (i := 2) sc_table_times.nd rfl (.inl rfl) (by decide)) (qgs_cons (qg_name (i := 3) sc_table_times.nd rfl (.inl rfl) (by decide)) (qgs_cons (qg_name (i := 4) sc_table_times.nd rfl (.inl rfl) (by decide)) (qgs_cons (qg_name (i := 5) sc_table_times.nd rfl (.inl rfl) (by decide)) qgs_nil))))))
      (qss_cons (qs_asg (vs := allv) (qv 1) (qg_tup rfl (qgs_cons (qg_name (i := 6) sc_table_times.nd rfl (.inl rfl) (by decide)) (qgs_cons (qg_name (i := 7) sc_table_times.nd rfl (.inl rfl) (by decide)) (qgs_cons (qg_name (i := 8) sc_table_times.nd rfl (.inl rfl) (by decide)) (qgs_cons (qg_name (i := 9) sc_table_times.nd rfl (.inl rfl) (by decide)) qgs_nil))))))
      (qss_one (qs_ret (q_tup (qa_cons (q_op oq_add (q_op oq_mul (qv 2) (qv 6)) (q_op oq_mul (qv 3) (qv 8))) (qa_cons (q_op oq_add (q_op oq_mul (qv 2) (qv 7)) (q_op oq_mul (qv 3) (qv 9))) (qa_cons (q_op oq_add (q_op oq_mul (qv 4) (qv 6)) (q_op oq_mul (qv 5) (qv 8))) (qa_cons (q_op oq_add (q_op oq_mul (qv 4) (qv 7)) (q_op oq_mul (qv 5) (qv 9))) qa_nil)))))))))) h_table_times
abbrev s_trace_of_pairtables : Stmt := topS 30
theorem sc_trace_of_pairtables : FnScope N_trace_of_pairtables ["one"] (defScope s_trace_of_pairtables) := ⟨rfl, rfl, rfl, by decide +kernel, rfl, by decide +kernel, by decide +kernel⟩
theorem ok_trace_of_pairtables {P : Program} {w : World} {K : PySem.W.Frag} {mg : Str → Option Value} {base : Heap} (T : Txt w K mg) (D : DefAt2 K mg "trace_of_pairtables" "trace_of" s_trace_of_pairtables ["one"]) : Callee P w K mg base "trace_of_pairtables" 1 1 fn_trace_of_pairtables :=
  D.callee (N := N_trace_of_pairtables) (t := t_trace_of_pairtables) sc_trace_of_pairtables rfl (fun f cdv A outer s H E hr hgd => (qss_one (qs_ret (q_op oq_add (q_ix iq_seq (qv 0) q_int (fun _ _ => rfl)) (q_ix iq_seq (qv 0) q_int (fun _ _ => rfl)))))) h_trace_of_pairtables
abbrev s_traced : Stmt := topS 32
theorem sc_traced : FnScope N_traced ["pair"] (defScope s_traced) := ⟨rfl, rfl, rfl, by decide +kernel, rfl, by decide +kernel, by decide +kernel⟩
theorem ok_traced {P : Program} {w : World} {K : PySem.W.Frag} {mg : Str → Option Value} {base : Heap} (T : Txt w K mg) (c_table_times : Callee P w K mg base "table_times" 1 2 fn_table_times) (c_trace_of_pairtables : Callee P w K mg base "trace_of_pairtables" 1 1 fn_trace_of_pairtables) (D : DefAt K mg "traced" s_traced ["pair"]) : Callee P w K mg base "traced" 2 1 fn_traced :=
  D.callee (N := N_traced) (t := t_traced) sc_traced rfl (fun f cdv A outer s H E hr hgd => (qss_one (qs_ret (q_tup (qa_cons (q_call c_trace_of_pairtables (hr.mono (by decide)) hgd (qa_cons (q_ix iq_seq (qv 0) q_int (fun _ _ => rfl)) qa_nil)) (qa_cons (q_call c_trace_of_pairtables (hr.mono (by decide)) hgd (qa_cons (q_ix iq_seq (qv 0) q_int (fun _ _ => rfl)) qa_nil)) (qa_cons (q_call c_trace_of_pairtables (hr.mono (by decide)) hgd (qa_cons (q_call c_table_times (hr.mono (by decide)) hgd (qa_cons (q_ix iq_seq (qv 0) q_int (fun _ _ => rfl)) (qa_cons (q_ix iq_seq (qv 0) q_int (fun _ _ => rfl)) qa_nil))) qa_nil)) qa_nil))))))) h_traced
abbrev s_table_undone : Stmt := topS 29
theorem sc_table_undone : FnScope N_table_undone ["one"] (defScope s_table_undone) := ⟨rfl, rfl, rfl, by decide +kernel, rfl, by decide +kernel, by decide +kernel⟩
theorem ok_table_undone {P : Program} {w : World} {K : PySem.W.Frag} {mg : Str → Option Value} {base : Heap} (T : Txt w K mg) (D : DefAt K mg "table_undone" s_table_undone ["one"]) : Callee P w K mg base "table_undone" 1 1 fn_table_undone :=
  D.callee (N := N_table_undone) (t := t_table_undone) sc_table_undone rfl (fun f cdv A outer s H E hr hgd => (qss_one (qs_ret (q_tup (qa_cons (q_ix iq_seq (qv 0) q_int (fun _ _ => rfl)) (qa_cons (q_neg (q_ix iq_seq (qv 0) q_int (fun _ _ => rfl))) (qa_cons (q_neg (q_ix iq_seq (qv 0) q_int (fun _ _ => rfl))) (qa_cons (q_ix iq_seq (qv 0) q_int (fun _ _ => rfl)) qa_nil)))))))) h_table_undone
abbrev s_letter_table : Stmt := topS 35
theorem sc_letter_table : FnScope N_letter_table ["pair", "letter"] (defScope s_letter_table) := ⟨rfl, rfl, rfl, by decide +kernel, rfl, by decide +kernel, by decide +kernel⟩
theorem ok_letter_table {P : Program} {w : World} {K : PySem.W.Frag} {mg : Str → Option Value} {base : Heap} (T : Txt w K mg) (c_table_undone : Callee P w K mg base "table_undone" 1 1 fn_table_undone) (D : DefAt K mg "letter_table" s_letter_table ["pair", "letter"]) : Callee P w K mg base "letter_table" 2 2 fn_letter_table :=
  D.callee (N := N_letter_table) (t := t_letter_table) sc_letter_table rfl (fun f cdv A outer s H E hr hgd => (qss_cons (qs_set (i := 2) sc_letter_table.nd rfl (.inl rfl) (q_ix iq_seq (qv 0) (q_op oq_sub (q_callB cq_abs (by rfl) T.n_abs bt_abs (qa_cons (qv 1) qa_nil)) q_int) (fun _ _ => rfl)))
      (qss_one (qs_ret (q_if (qt_cmp oq_gt (qv 1) q_int (nomark _)) (qv 2) (q_call c_table_undone (hr.mono (by decide)) hgd (qa_cons (qv 2) qa_nil))))))) h_letter_table
abbrev s_not_long_pairtables : Stmt := topS 33
theorem sc_not_long_pairtables : FnScope N_not_long_pairtables ["table"] (defScope s_not_long_pairtables) := ⟨rfl, rfl, rfl, by decide +kernel, rfl, by decide +kernel, by decide +kernel⟩
theorem ok_not_long_pairtables {P : Program} {w : World} {K : PySem.W.Frag} {mg : Str → Option Value} {base : Heap} (T : Txt w K mg) (D : DefAt2 K mg "not_long_pairtables" "not_long" s_not_long_pairtables ["table"]) : Callee P w K mg base "not_long_pairtables" 1 1 fn_not_long_pairtables :=
  D.callee (N := N_not_long_pairtables) (t := t_not_long_pairtables) sc_not_long_pairtables rfl (fun f cdv A outer s H E hr hgd => (qss_cons (qs_if (qt_cmp oq_gt (q_callB (cq_maxL rfl) (by rfl) T.n_max bt_max (qa_cons (q_lc (own := [("number", 1)]) rfl sc_not_long_pairtables.nd (qi_tup (qv 0)) (blkOk_by (N := N_not_long_pairtables) (sc := defScope s_not_long_pairtables) (own := [("number", 1)]) (by decide +kernel)) (fun _ _ _ _ _ => (qg_name (i := 1) sc_not_long_pairtables.nd rfl (.inl rfl) (by decide))) (fun _ _ _ _ _ => qts_nil) (fun _ _ _ _ _ => (q_callB cq_len (by rfl) T.n_len bt_len (qa_cons (q_callTy cq_str (by rfl) T.n_str bt_str (qa_cons (q_callB cq_abs (by rfl) T.n_abs bt_abs (qa_cons (qv 1) qa_nil)) qa_nil)) qa_nil)))) qa_nil)) (q_const T.k_MOST_FIGURES_pairtables) (nomark _)) (qss_one qs_never) qss_nil)
      (qss_one (qs_ret (qv 0))))) h_not_long_pairtables
abbrev s_word_table : Stmt := topS 36
theorem sc_word_table : FnScope N_word_table ["pair", "word"] (defScope s_word_table) := ⟨rfl, rfl, rfl, by decide +kernel, rfl, by decide +kernel, by decide +kernel⟩
theorem ok_word_table {P : Program} {w : World} {K : PySem.W.Frag} {mg : Str → Option Value} {base : Heap} (T : Txt w K mg) (c_letter_table : Callee P w K mg base "letter_table" 2 2 fn_letter_table) (c_not_long_pairtables : Callee P w K mg base "not_long_pairtables" 1 1 fn_not_long_pairtables) (c_table_times : Callee P w K mg base "table_times" 1 2 fn_table_times) (D : DefAt K mg "word_table" s_word_table ["pair", "word"]) : Callee P w K mg base "word_table" 3 2 fn_word_table :=
  D.callee (N := N_word_table) (t := t_word_table) sc_word_table rfl (fun f cdv A outer s H E hr hgd => (qss_cons (qs_set (i := 2) sc_word_table.nd rfl (.inl rfl) (q_const T.k_ONE_pairtables))
      (qss_cons (qs_for (vs := allv) [3] PassesOwn.never rfl (qi_tup (qv 1)) (qg_name (i := 3) sc_word_table.nd rfl (.inl rfl) (by decide)) (qss_one (qs_set (i := 2) sc_word_table.nd rfl (.inl rfl) (q_call c_not_long_pairtables (hr.mono (by decide)) hgd (qa_cons (q_call c_table_times (hr.mono (by decide)) hgd (qa_cons (qv 2) (qa_cons (q_call c_letter_table (hr.mono (by decide)) hgd (qa_cons (qv 0) (qa_cons (qv 3) qa_nil))) qa_nil))) qa_nil)))))
      (qss_one (qs_ret (qv 2)))))) h_word_table
abbrev s_law : Stmt := topS 89
theorem sc_law : FnScope N_law ["script"] (defScope s_law) := ⟨rfl, rfl, rfl, by decide +kernel, rfl, by decide +kernel, by decide +kernel⟩
theorem ok_law {P : Program} {w : World} {K : PySem.W.Frag} {mg : Str → Option Value} {base : Heap} {f : Addr} {fd : FuncData} (T : Txt w K mg) (c__law_form_right : Callee P w K mg base "_law_form_right" 1 1 fn__law_form_right) (c__law_in : Callee P w K mg base "_law_in" 1 2 fn__law_in) (c__law_of : Callee P w K mg base "_law_of" 2 2 fn__law_of) (c__law_pick : Callee P w K mg base "_law_pick" 1 2 fn__law_pick) (c__law_small : Callee P w K mg base "_law_small" 3 1 fn__law_small) (c__law_source : Callee P w K mg base "_law_source" 1 1 fn__law_source) (c__law_table_of : Callee P w K mg base "_law_table_of" 2 2 fn__law_table_of) (c__law_taken : Callee P w K mg base "_law_taken" 3 4 fn__law_taken) (c__law_word : Callee P w K mg base "_law_word" 3 2 fn__law_word) (c_number_at : Callee P w K mg base "number_at" 4 2 fn_number_at) (c_numbers_when : Callee P w K mg base "numbers_when" 3 2 fn_numbers_when) (c_power_numbers : Callee P w K mg base "power_numbers" 3 2 fn_power_numbers) (c_power_told : Callee P w K mg base "power_told" 6 2 fn_power_told) (c_traced : Callee P w K mg base "traced" 2 1 fn_traced) (c_word_table : Callee P w K mg base "word_table" 3 2 fn_word_table) (F : Fun K "law" "law" s_law f fd) : FnG P w K mg base CX0 7 f fd ["script"] (spOf K 1 fn_law) :=
  fn_okA (N := N_law) (t := t_law) F sc_law rfl (fun cdv A outer s H E hr hgd => (qss_cons (qs_set (i := 1) sc_law.nd rfl (.inl rfl) (q_call c__law_source (hr.mono (by decide)) hgd (qa_cons (qv 0) qa_nil)))
      (qss_cons (qs_for (vs := allv) [2, 3, 4, 5, 6, 7, 8, 9, 10, 11, 12, 13, 14] PassesOwn.never rfl (qi_range1 (by rfl) T.n_range (qa_cons q_int qa_nil)) (qg_name (i := 2) sc_law.nd rfl (.inl rfl) (by decide)) (qss_cons (qs_set (i := 3) sc_law.nd rfl (.inr rfl) (q_call c__law_small (hr.mono (by decide)) hgd (qa_cons (qv 1) qa_nil)))
      (qss_cons (qs_asg (vs := allv) (q_tup (qa_cons (q_call c__law_word (hr.mono (by decide)) hgd (qa_cons (qv 1) (qa_cons q_int qa_nil))) (qa_cons (q_call c__law_word (hr.mono (by decide)) hgd (qa_cons (qv 1) (qa_cons q_int qa_nil))) qa_nil))) (qg_tup rfl (qgs_cons (qg_name (i := 4) sc_law.nd rfl (.inr rfl) (by decide)) (qgs_cons (qg_name (i := 5) sc_law.nd rfl (.inr rfl) (by decide)) qgs_nil))))
      (qss_cons (qs_set (i := 6) sc_law.nd rfl (.inl rfl) (q_call c_power_told (hr.mono (by decide)) hgd (qa_cons (qv 4) (qa_cons (qv 5) qa_nil))))
      (qss_cons (qs_set (i := 7) sc_law.nd rfl (.inr rfl) (q_call c_power_numbers (hr.mono (by decide)) hgd (qa_cons (qv 6) (qa_cons (q_call c_traced (hr.mono (by decide)) hgd (qa_cons (qv 3) qa_nil)) qa_nil))))
      (qss_cons (qs_set (i := 8) sc_law.nd rfl (.inl rfl) (q_callTy cq_tuple (by rfl) T.n_tuple bt_tuple (qa_cons (q_lst (qa_cons (q_call c__law_taken (hr.mono (by decide)) hgd (qa_cons (qv 3) (qa_cons (qv 4) (qa_cons (qv 5) (qa_cons q_int qa_nil))))) (qa_cons (q_call c__law_taken (hr.mono (by decide)) hgd (qa_cons (qv 3) (qa_cons (qv 4) (qa_cons (qv 5) (qa_cons q_int qa_nil))))) qa_nil))) qa_nil)))
      (qss_cons (qs_set (i := 9) sc_law.nd rfl (.inl rfl) (q_call c__law_table_of (hr.mono (by decide)) hgd (qa_cons (qv 3) (qa_cons (qv 5) qa_nil))))
      (qss_cons (qs_if (qt_cmp (oq_ne hr.units) (q_callB (cq_repr hgd (reprU hr)) (by rfl) T.n_repr bt_repr (qa_cons (qv 7) qa_nil)) (q_callB (cq_repr hgd (reprU hr)) (by rfl) T.n_repr bt_repr (qa_cons (q_op oq_add (qv 8) (q_tup (qa_cons (q_op oq_add (q_ix iq_seq (qv 9) q_int (fun _ _ => rfl)) (q_ix iq_seq (qv 9) q_int (fun _ _ => rfl))) qa_nil))) qa_nil)) (nomark _)) (qss_one (qs_ret q_bl)) qss_nil)
      (qss_cons (qs_setLc (i := 10) (own := [("n", 13)]) rfl sc_law.nd rfl rfl (sw_true rfl rfl rfl (by decide +kernel)) (qi_range2 (by rfl) T.n_range (qa_cons (q_neg q_int) (qa_cons q_int qa_nil))) (blkOk_by (N := N_law) (sc := defScope s_law) (own := [("n", 13)]) (by decide +kernel)) (fun _ _ _ _ _ => (qg_name (i := 13) sc_law.nd rfl (.inl rfl) (by decide))) (fun _ _ _ _ _ => qts_nil) (fun _ _ _ _ _ => (q_call c__law_taken (hr.mono (by decide)) hgd (qa_cons (qv 3) (qa_cons (qv 4) (qa_cons (qv 5) (qa_cons (qv 13) qa_nil)))))))
      (qss_cons (qs_if (qt_cmp (oq_ne hr.units) (q_callB (cq_repr hgd (reprU hr)) (by rfl) T.n_repr bt_repr (qa_cons (q_lc (own := [("n", 13)]) rfl sc_law.nd (qi_range2 (by rfl) T.n_range (qa_cons (q_neg q_int) (qa_cons q_int qa_nil))) (blkOk_by (N := N_law) (sc := defScope s_law) (own := [("n", 13)]) (by decide +kernel)) (fun _ _ _ _ _ => (qg_name (i := 13) sc_law.nd rfl (.inl rfl) (by decide))) (fun _ _ _ _ _ => qts_nil) (fun _ _ _ _ _ => (q_call c_number_at (hr.mono (by decide)) hgd (qa_cons (qv 7) (qa_cons (qv 13) qa_nil))))) qa_nil)) (q_callB (cq_repr hgd (reprU hr)) (by rfl) T.n_repr bt_repr (qa_cons (qv 10) qa_nil)) (nomark _)) (qss_one (qs_ret q_bl)) qss_nil)
      (qss_cons (qs_set (i := 9) sc_law.nd rfl (.inl rfl) (q_call c_word_table (hr.mono (by decide)) hgd (qa_cons (qv 3) (qa_cons (qv 4) qa_nil))))
      (qss_cons (qs_if (qt_cmp (oq_ne hr.units) (q_op oq_add (q_ix iq_seq (qv 9) q_int (fun _ _ => rfl)) (q_ix iq_seq (qv 9) q_int (fun _ _ => rfl))) (q_ix iq_seq (qv 10) q_int (fun _ _ => rfl)) (nomark _)) (qss_one (qs_ret q_bl)) qss_nil)
      (qss_one (qs_for (vs := allv) [11, 12, 13, 14] PassesOwn.never rfl (qi_tup (q_tup (qa_cons (q_call c__law_of (hr.mono (by decide)) hgd (qa_cons (qv 1) (qa_cons (qv 10) qa_nil))) (qa_cons (q_op oq_sub (q_call c__law_pick (hr.mono (by decide)) hgd (qa_cons (qv 1) (qa_cons q_int qa_nil))) q_int) qa_nil)))) (qg_name (i := 11) sc_law.nd rfl (.inr rfl) (by decide)) (qss_cons (qs_set (i := 12) sc_law.nd rfl (.inr rfl) (q_call c_numbers_when (hr.mono (by decide)) hgd (qa_cons (qv 7) (qa_cons (qv 11) qa_nil))))
      (qss_cons (qs_if (qt_not (qt_tru (q_call c__law_form_right (hr.mono (by decide)) hgd (qa_cons (qv 12) qa_nil)) (by intro _; rfl))) (qss_one (qs_ret q_bl)) qss_nil)
      (qss_cons (qs_if (qt_cmp (oq_ne hr.units) (q_lc (own := [("n", 13)]) rfl sc_law.nd (qi_range2 (by rfl) T.n_range (qa_cons (q_neg q_int) (qa_cons q_int qa_nil))) (blkOk_by (N := N_law) (sc := defScope s_law) (own := [("n", 13)]) (by decide +kernel)) (fun _ _ _ _ _ => (qg_name (i := 13) sc_law.nd rfl (.inl rfl) (by decide))) (fun _ _ _ _ _ => qts_nil) (fun _ _ _ _ _ => (q_call c__law_in (hr.mono (by decide)) hgd (qa_cons (qv 12) (qa_cons (qv 13) qa_nil))))) (q_lc (own := [("late", 14)]) rfl sc_law.nd (qi_lst (qv 10)) (blkOk_by (N := N_law) (sc := defScope s_law) (own := [("late", 14)]) (by decide +kernel)) (fun _ _ _ _ _ => (qg_name (i := 14) sc_law.nd rfl (.inl rfl) (by decide))) (fun _ _ _ _ _ => qts_nil) (fun _ _ _ _ _ => (q_cmp (oq_eq hr.units) (qv 14) (qv 11) (nomark _)))) (nomark _)) (qss_one (qs_ret q_bl)) qss_nil)
      (qss_cons (qs_if (qt_w (qw_and (qt_cmp (oq_eq hr.units) (q_ix iq_seq (qv 12) q_int (fun _ _ => rfl)) q_str (nomark _)) (qw_and1 (qt_cmp (oq_ne hr.units) (q_lc (own := [("n", 13)]) rfl sc_law.nd (qi_tup (q_ix iq_seq (qv 12) q_int (fun _ _ => rfl))) (blkOk_by (N := N_law) (sc := defScope s_law) (own := [("n", 13)]) (by decide +kernel)) (fun _ _ _ _ _ => (qg_name (i := 13) sc_law.nd rfl (.inl rfl) (by decide))) (fun _ _ _ _ _ => (qts_one (qt_cmp (oq_ne hr.units) (q_call c_number_at (hr.mono (by decide)) hgd (qa_cons (qv 7) (qa_cons (qv 13) qa_nil))) (qv 11) (nomark _)))) (fun _ _ _ _ _ => (qv 13))) (q_lst qa_nil) (nomark _))))) (qss_one (qs_ret q_bl)) qss_nil)
      (qss_one (qs_if (qt_w (qw_and (qt_cmp (oq_eq hr.units) (q_ix iq_seq (qv 12) q_int (fun _ _ => rfl)) q_str (nomark _)) (qw_and1 (qt_cmp (oq_ne hr.units) (q_lc (own := [("n", 13)]) rfl sc_law.nd (qi_tup (q_ix iq_seq (qv 12) q_int (fun _ _ => rfl))) (blkOk_by (N := N_law) (sc := defScope s_law) (own := [("n", 13)]) (by decide +kernel)) (fun _ _ _ _ _ => (qg_name (i := 13) sc_law.nd rfl (.inl rfl) (by decide))) (fun _ _ _ _ _ => (qts_one (qt_cmp (oq_ne hr.units) (q_call c_number_at (hr.mono (by decide)) hgd (qa_cons (qv 7) (qa_cons (q_op oq_add (qv 13) (q_op oq_mul q_int (q_ix iq_seq (qv 12) q_int (fun _ _ => rfl)))) qa_nil))) (qv 11) (nomark _)))) (fun _ _ _ _ _ => (qv 13))) (q_lst qa_nil) (nomark _))))) (qss_one (qs_ret q_bl)) qss_nil))))))))))))))))))))
      (qss_cons (qs_set (i := 6) sc_law.nd rfl (.inl rfl) (q_tup (qa_cons (q_tup (qa_cons q_int (qa_cons q_int (qa_cons q_int qa_nil)))) (qa_cons (q_tup (qa_cons q_int (qa_cons q_int (qa_cons q_int qa_nil)))) (qa_cons (q_tup (qa_cons q_int (qa_cons (q_neg q_int) (qa_cons (q_neg q_int) qa_nil)))) (qa_cons (q_tup (qa_cons q_int (qa_cons q_int (qa_cons q_int qa_nil)))) qa_nil))))))
      (qss_cons (qs_set (i := 12) sc_law.nd rfl (.inr rfl) (q_lst (qa_cons (q_call c_numbers_when (hr.mono (by decide)) hgd (qa_cons (q_ix iq_seq (qv 6) q_int (fun _ _ => rfl)) (qa_cons q_int qa_nil))) (qa_cons (q_call c_numbers_when (hr.mono (by decide)) hgd (qa_cons (q_ix iq_seq (qv 6) q_int (fun _ _ => rfl)) (qa_cons q_int qa_nil))) (qa_cons (q_call c_numbers_when (hr.mono (by decide)) hgd (qa_cons (q_ix iq_seq (qv 6) q_int (fun _ _ => rfl)) (qa_cons q_int qa_nil))) (qa_cons (q_call c_numbers_when (hr.mono (by decide)) hgd (qa_cons (q_ix iq_seq (qv 6) q_int (fun _ _ => rfl)) (qa_cons q_int qa_nil))) qa_nil))))))
      (qss_one (qs_ret (q_cmp (oq_eq hr.units) (q_callB (cq_repr hgd (reprU hr)) (by rfl) T.n_repr bt_repr (qa_cons (qv 12) qa_nil)) (q_callB (cq_repr hgd (reprU hr)) (by rfl) T.n_repr bt_repr (qa_cons (q_lst (qa_cons (q_tup (qa_cons q_str (qa_cons q_int (qa_cons (q_tup (qa_cons q_int qa_nil)) qa_nil)))) (qa_cons (q_tup (qa_cons q_str (qa_cons (q_tup qa_nil) qa_nil))) (qa_cons (q_tup (qa_cons q_str (qa_cons q_int (qa_cons (q_tup (qa_cons q_int qa_nil)) qa_nil)))) (qa_cons (q_tup (qa_cons q_str (qa_cons q_int (qa_cons (q_tup (qa_cons q_int (qa_cons q_int qa_nil))) qa_nil)))) qa_nil))))) qa_nil)) (nomark _))))))))) h_law
theorem defAt_mk {K : PySem.W.Frag} {h : Heap} {mg : Str → Option Value} {x : Str} {st : Stmt} {ps : List Str} {f : Addr} {an : Option Addr} {kV dc pm cd ct : Value} (X : K.In h) (G : h.Ns mainGlobals mg)
    (a : PySem.W.nsIn K mainGlobals x = some (some (.ref f))) (F : Fun K x x st f (PySem.W.fnOf x x (defArgs st) (defBody st) (defScope st) .none kV dc pm an cd ct)) (b : Binds K (PySem.W.fnOf x x (defArgs st) (defBody st) (defScope st) .none kV dc pm an cd ct) ps []) : DefAt K mg x st ps := ⟨f, _, PySem.W.mg_of X G a, F, b⟩
theorem defAt2_mk {K : PySem.W.Frag} {h : Heap} {mg : Str → Option Value} {x y : Str} {st : Stmt} {ps : List Str} {f : Addr} {an : Option Addr} {kV dc pm cd ct : Value} (X : K.In h) (G : h.Ns mainGlobals mg)
    (a : PySem.W.nsIn K mainGlobals x = some (some (.ref f))) (F : Fun K y y st f (PySem.W.fnOf y y (defArgs st) (defBody st) (defScope st) .none kV dc pm an cd ct)) (b : Binds K (PySem.W.fnOf y y (defArgs st) (defBody st) (defScope st) .none kV dc pm an cd ct) ps []) : DefAt2 K mg x y st ps := ⟨f, _, PySem.W.mg_of X G a, F, b⟩
theorem all_mk {l : PySem.W.OpenLaw} {w : World} {K : PySem.W.Frag} {h : Heap} {mg : Str → Option Value} {fa f0 f1 f2 f3 f4 f5 f6 f7 f8 f9 f10 f11 f12 f13 f14 f15 f16 f17 f18 f19 f20 f21 f22 f23 f24 f25 f26 f27 f28 f29 f30 f31 f32 f33 f34 f35 f36 f37 f38 f39 f40 f41 f42 f43 f44 f45 f46 f47 f48 f49 : Addr} (X : K.In h) (G : h.Ns mainGlobals mg) (hfa : mg "law" = some (.ref fa))
    {od0 an0 od1 an1 od2 an2 od3 an3 od4 an4 od5 an5 od6 an6 od7 an7 od8 an8 od9 an9 od10 an10 od11 an11 od12 an12 od13 an13 od14 an14 od15 an15 od16 an16 od17 an17 od18 an18 od19 an19 od20 an20 od21 an21 od22 an22 od23 an23 od24 an24 od25 an25 od26 an26 od27 an27 od28 an28 od29 an29 od30 an30 od31 an31 od32 an32 od33 an33 od34 an34 od35 an35 od36 an36 od37 an37 od38 an38 od39 an39 od40 an40 od41 an41 od42 an42 od43 an43 od44 an44 od45 an45 od46 an46 od47 an47 od48 an48 od49 an49 : Option Addr} {sl0 sl1 sl2 sl3 sl4 sl5 sl6 sl7 sl8 sl9 sl10 sl11 sl12 sl13 sl14 sl15 sl16 sl17 sl18 sl19 sl20 sl21 sl22 sl23 sl24 sl25 sl26 sl27 sl28 sl29 sl30 sl31 sl32 sl33 sl34 sl35 sl36 sl37 sl38 sl39 sl40 sl41 sl42 sl43 sl44 sl45 sl46 sl47 sl48 sl49 : Array (Option Value)} {oc0 kV0 dc0 pm0 cd0 ct0 oc1 kV1 dc1 pm1 cd1 ct1 oc2 kV2 dc2 pm2 cd2 ct2 oc3 kV3 dc3 pm3 cd3 ct3 oc4 kV4 dc4 pm4 cd4 ct4 oc5 kV5 dc5 pm5 cd5 ct5 oc6 kV6 dc6 pm6 cd6 ct6 oc7 kV7 dc7 pm7 cd7 ct7 oc8 kV8 dc8 pm8 cd8 ct8 oc9 kV9 dc9 pm9 cd9 ct9 oc10 kV10 dc10 pm10 cd10 ct10 oc11 kV11 dc11 pm11 cd11 ct11 oc12 kV12 dc12 pm12 cd12 ct12 oc13 kV13 dc13 pm13 cd13 ct13 oc14 kV14 dc14 pm14 cd14 ct14 oc15 kV15 dc15 pm15 cd15 ct15 oc16 kV16 dc16 pm16 cd16 ct16 oc17 kV17 dc17 pm17 cd17 ct17 oc18 kV18 dc18 pm18 cd18 ct18 oc19 kV19 dc19 pm19 cd19 ct19 oc20 kV20 dc20 pm20 cd20 ct20 oc21 kV21 dc21 pm21 cd21 ct21 oc22 kV22 dc22 pm22 cd22 ct22 oc23 kV23 dc23 pm23 cd23 ct23 oc24 kV24 dc24 pm24 cd24 ct24 oc25 kV25 dc25 pm25 cd25 ct25 oc26 kV26 dc26 pm26 cd26 ct26 oc27 kV27 dc27 pm27 cd27 ct27 oc28 kV28 dc28 pm28 cd28 ct28 oc29 kV29 dc29 pm29 cd29 ct29 oc30 kV30 dc30 pm30 cd30 ct30 oc31 kV31 dc31 pm31 cd31 ct31 oc32 kV32 dc32 pm32 cd32 ct32 oc33 kV33 dc33 pm33 cd33 ct33 oc34 kV34 dc34 pm34 cd34 ct34 oc35 kV35 dc35 pm35 cd35 ct35 oc36 kV36 dc36 pm36 cd36 ct36 oc37 kV37 dc37 pm37 cd37 ct37 oc38 kV38 dc38 pm38 cd38 ct38 oc39 kV39 dc39 pm39 cd39 ct39 oc40 kV40 dc40 pm40 cd40 ct40 oc41 kV41 dc41 pm41 cd41 ct41 oc42 kV42 dc42 pm42 cd42 ct42 oc43 kV43 dc43 pm43 cd43 ct43 oc44 kV44 dc44 pm44 cd44 ct44 oc45 kV45 dc45 pm45 cd45 ct45 oc46 kV46 dc46 pm46 cd46 ct46 oc47 kV47 dc47 pm47 cd47 ct47 oc48 kV48 dc48 pm48 cd48 ct48 oc49 kV49 dc49 pm49 cd49 ct49 : Value}
    (a0 : PySem.W.nsIn K mainGlobals "_law_form_right" = some (some (.ref f0))) (l0 : K.lookup f0 = some ⟨oc0, od0, .func (PySem.W.fnOf "_law_form_right" "_law_form_right" (defArgs s__law_form_right) (defBody s__law_form_right) (defScope s__law_form_right) .none kV0 dc0 pm0 an0 cd0 ct0), sl0⟩) (c0 : PySem.W.codeIn K cd0 "_law_form_right" = true) (k0 : PySem.W.keepIn K (.ref f0) = true)
    (a1 : PySem.W.nsIn K mainGlobals "_law_in" = some (some (.ref f1))) (l1 : K.lookup f1 = some ⟨oc1, od1, .func (PySem.W.fnOf "_law_in" "_law_in" (defArgs s__law_in) (defBody s__law_in) (defScope s__law_in) .none kV1 dc1 pm1 an1 cd1 ct1), sl1⟩) (c1 : PySem.W.codeIn K cd1 "_law_in" = true) (k1 : PySem.W.keepIn K (.ref f1) = true)
    (a2 : PySem.W.nsIn K mainGlobals "_law_pick" = some (some (.ref f2))) (l2 : K.lookup f2 = some ⟨oc2, od2, .func (PySem.W.fnOf "_law_pick" "_law_pick" (defArgs s__law_pick) (defBody s__law_pick) (defScope s__law_pick) .none kV2 dc2 pm2 an2 cd2 ct2), sl2⟩) (c2 : PySem.W.codeIn K cd2 "_law_pick" = true) (k2 : PySem.W.keepIn K (.ref f2) = true)
    (a3 : PySem.W.nsIn K mainGlobals "_law_of" = some (some (.ref f3))) (l3 : K.lookup f3 = some ⟨oc3, od3, .func (PySem.W.fnOf "_law_of" "_law_of" (defArgs s__law_of) (defBody s__law_of) (defScope s__law_of) .none kV3 dc3 pm3 an3 cd3 ct3), sl3⟩) (c3 : PySem.W.codeIn K cd3 "_law_of" = true) (k3 : PySem.W.keepIn K (.ref f3) = true)
    (a4 : PySem.W.nsIn K mainGlobals "_law_small" = some (some (.ref f4))) (l4 : K.lookup f4 = some ⟨oc4, od4, .func (PySem.W.fnOf "_law_small" "_law_small" (defArgs s__law_small) (defBody s__law_small) (defScope s__law_small) .none kV4 dc4 pm4 an4 cd4 ct4), sl4⟩) (c4 : PySem.W.codeIn K cd4 "_law_small" = true) (k4 : PySem.W.keepIn K (.ref f4) = true)
    (a5 : PySem.W.nsIn K mainGlobals "_law_source" = some (some (.ref f5))) (l5 : K.lookup f5 = some ⟨oc5, od5, .func (PySem.W.fnOf "_law_source" "_law_source" (defArgs s__law_source) (defBody s__law_source) (defScope s__law_source) .none kV5 dc5 pm5 an5 cd5 ct5), sl5⟩) (c5 : PySem.W.codeIn K cd5 "_law_source" = true) (k5 : PySem.W.keepIn K (.ref f5) = true)
    (a6 : PySem.W.nsIn K mainGlobals "_law_by" = some (some (.ref f6))) (l6 : K.lookup f6 = some ⟨oc6, od6, .func (PySem.W.fnOf "_law_by" "_law_by" (defArgs s__law_by) (defBody s__law_by) (defScope s__law_by) .none kV6 dc6 pm6 an6 cd6 ct6), sl6⟩) (c6 : PySem.W.codeIn K cd6 "_law_by" = true) (k6 : PySem.W.keepIn K (.ref f6) = true)
    (a7 : PySem.W.nsIn K mainGlobals "_law_table_of" = some (some (.ref f7))) (l7 : K.lookup f7 = some ⟨oc7, od7, .func (PySem.W.fnOf "_law_table_of" "_law_table_of" (defArgs s__law_table_of) (defBody s__law_table_of) (defScope s__law_table_of) .none kV7 dc7 pm7 an7 cd7 ct7), sl7⟩) (c7 : PySem.W.codeIn K cd7 "_law_table_of" = true) (k7 : PySem.W.keepIn K (.ref f7) = true)
    (a8 : PySem.W.nsIn K mainGlobals "_law_undone" = some (some (.ref f8))) (l8 : K.lookup f8 = some ⟨oc8, od8, .func (PySem.W.fnOf "_law_undone" "_law_undone" (defArgs s__law_undone) (defBody s__law_undone) (defScope s__law_undone) .none kV8 dc8 pm8 an8 cd8 ct8), sl8⟩) (c8 : PySem.W.codeIn K cd8 "_law_undone" = true) (k8 : PySem.W.keepIn K (.ref f8) = true)
    (a9 : PySem.W.nsIn K mainGlobals "_law_taken" = some (some (.ref f9))) (l9 : K.lookup f9 = some ⟨oc9, od9, .func (PySem.W.fnOf "_law_taken" "_law_taken" (defArgs s__law_taken) (defBody s__law_taken) (defScope s__law_taken) .none kV9 dc9 pm9 an9 cd9 ct9), sl9⟩) (c9 : PySem.W.codeIn K cd9 "_law_taken" = true) (k9 : PySem.W.keepIn K (.ref f9) = true)
    (a10 : PySem.W.nsIn K mainGlobals "_law_low" = some (some (.ref f10))) (l10 : K.lookup f10 = some ⟨oc10, od10, .func (PySem.W.fnOf "_law_low" "_law_low" (defArgs s__law_low) (defBody s__law_low) (defScope s__law_low) .none kV10 dc10 pm10 an10 cd10 ct10), sl10⟩) (c10 : PySem.W.codeIn K cd10 "_law_low" = true) (k10 : PySem.W.keepIn K (.ref f10) = true)
    (a11 : PySem.W.nsIn K mainGlobals "_law_word" = some (some (.ref f11))) (l11 : K.lookup f11 = some ⟨oc11, od11, .func (PySem.W.fnOf "_law_word" "_law_word" (defArgs s__law_word) (defBody s__law_word) (defScope s__law_word) .none kV11 dc11 pm11 an11 cd11 ct11), sl11⟩) (c11 : PySem.W.codeIn K cd11 "_law_word" = true) (k11 : PySem.W.keepIn K (.ref f11) = true)
    (a12 : PySem.W.nsIn K mainGlobals "least_long" = some (some (.ref f12))) (l12 : K.lookup f12 = some ⟨oc12, od12, .func (PySem.W.fnOf "least_long" "least_long" (defArgs s_least_long) (defBody s_least_long) (defScope s_least_long) .none kV12 dc12 pm12 an12 cd12 ct12), sl12⟩) (c12 : PySem.W.codeIn K cd12 "least_long" = true) (k12 : PySem.W.keepIn K (.ref f12) = true)
    (a13 : PySem.W.nsIn K mainGlobals "not_long_numberruns" = some (some (.ref f13))) (l13 : K.lookup f13 = some ⟨oc13, od13, .func (PySem.W.fnOf "not_long" "not_long" (defArgs s_not_long_numberruns) (defBody s_not_long_numberruns) (defScope s_not_long_numberruns) .none kV13 dc13 pm13 an13 cd13 ct13), sl13⟩) (c13 : PySem.W.codeIn K cd13 "not_long" = true) (k13 : PySem.W.keepIn K (.ref f13) = true)
    (a14 : PySem.W.nsIn K mainGlobals "far_at" = some (some (.ref f14))) (l14 : K.lookup f14 = some ⟨oc14, od14, .func (PySem.W.fnOf "far_at" "far_at" (defArgs s_far_at) (defBody s_far_at) (defScope s_far_at) .none kV14 dc14 pm14 an14 cd14 ct14), sl14⟩) (c14 : PySem.W.codeIn K cd14 "far_at" = true) (k14 : PySem.W.keepIn K (.ref f14) = true)
    (a15 : PySem.W.nsIn K mainGlobals "line_at" = some (some (.ref f15))) (l15 : K.lookup f15 = some ⟨oc15, od15, .func (PySem.W.fnOf "line_at" "line_at" (defArgs s_line_at) (defBody s_line_at) (defScope s_line_at) .none kV15 dc15 pm15 an15 cd15 ct15), sl15⟩) (c15 : PySem.W.codeIn K cd15 "line_at" = true) (k15 : PySem.W.keepIn K (.ref f15) = true)
    (a16 : PySem.W.nsIn K mainGlobals "numbers_back" = some (some (.ref f16))) (l16 : K.lookup f16 = some ⟨oc16, od16, .func (PySem.W.fnOf "numbers_back" "numbers_back" (defArgs s_numbers_back) (defBody s_numbers_back) (defScope s_numbers_back) .none kV16 dc16 pm16 an16 cd16 ct16), sl16⟩) (c16 : PySem.W.codeIn K cd16 "numbers_back" = true) (k16 : PySem.W.keepIn K (.ref f16) = true)
    (a17 : PySem.W.nsIn K mainGlobals "round_numbers" = some (some (.ref f17))) (l17 : K.lookup f17 = some ⟨oc17, od17, .func (PySem.W.fnOf "round_numbers" "round_numbers" (defArgs s_round_numbers) (defBody s_round_numbers) (defScope s_round_numbers) .none kV17 dc17 pm17 an17 cd17 ct17), sl17⟩) (c17 : PySem.W.codeIn K cd17 "round_numbers" = true) (k17 : PySem.W.keepIn K (.ref f17) = true)
    (a18 : PySem.W.nsIn K mainGlobals "number_at" = some (some (.ref f18))) (l18 : K.lookup f18 = some ⟨oc18, od18, .func (PySem.W.fnOf "number_at" "number_at" (defArgs s_number_at) (defBody s_number_at) (defScope s_number_at) .none kV18 dc18 pm18 an18 cd18 ct18), sl18⟩) (c18 : PySem.W.codeIn K cd18 "number_at" = true) (k18 : PySem.W.keepIn K (.ref f18) = true)
    (a19 : PySem.W.nsIn K mainGlobals "far_places" = some (some (.ref f19))) (l19 : K.lookup f19 = some ⟨oc19, od19, .func (PySem.W.fnOf "far_places" "far_places" (defArgs s_far_places) (defBody s_far_places) (defScope s_far_places) .none kV19 dc19 pm19 an19 cd19 ct19), sl19⟩) (c19 : PySem.W.codeIn K cd19 "far_places" = true) (k19 : PySem.W.keepIn K (.ref f19) = true)
    (a20 : PySem.W.nsIn K mainGlobals "line_when" = some (some (.ref f20))) (l20 : K.lookup f20 = some ⟨oc20, od20, .func (PySem.W.fnOf "line_when" "line_when" (defArgs s_line_when) (defBody s_line_when) (defScope s_line_when) .none kV20 dc20 pm20 an20 cd20 ct20), sl20⟩) (c20 : PySem.W.codeIn K cd20 "line_when" = true) (k20 : PySem.W.keepIn K (.ref f20) = true)
    (a21 : PySem.W.nsIn K mainGlobals "round_told" = some (some (.ref f21))) (l21 : K.lookup f21 = some ⟨oc21, od21, .func (PySem.W.fnOf "round_told" "round_told" (defArgs s_round_told) (defBody s_round_told) (defScope s_round_told) .none kV21 dc21 pm21 an21 cd21 ct21), sl21⟩) (c21 : PySem.W.codeIn K cd21 "round_told" = true) (k21 : PySem.W.keepIn K (.ref f21) = true)
    (a22 : PySem.W.nsIn K mainGlobals "lines_when" = some (some (.ref f22))) (l22 : K.lookup f22 = some ⟨oc22, od22, .func (PySem.W.fnOf "lines_when" "lines_when" (defArgs s_lines_when) (defBody s_lines_when) (defScope s_lines_when) .none kV22 dc22 pm22 an22 cd22 ct22), sl22⟩) (c22 : PySem.W.codeIn K cd22 "lines_when" = true) (k22 : PySem.W.keepIn K (.ref f22) = true)
    (a23 : PySem.W.nsIn K mainGlobals "numbers_when" = some (some (.ref f23))) (l23 : K.lookup f23 = some ⟨oc23, od23, .func (PySem.W.fnOf "numbers_when" "numbers_when" (defArgs s_numbers_when) (defBody s_numbers_when) (defScope s_numbers_when) .none kV23 dc23 pm23 an23 cd23 ct23), sl23⟩) (c23 : PySem.W.codeIn K cd23 "numbers_when" = true) (k23 : PySem.W.keepIn K (.ref f23) = true)
    (a24 : PySem.W.nsIn K mainGlobals "number_powers" = some (some (.ref f24))) (l24 : K.lookup f24 = some ⟨oc24, od24, .func (PySem.W.fnOf "number_powers" "number_powers" (defArgs s_number_powers) (defBody s_number_powers) (defScope s_number_powers) .none kV24 dc24 pm24 an24 cd24 ct24), sl24⟩) (c24 : PySem.W.codeIn K cd24 "number_powers" = true) (k24 : PySem.W.keepIn K (.ref f24) = true)
    (a25 : PySem.W.nsIn K mainGlobals "poly_degrees" = some (some (.ref f25))) (l25 : K.lookup f25 = some ⟨oc25, od25, .func (PySem.W.fnOf "poly_degrees" "poly_degrees" (defArgs s_poly_degrees) (defBody s_poly_degrees) (defScope s_poly_degrees) .none kV25 dc25 pm25 an25 cd25 ct25), sl25⟩) (c25 : PySem.W.codeIn K cd25 "poly_degrees" = true) (k25 : PySem.W.keepIn K (.ref f25) = true)
    (a26 : PySem.W.nsIn K mainGlobals "poly_value" = some (some (.ref f26))) (l26 : K.lookup f26 = some ⟨oc26, od26, .func (PySem.W.fnOf "poly_value" "poly_value" (defArgs s_poly_value) (defBody s_poly_value) (defScope s_poly_value) .none kV26 dc26 pm26 an26 cd26 ct26), sl26⟩) (c26 : PySem.W.codeIn K cd26 "poly_value" = true) (k26 : PySem.W.keepIn K (.ref f26) = true)
    (a27 : PySem.W.nsIn K mainGlobals "power_numbers" = some (some (.ref f27))) (l27 : K.lookup f27 = some ⟨oc27, od27, .func (PySem.W.fnOf "power_numbers" "power_numbers" (defArgs s_power_numbers) (defBody s_power_numbers) (defScope s_power_numbers) .none kV27 dc27 pm27 an27 cd27 ct27), sl27⟩) (c27 : PySem.W.codeIn K cd27 "power_numbers" = true) (k27 : PySem.W.keepIn K (.ref f27) = true)
    (a28 : PySem.W.nsIn K mainGlobals "four_by_one" = some (some (.ref f28))) (l28 : K.lookup f28 = some ⟨oc28, od28, .func (PySem.W.fnOf "four_by_one" "four_by_one" (defArgs s_four_by_one) (defBody s_four_by_one) (defScope s_four_by_one) .none kV28 dc28 pm28 an28 cd28 ct28), sl28⟩) (c28 : PySem.W.codeIn K cd28 "four_by_one" = true) (k28 : PySem.W.keepIn K (.ref f28) = true)
    (a29 : PySem.W.nsIn K mainGlobals "four_by_other" = some (some (.ref f29))) (l29 : K.lookup f29 = some ⟨oc29, od29, .func (PySem.W.fnOf "four_by_other" "four_by_other" (defArgs s_four_by_other) (defBody s_four_by_other) (defScope s_four_by_other) .none kV29 dc29 pm29 an29 cd29 ct29), sl29⟩) (c29 : PySem.W.codeIn K cd29 "four_by_other" = true) (k29 : PySem.W.keepIn K (.ref f29) = true)
    (a30 : PySem.W.nsIn K mainGlobals "poly_taken" = some (some (.ref f30))) (l30 : K.lookup f30 = some ⟨oc30, od30, .func (PySem.W.fnOf "poly_taken" "poly_taken" (defArgs s_poly_taken) (defBody s_poly_taken) (defScope s_poly_taken) .none kV30 dc30 pm30 an30 cd30 ct30), sl30⟩) (c30 : PySem.W.codeIn K cd30 "poly_taken" = true) (k30 : PySem.W.keepIn K (.ref f30) = true)
    (a31 : PySem.W.nsIn K mainGlobals "less_all" = some (some (.ref f31))) (l31 : K.lookup f31 = some ⟨oc31, od31, .func (PySem.W.fnOf "less_all" "less_all" (defArgs s_less_all) (defBody s_less_all) (defScope s_less_all) .none kV31 dc31 pm31 an31 cd31 ct31), sl31⟩) (c31 : PySem.W.codeIn K cd31 "less_all" = true) (k31 : PySem.W.keepIn K (.ref f31) = true)
    (a32 : PySem.W.nsIn K mainGlobals "poly_told" = some (some (.ref f32))) (l32 : K.lookup f32 = some ⟨oc32, od32, .func (PySem.W.fnOf "poly_told" "poly_told" (defArgs s_poly_told) (defBody s_poly_told) (defScope s_poly_told) .none kV32 dc32 pm32 an32 cd32 ct32), sl32⟩) (c32 : PySem.W.codeIn K cd32 "poly_told" = true) (k32 : PySem.W.keepIn K (.ref f32) = true)
    (a33 : PySem.W.nsIn K mainGlobals "sum_of_products" = some (some (.ref f33))) (l33 : K.lookup f33 = some ⟨oc33, od33, .func (PySem.W.fnOf "sum_of_products" "sum_of_products" (defArgs s_sum_of_products) (defBody s_sum_of_products) (defScope s_sum_of_products) .none kV33 dc33 pm33 an33 cd33 ct33), sl33⟩) (c33 : PySem.W.codeIn K cd33 "sum_of_products" = true) (k33 : PySem.W.keepIn K (.ref f33) = true)
    (a34 : PySem.W.nsIn K mainGlobals "four_letter" = some (some (.ref f34))) (l34 : K.lookup f34 = some ⟨oc34, od34, .func (PySem.W.fnOf "four_letter" "four_letter" (defArgs s_four_letter) (defBody s_four_letter) (defScope s_four_letter) .none kV34 dc34 pm34 an34 cd34 ct34), sl34⟩) (c34 : PySem.W.codeIn K cd34 "four_letter" = true) (k34 : PySem.W.keepIn K (.ref f34) = true)
    (a35 : PySem.W.nsIn K mainGlobals "four_told" = some (some (.ref f35))) (l35 : K.lookup f35 = some ⟨oc35, od35, .func (PySem.W.fnOf "four_told" "four_told" (defArgs s_four_told) (defBody s_four_told) (defScope s_four_told) .none kV35 dc35 pm35 an35 cd35 ct35), sl35⟩) (c35 : PySem.W.codeIn K cd35 "four_told" = true) (k35 : PySem.W.keepIn K (.ref f35) = true)
    (a36 : PySem.W.nsIn K mainGlobals "trace_of_traces" = some (some (.ref f36))) (l36 : K.lookup f36 = some ⟨oc36, od36, .func (PySem.W.fnOf "trace_of" "trace_of" (defArgs s_trace_of_traces) (defBody s_trace_of_traces) (defScope s_trace_of_traces) .none kV36 dc36 pm36 an36 cd36 ct36), sl36⟩) (c36 : PySem.W.codeIn K cd36 "trace_of" = true) (k36 : PySem.W.keepIn K (.ref f36) = true)
    (a37 : PySem.W.nsIn K mainGlobals "trace_told" = some (some (.ref f37))) (l37 : K.lookup f37 = some ⟨oc37, od37, .func (PySem.W.fnOf "trace_told" "trace_told" (defArgs s_trace_told) (defBody s_trace_told) (defScope s_trace_told) .none kV37 dc37 pm37 an37 cd37 ct37), sl37⟩) (c37 : PySem.W.codeIn K cd37 "trace_told" = true) (k37 : PySem.W.keepIn K (.ref f37) = true)
    (a38 : PySem.W.nsIn K mainGlobals "not_long_words" = some (some (.ref f38))) (l38 : K.lookup f38 = some ⟨oc38, od38, .func (PySem.W.fnOf "not_long" "not_long" (defArgs s_not_long_words) (defBody s_not_long_words) (defScope s_not_long_words) .none kV38 dc38 pm38 an38 cd38 ct38), sl38⟩) (c38 : PySem.W.codeIn K cd38 "not_long" = true) (k38 : PySem.W.keepIn K (.ref f38) = true)
    (a39 : PySem.W.nsIn K mainGlobals "word_low" = some (some (.ref f39))) (l39 : K.lookup f39 = some ⟨oc39, od39, .func (PySem.W.fnOf "word_low" "word_low" (defArgs s_word_low) (defBody s_word_low) (defScope s_word_low) .none kV39 dc39 pm39 an39 cd39 ct39), sl39⟩) (c39 : PySem.W.codeIn K cd39 "word_low" = true) (k39 : PySem.W.keepIn K (.ref f39) = true)
    (a40 : PySem.W.nsIn K mainGlobals "words_put" = some (some (.ref f40))) (l40 : K.lookup f40 = some ⟨oc40, od40, .func (PySem.W.fnOf "words_put" "words_put" (defArgs s_words_put) (defBody s_words_put) (defScope s_words_put) .none kV40 dc40 pm40 an40 cd40 ct40), sl40⟩) (c40 : PySem.W.codeIn K cd40 "words_put" = true) (k40 : PySem.W.keepIn K (.ref f40) = true)
    (a41 : PySem.W.nsIn K mainGlobals "power_told" = some (some (.ref f41))) (l41 : K.lookup f41 = some ⟨oc41, od41, .func (PySem.W.fnOf "power_told" "power_told" (defArgs s_power_told) (defBody s_power_told) (defScope s_power_told) .none kV41 dc41 pm41 an41 cd41 ct41), sl41⟩) (c41 : PySem.W.codeIn K cd41 "power_told" = true) (k41 : PySem.W.keepIn K (.ref f41) = true)
    (a42 : PySem.W.nsIn K mainGlobals "table_times" = some (some (.ref f42))) (l42 : K.lookup f42 = some ⟨oc42, od42, .func (PySem.W.fnOf "table_times" "table_times" (defArgs s_table_times) (defBody s_table_times) (defScope s_table_times) .none kV42 dc42 pm42 an42 cd42 ct42), sl42⟩) (c42 : PySem.W.codeIn K cd42 "table_times" = true) (k42 : PySem.W.keepIn K (.ref f42) = true)
    (a43 : PySem.W.nsIn K mainGlobals "trace_of_pairtables" = some (some (.ref f43))) (l43 : K.lookup f43 = some ⟨oc43, od43, .func (PySem.W.fnOf "trace_of" "trace_of" (defArgs s_trace_of_pairtables) (defBody s_trace_of_pairtables) (defScope s_trace_of_pairtables) .none kV43 dc43 pm43 an43 cd43 ct43), sl43⟩) (c43 : PySem.W.codeIn K cd43 "trace_of" = true) (k43 : PySem.W.keepIn K (.ref f43) = true)
    (a44 : PySem.W.nsIn K mainGlobals "traced" = some (some (.ref f44))) (l44 : K.lookup f44 = some ⟨oc44, od44, .func (PySem.W.fnOf "traced" "traced" (defArgs s_traced) (defBody s_traced) (defScope s_traced) .none kV44 dc44 pm44 an44 cd44 ct44), sl44⟩) (c44 : PySem.W.codeIn K cd44 "traced" = true) (k44 : PySem.W.keepIn K (.ref f44) = true)
    (a45 : PySem.W.nsIn K mainGlobals "table_undone" = some (some (.ref f45))) (l45 : K.lookup f45 = some ⟨oc45, od45, .func (PySem.W.fnOf "table_undone" "table_undone" (defArgs s_table_undone) (defBody s_table_undone) (defScope s_table_undone) .none kV45 dc45 pm45 an45 cd45 ct45), sl45⟩) (c45 : PySem.W.codeIn K cd45 "table_undone" = true) (k45 : PySem.W.keepIn K (.ref f45) = true)
    (a46 : PySem.W.nsIn K mainGlobals "letter_table" = some (some (.ref f46))) (l46 : K.lookup f46 = some ⟨oc46, od46, .func (PySem.W.fnOf "letter_table" "letter_table" (defArgs s_letter_table) (defBody s_letter_table) (defScope s_letter_table) .none kV46 dc46 pm46 an46 cd46 ct46), sl46⟩) (c46 : PySem.W.codeIn K cd46 "letter_table" = true) (k46 : PySem.W.keepIn K (.ref f46) = true)
    (a47 : PySem.W.nsIn K mainGlobals "not_long_pairtables" = some (some (.ref f47))) (l47 : K.lookup f47 = some ⟨oc47, od47, .func (PySem.W.fnOf "not_long" "not_long" (defArgs s_not_long_pairtables) (defBody s_not_long_pairtables) (defScope s_not_long_pairtables) .none kV47 dc47 pm47 an47 cd47 ct47), sl47⟩) (c47 : PySem.W.codeIn K cd47 "not_long" = true) (k47 : PySem.W.keepIn K (.ref f47) = true)
    (a48 : PySem.W.nsIn K mainGlobals "word_table" = some (some (.ref f48))) (l48 : K.lookup f48 = some ⟨oc48, od48, .func (PySem.W.fnOf "word_table" "word_table" (defArgs s_word_table) (defBody s_word_table) (defScope s_word_table) .none kV48 dc48 pm48 an48 cd48 ct48), sl48⟩) (c48 : PySem.W.codeIn K cd48 "word_table" = true) (k48 : PySem.W.keepIn K (.ref f48) = true)
    (a49 : PySem.W.nsIn K mainGlobals "law" = some (some (.ref f49))) (l49 : K.lookup f49 = some ⟨oc49, od49, .func (PySem.W.fnOf "law" "law" (defArgs s_law) (defBody s_law) (defScope s_law) .none kV49 dc49 pm49 an49 cd49 ct49), sl49⟩) (c49 : PySem.W.codeIn K cd49 "law" = true) (k49 : PySem.W.keepIn K (.ref f49) = true)
    (z_abs : PySem.W.nsIn K mainGlobals "abs" = some none)
    (z_enumerate : PySem.W.nsIn K mainGlobals "enumerate" = some none)
    (z_int : PySem.W.nsIn K mainGlobals "int" = some none)
    (z_len : PySem.W.nsIn K mainGlobals "len" = some none)
    (z_list : PySem.W.nsIn K mainGlobals "list" = some none)
    (z_max : PySem.W.nsIn K mainGlobals "max" = some none)
    (z_range : PySem.W.nsIn K mainGlobals "range" = some none)
    (z_repr : PySem.W.nsIn K mainGlobals "repr" = some none)
    (z_sorted : PySem.W.nsIn K mainGlobals "sorted" = some none)
    (z_str : PySem.W.nsIn K mainGlobals "str" = some none)
    (z_sum : PySem.W.nsIn K mainGlobals "sum" = some none)
    (z_tuple : PySem.W.nsIn K mainGlobals "tuple" = some none)
    (z_zip : PySem.W.nsIn K mainGlobals "zip" = some none)
    {xt1 xt4 xt7 xt10 xt17 xt20 xt23 xt26 xt29 xt32 xt39 xt42 xt49 xt52 xt55 xt62 xt65 xt68 xt80 xt83 xt90 xt93 xt96 xt105 xt108 xt111 xt118 xt121 xt124 xt131 xt134 xt137 xt144 xt147 xt150 : Addr} {xn2 xn5 xn8 xn11 xn18 xn21 xn24 xn27 xn30 xn33 xn40 xn43 xn50 xn53 xn56 xn63 xn66 xn69 xn81 xn84 xn91 xn94 xn97 xn106 xn109 xn112 xn119 xn122 xn125 xn132 xn135 xn138 xn145 xn148 xn151 : Nat} {xs3 xs6 xs9 xs12 xs19 xs22 xs25 xs28 xs31 xs34 xs41 xs44 xs51 xs54 xs57 xs64 xs67 xs70 xs82 xs85 xs92 xs95 xs98 xs107 xs110 xs113 xs120 xs123 xs126 xs133 xs136 xs139 xs146 xs149 xs152 : Array (Option Value)} {xu13 xu14 xu15 xu16 xu35 xu36 xu37 xu38 xu45 xu46 xu47 xu48 xu58 xu59 xu60 xu61 xu71 xu72 xu73 xu74 xu75 xu76 xu77 xu78 xu79 xu86 xu87 xu88 xu89 xu99 xu100 xu101 xu102 xu103 xu104 xu114 xu115 xu116 xu117 xu127 xu128 xu129 xu130 xu140 xu141 xu142 xu143 xu153 xu154 xu155 xu156 : _} {dR : Addr} {rn : Nat} {rh1 rh2 rh3 : Int} {rk1 rk2 rk3 rv1 rv2 rv3 : Tok}
    (cl_xt10 : K.lookup xt10 = some ⟨.type "tuple", none, .seq #[.int 0 xu13, .int 0 xu14, .int 0 xu15] xn11, xs12⟩)
    (cl_xt7 : K.lookup xt7 = some ⟨.type "tuple", none, .seq #[.ref xt10, .int 1 xu16] xn8, xs9⟩)
    (cl_xt4 : K.lookup xt4 = some ⟨.type "tuple", none, .seq #[.ref xt7] xn5, xs6⟩)
    (cl_xt17 : K.lookup xt17 = some ⟨.type "tuple", none, .seq #[] xn18, xs19⟩)
    (cl_xt20 : K.lookup xt20 = some ⟨.type "tuple", none, .seq #[] xn21, xs22⟩)
    (cl_xt23 : K.lookup xt23 = some ⟨.type "tuple", none, .seq #[] xn24, xs25⟩)
    (cl_xt1 : K.lookup xt1 = some ⟨.type "tuple", none, .seq #[.ref xt4, .ref xt17, .ref xt20, .ref xt23] xn2, xs3⟩)
    (kc_BEGUN : PySem.W.nsIn K mainGlobals "BEGUN" = some (some (.ref xt1)))
    (cl_xt32 : K.lookup xt32 = some ⟨.type "tuple", none, .seq #[.int 0 xu35, .int 0 xu36, .int 1 xu37] xn33, xs34⟩)
    (cl_xt29 : K.lookup xt29 = some ⟨.type "tuple", none, .seq #[.ref xt32, .int 1 xu38] xn30, xs31⟩)
    (cl_xt42 : K.lookup xt42 = some ⟨.type "tuple", none, .seq #[.int 1 xu45, .int 1 xu46, .int 0 xu47] xn43, xs44⟩)
    (cl_xt39 : K.lookup xt39 = some ⟨.type "tuple", none, .seq #[.ref xt42, .int (-1) xu48] xn40, xs41⟩)
    (cl_xt26 : K.lookup xt26 = some ⟨.type "tuple", none, .seq #[.ref xt29, .ref xt39] xn27, xs28⟩)
    (kc_LEFT_OVER : PySem.W.nsIn K mainGlobals "LEFT_OVER" = some (some (.ref xt26)))
    (cl_xt55 : K.lookup xt55 = some ⟨.type "tuple", none, .seq #[.int 0 xu58, .int 0 xu59, .int 0 xu60] xn56, xs57⟩)
    (cl_xt52 : K.lookup xt52 = some ⟨.type "tuple", none, .seq #[.ref xt55, .int (-1) xu61] xn53, xs54⟩)
    (cl_xt49 : K.lookup xt49 = some ⟨.type "tuple", none, .seq #[.ref xt52] xn50, xs51⟩)
    (kc_LESS_ONE : PySem.W.nsIn K mainGlobals "LESS_ONE" = some (some (.ref xt49)))
    (cl_xt68 : K.lookup xt68 = some ⟨.type "tuple", none, .seq #[.int 0 xu71, .int 1 xu72, .int 0 xu73] xn69, xs70⟩)
    (cl_xt65 : K.lookup xt65 = some ⟨.type "tuple", none, .seq #[.ref xt68, .int (-1) xu74] xn66, xs67⟩)
    (cl_xt62 : K.lookup xt62 = some ⟨.type "tuple", none, .seq #[.ref xt65] xn63, xs64⟩)
    (kc_LESS_Y : PySem.W.nsIn K mainGlobals "LESS_Y" = some (some (.ref xt62)))
    (kc_MOST_FIGURES_numberruns : PySem.W.nsIn K mainGlobals "MOST_FIGURES_numberruns" = some (some (.int 300 xu75)))
    (kc_MOST_FIGURES_pairtables : PySem.W.nsIn K mainGlobals "MOST_FIGURES_pairtables" = some (some (.int 300 xu76)))
    (kc_MOST_LETTERS : PySem.W.nsIn K mainGlobals "MOST_LETTERS" = some (some (.int 400 xu77)))
    (kc_MOST_PLACE : PySem.W.nsIn K mainGlobals "MOST_PLACE" = some (some (.int 1000000 xu78)))
    (kc_MOST_TERMS : PySem.W.nsIn K mainGlobals "MOST_TERMS" = some (some (.int 4000 xu79)))
    (cl_xt80 : K.lookup xt80 = some ⟨.type "tuple", none, .seq #[] xn81, xs82⟩)
    (kc_NOTHING : PySem.W.nsIn K mainGlobals "NOTHING" = some (some (.ref xt80)))
    (cl_xt83 : K.lookup xt83 = some ⟨.type "tuple", none, .seq #[.int 1 xu86, .int 0 xu87, .int 0 xu88, .int 1 xu89] xn84, xs85⟩)
    (kc_ONE_pairtables : PySem.W.nsIn K mainGlobals "ONE_pairtables" = some (some (.ref xt83)))
    (cl_xt96 : K.lookup xt96 = some ⟨.type "tuple", none, .seq #[.int 0 xu99, .int 0 xu100, .int 0 xu101] xn97, xs98⟩)
    (cl_xt93 : K.lookup xt93 = some ⟨.type "tuple", none, .seq #[.ref xt96, .int 1 xu102] xn94, xs95⟩)
    (cl_xt90 : K.lookup xt90 = some ⟨.type "tuple", none, .seq #[.ref xt93] xn91, xs92⟩)
    (kc_ONE_polysums : PySem.W.nsIn K mainGlobals "ONE_polysums" = some (some (.ref xt90)))
    (kc_ROUND : PySem.W.nsIn K mainGlobals "ROUND" = some (some (.str "round" xu103)))
    (kc_THESE : PySem.W.nsIn K mainGlobals "THESE" = some (some (.str "these" xu104)))
    (cl_xt111 : K.lookup xt111 = some ⟨.type "tuple", none, .seq #[.int 0 xu114, .int 0 xu115, .int 0 xu116] xn112, xs113⟩)
    (cl_xt108 : K.lookup xt108 = some ⟨.type "tuple", none, .seq #[.ref xt111, .int 2 xu117] xn109, xs110⟩)
    (cl_xt105 : K.lookup xt105 = some ⟨.type "tuple", none, .seq #[.ref xt108] xn106, xs107⟩)
    (kc_TWO : PySem.W.nsIn K mainGlobals "TWO" = some (some (.ref xt105)))
    (cl_xt124 : K.lookup xt124 = some ⟨.type "tuple", none, .seq #[.int 1 xu127, .int 0 xu128, .int 0 xu129] xn125, xs126⟩)
    (cl_xt121 : K.lookup xt121 = some ⟨.type "tuple", none, .seq #[.ref xt124, .int 1 xu130] xn122, xs123⟩)
    (cl_xt118 : K.lookup xt118 = some ⟨.type "tuple", none, .seq #[.ref xt121] xn119, xs120⟩)
    (kc_X : PySem.W.nsIn K mainGlobals "X" = some (some (.ref xt118)))
    (cl_xt137 : K.lookup xt137 = some ⟨.type "tuple", none, .seq #[.int 0 xu140, .int 1 xu141, .int 0 xu142] xn138, xs139⟩)
    (cl_xt134 : K.lookup xt134 = some ⟨.type "tuple", none, .seq #[.ref xt137, .int 1 xu143] xn135, xs136⟩)
    (cl_xt131 : K.lookup xt131 = some ⟨.type "tuple", none, .seq #[.ref xt134] xn132, xs133⟩)
    (kc_Y : PySem.W.nsIn K mainGlobals "Y" = some (some (.ref xt131)))
    (cl_xt150 : K.lookup xt150 = some ⟨.type "tuple", none, .seq #[.int 0 xu153, .int 0 xu154, .int 1 xu155] xn151, xs152⟩)
    (cl_xt147 : K.lookup xt147 = some ⟨.type "tuple", none, .seq #[.ref xt150, .int 1 xu156] xn148, xs149⟩)
    (cl_xt144 : K.lookup xt144 = some ⟨.type "tuple", none, .seq #[.ref xt147] xn145, xs146⟩)
    (kc_Z : PySem.W.nsIn K mainGlobals "Z" = some (some (.ref xt144)))
    (kd_low : (dR == sysModules) = false)
    (kd_h : rh1 = hashInt 1 ∧ rh2 = hashInt 0 ∧ rh3 = hashInt (-1))
    (kd_at : K.lookup dR = some ⟨.type "dict", none, .dict #[⟨rh1, .int 1 rk1, .int 6 rv1⟩, ⟨rh2, .int 0 rk2, .int 4 rv2⟩, ⟨rh3, .int (-1) rk3, .int 3 rv3⟩] rn, #[]⟩)
    (kc_ROUNDS : PySem.W.nsIn K mainGlobals "ROUNDS" = some (some (.ref dR)))
    : ∃ fd : FuncData, (∀ (s : Shared) (v : Value), BindsTo s fd ⟨[v], []⟩ [("script", v)]) ∧ ∀ base : Heap, K.In base → base.Ns mainGlobals mg → FnG l.prog w K mg base CX0 7 fa fd ["script"] (spOf K 1 lawFn) := by
  have e := hfa.symm.trans (PySem.W.mg_of X G a49)
  cases e
  have F0 := fun_mk (st := s__law_form_right) l0 c0 k0
  have D__law_form_right : DefAt K mg "_law_form_right" s__law_form_right ["told"] := defAt_mk X G a0 F0 (F0.binds (ps := ["told"]) fun _ _ _ _ _ _ us hl => match us, hl with | [_], _ => rfl)
  have F1 := fun_mk (st := s__law_in) l1 c1 k1
  have D__law_in : DefAt K mg "_law_in" s__law_in ["told", "n"] := defAt_mk X G a1 F1 (F1.binds (ps := ["told", "n"]) fun _ _ _ _ _ _ us hl => match us, hl with | [_, _], _ => rfl)
  have F2 := fun_mk (st := s__law_pick) l2 c2 k2
  have D__law_pick : DefAt K mg "_law_pick" s__law_pick ["source", "many"] := defAt_mk X G a2 F2 (F2.binds (ps := ["source", "many"]) fun _ _ _ _ _ _ us hl => match us, hl with | [_, _], _ => rfl)
  have F3 := fun_mk (st := s__law_of) l3 c3 k3
  have D__law_of : DefAt K mg "_law_of" s__law_of ["source", "some"] := defAt_mk X G a3 F3 (F3.binds (ps := ["source", "some"]) fun _ _ _ _ _ _ us hl => match us, hl with | [_, _], _ => rfl)
  have F4 := fun_mk (st := s__law_small) l4 c4 k4
  have D__law_small : DefAt K mg "_law_small" s__law_small ["source"] := defAt_mk X G a4 F4 (F4.binds (ps := ["source"]) fun _ _ _ _ _ _ us hl => match us, hl with | [_], _ => rfl)
  have F5 := fun_mk (st := s__law_source) l5 c5 k5
  have D__law_source : DefAt K mg "_law_source" s__law_source ["script"] := defAt_mk X G a5 F5 (F5.binds (ps := ["script"]) fun _ _ _ _ _ _ us hl => match us, hl with | [_], _ => rfl)
  have F6 := fun_mk (st := s__law_by) l6 c6 k6
  have D__law_by : DefAt K mg "_law_by" s__law_by ["one", "other"] := defAt_mk X G a6 F6 (F6.binds (ps := ["one", "other"]) fun _ _ _ _ _ _ us hl => match us, hl with | [_, _], _ => rfl)
  have F7 := fun_mk (st := s__law_table_of) l7 c7 k7
  have D__law_table_of : DefAt K mg "_law_table_of" s__law_table_of ["pair", "word"] := defAt_mk X G a7 F7 (F7.binds (ps := ["pair", "word"]) fun _ _ _ _ _ _ us hl => match us, hl with | [_, _], _ => rfl)
  have F8 := fun_mk (st := s__law_undone) l8 c8 k8
  have D__law_undone : DefAt K mg "_law_undone" s__law_undone ["word"] := defAt_mk X G a8 F8 (F8.binds (ps := ["word"]) fun _ _ _ _ _ _ us hl => match us, hl with | [_], _ => rfl)
  have F9 := fun_mk (st := s__law_taken) l9 c9 k9
  have D__law_taken : DefAt K mg "_law_taken" s__law_taken ["pair", "one", "other", "n"] := defAt_mk X G a9 F9 (F9.binds (ps := ["pair", "one", "other", "n"]) fun _ _ _ _ _ _ us hl => match us, hl with | [_, _, _, _], _ => rfl)
  have F10 := fun_mk (st := s__law_low) l10 c10 k10
  have D__law_low : DefAt K mg "_law_low" s__law_low ["letters"] := defAt_mk X G a10 F10 (F10.binds (ps := ["letters"]) fun _ _ _ _ _ _ us hl => match us, hl with | [_], _ => rfl)
  have F11 := fun_mk (st := s__law_word) l11 c11 k11
  have D__law_word : DefAt K mg "_law_word" s__law_word ["source", "most"] := defAt_mk X G a11 F11 (F11.binds (ps := ["source", "most"]) fun _ _ _ _ _ _ us hl => match us, hl with | [_, _], _ => rfl)
  have F12 := fun_mk (st := s_least_long) l12 c12 k12
  have D_least_long : DefAt K mg "least_long" s_least_long [] := defAt_mk X G a12 F12 (F12.binds (ps := []) fun _ _ _ _ _ _ us hl => match us, hl with | [], _ => rfl)
  have F13 := fun_mk (st := s_not_long_numberruns) l13 c13 k13
  have D_not_long_numberruns : DefAt2 K mg "not_long_numberruns" "not_long" s_not_long_numberruns ["number"] := defAt2_mk X G a13 F13 (F13.binds (ps := ["number"]) fun _ _ _ _ _ _ us hl => match us, hl with | [_], _ => rfl)
  have F14 := fun_mk (st := s_far_at) l14 c14 k14
  have D_far_at : DefAt K mg "far_at" s_far_at ["numbers", "place"] := defAt_mk X G a14 F14 (F14.binds (ps := ["numbers", "place"]) fun _ _ _ _ _ _ us hl => match us, hl with | [_, _], _ => rfl)
  have F15 := fun_mk (st := s_line_at) l15 c15 k15
  have D_line_at : DefAt K mg "line_at" s_line_at ["first", "rise", "place"] := defAt_mk X G a15 F15 (F15.binds (ps := ["first", "rise", "place"]) fun _ _ _ _ _ _ us hl => match us, hl with | [_, _, _], _ => rfl)
  have F16 := fun_mk (st := s_numbers_back) l16 c16 k16
  have D_numbers_back : DefAt K mg "numbers_back" s_numbers_back ["numbers"] := defAt_mk X G a16 F16 (F16.binds (ps := ["numbers"]) fun _ _ _ _ _ _ us hl => match us, hl with | [_], _ => rfl)
  have F17 := fun_mk (st := s_round_numbers) l17 c17 k17
  have D_round_numbers : DefAt K mg "round_numbers" s_round_numbers ["numbers"] := defAt_mk X G a17 F17 (F17.binds (ps := ["numbers"]) fun _ _ _ _ _ _ us hl => match us, hl with | [_], _ => rfl)
  have F18 := fun_mk (st := s_number_at) l18 c18 k18
  have D_number_at : DefAt K mg "number_at" s_number_at ["numbers", "place"] := defAt_mk X G a18 F18 (F18.binds (ps := ["numbers", "place"]) fun _ _ _ _ _ _ us hl => match us, hl with | [_, _], _ => rfl)
  have F19 := fun_mk (st := s_far_places) l19 c19 k19
  have D_far_places : DefAt K mg "far_places" s_far_places ["numbers", "number"] := defAt_mk X G a19 F19 (F19.binds (ps := ["numbers", "number"]) fun _ _ _ _ _ _ us hl => match us, hl with | [_, _], _ => rfl)
  have F20 := fun_mk (st := s_line_when) l20 c20 k20
  have D_line_when : DefAt K mg "line_when" s_line_when ["first", "rise", "number"] := defAt_mk X G a20 F20 (F20.binds (ps := ["first", "rise", "number"]) fun _ _ _ _ _ _ us hl => match us, hl with | [_, _, _], _ => rfl)
  have F21 := fun_mk (st := s_round_told) l21 c21 k21
  have D_round_told : DefAt K mg "round_told" s_round_told ["length", "places"] := defAt_mk X G a21 F21 (F21.binds (ps := ["length", "places"]) fun _ _ _ _ _ _ us hl => match us, hl with | [_, _], _ => rfl)
  have F22 := fun_mk (st := s_lines_when) l22 c22 k22
  have D_lines_when : DefAt K mg "lines_when" s_lines_when ["numbers", "number"] := defAt_mk X G a22 F22 (F22.binds (ps := ["numbers", "number"]) fun _ _ _ _ _ _ us hl => match us, hl with | [_, _], _ => rfl)
  have F23 := fun_mk (st := s_numbers_when) l23 c23 k23
  have D_numbers_when : DefAt K mg "numbers_when" s_numbers_when ["numbers", "number"] := defAt_mk X G a23 F23 (F23.binds (ps := ["numbers", "number"]) fun _ _ _ _ _ _ us hl => match us, hl with | [_, _], _ => rfl)
  have F24 := fun_mk (st := s_number_powers) l24 c24 k24
  have D_number_powers : DefAt K mg "number_powers" s_number_powers ["number", "most"] := defAt_mk X G a24 F24 (F24.binds (ps := ["number", "most"]) fun _ _ _ _ _ _ us hl => match us, hl with | [_, _], _ => rfl)
  have F25 := fun_mk (st := s_poly_degrees) l25 c25 k25
  have D_poly_degrees : DefAt K mg "poly_degrees" s_poly_degrees ["one"] := defAt_mk X G a25 F25 (F25.binds (ps := ["one"]) fun _ _ _ _ _ _ us hl => match us, hl with | [_], _ => rfl)
  have F26 := fun_mk (st := s_poly_value) l26 c26 k26
  have D_poly_value : DefAt K mg "poly_value" s_poly_value ["one", "triple"] := defAt_mk X G a26 F26 (F26.binds (ps := ["one", "triple"]) fun _ _ _ _ _ _ us hl => match us, hl with | [_, _], _ => rfl)
  have F27 := fun_mk (st := s_power_numbers) l27 c27 k27
  have D_power_numbers : DefAt K mg "power_numbers" s_power_numbers ["told", "triple"] := defAt_mk X G a27 F27 (F27.binds (ps := ["told", "triple"]) fun _ _ _ _ _ _ us hl => match us, hl with | [_, _], _ => rfl)
  have F28 := fun_mk (st := s_four_by_one) l28 c28 k28
  have D_four_by_one : DefAt K mg "four_by_one" s_four_by_one ["four"] := defAt_mk X G a28 F28 (F28.binds (ps := ["four"]) fun _ _ _ _ _ _ us hl => match us, hl with | [_], _ => rfl)
  have F29 := fun_mk (st := s_four_by_other) l29 c29 k29
  have D_four_by_other : DefAt K mg "four_by_other" s_four_by_other ["four"] := defAt_mk X G a29 F29 (F29.binds (ps := ["four"]) fun _ _ _ _ _ _ us hl => match us, hl with | [_], _ => rfl)
  have F30 := fun_mk (st := s_poly_taken) l30 c30 k30
  have D_poly_taken : DefAt K mg "poly_taken" s_poly_taken ["one", "number"] := defAt_mk X G a30 F30 (F30.binds (ps := ["one", "number"]) fun _ _ _ _ _ _ us hl => match us, hl with | [_, _], _ => rfl)
  have F31 := fun_mk (st := s_less_all) l31 c31 k31
  have D_less_all : DefAt K mg "less_all" s_less_all ["pairs"] := defAt_mk X G a31 F31 (F31.binds (ps := ["pairs"]) fun _ _ _ _ _ _ us hl => match us, hl with | [_], _ => rfl)
  have F32 := fun_mk (st := s_poly_told) l32 c32 k32
  have D_poly_told : DefAt K mg "poly_told" s_poly_told ["terms"] := defAt_mk X G a32 F32 (F32.binds (ps := ["terms"]) fun _ _ _ _ _ _ us hl => match us, hl with | [_], _ => rfl)
  have F33 := fun_mk (st := s_sum_of_products) l33 c33 k33
  have D_sum_of_products : DefAt K mg "sum_of_products" s_sum_of_products ["pairs"] := defAt_mk X G a33 F33 (F33.binds (ps := ["pairs"]) fun _ _ _ _ _ _ us hl => match us, hl with | [_], _ => rfl)
  have F34 := fun_mk (st := s_four_letter) l34 c34 k34
  have D_four_letter : DefAt K mg "four_letter" s_four_letter ["four", "letter"] := defAt_mk X G a34 F34 (F34.binds (ps := ["four", "letter"]) fun _ _ _ _ _ _ us hl => match us, hl with | [_, _], _ => rfl)
  have F35 := fun_mk (st := s_four_told) l35 c35 k35
  have D_four_told : DefAt K mg "four_told" s_four_told ["word"] := defAt_mk X G a35 F35 (F35.binds (ps := ["word"]) fun _ _ _ _ _ _ us hl => match us, hl with | [_], _ => rfl)
  have F36 := fun_mk (st := s_trace_of_traces) l36 c36 k36
  have D_trace_of_traces : DefAt2 K mg "trace_of_traces" "trace_of" s_trace_of_traces ["four"] := defAt2_mk X G a36 F36 (F36.binds (ps := ["four"]) fun _ _ _ _ _ _ us hl => match us, hl with | [_], _ => rfl)
  have F37 := fun_mk (st := s_trace_told) l37 c37 k37
  have D_trace_told : DefAt K mg "trace_told" s_trace_told ["word"] := defAt_mk X G a37 F37 (F37.binds (ps := ["word"]) fun _ _ _ _ _ _ us hl => match us, hl with | [_], _ => rfl)
  have F38 := fun_mk (st := s_not_long_words) l38 c38 k38
  have D_not_long_words : DefAt2 K mg "not_long_words" "not_long" s_not_long_words ["word"] := defAt2_mk X G a38 F38 (F38.binds (ps := ["word"]) fun _ _ _ _ _ _ us hl => match us, hl with | [_], _ => rfl)
  have F39 := fun_mk (st := s_word_low) l39 c39 k39
  have D_word_low : DefAt K mg "word_low" s_word_low ["letters"] := defAt_mk X G a39 F39 (F39.binds (ps := ["letters"]) fun _ _ _ _ _ _ us hl => match us, hl with | [_], _ => rfl)
  have F40 := fun_mk (st := s_words_put) l40 c40 k40
  have D_words_put : DefAt K mg "words_put" s_words_put ["one", "other"] := defAt_mk X G a40 F40 (F40.binds (ps := ["one", "other"]) fun _ _ _ _ _ _ us hl => match us, hl with | [_, _], _ => rfl)
  have F41 := fun_mk (st := s_power_told) l41 c41 k41
  have D_power_told : DefAt K mg "power_told" s_power_told ["one", "other"] := defAt_mk X G a41 F41 (F41.binds (ps := ["one", "other"]) fun _ _ _ _ _ _ us hl => match us, hl with | [_, _], _ => rfl)
  have F42 := fun_mk (st := s_table_times) l42 c42 k42
  have D_table_times : DefAt K mg "table_times" s_table_times ["one", "other"] := defAt_mk X G a42 F42 (F42.binds (ps := ["one", "other"]) fun _ _ _ _ _ _ us hl => match us, hl with | [_, _], _ => rfl)
  have F43 := fun_mk (st := s_trace_of_pairtables) l43 c43 k43
  have D_trace_of_pairtables : DefAt2 K mg "trace_of_pairtables" "trace_of" s_trace_of_pairtables ["one"] := defAt2_mk X G a43 F43 (F43.binds (ps := ["one"]) fun _ _ _ _ _ _ us hl => match us, hl with | [_], _ => rfl)
  have F44 := fun_mk (st := s_traced) l44 c44 k44
  have D_traced : DefAt K mg "traced" s_traced ["pair"] := defAt_mk X G a44 F44 (F44.binds (ps := ["pair"]) fun _ _ _ _ _ _ us hl => match us, hl with | [_], _ => rfl)
  have F45 := fun_mk (st := s_table_undone) l45 c45 k45
  have D_table_undone : DefAt K mg "table_undone" s_table_undone ["one"] := defAt_mk X G a45 F45 (F45.binds (ps := ["one"]) fun _ _ _ _ _ _ us hl => match us, hl with | [_], _ => rfl)
  have F46 := fun_mk (st := s_letter_table) l46 c46 k46
  have D_letter_table : DefAt K mg "letter_table" s_letter_table ["pair", "letter"] := defAt_mk X G a46 F46 (F46.binds (ps := ["pair", "letter"]) fun _ _ _ _ _ _ us hl => match us, hl with | [_, _], _ => rfl)
  have F47 := fun_mk (st := s_not_long_pairtables) l47 c47 k47
  have D_not_long_pairtables : DefAt2 K mg "not_long_pairtables" "not_long" s_not_long_pairtables ["table"] := defAt2_mk X G a47 F47 (F47.binds (ps := ["table"]) fun _ _ _ _ _ _ us hl => match us, hl with | [_], _ => rfl)
  have F48 := fun_mk (st := s_word_table) l48 c48 k48
  have D_word_table : DefAt K mg "word_table" s_word_table ["pair", "word"] := defAt_mk X G a48 F48 (F48.binds (ps := ["pair", "word"]) fun _ _ _ _ _ _ us hl => match us, hl with | [_, _], _ => rfl)
  have T : Txt w K mg := ⟨PySem.W.mg_none_of X G z_abs, PySem.W.mg_none_of X G z_enumerate, PySem.W.mg_none_of X G z_int, PySem.W.mg_none_of X G z_len, PySem.W.mg_none_of X G z_list, PySem.W.mg_none_of X G z_max, PySem.W.mg_none_of X G z_range, PySem.W.mg_none_of X G z_repr, PySem.W.mg_none_of X G z_sorted, PySem.W.mg_none_of X G z_str, PySem.W.mg_none_of X G z_sum, PySem.W.mg_none_of X G z_tuple, PySem.W.mg_none_of X G z_zip, ⟨.ref xt1, _, PySem.W.mg_of X G kc_BEGUN, rfl, fun _ => (.tup (xs := [.ref xt4, .ref xt17, .ref xt20, .ref xt23]) (.inr ⟨_, _, _, cl_xt1, rfl, rfl, by rw [sizeLine_eq]; simp, (.cons rfl (.cons rfl (.cons rfl (.cons rfl .nil))))⟩) (fun _ => .inr ⟨_, cl_xt1, rfl⟩) (.cons (.tup (xs := [.ref xt7]) (.inr ⟨_, _, _, cl_xt4, rfl, rfl, by rw [sizeLine_eq]; simp, (.cons rfl .nil)⟩) (fun _ => .inr ⟨_, cl_xt4, rfl⟩) (.cons (.tup (xs := [.ref xt10, .int 1]) (.inr ⟨_, _, _, cl_xt7, rfl, rfl, by rw [sizeLine_eq]; simp, (.cons rfl (.cons ⟨_, rfl⟩ .nil))⟩) (fun _ => .inr ⟨_, cl_xt7, rfl⟩) (.cons (.tup (xs := [.int 0, .int 0, .int 0]) (.inr ⟨_, _, _, cl_xt10, rfl, rfl, by rw [sizeLine_eq]; simp, (.cons ⟨_, rfl⟩ (.cons ⟨_, rfl⟩ (.cons ⟨_, rfl⟩ .nil)))⟩) (fun _ => .inr ⟨_, cl_xt10, rfl⟩) (.cons (.int _) (.cons (.int _) (.cons (.int _) .nil)))) (.cons (.int _) .nil))) .nil)) (.cons (.tup (xs := []) (.inr ⟨_, _, _, cl_xt17, rfl, rfl, by rw [sizeLine_eq]; simp, .nil⟩) (fun _ => .inr ⟨_, cl_xt17, rfl⟩) .nil) (.cons (.tup (xs := []) (.inr ⟨_, _, _, cl_xt20, rfl, rfl, by rw [sizeLine_eq]; simp, .nil⟩) (fun _ => .inr ⟨_, cl_xt20, rfl⟩) .nil) (.cons (.tup (xs := []) (.inr ⟨_, _, _, cl_xt23, rfl, rfl, by rw [sizeLine_eq]; simp, .nil⟩) (fun _ => .inr ⟨_, cl_xt23, rfl⟩) .nil) .nil)))))⟩, ⟨.ref xt26, _, PySem.W.mg_of X G kc_LEFT_OVER, rfl, fun _ => (.tup (xs := [.ref xt29, .ref xt39]) (.inr ⟨_, _, _, cl_xt26, rfl, rfl, by rw [sizeLine_eq]; simp, (.cons rfl (.cons rfl .nil))⟩) (fun _ => .inr ⟨_, cl_xt26, rfl⟩) (.cons (.tup (xs := [.ref xt32, .int 1]) (.inr ⟨_, _, _, cl_xt29, rfl, rfl, by rw [sizeLine_eq]; simp, (.cons rfl (.cons ⟨_, rfl⟩ .nil))⟩) (fun _ => .inr ⟨_, cl_xt29, rfl⟩) (.cons (.tup (xs := [.int 0, .int 0, .int 1]) (.inr ⟨_, _, _, cl_xt32, rfl, rfl, by rw [sizeLine_eq]; simp, (.cons ⟨_, rfl⟩ (.cons ⟨_, rfl⟩ (.cons ⟨_, rfl⟩ .nil)))⟩) (fun _ => .inr ⟨_, cl_xt32, rfl⟩) (.cons (.int _) (.cons (.int _) (.cons (.int _) .nil)))) (.cons (.int _) .nil))) (.cons (.tup (xs := [.ref xt42, .int (-1)]) (.inr ⟨_, _, _, cl_xt39, rfl, rfl, by rw [sizeLine_eq]; simp, (.cons rfl (.cons ⟨_, rfl⟩ .nil))⟩) (fun _ => .inr ⟨_, cl_xt39, rfl⟩) (.cons (.tup (xs := [.int 1, .int 1, .int 0]) (.inr ⟨_, _, _, cl_xt42, rfl, rfl, by rw [sizeLine_eq]; simp, (.cons ⟨_, rfl⟩ (.cons ⟨_, rfl⟩ (.cons ⟨_, rfl⟩ .nil)))⟩) (fun _ => .inr ⟨_, cl_xt42, rfl⟩) (.cons (.int _) (.cons (.int _) (.cons (.int _) .nil)))) (.cons (.int _) .nil))) .nil)))⟩, ⟨.ref xt49, _, PySem.W.mg_of X G kc_LESS_ONE, rfl, fun _ => (.tup (xs := [.ref xt52]) (.inr ⟨_, _, _, cl_xt49, rfl, rfl, by rw [sizeLine_eq]; simp, (.cons rfl .nil)⟩) (fun _ => .inr ⟨_, cl_xt49, rfl⟩) (.cons (.tup (xs := [.ref xt55, .int (-1)]) (.inr ⟨_, _, _, cl_xt52, rfl, rfl, by rw [sizeLine_eq]; simp, (.cons rfl (.cons ⟨_, rfl⟩ .nil))⟩) (fun _ => .inr ⟨_, cl_xt52, rfl⟩) (.cons (.tup (xs := [.int 0, .int 0, .int 0]) (.inr ⟨_, _, _, cl_xt55, rfl, rfl, by rw [sizeLine_eq]; simp, (.cons ⟨_, rfl⟩ (.cons ⟨_, rfl⟩ (.cons ⟨_, rfl⟩ .nil)))⟩) (fun _ => .inr ⟨_, cl_xt55, rfl⟩) (.cons (.int _) (.cons (.int _) (.cons (.int _) .nil)))) (.cons (.int _) .nil))) .nil))⟩, ⟨.ref xt62, _, PySem.W.mg_of X G kc_LESS_Y, rfl, fun _ => (.tup (xs := [.ref xt65]) (.inr ⟨_, _, _, cl_xt62, rfl, rfl, by rw [sizeLine_eq]; simp, (.cons rfl .nil)⟩) (fun _ => .inr ⟨_, cl_xt62, rfl⟩) (.cons (.tup (xs := [.ref xt68, .int (-1)]) (.inr ⟨_, _, _, cl_xt65, rfl, rfl, by rw [sizeLine_eq]; simp, (.cons rfl (.cons ⟨_, rfl⟩ .nil))⟩) (fun _ => .inr ⟨_, cl_xt65, rfl⟩) (.cons (.tup (xs := [.int 0, .int 1, .int 0]) (.inr ⟨_, _, _, cl_xt68, rfl, rfl, by rw [sizeLine_eq]; simp, (.cons ⟨_, rfl⟩ (.cons ⟨_, rfl⟩ (.cons ⟨_, rfl⟩ .nil)))⟩) (fun _ => .inr ⟨_, cl_xt68, rfl⟩) (.cons (.int _) (.cons (.int _) (.cons (.int _) .nil)))) (.cons (.int _) .nil))) .nil))⟩, ⟨.int 300, _, PySem.W.mg_of X G kc_MOST_FIGURES_numberruns, ⟨_, rfl⟩, fun _ => (.int _)⟩, ⟨.int 300, _, PySem.W.mg_of X G kc_MOST_FIGURES_pairtables, ⟨_, rfl⟩, fun _ => (.int _)⟩, ⟨.int 400, _, PySem.W.mg_of X G kc_MOST_LETTERS, ⟨_, rfl⟩, fun _ => (.int _)⟩, ⟨.int 1000000, _, PySem.W.mg_of X G kc_MOST_PLACE, ⟨_, rfl⟩, fun _ => (.int _)⟩, ⟨.int 4000, _, PySem.W.mg_of X G kc_MOST_TERMS, ⟨_, rfl⟩, fun _ => (.int _)⟩, ⟨.ref xt80, _, PySem.W.mg_of X G kc_NOTHING, rfl, fun _ => (.tup (xs := []) (.inr ⟨_, _, _, cl_xt80, rfl, rfl, by rw [sizeLine_eq]; simp, .nil⟩) (fun _ => .inr ⟨_, cl_xt80, rfl⟩) .nil)⟩, ⟨.ref xt83, _, PySem.W.mg_of X G kc_ONE_pairtables, rfl, fun _ => (.tup (xs := [.int 1, .int 0, .int 0, .int 1]) (.inr ⟨_, _, _, cl_xt83, rfl, rfl, by rw [sizeLine_eq]; simp, (.cons ⟨_, rfl⟩ (.cons ⟨_, rfl⟩ (.cons ⟨_, rfl⟩ (.cons ⟨_, rfl⟩ .nil))))⟩) (fun _ => .inr ⟨_, cl_xt83, rfl⟩) (.cons (.int _) (.cons (.int _) (.cons (.int _) (.cons (.int _) .nil)))))⟩, ⟨.ref xt90, _, PySem.W.mg_of X G kc_ONE_polysums, rfl, fun _ => (.tup (xs := [.ref xt93]) (.inr ⟨_, _, _, cl_xt90, rfl, rfl, by rw [sizeLine_eq]; simp, (.cons rfl .nil)⟩) (fun _ => .inr ⟨_, cl_xt90, rfl⟩) (.cons (.tup (xs := [.ref xt96, .int 1]) (.inr ⟨_, _, _, cl_xt93, rfl, rfl, by rw [sizeLine_eq]; simp, (.cons rfl (.cons ⟨_, rfl⟩ .nil))⟩) (fun _ => .inr ⟨_, cl_xt93, rfl⟩) (.cons (.tup (xs := [.int 0, .int 0, .int 0]) (.inr ⟨_, _, _, cl_xt96, rfl, rfl, by rw [sizeLine_eq]; simp, (.cons ⟨_, rfl⟩ (.cons ⟨_, rfl⟩ (.cons ⟨_, rfl⟩ .nil)))⟩) (fun _ => .inr ⟨_, cl_xt96, rfl⟩) (.cons (.int _) (.cons (.int _) (.cons (.int _) .nil)))) (.cons (.int _) .nil))) .nil))⟩, ⟨.str "round", _, PySem.W.mg_of X G kc_ROUND, ⟨_, rfl⟩, fun _ => (.str _)⟩, ⟨.str "these", _, PySem.W.mg_of X G kc_THESE, ⟨_, rfl⟩, fun _ => (.str _)⟩, ⟨.ref xt105, _, PySem.W.mg_of X G kc_TWO, rfl, fun _ => (.tup (xs := [.ref xt108]) (.inr ⟨_, _, _, cl_xt105, rfl, rfl, by rw [sizeLine_eq]; simp, (.cons rfl .nil)⟩) (fun _ => .inr ⟨_, cl_xt105, rfl⟩) (.cons (.tup (xs := [.ref xt111, .int 2]) (.inr ⟨_, _, _, cl_xt108, rfl, rfl, by rw [sizeLine_eq]; simp, (.cons rfl (.cons ⟨_, rfl⟩ .nil))⟩) (fun _ => .inr ⟨_, cl_xt108, rfl⟩) (.cons (.tup (xs := [.int 0, .int 0, .int 0]) (.inr ⟨_, _, _, cl_xt111, rfl, rfl, by rw [sizeLine_eq]; simp, (.cons ⟨_, rfl⟩ (.cons ⟨_, rfl⟩ (.cons ⟨_, rfl⟩ .nil)))⟩) (fun _ => .inr ⟨_, cl_xt111, rfl⟩) (.cons (.int _) (.cons (.int _) (.cons (.int _) .nil)))) (.cons (.int _) .nil))) .nil))⟩, ⟨.ref xt118, _, PySem.W.mg_of X G kc_X, rfl, fun _ => (.tup (xs := [.ref xt121]) (.inr ⟨_, _, _, cl_xt118, rfl, rfl, by rw [sizeLine_eq]; simp, (.cons rfl .nil)⟩) (fun _ => .inr ⟨_, cl_xt118, rfl⟩) (.cons (.tup (xs := [.ref xt124, .int 1]) (.inr ⟨_, _, _, cl_xt121, rfl, rfl, by rw [sizeLine_eq]; simp, (.cons rfl (.cons ⟨_, rfl⟩ .nil))⟩) (fun _ => .inr ⟨_, cl_xt121, rfl⟩) (.cons (.tup (xs := [.int 1, .int 0, .int 0]) (.inr ⟨_, _, _, cl_xt124, rfl, rfl, by rw [sizeLine_eq]; simp, (.cons ⟨_, rfl⟩ (.cons ⟨_, rfl⟩ (.cons ⟨_, rfl⟩ .nil)))⟩) (fun _ => .inr ⟨_, cl_xt124, rfl⟩) (.cons (.int _) (.cons (.int _) (.cons (.int _) .nil)))) (.cons (.int _) .nil))) .nil))⟩, ⟨.ref xt131, _, PySem.W.mg_of X G kc_Y, rfl, fun _ => (.tup (xs := [.ref xt134]) (.inr ⟨_, _, _, cl_xt131, rfl, rfl, by rw [sizeLine_eq]; simp, (.cons rfl .nil)⟩) (fun _ => .inr ⟨_, cl_xt131, rfl⟩) (.cons (.tup (xs := [.ref xt137, .int 1]) (.inr ⟨_, _, _, cl_xt134, rfl, rfl, by rw [sizeLine_eq]; simp, (.cons rfl (.cons ⟨_, rfl⟩ .nil))⟩) (fun _ => .inr ⟨_, cl_xt134, rfl⟩) (.cons (.tup (xs := [.int 0, .int 1, .int 0]) (.inr ⟨_, _, _, cl_xt137, rfl, rfl, by rw [sizeLine_eq]; simp, (.cons ⟨_, rfl⟩ (.cons ⟨_, rfl⟩ (.cons ⟨_, rfl⟩ .nil)))⟩) (fun _ => .inr ⟨_, cl_xt137, rfl⟩) (.cons (.int _) (.cons (.int _) (.cons (.int _) .nil)))) (.cons (.int _) .nil))) .nil))⟩, ⟨.ref xt144, _, PySem.W.mg_of X G kc_Z, rfl, fun _ => (.tup (xs := [.ref xt147]) (.inr ⟨_, _, _, cl_xt144, rfl, rfl, by rw [sizeLine_eq]; simp, (.cons rfl .nil)⟩) (fun _ => .inr ⟨_, cl_xt144, rfl⟩) (.cons (.tup (xs := [.ref xt150, .int 1]) (.inr ⟨_, _, _, cl_xt147, rfl, rfl, by rw [sizeLine_eq]; simp, (.cons rfl (.cons ⟨_, rfl⟩ .nil))⟩) (fun _ => .inr ⟨_, cl_xt147, rfl⟩) (.cons (.tup (xs := [.int 0, .int 0, .int 1]) (.inr ⟨_, _, _, cl_xt150, rfl, rfl, by rw [sizeLine_eq]; simp, (.cons ⟨_, rfl⟩ (.cons ⟨_, rfl⟩ (.cons ⟨_, rfl⟩ .nil)))⟩) (fun _ => .inr ⟨_, cl_xt150, rfl⟩) (.cons (.int _) (.cons (.int _) (.cons (.int _) .nil)))) (.cons (.int _) .nil))) .nil))⟩, roundsAt X G kc_ROUNDS kd_at kd_h kd_low⟩
  refine ⟨PySem.W.fnOf "law" "law" (defArgs s_law) (defBody s_law) (defScope s_law) .none kV49 dc49 pm49 an49 cd49 ct49, fun s v => .of_eq rfl, fun base _ _ => ?_⟩
  have C__law_form_right := ok__law_form_right (P := l.prog) (w := w) (base := base) T  D__law_form_right
  have C__law_in := ok__law_in (P := l.prog) (w := w) (base := base) T  D__law_in
  have C__law_pick := ok__law_pick (P := l.prog) (w := w) (base := base) T  D__law_pick
  have C__law_of := ok__law_of (P := l.prog) (w := w) (base := base) T C__law_pick D__law_of
  have C__law_small := ok__law_small (P := l.prog) (w := w) (base := base) T C__law_of D__law_small
  have C__law_source := ok__law_source (P := l.prog) (w := w) (base := base) T  D__law_source
  have C__law_by := ok__law_by (P := l.prog) (w := w) (base := base) T  D__law_by
  have C__law_table_of := ok__law_table_of (P := l.prog) (w := w) (base := base) T C__law_by D__law_table_of
  have C__law_undone := ok__law_undone (P := l.prog) (w := w) (base := base) T  D__law_undone
  have C__law_taken := ok__law_taken (P := l.prog) (w := w) (base := base) T C__law_by C__law_table_of C__law_undone D__law_taken
  have C__law_low := ok__law_low (P := l.prog) (w := w) (base := base) T  D__law_low
  have C__law_word := ok__law_word (P := l.prog) (w := w) (base := base) T C__law_low C__law_of C__law_pick D__law_word
  have C_least_long := ok_least_long (P := l.prog) (w := w) (base := base) T  D_least_long
  have C_not_long_numberruns := ok_not_long_numberruns (P := l.prog) (w := w) (base := base) T C_least_long D_not_long_numberruns
  have C_far_at := ok_far_at (P := l.prog) (w := w) (base := base) T C_least_long C_not_long_numberruns D_far_at
  have C_line_at := ok_line_at (P := l.prog) (w := w) (base := base) T  D_line_at
  have C_numbers_back := ok_numbers_back (P := l.prog) (w := w) (base := base) T  D_numbers_back
  have C_round_numbers := ok_round_numbers (P := l.prog) (w := w) (base := base) T  D_round_numbers
  have C_number_at := ok_number_at (P := l.prog) (w := w) (base := base) T C_far_at C_line_at C_not_long_numberruns C_numbers_back C_round_numbers D_number_at
  have C_far_places := ok_far_places (P := l.prog) (w := w) (base := base) T  D_far_places
  have C_line_when := ok_line_when (P := l.prog) (w := w) (base := base) T  D_line_when
  have C_round_told := ok_round_told (P := l.prog) (w := w) (base := base) T  D_round_told
  have C_lines_when := ok_lines_when (P := l.prog) (w := w) (base := base) T C_line_when C_round_told D_lines_when
  have C_numbers_when := ok_numbers_when (P := l.prog) (w := w) (base := base) T C_far_places C_lines_when C_numbers_back C_round_numbers C_round_told D_numbers_when
  have C_number_powers := ok_number_powers (P := l.prog) (w := w) (base := base) T  D_number_powers
  have C_poly_degrees := ok_poly_degrees (P := l.prog) (w := w) (base := base) T  D_poly_degrees
  have C_poly_value := ok_poly_value (P := l.prog) (w := w) (base := base) T C_number_powers C_poly_degrees D_poly_value
  have C_power_numbers := ok_power_numbers (P := l.prog) (w := w) (base := base) T C_poly_value D_power_numbers
  have C_four_by_one := ok_four_by_one (P := l.prog) (w := w) (base := base) T  D_four_by_one
  have C_four_by_other := ok_four_by_other (P := l.prog) (w := w) (base := base) T  D_four_by_other
  have C_poly_taken := ok_poly_taken (P := l.prog) (w := w) (base := base) T  D_poly_taken
  have C_less_all := ok_less_all (P := l.prog) (w := w) (base := base) T C_poly_taken D_less_all
  have C_poly_told := ok_poly_told (P := l.prog) (w := w) (base := base) T  D_poly_told
  have C_sum_of_products := ok_sum_of_products (P := l.prog) (w := w) (base := base) T C_poly_told D_sum_of_products
  have C_four_letter := ok_four_letter (P := l.prog) (w := w) (base := base) T C_four_by_one C_four_by_other C_less_all C_sum_of_products D_four_letter
  have C_four_told := ok_four_told (P := l.prog) (w := w) (base := base) T C_four_letter D_four_told
  have C_trace_of_traces := ok_trace_of_traces (P := l.prog) (w := w) (base := base) T C_sum_of_products D_trace_of_traces
  have C_trace_told := ok_trace_told (P := l.prog) (w := w) (base := base) T C_four_told C_trace_of_traces D_trace_told
  have C_not_long_words := ok_not_long_words (P := l.prog) (w := w) (base := base) T  D_not_long_words
  have C_word_low := ok_word_low (P := l.prog) (w := w) (base := base) T  D_word_low
  have C_words_put := ok_words_put (P := l.prog) (w := w) (base := base) T C_not_long_words C_word_low D_words_put
  have C_power_told := ok_power_told (P := l.prog) (w := w) (base := base) T C_trace_told C_words_put D_power_told
  have C_table_times := ok_table_times (P := l.prog) (w := w) (base := base) T  D_table_times
  have C_trace_of_pairtables := ok_trace_of_pairtables (P := l.prog) (w := w) (base := base) T  D_trace_of_pairtables
  have C_traced := ok_traced (P := l.prog) (w := w) (base := base) T C_table_times C_trace_of_pairtables D_traced
  have C_table_undone := ok_table_undone (P := l.prog) (w := w) (base := base) T  D_table_undone
  have C_letter_table := ok_letter_table (P := l.prog) (w := w) (base := base) T C_table_undone D_letter_table
  have C_not_long_pairtables := ok_not_long_pairtables (P := l.prog) (w := w) (base := base) T  D_not_long_pairtables
  have C_word_table := ok_word_table (P := l.prog) (w := w) (base := base) T C_letter_table C_not_long_pairtables C_table_times D_word_table
  exact ok_law T C__law_form_right C__law_in C__law_of C__law_pick C__law_small C__law_source C__law_table_of C__law_taken C__law_word C_number_at C_numbers_when C_power_numbers C_power_told C_traced C_word_table (fun_mk (st := s_law) l49 c49 k49)
end QL

open PySem PySem.W PyProof.Rows in
set_option maxRecDepth 100000 in
set_option maxHeartbeats 0 in
theorem PySem.Challenge.cw_tracetriples_k47_whole_at_triples_of_pai_holds : PySem.Challenge.rw_tracetriples_k47_whole_at_triples_of_pai.Holds := by
  w_on; o_law; k_head; (case hw => w_witness2)
  k_fill
  refine QL.walkG (k := 7) (x := "script") (l := PySem.Challenge.rw_tracetriples_k47_whole_at_triples_of_pai) rfl rfl ⟨rfl, by decide, by decide⟩ (fun w h Y => PySem.W.kIn_of Y) ?F
  case F =>
    intro w mg fa h KX G hmg
    refine' QL.all_mk KX G hmg ?a0 ?l0 ?c0 ?k0 ?a1 ?l1 ?c1 ?k1 ?a2 ?l2 ?c2 ?k2 ?a3 ?l3 ?c3 ?k3 ?a4 ?l4 ?c4 ?k4 ?a5 ?l5 ?c5 ?k5 ?a6 ?l6 ?c6 ?k6 ?a7 ?l7 ?c7 ?k7 ?a8 ?l8 ?c8 ?k8 ?a9 ?l9 ?c9 ?k9 ?a10 ?l10 ?c10 ?k10 ?a11 ?l11 ?c11 ?k11 ?a12 ?l12 ?c12 ?k12 ?a13 ?l13 ?c13 ?k13 ?a14 ?l14 ?c14 ?k14 ?a15 ?l15 ?c15 ?k15 ?a16 ?l16 ?c16 ?k16 ?a17 ?l17 ?c17 ?k17 ?a18 ?l18 ?c18 ?k18 ?a19 ?l19 ?c19 ?k19 ?a20 ?l20 ?c20 ?k20 ?a21 ?l21 ?c21 ?k21 ?a22 ?l22 ?c22 ?k22 ?a23 ?l23 ?c23 ?k23 ?a24 ?l24 ?c24 ?k24 ?a25 ?l25 ?c25 ?k25 ?a26 ?l26 ?c26 ?k26 ?a27 ?l27 ?c27 ?k27 ?a28 ?l28 ?c28 ?k28 ?a29 ?l29 ?c29 ?k29 ?a30 ?l30 ?c30 ?k30 ?a31 ?l31 ?c31 ?k31 ?a32 ?l32 ?c32 ?k32 ?a33 ?l33 ?c33 ?k33 ?a34 ?l34 ?c34 ?k34 ?a35 ?l35 ?c35 ?k35 ?a36 ?l36 ?c36 ?k36 ?a37 ?l37 ?c37 ?k37 ?a38 ?l38 ?c38 ?k38 ?a39 ?l39 ?c39 ?k39 ?a40 ?l40 ?c40 ?k40 ?a41 ?l41 ?c41 ?k41 ?a42 ?l42 ?c42 ?k42 ?a43 ?l43 ?c43 ?k43 ?a44 ?l44 ?c44 ?k44 ?a45 ?l45 ?c45 ?k45 ?a46 ?l46 ?c46 ?k46 ?a47 ?l47 ?c47 ?k47 ?a48 ?l48 ?c48 ?k48 ?a49 ?l49 ?c49 ?k49 ?z_abs ?z_enumerate ?z_int ?z_len ?z_list ?z_max ?z_range ?z_repr ?z_sorted ?z_str ?z_sum ?z_tuple ?z_zip ?cl_xt10 ?cl_xt7 ?cl_xt4 ?cl_xt17 ?cl_xt20 ?cl_xt23 ?cl_xt1 ?kc_BEGUN ?cl_xt32 ?cl_xt29 ?cl_xt42 ?cl_xt39 ?cl_xt26 ?kc_LEFT_OVER ?cl_xt55 ?cl_xt52 ?cl_xt49 ?kc_LESS_ONE ?cl_xt68 ?cl_xt65 ?cl_xt62 ?kc_LESS_Y ?kc_MOST_FIGURES_numberruns ?kc_MOST_FIGURES_pairtables ?kc_MOST_LETTERS ?kc_MOST_PLACE ?kc_MOST_TERMS ?cl_xt80 ?kc_NOTHING ?cl_xt83 ?kc_ONE_pairtables ?cl_xt96 ?cl_xt93 ?cl_xt90 ?kc_ONE_polysums ?kc_ROUND ?kc_THESE ?cl_xt111 ?cl_xt108 ?cl_xt105 ?kc_TWO ?cl_xt124 ?cl_xt121 ?cl_xt118 ?kc_X ?cl_xt137 ?cl_xt134 ?cl_xt131 ?kc_Y ?cl_xt150 ?cl_xt147 ?cl_xt144 ?kc_Z ?kd_low ?kd_h ?kd_at ?kc_ROUNDS
    (case a0 => k_is)
    (case l0 => k_is)
    (case c0 => k_is)
    (case k0 => k_is)
    (case a1 => k_is)
    (case l1 => k_is)
    (case c1 => k_is)
    (case k1 => k_is)
    (case a2 => k_is)
    (case l2 => k_is)
    (case c2 => k_is)
    (case k2 => k_is)
    (case a3 => k_is)
    (case l3 => k_is)
    (case c3 => k_is)
    (case k3 => k_is)
    (case a4 => k_is)
    (case l4 => k_is)
    (case c4 => k_is)
    (case k4 => k_is)
    (case a5 => k_is)
    (case l5 => k_is)
    (case c5 => k_is)
    (case k5 => k_is)
    (case a6 => k_is)
    (case l6 => k_is)
    (case c6 => k_is)
    (case k6 => k_is)
    (case a7 => k_is)
    (case l7 => k_is)
    (case c7 => k_is)
    (case k7 => k_is)
    (case a8 => k_is)
    (case l8 => k_is)
    (case c8 => k_is)
    (case k8 => k_is)
    (case a9 => k_is)
    (case l9 => k_is)
    (case c9 => k_is)
    (case k9 => k_is)
    (case a10 => k_is)
    (case l10 => k_is)
    (case c10 => k_is)
    (case k10 => k_is)
    (case a11 => k_is)
    (case l11 => k_is)
    (case c11 => k_is)
    (case k11 => k_is)
    (case a12 => k_is)
    (case l12 => k_is)
    (case c12 => k_is)
    (case k12 => k_is)
    (case a13 => k_is)
    (case l13 => k_is)
    (case c13 => k_is)
    (case k13 => k_is)
    (case a14 => k_is)
    (case l14 => k_is)
    (case c14 => k_is)
    (case k14 => k_is)
    (case a15 => k_is)
    (case l15 => k_is)
    (case c15 => k_is)
    (case k15 => k_is)
    (case a16 => k_is)
    (case l16 => k_is)
    (case c16 => k_is)
    (case k16 => k_is)
    (case a17 => k_is)
    (case l17 => k_is)
    (case c17 => k_is)
    (case k17 => k_is)
    (case a18 => k_is)
    (case l18 => k_is)
    (case c18 => k_is)
    (case k18 => k_is)
    (case a19 => k_is)
    (case l19 => k_is)
    (case c19 => k_is)
    (case k19 => k_is)
    (case a20 => k_is)
    (case l20 => k_is)
    (case c20 => k_is)
    (case k20 => k_is)
    (case a21 => k_is)
    (case l21 => k_is)
    (case c21 => k_is)
    (case k21 => k_is)
    (case a22 => k_is)
    (case l22 => k_is)
    (case c22 => k_is)
    (case k22 => k_is)
    (case a23 => k_is)
    (case l23 => k_is)
    (case c23 => k_is)
    (case k23 => k_is)
    (case a24 => k_is)
    (case l24 => k_is)
    (case c24 => k_is)
    (case k24 => k_is)
    (case a25 => k_is)
    (case l25 => k_is)
    (case c25 => k_is)
    (case k25 => k_is)
    (case a26 => k_is)
    (case l26 => k_is)
    (case c26 => k_is)
    (case k26 => k_is)
    (case a27 => k_is)
    (case l27 => k_is)
    (case c27 => k_is)
    (case k27 => k_is)
    (case a28 => k_is)
    (case l28 => k_is)
    (case c28 => k_is)
    (case k28 => k_is)
    (case a29 => k_is)
    (case l29 => k_is)
    (case c29 => k_is)
    (case k29 => k_is)
    (case a30 => k_is)
    (case l30 => k_is)
    (case c30 => k_is)
    (case k30 => k_is)
    (case a31 => k_is)
    (case l31 => k_is)
    (case c31 => k_is)
    (case k31 => k_is)
    (case a32 => k_is)
    (case l32 => k_is)
    (case c32 => k_is)
    (case k32 => k_is)
    (case a33 => k_is)
    (case l33 => k_is)
    (case c33 => k_is)
    (case k33 => k_is)
    (case a34 => k_is)
    (case l34 => k_is)
    (case c34 => k_is)
    (case k34 => k_is)
    (case a35 => k_is)
    (case l35 => k_is)
    (case c35 => k_is)
    (case k35 => k_is)
    (case a36 => k_is)
    (case l36 => k_is)
    (case c36 => k_is)
    (case k36 => k_is)
    (case a37 => k_is)
    (case l37 => k_is)
    (case c37 => k_is)
    (case k37 => k_is)
    (case a38 => k_is)
    (case l38 => k_is)
    (case c38 => k_is)
    (case k38 => k_is)
    (case a39 => k_is)
    (case l39 => k_is)
    (case c39 => k_is)
    (case k39 => k_is)
    (case a40 => k_is)
    (case l40 => k_is)
    (case c40 => k_is)
    (case k40 => k_is)
    (case a41 => k_is)
    (case l41 => k_is)
    (case c41 => k_is)
    (case k41 => k_is)
    (case a42 => k_is)
    (case l42 => k_is)
    (case c42 => k_is)
    (case k42 => k_is)
    (case a43 => k_is)
    (case l43 => k_is)
    (case c43 => k_is)
    (case k43 => k_is)
    (case a44 => k_is)
    (case l44 => k_is)
    (case c44 => k_is)
    (case k44 => k_is)
    (case a45 => k_is)
    (case l45 => k_is)
    (case c45 => k_is)
    (case k45 => k_is)
    (case a46 => k_is)
    (case l46 => k_is)
    (case c46 => k_is)
    (case k46 => k_is)
    (case a47 => k_is)
    (case l47 => k_is)
    (case c47 => k_is)
    (case k47 => k_is)
    (case a48 => k_is)
    (case l48 => k_is)
    (case c48 => k_is)
    (case k48 => k_is)
    (case a49 => k_is)
    (case l49 => k_is)
    (case c49 => k_is)
    (case k49 => k_is)
    (case z_abs => k_is)
    (case z_enumerate => k_is)
    (case z_int => k_is)
    (case z_len => k_is)
    (case z_list => k_is)
    (case z_max => k_is)
    (case z_range => k_is)
    (case z_repr => k_is)
    (case z_sorted => k_is)
    (case z_str => k_is)
    (case z_sum => k_is)
    (case z_tuple => k_is)
    (case z_zip => k_is)
    (case kc_ROUNDS => k_is)
    (case kd_at => k_is)
    (case kd_h => exact ⟨rfl, rfl, rfl⟩)
    (case kd_low => rfl)
    (case kc_Z => k_is)
    (case cl_xt144 => k_is)
    (case cl_xt147 => k_is)
    (case cl_xt150 => k_is)
    (case kc_Y => k_is)
    (case cl_xt131 => k_is)
    (case cl_xt134 => k_is)
    (case cl_xt137 => k_is)
    (case kc_X => k_is)
    (case cl_xt118 => k_is)
    (case cl_xt121 => k_is)
    (case cl_xt124 => k_is)
    (case kc_TWO => k_is)
    (case cl_xt105 => k_is)
    (case cl_xt108 => k_is)
    (case cl_xt111 => k_is)
    (case kc_THESE => k_is)
    (case kc_ROUND => k_is)
    (case kc_ONE_polysums => k_is)
    (case cl_xt90 => k_is)
    (case cl_xt93 => k_is)
    (case cl_xt96 => k_is)
    (case kc_ONE_pairtables => k_is)
    (case cl_xt83 => k_is)
    (case kc_NOTHING => k_is)
    (case cl_xt80 => k_is)
    (case kc_MOST_TERMS => k_is)
    (case kc_MOST_PLACE => k_is)
    (case kc_MOST_LETTERS => k_is)
    (case kc_MOST_FIGURES_pairtables => k_is)
    (case kc_MOST_FIGURES_numberruns => k_is)
    (case kc_LESS_Y => k_is)
    (case cl_xt62 => k_is)
    (case cl_xt65 => k_is)
    (case cl_xt68 => k_is)
    (case kc_LESS_ONE => k_is)
    (case cl_xt49 => k_is)
    (case cl_xt52 => k_is)
    (case cl_xt55 => k_is)
    (case kc_LEFT_OVER => k_is)
    (case cl_xt26 => k_is)
    (case cl_xt39 => k_is)
    (case cl_xt42 => k_is)
    (case cl_xt29 => k_is)
    (case cl_xt32 => k_is)
    (case kc_BEGUN => k_is)
    (case cl_xt1 => k_is)
    (case cl_xt23 => k_is)
    (case cl_xt20 => k_is)
    (case cl_xt17 => k_is)
    (case cl_xt4 => k_is)
    (case cl_xt7 => k_is)
    (case cl_xt10 => k_is)
#print axioms PySem.Challenge.cw_tracetriples_k47_whole_at_triples_of_pai_holds
