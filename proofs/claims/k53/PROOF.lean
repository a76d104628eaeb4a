import PyProof.Rows.All
import Wide.All
import OpenK.AllK
import Wide.FinOn
import HandS.ForMost
import HandS.TupAny
import HandS.NoneIn
import HandS.Wide
import HandS.Style
import HandS.More
import PyProof.ReprBulk
import HandS.Zip
import HandS.Deep
import HandS.IsInst
import HandS.SortInts
import HandS.WideBits
import HandS.TupMul
import HandS.Gcd
import HandS.SortRule
import HandS.Conv
import KE.KDictSum
import KE.GoesEnumKw
import PySem.Challenge.RW_tracetriples_k53_whole_k_two_exactly_if
set_option Elab.async false
set_option linter.all false
set_option maxRecDepth 100000
set_option maxHeartbeats 2000000
/-! QA: plain data over the hand layer. Values are told as data (PyData), mutable things of a def as local objects, the law's source as one state. -/
namespace QL
open PySem PySem.Spec PyProof.Rows L2

abbrev D := PyData
/-- a key as data -/
def kD : Key → D
  | .inl i => .int i
  | .inr x => .str x
mutual
inductive Dq (K : PySem.W.Frag) (H : Hp) : V → D → Prop
  | non : Dq K H .non .none
  | bl (b : Bool) : Dq K H (.bl b) (.bool b)
  | int (i : Int) : Dq K H (.int i) (.int i)
  | str (x : Str) : Dq K H (.str x) (.str x)
  | lst {a : Addr} {xs : List V} {ds : List D} : H a = some (.lst xs) → DqAll K H xs ds → Dq K H (.ref a) (.list ds)
  | tup {a : Addr} {xs : List V} {ds : List D} : SqT K H a xs → DqAll K H xs ds → Dq K H (.ref a) (.tuple ds)
  | dk {a : Addr} {ys : List (Key × V)} {kvs : List (D × D)} : H a = some (.dK ys) → DqK K H ys kvs → Dq K H (.ref a) (.dict kvs)
inductive DqK (K : PySem.W.Frag) (H : Hp) : List (Key × V) → List (D × D) → Prop
  | nil : DqK K H [] []
  | cons {k : Key} {v : V} {d : D} {ys : List (Key × V)} {kvs : List (D × D)} : Dq K H v d → DqK K H ys kvs → DqK K H ((k, v) :: ys) ((kD k, d) :: kvs)
inductive DqAll (K : PySem.W.Frag) (H : Hp) : List V → List D → Prop
  | nil : DqAll K H [] []
  | cons {v : V} {vs : List V} {d : D} {ds : List D} : Dq K H v d → DqAll K H vs ds → DqAll K H (v :: vs) (d :: ds)
end
section
variable {K : PySem.W.Frag} {H H' : Hp}
theorem same_tup (e : Same H H') {a : Addr} {xs : List V} (h : SqT K H a xs) : SqT K H' a xs := by
  rcases h with (h | ⟨o, h⟩) | h
  · exact .inl (.inl (e _ _ h))
  · exact .inl (.inr ⟨o, e _ _ h⟩)
  · exact .inr h
mutual
theorem Dq.mono (e : Same H H') : ∀ (d : D) (v : V), Dq K H v d → Dq K H' v d
  | .none, _, h => by cases h; exact .non
  | .bool b, _, h => by cases h; exact .bl b
  | .int i, _, h => by cases h; exact .int i
  | .str x, _, h => by cases h; exact .str x
  | .list ds, _, h => by
    cases h with
    | lst h1 h2 => exact .lst (e _ _ h1) (DqAll.mono e ds _ h2)
  | .tuple ds, _, h => by
    cases h with
    | tup h1 h2 => exact .tup (same_tup e h1) (DqAll.mono e ds _ h2)
  | .dict kvs, _, h => by
    cases h with
    | dk h1 h2 => exact .dk (e _ _ h1) (DqK.mono e kvs _ h2)
theorem DqK.mono (e : Same H H') : ∀ (kvs : List (D × D)) (ys : List (Key × V)), DqK K H ys kvs → DqK K H' ys kvs
  | [], _, h => by cases h; exact .nil
  | (k, d) :: kvs, _, h => by
    cases h with
    | cons h1 h2 => exact .cons (Dq.mono e d _ h1) (DqK.mono e kvs _ h2)
theorem DqAll.mono (e : Same H H') : ∀ (ds : List D) (vs : List V), DqAll K H vs ds → DqAll K H' vs ds
  | [], _, h => by cases h; exact .nil
  | d :: ds, _, h => by
    cases h with
    | cons h1 h2 => exact .cons (Dq.mono e d _ h1) (DqAll.mono e ds _ h2)
end
mutual
theorem Dq.toDp : ∀ (d : D) (v : V), d.hasDict = false → Dq K H v d → Dp K H v d
  | .none, _, _, h => by cases h; exact .non
  | .bool b, _, _, h => by cases h; exact .bl b
  | .int i, _, _, h => by cases h; exact .int i
  | .str x, _, _, h => by cases h; exact .str x
  | .list ds, _, n, h => by
    simp only [PyData.hasDict] at n
    cases h with
    | lst h1 h2 => exact .lst (SqL.of h1) (DqAll.toDp ds _ n h2)
  | .tuple ds, _, n, h => by
    simp only [PyData.hasDict] at n
    cases h with
    | tup h1 h2 => exact .tup h1 (DqAll.toDp ds _ n h2)
  | .dict _, _, n, h => by simp [PyData.hasDict] at n
theorem DqAll.toDp : ∀ (ds : List D) (vs : List V), PyData.hasDictAll ds = false → DqAll K H vs ds → DpAll K H vs ds
  | [], _, _, h => by cases h; exact .nil
  | d :: ds, _, n, h => by
    simp only [PyData.hasDictAll, Bool.or_eq_false_iff] at n
    cases h with
    | cons h1 h2 => exact .cons (Dq.toDp d _ n.1 h1) (DqAll.toDp ds _ n.2 h2)
end
mutual
theorem canLay_noDict : ∀ d : D, d.canLay0 = true → d.hasDict = false
  | .none, _ => by simp [PyData.hasDict]
  | .bool _, _ => by simp [PyData.hasDict]
  | .int _, _ => by simp [PyData.hasDict]
  | .str _, _ => by simp [PyData.hasDict]
  | .list ds, h => by simp only [PyData.hasDict]; simp only [PyData.canLay0] at h; exact canLayAll_noDict ds h
  | .tuple ds, h => by simp only [PyData.hasDict]; simp only [PyData.canLay0] at h; exact canLayAll_noDict ds h
  | .dict _, h => by simp [PyData.canLay0] at h
theorem canLayAll_noDict : ∀ ds : List D, PyData.canLayAll0 ds = true → PyData.hasDictAll ds = false
  | [], _ => by simp [PyData.hasDictAll]
  | d :: ds, h => by
    simp only [PyData.canLayAll0, Bool.and_eq_true] at h
    simp [PyData.hasDictAll, canLay_noDict d h.1, canLayAll_noDict ds h.2]
end
theorem shaped_noDict {d : D} (h : SeqAt.shaped d = true) : d.hasDict = false := canLay_noDict d (SeqAt.canLay_of_shaped h)
theorem DqAll.len : ∀ {ds : List D} {vs : List V}, DqAll K H vs ds → vs.length = ds.length
  | [], _, h => by cases h; rfl
  | d :: ds, _, h => by
    cases h with
    | cons h1 h2 => simp [DqAll.len h2]
theorem DqAll.at : ∀ {ds : List D} {vs : List V} {i : Nat} {d : D}, DqAll K H vs ds → ds[i]? = some d → ∃ v, vs[i]? = some v ∧ Dq K H v d
  | [], _, _, _, h, e => by simp at e
  | d :: ds, _, 0, _, h, e => by
    cases h with
    | cons h1 h2 => simp at e; subst e; exact ⟨_, rfl, h1⟩
  | d :: ds, _, i + 1, _, h, e => by
    cases h with
    | cons h1 h2 =>
      obtain ⟨v, q1, q2⟩ := DqAll.at (i := i) h2 (by simpa using e)
      exact ⟨v, by simpa using q1, q2⟩
theorem DqAll.app : ∀ {ds es : List D} {vs ws : List V}, DqAll K H vs ds → DqAll K H ws es → DqAll K H (vs ++ ws) (ds ++ es)
  | [], _, _, _, h, k => by cases h; exact k
  | d :: ds, _, _, _, h, k => by
    cases h with
    | cons h1 h2 => exact .cons h1 (DqAll.app h2 k)
theorem DqAll.drop : ∀ {ds : List D} {vs : List V} (n : Nat), DqAll K H vs ds → DqAll K H (vs.drop n) (ds.drop n)
  | _, _, 0, h => h
  | [], _, n + 1, h => by cases h; exact .nil
  | d :: ds, _, n + 1, h => by
    cases h with
    | cons h1 h2 => exact DqAll.drop n h2
theorem DqAll.take : ∀ {ds : List D} {vs : List V} (n : Nat), DqAll K H vs ds → DqAll K H (vs.take n) (ds.take n)
  | _, _, 0, h => .nil
  | [], _, n + 1, h => by cases h; exact .nil
  | d :: ds, _, n + 1, h => by
    cases h with
    | cons h1 h2 => exact .cons h1 (DqAll.take n h2)
theorem DqAll.rev {ds : List D} {vs : List V} (h : DqAll K H vs ds) : DqAll K H vs.reverse ds.reverse := by
  induction ds generalizing vs with
  | nil => cases h; exact .nil
  | cons d ds ih =>
    cases h with
    | cons h1 h2 =>
      rw [List.reverse_cons, List.reverse_cons]
      exact (ih h2).app (.cons h1 .nil)
theorem DqAll.rep {ds : List D} {vs : List V} (h : DqAll K H vs ds) : ∀ n : Nat, DqAll K H (List.replicate n vs).flatten (List.replicate n ds).flatten
  | 0 => .nil
  | n + 1 => by
    rw [List.replicate_succ, List.replicate_succ, List.flatten_cons, List.flatten_cons]
    exact h.app (DqAll.rep h n)
theorem DqAll.pop {ds : List D} {vs : List V} (h : DqAll K H vs ds) : DqAll K H vs.dropLast ds.dropLast := by
  rw [List.dropLast_eq_take, List.dropLast_eq_take, h.len]
  exact h.take _
theorem DqAll.setAt : ∀ {ds : List D} {vs : List V} {d : D} {v : V} (i : Nat), DqAll K H vs ds → Dq K H v d → DqAll K H (vs.set i v) (ds.set i d)
  | [], _, _, _, i, h, _ => by cases h; exact .nil
  | x :: ds, _, _, _, 0, h, k => by
    cases h with
    | cons h1 h2 => exact .cons k h2
  | x :: ds, _, _, _, i + 1, h, k => by
    cases h with
    | cons h1 h2 => exact .cons h1 (DqAll.setAt i h2 k)
theorem DqAll.ints : ∀ {ns : List Int} {vs : List V}, DqAll K H vs (ns.map PyData.int) → vs = ns.map V.int
  | [], _, h => by cases h; rfl
  | n :: ns, _, h => by
    cases h with
    | cons h1 h2 => cases h1; simp [DqAll.ints h2]
theorem DqAll.bls : ∀ {ns : List Bool} {vs : List V}, DqAll K H vs (ns.map PyData.bool) → vs = ns.map V.bl
  | [], _, h => by cases h; rfl
  | n :: ns, _, h => by
    cases h with
    | cons h1 h2 => cases h1; simp [DqAll.bls h2]
theorem DqAll.ofInts : ∀ (ns : List Int), DqAll K H (ns.map V.int) (ns.map PyData.int)
  | [] => .nil
  | n :: ns => .cons (.int n) (DqAll.ofInts ns)
end

/-! ### the abstract state -/
inductive AV where
  | d (x : D) | o (j : Nat) | src | cells | scr (ns : List Int) | kt (ks : List Key) | dt (kvs : List (List Key × D)) | ty (n : String) | ad (a : Addr)
structure Src where
  cells : List Int
  left : Int
  mixed : Int
  turn : Int
inductive MO where
  | l (ds : List D) | kd (kvs : List (Key × D)) | td (kvs : List (List Key × D))
structure Mm where
  s : Option Src
  o : List MO
structure AS where
  g : List (Option AV)
  m : Mm

def hid (Z : List Addr) (H : Hp) : Hp := fun a => if a ∈ Z then none else H a
theorem hid_some {Z : List Addr} {H : Hp} {a : Addr} {o : HO} (h : hid Z H a = some o) : a ∉ Z ∧ H a = some o := by
  unfold hid at h
  split at h
  · cases h
  · exact ⟨‹_›, h⟩
theorem hid_of {Z : List Addr} {H : Hp} {a : Addr} (h : a ∉ Z) : hid Z H a = H a := if_neg h
theorem hid_same {Z : List Addr} {H : Hp} : Same (hid Z H) H := fun a o h => (hid_some h).2

structure Ct where
  K : PySem.W.Frag
  Z : List Addr
  L0 : List Addr
  H0 : Hp
abbrev Ct.hd (C : Ct) (L Mo : List Addr) (H : Hp) : Hp := hid (C.Z ++ (L ++ Mo)) H
def srcKv (S : Src) (c : Addr) : List (Key × V) := [(.inr "cells", .ref c), (.inr "left", .int S.left), (.inr "mixed", .int S.mixed), (.inr "turn", .int S.turn)]
def SrcAt (H : Hp) : Option Src → List Addr → Prop
  | none, L => L = []
  | some S, L => ∃ d c, L = [d, c] ∧ H d = some (.dK (srcKv S c)) ∧ H c = some (.lst (S.cells.map V.int))
def KQ {κ : Type} (K : PySem.W.Frag) (h : Hp) : List (κ × V) → List (κ × D) → Prop := Paired fun (p : κ × V) (q : κ × D) => p.1 = q.1 ∧ Dq K h p.2 q.2
theorem KQ.mono {κ : Type} {K : PySem.W.Frag} {h h' : Hp} (e : Same h h') {l : List (κ × V)} {r : List (κ × D)} (q : KQ K h l r) : KQ K h' l r := Paired.mapP q fun a b ⟨q1, q2⟩ => ⟨q1, Dq.mono e _ _ q2⟩
def kvD (kvs : List (Key × D)) : List (D × D) := kvs.map fun p => (kD p.1, p.2)
theorem KQ.toK {K : PySem.W.Frag} {h : Hp} : ∀ {ys : List (Key × V)} {kvs : List (Key × D)}, KQ K h ys kvs → DqK K h ys (kvD kvs)
  | _, _, .nil => .nil
  | (_, _) :: _, (_, _) :: _, .cons q t => by
    obtain ⟨q1, q2⟩ := q
    simp only at q1 q2
    subst q1
    exact .cons q2 (KQ.toK t)
def MOk (K : PySem.W.Frag) (h H : Hp) : MO → Addr → Prop
  | .l ds, l => ∃ xs, H l = some (.lst xs) ∧ DqAll K h xs ds
  | .kd kvs, l => ∃ ys, H l = some (.dK ys) ∧ KQ K h ys kvs
  | .td kvs, l => ∃ ys, H l = some (.dT ys) ∧ KQ K h ys kvs
theorem MOk.mono {K : PySem.W.Frag} {h h' H H' : Hp} {o : MO} {l : Addr} (q : MOk K h H o l) (e : Same h h') (f : H' l = H l) : MOk K h' H' o l := by
  cases o with
  | l ds => obtain ⟨xs, q1, q2⟩ := q; exact ⟨xs, f.trans q1, DqAll.mono e _ _ q2⟩
  | kd ds => obtain ⟨xs, q1, q2⟩ := q; exact ⟨xs, f.trans q1, q2.mono e⟩
  | td ds => obtain ⟨xs, q1, q2⟩ := q; exact ⟨xs, f.trans q1, q2.mono e⟩
theorem MOk.there {K : PySem.W.Frag} {h H : Hp} {o : MO} {l : Addr} (q : MOk K h H o l) : ∃ u, H l = some u := by
  cases o with
  | l ds => obtain ⟨xs, q1, q2⟩ := q; exact ⟨_, q1⟩
  | kd ds => obtain ⟨xs, q1, q2⟩ := q; exact ⟨_, q1⟩
  | td ds => obtain ⟨xs, q1, q2⟩ := q; exact ⟨_, q1⟩

/-- no tuple -/
def NT (u : HO) : Prop := ∀ xs, u ≠ .tup xs
structure B (C : Ct) (m : Mm) (L Mo : List Addr) (H : Hp) : Prop where
  nd : (C.Z ++ (L ++ Mo)).Nodup
  sr : SrcAt H m.s L
  ob : Paired (MOk C.K (C.hd L Mo H) H) m.o Mo
  kp : ∀ a u, C.H0 a = some u → a ∉ C.L0 → H a = some u
  nl : ∀ x ∈ L, x ∈ C.L0 ∨ C.H0 x = none
  no : ∀ x ∈ Mo, C.H0 x = none ∧ x ∉ C.L0
  zt : ∀ z ∈ C.Z, (∃ u, C.H0 z = some u ∧ NT u) ∧ z ∉ C.L0
  l0 : C.L0 = [] ∨ L = C.L0
theorem paired_mem {α β : Type} {F : α → β → Prop} : ∀ {l : List α} {r : List β} {b : β}, Paired F l r → b ∈ r → ∃ a ∈ l, F a b
  | _, _, _, .nil, h => by cases h
  | _, _, _, .cons q t, h => by
    rcases List.mem_cons.mp h with rfl | h
    · exact ⟨_, List.mem_cons_self, q⟩
    · obtain ⟨a, h1, h2⟩ := paired_mem t h
      exact ⟨a, List.mem_cons_of_mem _ h1, h2⟩
theorem paired_at {α β : Type} {F : α → β → Prop} : ∀ {l : List α} {r : List β} {i : Nat} {a : α}, Paired F l r → l[i]? = some a → ∃ b, r[i]? = some b ∧ F a b
  | _, _, _, _, .nil, h => by simp at h
  | _, _, 0, _, .cons q t, h => by simp at h; subst h; exact ⟨_, rfl, q⟩
  | _, _, i + 1, _, .cons q t, h => by
    obtain ⟨b, h1, h2⟩ := paired_at (i := i) t (by simpa using h)
    exact ⟨b, by simpa using h1, h2⟩
theorem paired_app {α β : Type} {F : α → β → Prop} : ∀ {l l2 : List α} {r r2 : List β}, Paired F l r → Paired F l2 r2 → Paired F (l ++ l2) (r ++ r2)
  | _, _, _, _, .nil, k => k
  | _, _, _, _, .cons q t, k => .cons q (paired_app t k)
theorem paired_impM {α β : Type} {F G : α → β → Prop} : ∀ {l : List α} {r : List β}, Paired F l r → (∀ a b, b ∈ r → F a b → G a b) → Paired G l r
  | _, _, .nil, _ => .nil
  | _, _, .cons q t, f => .cons (f _ _ List.mem_cons_self q) (paired_impM t fun a b hb => f a b (List.mem_cons_of_mem _ hb))
theorem paired_take {α β : Type} {F : α → β → Prop} : ∀ {l : List α} {r : List β} (n : Nat), Paired F l r → Paired F (l.take n) (r.take n)
  | _, _, 0, _ => .nil
  | _, _, n + 1, .nil => .nil
  | _, _, n + 1, .cons q t => .cons q (paired_take n t)
theorem paired_set {α β : Type} {F : α → β → Prop} : ∀ {l : List α} {r : List β} {i : Nat} {a : α} {b : β}, Paired F l r → r[i]? = some b → F a b → Paired F (l.set i a) r
  | _, _, _, _, _, .nil, h, _ => by simp at h
  | _, _, 0, _, _, .cons q t, h, k => by simp at h; subst h; exact .cons k t
  | _, _, i + 1, _, _, .cons q t, h, k => .cons q (paired_set t (by simpa using h) k)

structure X2 (C : Ct) (L Mo : List Addr) (H : Hp) (L' Mo' : List Addr) (H' : Hp) : Prop where
  pl : L = [] ∨ L' = L
  po : Mo <+: Mo'
  sm : Same (C.hd L Mo H) (C.hd L' Mo' H')
section
variable {C : Ct} {m : Mm} {L Mo L' Mo' L2 Mo2 : List Addr} {H H' H2 : Hp} {p : Addr} {ho : HO}
theorem X2.refl : X2 C L Mo H L Mo H := ⟨.inr rfl, List.prefix_rfl, Same.refl _⟩
theorem X2.trans (a : X2 C L Mo H L' Mo' H') (b : X2 C L' Mo' H' L2 Mo2 H2) : X2 C L Mo H L2 Mo2 H2 :=
  ⟨by rcases a.pl with h | h
      · exact .inl h
      · rcases b.pl with k | k
        · exact .inl (h ▸ k)
        · exact .inr (k.trans h), a.po.trans b.po, a.sm.trans b.sm⟩
theorem B.there (b : B C m L Mo H) {x : Addr} (hx : x ∈ C.Z ++ (L ++ Mo)) : ∃ u, H x = some u := by
  rcases List.mem_append.mp hx with h | h
  · obtain ⟨⟨u, h1, _⟩, h2⟩ := b.zt x h
    exact ⟨u, b.kp x u h1 h2⟩
  · rcases List.mem_append.mp h with h | h
    · have q := b.sr
      cases e : m.s with
      | none => rw [e] at q; rw [show L = [] from q] at h; cases h
      | some S =>
        rw [e] at q
        obtain ⟨d, c, rfl, h1, h2⟩ := q
        rcases List.mem_cons.mp h with rfl | h
        · exact ⟨_, h1⟩
        · rcases List.mem_cons.mp h with rfl | h
          · exact ⟨_, h2⟩
          · cases h
    · obtain ⟨o, _, q⟩ := paired_mem b.ob h
      exact q.there
theorem B.thereN (b : B C m L Mo H) {x : Addr} (hx : x ∈ C.Z ++ (L ++ Mo)) : ∃ u, H x = some u ∧ NT u := by
  rcases List.mem_append.mp hx with h | h
  · obtain ⟨⟨u, h1, h3⟩, h2⟩ := b.zt x h
    exact ⟨u, b.kp x u h1 h2, h3⟩
  · rcases List.mem_append.mp h with h | h
    · have q := b.sr
      cases e : m.s with
      | none => rw [e] at q; rw [show L = [] from q] at h; cases h
      | some S =>
        rw [e] at q
        obtain ⟨d, c, rfl, h1, h2⟩ := q
        rcases List.mem_cons.mp h with rfl | h
        · exact ⟨_, h1, fun _ e => nomatch e⟩
        · rcases List.mem_cons.mp h with rfl | h
          · exact ⟨_, h2, fun _ e => nomatch e⟩
          · cases h
    · obtain ⟨o, _, q⟩ := paired_mem b.ob h
      cases o with
      | l ds => obtain ⟨xs, q1, _⟩ := q; exact ⟨_, q1, fun _ e => nomatch e⟩
      | kd ds => obtain ⟨xs, q1, _⟩ := q; exact ⟨_, q1, fun _ e => nomatch e⟩
      | td ds => obtain ⟨xs, q1, _⟩ := q; exact ⟨_, q1, fun _ e => nomatch e⟩
/-- a tuple is not hidden -/
theorem B.tup_hd (b : B C m L Mo H) {x : Addr} {xs : List V} (h : H x = some (.tup xs)) : C.hd L Mo H x = some (.tup xs) := by
  rw [Ct.hd, hid_of]
  · exact h
  · intro hx
    obtain ⟨u, h1, h2⟩ := b.thereN hx
    rw [h] at h1
    cases h1
    exact h2 _ rfl
theorem B.fresh (b : B C m L Mo H) (hp : H p = none) : p ∉ C.Z ++ (L ++ Mo) := fun h => by
  obtain ⟨u, q⟩ := b.there h
  rw [hp] at q; cases q
theorem B.freshL (b : B C m L Mo H) (hp : H p = none) : p ∉ C.L0 := fun h => by
  rcases b.l0 with z | z
  · rw [z] at h; cases h
  · exact b.fresh hp (by simp [z, h])
theorem B.fresh0 (b : B C m L Mo H) (hp : H p = none) : C.H0 p = none := by
  cases e : C.H0 p with
  | none => rfl
  | some u => rw [b.kp p u e (b.freshL hp)] at hp; cases hp
theorem hd_upd (hp : H p = none) : Same (C.hd L Mo H) (C.hd L Mo (upd H p ho)) := fun a o h => by
  obtain ⟨h1, h2⟩ := hid_some h
  rw [Ct.hd, hid_of h1, upd_ne (ne_of_none h2 hp)]
  exact h2
theorem hd_updIn {x : Addr} (hx : x ∈ C.Z ++ (L ++ Mo)) : C.hd L Mo (upd H x ho) = C.hd L Mo H := by
  funext a
  unfold Ct.hd hid
  by_cases h : a ∈ C.Z ++ (L ++ Mo)
  · rw [if_pos h, if_pos h]
  · rw [if_neg h, if_neg h]
    exact upd_ne fun e => h (e ▸ hx)
theorem X2.alloc (hp : H p = none) : X2 C L Mo H L Mo (upd H p ho) := ⟨.inr rfl, List.prefix_rfl, hd_upd hp⟩
theorem srcAt_upd {s : Option Src} (q : SrcAt H s L) (hn : p ∉ L) : SrcAt (upd H p ho) s L := by
  cases s with
  | none => exact q
  | some S =>
    obtain ⟨d, c, rfl, h1, h2⟩ := q
    refine ⟨d, c, rfl, ?_, ?_⟩
    · rw [upd_ne (fun e => hn (by simp [e]))]; exact h1
    · rw [upd_ne (fun e => hn (by simp [e]))]; exact h2
theorem B.alloc (b : B C m L Mo H) (hp : H p = none) : B C m L Mo (upd H p ho) := by
  have hf := b.fresh hp
  refine ⟨b.nd, srcAt_upd b.sr fun h => hf (by simp [h]), paired_impM b.ob fun o l hl q => q.mono (hd_upd hp) ?_, fun a u h1 h2 => ?_, b.nl, b.no, b.zt, b.l0⟩
  · exact upd_ne fun e => hf (by simp [← e, hl])
  · have := b.kp a u h1 h2
    rw [upd_ne (ne_of_none this hp)]; exact this
theorem hd_snoc (hp : H p = none) : Same (C.hd L Mo H) (C.hd L (Mo ++ [p]) (upd H p ho)) := fun a o h => by
  obtain ⟨h1, h2⟩ := hid_some h
  have ne : a ≠ p := ne_of_none h2 hp
  rw [Ct.hd, hid_of (fun z => h1 (by simp [ne] at z ⊢; exact z)), upd_ne ne]
  exact h2
theorem X2.allocO (hp : H p = none) : X2 C L Mo H L (Mo ++ [p]) (upd H p ho) := ⟨.inr rfl, List.prefix_append _ _, hd_snoc hp⟩
theorem B.allocO {o : MO} (b : B C m L Mo H) (hp : H p = none) (ok : ∀ h, Same (C.hd L Mo H) h → MOk C.K h (upd H p ho) o p) : B C ⟨m.s, m.o ++ [o]⟩ L (Mo ++ [p]) (upd H p ho) := by
  have hf := b.fresh hp
  have hs : Same (C.hd L Mo H) (C.hd L (Mo ++ [p]) (upd H p ho)) := hd_snoc hp
  refine ⟨?_, srcAt_upd b.sr fun h => hf (by simp [h]), paired_app (paired_impM b.ob fun o l hl q => q.mono hs ?_) (.cons (ok _ hs) .nil), fun a u h1 h2 => ?_, b.nl, fun x hx => ?_, b.zt, b.l0⟩
  · rw [← List.append_assoc, ← List.append_assoc]
    refine List.nodup_append.mpr ⟨by rw [List.append_assoc]; exact b.nd, by simp, fun x hx y hy e => ?_⟩
    have : y = p := by simpa using hy
    subst this; subst e
    exact hf (by rw [← List.append_assoc]; exact hx)
  · exact upd_ne fun e => hf (by simp [← e, hl])
  · have := b.kp a u h1 h2
    rw [upd_ne (ne_of_none this hp)]; exact this
  · rcases List.mem_append.mp hx with h | h
    · exact b.no x h
    · have : x = p := by simpa using h
      subst this
      exact ⟨b.fresh0 hp, b.freshL hp⟩
end
end QL

namespace QL
open PySem PySem.Spec PyProof.Rows L2

def AVR (C : Ct) (L Mo : List Addr) (H : Hp) : AV → V → Prop
  | .d x, v => Dq C.K (C.hd L Mo H) v x
  | .o j, v => ∃ l, Mo[j]? = some l ∧ v = .ref l
  | .src, v => ∃ d c, L = [d, c] ∧ v = .ref d
  | .cells, v => ∃ d c, L = [d, c] ∧ v = .ref c
  | .scr ns, v => ∃ a, v = .ref a ∧ SqL C.K (C.hd L Mo H) a (ns.map V.int)
  | .kt ks, v => ∃ a, v = .ref a ∧ C.hd L Mo H a = some (.tup (ks.map kV))
  | .dt kvs, v => ∃ a ys, v = .ref a ∧ C.hd L Mo H a = some (.dT ys) ∧ KQ C.K (C.hd L Mo H) ys kvs
  | .ty n, v => v = .ty n
  | .ad a, v => v = .ref a
abbrev AVRs (C : Ct) (L Mo : List Addr) (H : Hp) : List AV → List V → Prop := Paired (AVR C L Mo H)
section
variable {C : Ct} {m m' : Mm} {L Mo L' Mo' L2 Mo2 : List Addr} {H H' H2 : Hp} {av : AV} {v : V}
theorem AVR.mono (h : AVR C L Mo H av v) (x : X2 C L Mo H L' Mo' H') : AVR C L' Mo' H' av v := by
  cases av with
  | d y => exact Dq.mono x.sm _ _ h
  | o j =>
    obtain ⟨l, h1, rfl⟩ := h
    obtain ⟨t, rfl⟩ := x.po
    exact ⟨l, by rw [List.getElem?_append_left (List.getElem?_eq_some_iff.mp h1).1]; exact h1, rfl⟩
  | src =>
    obtain ⟨d, c, e, rfl⟩ := h
    rcases x.pl with z | z
    · rw [z] at e; cases e
    · exact ⟨d, c, z.trans e, rfl⟩
  | cells =>
    obtain ⟨d, c, e, rfl⟩ := h
    rcases x.pl with z | z
    · rw [z] at e; cases e
    · exact ⟨d, c, z.trans e, rfl⟩
  | scr ns =>
    obtain ⟨a, rfl, h⟩ := h
    exact ⟨a, rfl, x.sm.seq h⟩
  | kt ks =>
    obtain ⟨a, rfl, h⟩ := h
    exact ⟨a, rfl, x.sm _ _ h⟩
  | dt kvs =>
    obtain ⟨a, ys, rfl, h, h2⟩ := h
    exact ⟨a, ys, rfl, x.sm _ _ h, h2.mono x.sm⟩
  | ty n => exact h
  | ad a => exact h
theorem AVRs.mono {avs : List AV} {vs : List V} (h : AVRs C L Mo H avs vs) (x : X2 C L Mo H L' Mo' H') : AVRs C L' Mo' H' avs vs := Paired.mapP h fun _ _ q => q.mono x
end
structure R (C : Ct) (a : AS) (L Mo : List Addr) (σ : List (Option V)) (H : Hp) : Prop where
  b : B C a.m L Mo H
  ln : a.g.length = σ.length
  sl : ∀ (i : Nat) (av : AV), a.g[i]? = some (some av) → ∃ v, σ[i]? = some (some v) ∧ AVR C L Mo H av v
section
variable {C : Ct} {a : AS} {m' : Mm} {L Mo L' Mo' : List Addr} {σ : List (Option V)} {H H' : Hp} {av : AV} {v : V}
theorem R.next (r : R C a L Mo σ H) (b : B C m' L' Mo' H') (x : X2 C L Mo H L' Mo' H') : R C ⟨a.g, m'⟩ L' Mo' σ H' :=
  ⟨b, r.ln, fun i av h => let ⟨v, h1, h2⟩ := r.sl i av h; ⟨v, h1, h2.mono x⟩⟩
theorem R.set (r : R C a L Mo σ H) (i : Nat) (h : AVR C L Mo H av v) : R C ⟨a.g.set i (some av), a.m⟩ L Mo (σ.set i (some v)) H := by
  refine ⟨r.b, by simp [r.ln], fun j av' e => ?_⟩
  have e' : (a.g.set i (some av))[j]? = some (some av') := e
  by_cases hj : i = j
  · subst hj
    have hl : i < a.g.length := by
      have := (List.getElem?_eq_some_iff.mp e').1
      simpa using this
    rw [List.getElem?_set_self hl] at e'
    cases e'
    exact ⟨v, List.getElem?_set_self (by rw [← r.ln]; exact hl), h⟩
  · rw [List.getElem?_set_ne hj] at e'
    obtain ⟨w, h1, h2⟩ := r.sl j av' e'
    exact ⟨w, by rw [List.getElem?_set_ne hj]; exact h1, h2⟩
end
abbrev ATE := AS → (AV → Mm → Prop) → Prop
abbrev ATA := AS → (List AV → Mm → Prop) → Prop
abbrev ATT := AS → (Bool → Mm → Prop) → Prop
abbrev AR1 := AV → Mm → (AV → Mm → Prop) → Prop
abbrev AR2 := AV → AV → Mm → (AV → Mm → Prop) → Prop
/-- what follows a value -/
def Cont (C : Ct) (L Mo : List Addr) (H : Hp) (AQ : AV → Mm → Prop) (Q : VK) : Prop := ∀ av m' v L' Mo' H', AQ av m' → B C m' L' Mo' H' → AVR C L' Mo' H' av v → X2 C L Mo H L' Mo' H' → Q v H'
def lft (C : Ct) (t : ATE) : TE := fun σ H Q => ∃ a L Mo AQ, R C a L Mo σ H ∧ Cont C L Mo H AQ Q ∧ t a AQ
def ContA (C : Ct) (L Mo : List Addr) (H : Hp) (AQ : List AV → Mm → Prop) (Q : List V → Hp → Prop) : Prop := ∀ av m' v L' Mo' H', AQ av m' → B C m' L' Mo' H' → AVRs C L' Mo' H' av v → X2 C L Mo H L' Mo' H' → Q v H'
def lftA (C : Ct) (t : ATA) : TA := fun σ H Q => ∃ a L Mo AQ, R C a L Mo σ H ∧ ContA C L Mo H AQ Q ∧ t a AQ
def ContT (C : Ct) (L Mo : List Addr) (H : Hp) (AQ : Bool → Mm → Prop) (Q : Bool → Hp → Prop) : Prop := ∀ b m' L' Mo' H', AQ b m' → B C m' L' Mo' H' → X2 C L Mo H L' Mo' H' → Q b H'
def lftT (C : Ct) (t : ATT) : TT := fun σ H Q => ∃ a L Mo AQ, R C a L Mo σ H ∧ ContT C L Mo H AQ Q ∧ t a AQ

theorem PE.imp {X : Cx} {e : Expr} {t t' : TE} (h : PE X e t) (i : ∀ σ H Q, t' σ H Q → t σ H Q) : PE X e t' := ⟨fun pins s σ H Q I q => h.run pins s σ H Q I (i σ H Q q)⟩
theorem PA.imp {X : Cx} {e : List Expr} {t t' : TA} (h : PA X e t) (i : ∀ σ H Q, t' σ H Q → t σ H Q) : PA X e t' := ⟨fun pos pins s σ H Q I q => h.run pos pins s σ H Q I (i σ H Q q)⟩
theorem PT.imp {X : Cx} {e : Expr} {t t' : TT} (h : PT X e t) (i : ∀ σ H Q, t' σ H Q → t σ H Q) : PT X e t' := ⟨fun pins s σ H Q I q => h.run pins s σ H Q I (i σ H Q q)⟩
theorem PW.imp {X : Cx} {e : Expr} {t t' : TT} (h : PW X e t) (i : ∀ σ H Q, t' σ H Q → t σ H Q) : PW X e t' := ⟨fun wh pins s σ H Q I q => h.run wh pins s σ H Q I (i σ H Q q)⟩

def QE (X : Cx) (e : Expr) (t : ATE) : Prop := ∀ C : Ct, C.K = X.K → PE X e (lft C t)
def QA (X : Cx) (e : List Expr) (t : ATA) : Prop := ∀ C : Ct, C.K = X.K → PA X e (lftA C t)
def QT (X : Cx) (e : Expr) (t : ATT) : Prop := ∀ C : Ct, C.K = X.K → PT X e (lftT C t)
def QW (X : Cx) (e : Expr) (t : ATT) : Prop := ∀ C : Ct, C.K = X.K → PW X e (lftT C t)
section
variable {C : Ct} {m : Mm} {L Mo L' Mo' : List Addr} {H H' : Hp} {AQ : AV → Mm → Prop} {Q : VK} {av : AV} {v : V}
theorem Cont.ret (k : Cont C L Mo H AQ Q) (h : AQ av m) (b : B C m L Mo H) (r : AVR C L Mo H av v) : Q v H := k _ _ _ _ _ _ h b r X2.refl
theorem Cont.aft (k : Cont C L Mo H AQ Q) (x : X2 C L Mo H L' Mo' H') : Cont C L' Mo' H' AQ Q := fun av m' v L2 Mo2 H2 h b r y => k av m' v L2 Mo2 H2 h b r (x.trans y)
theorem hd_new {p : Addr} {o : HO} (b : B C m L Mo H) (hp : H p = none) : C.hd L Mo (upd H p o) p = some o := by
  rw [Ct.hd, hid_of (b.fresh hp)]; exact upd_same
theorem Cont.tup {p : Addr} {xs : List V} {ds : List D} (k : Cont C L Mo H AQ Q) (b : B C m L Mo H) (hp : H p = none) (r : DqAll C.K (C.hd L Mo H) xs ds) (h : AQ (.d (.tuple ds)) m) : Q (.ref p) (upd H p (.tup xs)) :=
  k _ _ _ _ _ _ h (b.alloc hp) (Dq.tup (SqT.of (hd_new b hp)) (DqAll.mono (hd_upd hp) _ _ r)) (X2.alloc hp)
theorem Cont.lst {p : Addr} {xs : List V} {ds : List D} (k : Cont C L Mo H AQ Q) (b : B C m L Mo H) (hp : H p = none) (r : DqAll C.K (C.hd L Mo H) xs ds) (h : AQ (.d (.list ds)) m) : Q (.ref p) (upd H p (.lst xs)) :=
  k _ _ _ _ _ _ h (b.alloc hp) (Dq.lst (hd_new b hp) (DqAll.mono (hd_upd hp) _ _ r)) (X2.alloc hp)
/-- a new list as a local object -/
theorem Cont.lstM {p : Addr} {xs : List V} {ds : List D} (k : Cont C L Mo H AQ Q) (b : B C m L Mo H) (hp : H p = none) (r : DqAll C.K (C.hd L Mo H) xs ds) (h : AQ (.o m.o.length) ⟨m.s, m.o ++ [.l ds]⟩) : Q (.ref p) (upd H p (.lst xs)) :=
  k _ _ _ _ _ _ h (b.allocO (o := .l ds) hp fun h' e => ⟨xs, upd_same, DqAll.mono e _ _ r⟩) ⟨p, by rw [Paired.length b.ob]; simp, rfl⟩ (X2.allocO hp)
end

/-! ### names, constants -/
def slotA : List (Option AV) → Nat → Option AV
  | [], _ => none
  | o :: _, 0 => o
  | _ :: r, i + 1 => slotA r i
def aVar (i : Nat) : ATE := fun a Q => match slotA a.g i with
  | some av => Q av a.m
  | none => False
def aC (x : D) : ATE := fun a Q => Q (.d x) a.m
theorem slotA_get : ∀ {g : List (Option AV)} {i : Nat} {av : AV}, slotA g i = some av → g[i]? = some (some av)
  | [], _, _, h => by simp [slotA] at h
  | o :: _, 0, _, h => by simp [slotA] at h; simp [h]
  | _ :: r, i + 1, _, h => by
    simp only [slotA] at h
    simpa using slotA_get (g := r) (i := i) h
section
variable {X : Cx} {C : Ct} {e a b c : Expr} {ta tb tc : ATE} {pos : Pos}
theorem q_var {i : Nat} {x : Str} (hN : X.N[i]? = some x) (hv : Vis X.env.scope x) (hd : (x == ("__debug__" : Str)) = false := by decide) (hcd : (x == ("__classdict__" : Str)) = false := by decide) : QE X (.Name x pos) (aVar i) := fun C hK =>
  PE.imp (pe_var hN hv hd hcd) fun σ H Q ⟨a, L, Mo, AQ, r, k, h⟩ => by
    unfold aVar at h
    split at h
    · rename_i av e
      obtain ⟨v, h1, h2⟩ := r.sl i av (slotA_get e)
      exact ⟨v, h1, k.ret h r.b h2⟩
    · exact h.elim
theorem q_of {v : V} {x : D} (h : PE X e (tC v)) (hd : ∀ H, Dq X.K H v x) : QE X e (aC x) := fun C hK =>
  PE.imp h fun σ H Q ⟨a, L, Mo, AQ, r, k, h⟩ => k.ret h r.b (by rw [AVR, hK]; exact hd _)
theorem q_int {i j} : QE X (.Constant (.int i) j pos) (aC (.int i)) := q_of pe_int fun _ => .int i
theorem q_bl {i j} : QE X (.Constant (.bool i) j pos) (aC (.bool i)) := q_of pe_bl fun _ => .bl i
theorem q_non {j} : QE X (.Constant .none j pos) (aC .none) := q_of pe_non fun _ => .non
theorem q_str {i j} : QE X (.Constant (.str i) j pos) (aC (.str i)) := q_of pe_str fun _ => .str i
/-- a module's constant -/
theorem q_glob {x : Str} {v : V} {u : Value} {d : D} (hg : Gl X x) (hm : X.mg x = some u) (r : RelV v u) (hd : ∀ H, Dq X.K H v d) (hdb : (x == ("__debug__" : Str)) = false := by decide) : QE X (.Name x pos) (aC d) := q_of (pe_glob hg hm r hdb) hd

/-! ### operators -/
def aBin (r : AR2) (ta tb : ATE) : ATE := fun a Q => ta a fun x m1 => tb ⟨a.g, m1⟩ fun y m2 => r x y m2 Q
def OpQ (X : Cx) (f : Value → Value → Sem Value) (r : AR2) : Prop := ∃ r2, OpR X f r2 ∧ ∀ (C : Ct) L Mo H m x y v w Q AQ, C.K = X.K → B C m L Mo H → AVR C L Mo H x v → AVR C L Mo H y w → Cont C L Mo H AQ Q → r x y m AQ → r2 v w H Q
theorem bin_imp {r : AR2} {r2 : R2} (hK : C.K = X.K) (ho : ∀ (C : Ct) L Mo H m x y v w Q AQ, C.K = X.K → B C m L Mo H → AVR C L Mo H x v → AVR C L Mo H y w → Cont C L Mo H AQ Q → r x y m AQ → r2 v w H Q) (σ : List (Option V)) (H : Hp) (Q : VK)
    (h : lft C (aBin r ta tb) σ H Q) : tOp r2 (lft C ta) (lft C tb) σ H Q := by
  obtain ⟨a, L, Mo, AQ, rr, k, h⟩ := h
  exact ⟨a, L, Mo, _, rr, fun x m1 v L1 Mo1 H1 h1 b1 v1 e1 => ⟨⟨a.g, m1⟩, L1, Mo1, _, rr.next b1 e1, fun y m2 w L2 Mo2 H2 h2 b2 w2 e2 => ho C L2 Mo2 H2 m2 x y v w Q AQ hK b2 (v1.mono e2) w2 (k.aft (e1.trans e2)) h2, h1⟩, h⟩
theorem q_op {op : Operator} {r : AR2} (o : OpQ X (binaryOp op) r) (ha : QE X a ta) (hb : QE X b tb) : QE X (.BinOp a op b pos) (aBin r ta tb) := fun C hK => by
  obtain ⟨r2, ho, hi⟩ := o
  exact PE.imp (pe_op ho (ha C hK) (hb C hK)) (bin_imp hK hi)
theorem q_cmp {op : CmpOp} {r : AR2} (o : OpQ X (compareOp op) r) (ha : QE X a ta) (hb : QE X b tb) (hm : behindInMarks op b = false) : QE X (.Compare a [op] [b] pos) (aBin r ta tb) := fun C hK => by
  obtain ⟨r2, ho, hi⟩ := o
  exact PE.imp (pe_cmpR ho (ha C hK) (hb C hK) hm) (bin_imp hK hi)
/-- tests -/
def isB : AV → Option Bool
  | .d (.bool b) => some b
  | _ => none
def aTest (t : ATE) : ATT := fun a Q => t a fun x m => match isB x with
  | some b => Q b m
  | none => False
theorem isB_rel {L Mo : List Addr} {H : Hp} {x : AV} {v : V} {b : Bool} (h : isB x = some b) (r : AVR C L Mo H x v) : v = .bl b := by
  cases x with
  | d y =>
    cases y <;> simp [isB] at h
    subst h
    cases r; rfl
  | o j => simp [isB] at h
  | src => simp [isB] at h
  | cells => simp [isB] at h
  | scr ns => simp [isB] at h
  | kt ks => simp [isB] at h
  | dt ks => simp [isB] at h
  | ty ks => simp [isB] at h
  | ad ks => simp [isB] at h
theorem test_imp (σ : List (Option V)) (H : Hp) (Q : Bool → Hp → Prop) (h : lftT C (aTest ta) σ H Q) : tTest (lft C ta) σ H Q := by
  obtain ⟨a, L, Mo, AQ, rr, k, h⟩ := h
  refine ⟨a, L, Mo, _, rr, fun x m1 v L1 Mo1 H1 h1 b1 v1 e1 => ?_, h⟩
  have h1' : (match isB x with | some b => AQ b m1 | none => False) := h1
  split at h1'
  · rename_i b e
    exact ⟨b, isB_rel e v1, k _ _ _ _ _ h1' b1 e1⟩
  · exact h1'.elim
theorem qt_cmp {op : CmpOp} {r : AR2} (o : OpQ X (compareOp op) r) (ha : QE X a ta) (hb : QE X b tb) (hm : behindInMarks op b = false) : QT X (.Compare a [op] [b] pos) (aTest (aBin r ta tb)) := fun C hK => by
  obtain ⟨r2, ho, hi⟩ := o
  refine PT.imp (pt_cmpR ho (ha C hK) (hb C hK) hm) fun σ H Q h => ?_
  obtain ⟨a, L, Mo, AQ, rr, k, h⟩ := test_imp σ H Q h
  exact bin_imp hK hi σ H _ ⟨a, L, Mo, AQ, rr, k, h⟩
/-- a op1 b op2 c -/
def aChain (r r' : AR2) (ta tb tc : ATE) : ATE := fun a Q => ta a fun x m1 => tb ⟨a.g, m1⟩ fun y m2 => r x y m2 fun z m3 => match isB z with
  | some k => if k = true then tc ⟨a.g, m3⟩ fun w m4 => r' y w m4 Q else Q (.d (.bool false)) m3
  | none => False
theorem chain_imp {r r' : AR2} {r2 r2' : R2} (hK : C.K = X.K) (ho : ∀ (C : Ct) L Mo H m x y v w Q AQ, C.K = X.K → B C m L Mo H → AVR C L Mo H x v → AVR C L Mo H y w → Cont C L Mo H AQ Q → r x y m AQ → r2 v w H Q)
    (ho' : ∀ (C : Ct) L Mo H m x y v w Q AQ, C.K = X.K → B C m L Mo H → AVR C L Mo H x v → AVR C L Mo H y w → Cont C L Mo H AQ Q → r' x y m AQ → r2' v w H Q) (σ : List (Option V)) (H : Hp) (Q : VK)
    (h : lft C (aChain r r' ta tb tc) σ H Q) : tChain r2 r2' (lft C ta) (lft C tb) (lft C tc) σ H Q := by
  obtain ⟨a, L, Mo, AQ, rr, k, h⟩ := h
  refine ⟨a, L, Mo, _, rr, fun x m1 v L1 Mo1 H1 h1 b1 v1 e1 => ⟨⟨a.g, m1⟩, L1, Mo1, _, rr.next b1 e1, fun y m2 w L2 Mo2 H2 h2 b2 w2 e2 => ?_, h1⟩, h⟩
  refine ho C L2 Mo2 H2 m2 x y v w _ _ hK b2 (v1.mono e2) w2 (fun z m3 vz L3 Mo3 H3 h3 b3 v3 e3 => ?_) h2
  have h3' : (match isB z with | some k => if k = true then tc ⟨a.g, m3⟩ fun w m4 => r' y w m4 AQ else AQ (.d (.bool false)) m3 | none => False) := h3
  split at h3'
  · rename_i kk ek
    refine ⟨kk, isB_rel ek v3, ?_⟩
    cases kk with
    | true =>
      rw [if_pos rfl] at h3' ⊢
      exact ⟨⟨a.g, m3⟩, L3, Mo3, _, (rr.next b1 e1).next b3 (e2.trans e3), fun u m4 vu L4 Mo4 H4 h4 b4 v4 e4 => ho' C L4 Mo4 H4 m4 y u w vu Q AQ hK b4 (w2.mono (e3.trans e4)) v4 (k.aft (e1.trans (e2.trans (e3.trans e4)))) h4, h3'⟩
    | false =>
      rw [if_neg Bool.false_ne_true] at h3' ⊢
      exact (k.aft (e1.trans (e2.trans e3))).ret h3' b3 (.bl false)
  · exact h3'.elim
theorem q_chain {op op' : CmpOp} {r r' : AR2} (o : OpQ X (compareOp op) r) (o' : OpQ X (compareOp op') r') (ha : QE X a ta) (hb : QE X b tb) (hc : QE X c tc) (hm : lastMarks [op, op'] [b, c] = false) :
    QE X (.Compare a [op, op'] [b, c] pos) (aChain r r' ta tb tc) := fun C hK => by
  obtain ⟨r2, ho, hi⟩ := o
  obtain ⟨r3, ho', hi'⟩ := o'
  exact PE.imp (pe_chain ho ho' (ha C hK) (hb C hK) (hc C hK) hm) (chain_imp hK hi hi')
theorem qt_chain {op op' : CmpOp} {r r' : AR2} (o : OpQ X (compareOp op) r) (o' : OpQ X (compareOp op') r') (ha : QE X a ta) (hb : QE X b tb) (hc : QE X c tc) (hm : lastMarks [op, op'] [b, c] = false) :
    QT X (.Compare a [op, op'] [b, c] pos) (aTest (aChain r r' ta tb tc)) := fun C hK => by
  obtain ⟨r2, ho, hi⟩ := o
  obtain ⟨r3, ho', hi'⟩ := o'
  refine PT.imp (pt_chain ho ho' (ha C hK) (hb C hK) (hc C hK) hm) fun σ H Q h => ?_
  obtain ⟨a, L, Mo, AQ, rr, k, h⟩ := test_imp σ H Q h
  exact chain_imp hK hi hi' σ H _ ⟨a, L, Mo, AQ, rr, k, h⟩
end
end QL

namespace QL
open PySem PySem.Spec PyProof.Rows L2

/-! ### what an abstract value holds -/
def lstA (m : Mm) : AV → Option (List D)
  | .d (.list ds) => some ds
  | .o j => match m.o[j]? with
    | some (.l ds) => some ds
    | _ => none
  | .cells => match m.s with
    | some S => some (S.cells.map PyData.int)
    | none => none
  | _ => none
def tupA : AV → Option (List D)
  | .d (.tuple ds) => some ds
  | _ => none
def seqA (m : Mm) (x : AV) : Option (List D) := match tupA x with
  | some ds => some ds
  | none => lstA m x
section
variable {C : Ct} {m : Mm} {L Mo : List Addr} {H : Hp} {x : AV} {v : V} {ds : List D}
theorem dq_hid (h : DqAll C.K (C.hd L Mo H) [] []) : True := trivial
theorem lstA_ok (b : B C m L Mo H) (r : AVR C L Mo H x v) (h : lstA m x = some ds) : ∃ l xs, v = .ref l ∧ H l = some (.lst xs) ∧ DqAll C.K (C.hd L Mo H) xs ds := by
  cases x with
  | d y =>
    cases y <;> simp [lstA] at h
    subst h
    cases r with
    | lst h1 h2 => exact ⟨_, _, rfl, (hid_some h1).2, h2⟩
  | o j =>
    simp only [lstA] at h
    split at h
    · rename_i ds' e
      cases h
      obtain ⟨l, h1, rfl⟩ := r
      obtain ⟨l', h2, xs, h3, h4⟩ := paired_at b.ob e
      rw [h1] at h2; cases h2
      exact ⟨l, xs, rfl, h3, h4⟩
    · cases h
  | src => simp [lstA] at h
  | scr ns => simp [lstA] at h
  | kt ns => simp [lstA] at h
  | dt ns => simp [lstA] at h
  | ty ns => simp [lstA] at h
  | ad ns => simp [lstA] at h
  | cells =>
    simp only [lstA] at h
    split at h
    · rename_i S e
      cases h
      obtain ⟨d, c, h1, rfl⟩ := r
      have q := b.sr
      rw [e] at q
      obtain ⟨d', c', h2, h3, h4⟩ := q
      rw [h1] at h2; cases h2
      exact ⟨c, _, rfl, h4, DqAll.ofInts _⟩
    · cases h
theorem tupA_ok (r : AVR C L Mo H x v) (h : tupA x = some ds) : ∃ l xs, v = .ref l ∧ SqT C.K H l xs ∧ DqAll C.K (C.hd L Mo H) xs ds := by
  cases x with
  | d y =>
    cases y <;> simp [tupA] at h
    subst h
    cases r with
    | tup h1 h2 => exact ⟨_, _, rfl, same_tup hid_same h1, h2⟩
  | o j => simp [tupA] at h
  | src => simp [tupA] at h
  | cells => simp [tupA] at h
  | scr ns => simp [tupA] at h
  | kt ns => simp [tupA] at h
  | dt ns => simp [tupA] at h
  | ty ns => simp [tupA] at h
  | ad ns => simp [tupA] at h
theorem seqA_ok (b : B C m L Mo H) (r : AVR C L Mo H x v) (h : seqA m x = some ds) : ∃ l xs, v = .ref l ∧ (SqL C.K H l xs ∨ SqT C.K H l xs) ∧ DqAll C.K (C.hd L Mo H) xs ds := by
  unfold seqA at h
  split at h
  · rename_i ds' e
    cases h
    obtain ⟨l, xs, h1, h2, h3⟩ := tupA_ok r e
    exact ⟨l, xs, h1, .inr h2, h3⟩
  · obtain ⟨l, xs, h1, h2, h3⟩ := lstA_ok b r h
    exact ⟨l, xs, h1, .inl (SqL.of h2), h3⟩
end
theorem dq_int {K : PySem.W.Frag} {H : Hp} {v : V} {i : Int} (h : Dq K H v (.int i)) : v = .int i := by cases h; rfl
theorem dq_str {K : PySem.W.Frag} {H : Hp} {v : V} {i : Str} (h : Dq K H v (.str i)) : v = .str i := by cases h; rfl
theorem dq_bl {K : PySem.W.Frag} {H : Hp} {v : V} {i : Bool} (h : Dq K H v (.bool i)) : v = .bl i := by cases h; rfl

/-! ### operators -/
def intsR (c : Int → Int → Prop) (g : Int → Int → D) : AR2 := fun x y m Q => match x, y with
  | .d (.int i), .d (.int j) => c i j ∧ Q (.d (g i j)) m
  | _, _ => False
def intsR0 (g : Int → Int → D) : AR2 := fun x y m Q => match x, y with
  | .d (.int i), .d (.int j) => Q (.d (g i j)) m
  | _, _ => False
section
variable {X : Cx}
theorem opq_ints {f : Value → Value → Sem Value} {c : Int → Int → Prop} {g : Int → Int → V} {g' : Int → Int → D} (h : OpR X f (rI c g)) (hg : ∀ i j K H, Dq K H (g i j) (g' i j)) : OpQ X f (intsR c g') := by
  refine ⟨_, h, fun C L Mo H m x y v w Q AQ hK b r1 r2 k hh => ?_⟩
  unfold intsR at hh
  split at hh
  · exact ⟨_, _, dq_int r1, dq_int r2, hh.1, k.ret hh.2 b (hg _ _ _ _)⟩
  · exact hh.elim
theorem opq_ints0 {f : Value → Value → Sem Value} {g : Int → Int → V} {g' : Int → Int → D} (h : OpR X f (rI0 g)) (hg : ∀ i j K H, Dq K H (g i j) (g' i j)) : OpQ X f (intsR0 g') := by
  refine ⟨_, h, fun C L Mo H m x y v w Q AQ hK b r1 r2 k hh => ?_⟩
  unfold intsR0 at hh
  split at hh
  · exact ⟨_, _, dq_int r1, dq_int r2, k.ret hh b (hg _ _ _ _)⟩
  · exact hh.elim
def aSub : AR2 := intsR0 fun i j => .int (i - j)
theorem oq_sub : OpQ X (binaryOp .Sub) aSub := opq_ints0 op_sub fun _ _ _ _ => .int _
def aMod : AR2 := intsR (fun _ j => 0 < j) fun i j => .int (i % j)
theorem oq_mod : OpQ X (binaryOp .Mod) aMod := opq_ints op_mod fun _ _ _ _ => .int _
def DivOk (i j : Int) : Prop := CDiv i j ∨ CDivW i j
theorem rI_or {f : Value → Value → Sem Value} {c c' : Int → Int → Prop} {g : Int → Int → V} (h : OpR X f (rI c g)) (h' : OpR X f (rI c' g)) : OpR X f (rI (fun i j => c i j ∨ c' i j) g) := by
  intro pins s σ H x y v u Q I rx ry ⟨i, j, e1, e2, hc, q⟩
  rcases hc with hc | hc
  · exact h pins s σ H x y v u Q I rx ry ⟨i, j, e1, e2, hc, q⟩
  · exact h' pins s σ H x y v u Q I rx ry ⟨i, j, e1, e2, hc, q⟩
def aFdiv : AR2 := intsR DivOk fun i j => .int (i / j)
theorem oq_fdiv : OpQ X (binaryOp .FloorDiv) aFdiv := opq_ints (rI_or op_fdiv op_fdivW) fun _ _ _ _ => .int _
def aPow : AR2 := intsR CPow fun i j => .int (i ^ j.toNat)
theorem oq_pow : OpQ X (binaryOp .Pow) aPow := opq_ints op_pow fun _ _ _ _ => .int _
def aLt : AR2 := intsR0 fun i j => .bool (decide (i < j))
def aLe : AR2 := intsR0 fun i j => .bool (decide (i ≤ j))
def aGt : AR2 := intsR0 fun i j => .bool (decide (j < i))
def aGe : AR2 := intsR0 fun i j => .bool (decide (j ≤ i))
theorem oq_lt : OpQ X (compareOp .Lt) aLt := opq_ints0 op_lt fun _ _ _ _ => .bl _
theorem oq_le : OpQ X (compareOp .LtE) aLe := opq_ints0 op_le fun _ _ _ _ => .bl _
theorem oq_gt : OpQ X (compareOp .Gt) aGt := opq_ints0 op_gt fun _ _ _ _ => .bl _
theorem oq_ge : OpQ X (compareOp .GtE) aGe := opq_ints0 op_ge fun _ _ _ _ => .bl _
/-- == of data (a local list as its items) -/
def datA (m : Mm) : AV → Option D
  | .d x => some x
  | .o j => match m.o[j]? with
    | some (.l ds) => some (.list ds)
    | _ => none
  | .kt ks => some (.tuple (ks.map kD))
  | _ => none
theorem DqAll.keys {K : PySem.W.Frag} {H : Hp} : ∀ ks : List Key, DqAll K H (ks.map kV) (ks.map kD)
  | [] => .nil
  | .inl i :: r => .cons (.int i) (DqAll.keys r)
  | .inr x :: r => .cons (.str x) (DqAll.keys r)
theorem datA_ok {C : Ct} {m : Mm} {L Mo : List Addr} {H : Hp} {x : AV} {v : V} {d : D} (b : B C m L Mo H) (r : AVR C L Mo H x v) (h : datA m x = some d) : Dq C.K H v d := by
  cases x with
  | d y => simp [datA] at h; subst h; exact Dq.mono hid_same _ _ r
  | o j =>
    simp only [datA] at h
    split at h
    · rename_i ds' e
      cases h
      obtain ⟨l, xs, rfl, h1, h2⟩ := lstA_ok (ds := ds') b r (by simp [lstA, e])
      exact .lst h1 (DqAll.mono hid_same _ _ h2)
    · cases h
  | src => simp [datA] at h
  | cells => simp [datA] at h
  | scr ns => simp [datA] at h
  | kt ns =>
    simp [datA] at h
    subst h
    obtain ⟨a, rfl, q⟩ := r
    exact .tup (.inl (.inl (hid_some q).2)) (DqAll.keys ns)
  | dt ns => simp [datA] at h
  | ty ns => simp [datA] at h
  | ad ns => simp [datA] at h
def aEq : AR2 := fun x y m Q => match datA m x, datA m y with
  | some (.int i), some (.int j) => Q (.d (.bool (decide (i = j)))) m
  | some (.str i), some (.str j) => Q (.d (.bool (decide (i = j)))) m
  | some d, some e => SeqAt.shaped d = true ∧ SeqAt.shaped e = true ∧ Q (.d (.bool (PyData.eqv d e))) m
  | _, _ => False
def aNe : AR2 := fun x y m Q => match datA m x, datA m y with
  | some (.int i), some (.int j) => Q (.d (.bool (!decide (i = j)))) m
  | some (.str i), some (.str j) => Q (.d (.bool (!decide (i = j)))) m
  | some d, some e => SeqAt.shaped d = true ∧ SeqAt.shaped e = true ∧ Q (.d (.bool (!PyData.eqv d e))) m
  | _, _ => False
theorem dec_i {i j : Int} : decide (V.int i = V.int j) = decide (i = j) := by by_cases h : i = j <;> simp [h]
theorem dec_s {i j : Str} : decide (V.str i = V.str j) = decide (i = j) := by by_cases h : i = j <;> simp [h]
theorem oq_eq (hu : X.A.units + 64 < cLine) : OpQ X (compareOp .Eq) aEq := by
  refine ⟨_, OpR.or op_eq (op_eqD hu), fun C L Mo H m x y v w Q AQ hK b r1 r2 k hh => ?_⟩
  unfold aEq at hh
  split at hh
  · rename_i i j e1 e2
    have q1 := dq_int (datA_ok b r1 e1); have q2 := dq_int (datA_ok b r2 e2)
    subst q1; subst q2
    exact .inl ⟨rfl, by rw [dec_i]; exact k.ret hh b (.bl _)⟩
  · rename_i i j e1 e2
    have q1 := dq_str (datA_ok b r1 e1); have q2 := dq_str (datA_ok b r2 e2)
    subst q1; subst q2
    exact .inl ⟨rfl, by rw [dec_s]; exact k.ret hh b (.bl _)⟩
  · rename_i d e _ _ e1 e2
    exact .inr ⟨d, e, Dq.toDp _ _ (shaped_noDict hh.1) (hK ▸ datA_ok b r1 e1), Dq.toDp _ _ (shaped_noDict hh.2.1) (hK ▸ datA_ok b r2 e2), hh.1, hh.2.1, k.ret hh.2.2 b (.bl _)⟩
  · exact hh.elim
theorem oq_ne (hu : X.A.units + 64 < cLine) : OpQ X (compareOp .NotEq) aNe := by
  refine ⟨_, OpR.or op_ne (op_neD hu), fun C L Mo H m x y v w Q AQ hK b r1 r2 k hh => ?_⟩
  unfold aNe at hh
  split at hh
  · rename_i i j e1 e2
    have q1 := dq_int (datA_ok b r1 e1); have q2 := dq_int (datA_ok b r2 e2)
    subst q1; subst q2
    exact .inl ⟨rfl, by rw [dec_i]; exact k.ret hh b (.bl _)⟩
  · rename_i i j e1 e2
    have q1 := dq_str (datA_ok b r1 e1); have q2 := dq_str (datA_ok b r2 e2)
    subst q1; subst q2
    exact .inl ⟨rfl, by rw [dec_s]; exact k.ret hh b (.bl _)⟩
  · rename_i d e _ _ e1 e2
    exact .inr ⟨d, e, Dq.toDp _ _ (shaped_noDict hh.1) (hK ▸ datA_ok b r1 e1), Dq.toDp _ _ (shaped_noDict hh.2.1) (hK ▸ datA_ok b r2 e2), hh.1, hh.2.1, k.ret hh.2.2 b (.bl _)⟩
  · exact hh.elim
/-- + -/
def aAdd : AR2 := fun x y m Q => match x, y with
  | .d (.int i), .d (.int j) => Q (.d (.int (i + j))) m
  | .d (.str i), .d (.str j) => i.length + j.length ≤ sizeLine ∧ Q (.d (.str (i ++ j))) m
  | .d (.tuple xs), .d (.tuple ys) => xs.length + ys.length ≤ sizeLine ∧ Q (.d (.tuple (xs ++ ys))) m
  | x, y => match lstA m x, lstA m y with
    | some xs, some ys => xs.length + ys.length ≤ sizeLine ∧ Q (.d (.list (xs ++ ys))) m
    | _, _ => False
theorem nil_of_len {xs : List V} {ds : List D} (h : xs.length = ds.length) (e : xs = []) : ds = [] := by subst e; exact List.length_eq_zero_iff.mp h.symm
theorem oq_add : OpQ X (binaryOp .Add) aAdd := by
  refine ⟨_, OpR.or op_add (OpR.or op_add_str (OpR.or op_catA op_cat)), fun C L Mo H m x y v w Q AQ hK b r1 r2 k hh => ?_⟩
  unfold aAdd at hh
  split at hh
  · exact .inl ⟨_, _, dq_int r1, dq_int r2, k.ret hh b (.int _)⟩
  · exact .inr (.inl ⟨_, _, dq_str r1, dq_str r2, hh.1, k.ret hh.2 b (.str _)⟩)
  · rename_i xs ys
    obtain ⟨l1, vs, rfl, h1, h2⟩ := tupA_ok (ds := xs) r1 rfl
    obtain ⟨l2, ws, rfl, h3, h4⟩ := tupA_ok (ds := ys) r2 rfl
    refine .inr (.inr (.inl ⟨l1, l2, vs, ws, rfl, rfl, hK ▸ h1, hK ▸ h3, by rw [h2.len, h4.len]; exact hh.1, fun e => ?_, fun _ e => ?_, fun _ _ p hp => k.tup b hp (h2.app h4) hh.2⟩))
    · have e' := nil_of_len h2.len e
      subst e'
      exact k.ret (by simpa using hh.2) b r2
    · have e' := nil_of_len h4.len e
      subst e'
      exact k.ret (by simpa using hh.2) b r1
  · split at hh
    · rename_i xs ys e1 e2
      obtain ⟨l1, vs, rfl, h1, h2⟩ := lstA_ok b r1 e1
      obtain ⟨l2, ws, rfl, h3, h4⟩ := lstA_ok b r2 e2
      exact .inr (.inr (.inr ⟨l1, l2, vs, ws, rfl, rfl, h1, h3, by rw [h2.len, h4.len]; exact hh.1, fun p hp => k.lst b hp (h2.app h4) hh.2⟩))
    · exact hh.elim
/-- * -/
def MulOk (i j : Int) : Prop := CMul i j ∨ CMulW i j
def aMul : AR2 := intsR MulOk fun i j => .int (i * j)
theorem oq_mul : OpQ X (binaryOp .Mult) aMul := opq_ints (rI_or op_mul op_mulW) fun _ _ _ _ => .int _
/-- a list or tuple of data at a place -/
def atD (ds : List D) (i : Int) : Option D := if 0 ≤ i then ds[i.toNat]? else if -(ds.length : Int) ≤ i then ds[(i + ds.length).toNat]? else none
theorem atD_at {K : PySem.W.Frag} {H : Hp} {ds : List D} {xs : List V} {i : Int} {d : D} (h : DqAll K H xs ds) (e : atD ds i = some d) : ∃ v, atI xs i = some v ∧ Dq K H v d := by
  unfold atD at e
  have hl := h.len
  unfold atI ixN
  by_cases h0 : 0 ≤ i
  · rw [if_pos h0] at e ⊢
    obtain ⟨v, h1, h2⟩ := h.at e
    have hlt : i.toNat < ds.length := (List.getElem?_eq_some_iff.mp e).1
    rw [if_pos (by omega)]
    exact ⟨v, by simpa using h1, h2⟩
  · rw [if_neg h0] at e ⊢
    split at e
    · rename_i h1
      obtain ⟨v, h2, h3⟩ := h.at e
      rw [if_pos (by omega)]
      exact ⟨v, by simpa [hl] using h2, h3⟩
    · cases e
def aIx : AR2 := fun x y m Q => match y with
  | .d (.int i) => match seqA m x with
    | some ds => match atD ds i with
      | some d => Q (.d d) m
      | none => False
    | none => False
  | _ => False
def IxQ (X : Cx) (r : AR2) : Prop := ∃ r2, IxR X r2 ∧ ∀ (C : Ct) L Mo H m x y v w Q AQ, C.K = X.K → B C m L Mo H → AVR C L Mo H x v → AVR C L Mo H y w → Cont C L Mo H AQ Q → r x y m AQ → r2 v w H Q
theorem iq_seq : IxQ X aIx := by
  refine ⟨_, ix_seq, fun C L Mo H m x y v w Q AQ hK b r1 r2 k hh => ?_⟩
  unfold aIx at hh
  split at hh
  · split at hh
    · rename_i ds e
      split at hh
      · rename_i d e2
        obtain ⟨l, xs, rfl, h1, h2⟩ := seqA_ok b r1 e
        obtain ⟨u, h3, h4⟩ := atD_at h2 e2
        rcases h1 with h1 | h1
        · exact .inl ⟨_, _, _, _, rfl, dq_int r2, hK ▸ h1, h3, k.ret hh b h4⟩
        · exact .inr (.inl ⟨_, _, _, _, rfl, dq_int r2, hK ▸ h1, h3, k.ret hh b h4⟩)
      · exact hh.elim
    · exact hh.elim
  · exact hh.elim
variable {C : Ct} {e a b c : Expr} {ta tb tc : ATE} {pos : Pos}
theorem q_ix {r : AR2} (o : IxQ X r) (ha : QE X a ta) (hb : QE X b tb) (hs : PlainIx b) : QE X (.Subscript a b pos) (aBin r ta tb) := fun C hK => by
  obtain ⟨r2, ho, hi⟩ := o
  exact PE.imp (pe_ix ho (ha C hK) (hb C hK) hs) (bin_imp hK hi)

/-! ### unary, tests -/
def aUn (r : AR1) (ta : ATE) : ATE := fun a Q => ta a fun x m1 => r x m1 Q
def aNeg : AR1 := fun x m Q => match x with
  | .d (.int i) => Q (.d (.int (-i))) m
  | _ => False
theorem q_neg (ha : QE X a ta) : QE X (.UnaryOp .USub a pos) (aUn aNeg ta) := fun C hK => PE.imp (pe_un un_neg (ha C hK)) fun σ H Q ⟨a, L, Mo, AQ, r, k, h⟩ => by
  refine ⟨a, L, Mo, _, r, fun x m1 v L1 Mo1 H1 h1 b1 v1 e1 => ?_, h⟩
  unfold aNeg at h1
  split at h1
  · exact ⟨_, dq_int v1, (k.aft e1).ret h1 b1 (.int _)⟩
  · exact h1.elim
def aNot (t : ATT) : ATT := fun a Q => t a fun b m => Q (!b) m
theorem qt_not {t : ATT} (h : QT X a t) : QT X (.UnaryOp .Not a pos) (aNot t) := fun C hK => PT.imp (pt_not (h C hK)) fun σ H Q ⟨a, L, Mo, AQ, r, k, h⟩ =>
  ⟨a, L, Mo, _, r, fun b m1 L1 Mo1 H1 h1 b1 e1 => k _ _ _ _ _ h1 b1 e1, h⟩
def aNotV (t : ATE) : ATE := fun a Q => t a fun x m => match isB x with
  | some b => Q (.d (.bool (!b))) m
  | none => False
theorem q_not (h : QE X a ta) : QE X (.UnaryOp .Not a pos) (aNotV ta) := fun C hK => PE.imp (pe_not (h C hK)) fun σ H Q ⟨a, L, Mo, AQ, r, k, h⟩ => by
  refine ⟨a, L, Mo, _, r, fun x m1 v L1 Mo1 H1 h1 b1 v1 e1 => ?_, h⟩
  have h1' : (match isB x with | some b => AQ (.d (.bool (!b))) m1 | none => False) := h1
  split at h1'
  · rename_i b e
    exact ⟨b, isB_rel e v1, (k.aft e1).ret h1' b1 (.bl _)⟩
  · exact h1'.elim
def aAnd (t u : ATT) : ATT := fun a Q => t a fun b m => if b = true then u ⟨a.g, m⟩ Q else Q false m
def aOr (t u : ATT) : ATT := fun a Q => t a fun b m => if b = true then Q true m else u ⟨a.g, m⟩ Q
theorem ContT.aft {L Mo L' Mo' : List Addr} {H H' : Hp} {AQ : Bool → Mm → Prop} {Q : Bool → Hp → Prop} (k : ContT C L Mo H AQ Q) (x : X2 C L Mo H L' Mo' H') : ContT C L' Mo' H' AQ Q := fun b m' L2 Mo2 H2 h b2 y => k b m' L2 Mo2 H2 h b2 (x.trans y)
variable {t u : ATT} {rest : List Expr}
theorem qw_and1 (h : QT X a t) : QW X (.BoolOp .And [a] pos) t := fun C hK => pw_and1 (h C hK)
theorem qw_or1 (h : QT X a t) : QW X (.BoolOp .Or [a] pos) t := fun C hK => pw_or1 (h C hK)
theorem qw_and (h : QT X a t) (h2 : QW X (.BoolOp .And (b :: rest) pos) u) : QW X (.BoolOp .And (a :: b :: rest) pos) (aAnd t u) := fun C hK => PW.imp (pw_and (h C hK) (h2 C hK)) fun σ H Q ⟨a, L, Mo, AQ, r, k, h⟩ => by
  refine ⟨a, L, Mo, _, r, fun b m1 L1 Mo1 H1 h1 b1 e1 => ?_, h⟩
  have h1' : if b = true then u ⟨a.g, m1⟩ AQ else AQ false m1 := h1
  cases b with
  | true => exact ⟨⟨a.g, m1⟩, L1, Mo1, AQ, r.next b1 e1, k.aft e1, h1'⟩
  | false => exact k _ _ _ _ _ h1' b1 e1
theorem qw_or (h : QT X a t) (h2 : QW X (.BoolOp .Or (b :: rest) pos) u) : QW X (.BoolOp .Or (a :: b :: rest) pos) (aOr t u) := fun C hK => PW.imp (pw_or (h C hK) (h2 C hK)) fun σ H Q ⟨a, L, Mo, AQ, r, k, h⟩ => by
  refine ⟨a, L, Mo, _, r, fun b m1 L1 Mo1 H1 h1 b1 e1 => ?_, h⟩
  have h1' : if b = true then AQ true m1 else u ⟨a.g, m1⟩ AQ := h1
  cases b with
  | false => exact ⟨⟨a.g, m1⟩, L1, Mo1, AQ, r.next b1 e1, k.aft e1, h1'⟩
  | true => exact k _ _ _ _ _ h1' b1 e1
theorem qt_w (h : QW X a t) : QT X a t := fun C hK => (h C hK).pt
/-- and, or as values: truth values but for the last -/
def aAndV (ta tb : ATE) : ATE := fun a Q => ta a fun x m => match isB x with
  | some c => if c = true then tb ⟨a.g, m⟩ Q else Q (.d (.bool false)) m
  | none => False
def aOrV (ta tb : ATE) : ATE := fun a Q => ta a fun x m => match isB x with
  | some c => if c = true then Q (.d (.bool true)) m else tb ⟨a.g, m⟩ Q
  | none => False
theorem q_one {op} (h : QE X a ta) : QE X (.BoolOp op [a] pos) ta := fun C hK => pe_one (h C hK)
theorem q_and (ha : QE X a ta) (hb : QE X (.BoolOp .And (b :: rest) pos) tb) : QE X (.BoolOp .And (a :: b :: rest) pos) (aAndV ta tb) := fun C hK => PE.imp (pe_and (ha C hK) (hb C hK)) fun σ H Q ⟨a, L, Mo, AQ, r, k, h⟩ => by
  refine ⟨a, L, Mo, _, r, fun x m1 v L1 Mo1 H1 h1 b1 v1 e1 => ?_, h⟩
  have h1' : (match isB x with | some c => if c = true then tb ⟨a.g, m1⟩ AQ else AQ (.d (.bool false)) m1 | none => False) := h1
  split at h1'
  · rename_i c e
    refine ⟨c, isB_rel e v1, ?_⟩
    cases c with
    | true => exact ⟨⟨a.g, m1⟩, L1, Mo1, AQ, r.next b1 e1, k.aft e1, h1'⟩
    | false => exact (k.aft e1).ret h1' b1 (.bl _)
  · exact h1'.elim
theorem q_or (ha : QE X a ta) (hb : QE X (.BoolOp .Or (b :: rest) pos) tb) : QE X (.BoolOp .Or (a :: b :: rest) pos) (aOrV ta tb) := fun C hK => PE.imp (pe_or (ha C hK) (hb C hK)) fun σ H Q ⟨a, L, Mo, AQ, r, k, h⟩ => by
  refine ⟨a, L, Mo, _, r, fun x m1 v L1 Mo1 H1 h1 b1 v1 e1 => ?_, h⟩
  have h1' : (match isB x with | some c => if c = true then AQ (.d (.bool true)) m1 else tb ⟨a.g, m1⟩ AQ | none => False) := h1
  split at h1'
  · rename_i c e
    refine ⟨c, isB_rel e v1, ?_⟩
    cases c with
    | false => exact ⟨⟨a.g, m1⟩, L1, Mo1, AQ, r.next b1 e1, k.aft e1, h1'⟩
    | true => exact (k.aft e1).ret h1' b1 (.bl _)
  · exact h1'.elim
def aIf (t : ATT) (ta tb : ATE) : ATE := fun a Q => t a fun b m => if b = true then ta ⟨a.g, m⟩ Q else tb ⟨a.g, m⟩ Q
theorem q_if (h : QT X c t) (ha : QE X a ta) (hb : QE X b tb) : QE X (.IfExp c a b pos) (aIf t ta tb) := fun C hK => PE.imp (pe_ifExp (h C hK) (ha C hK) (hb C hK)) fun σ H Q ⟨a, L, Mo, AQ, r, k, h⟩ => by
  refine ⟨a, L, Mo, _, r, fun b m1 L1 Mo1 H1 h1 b1 e1 => ?_, h⟩
  have h1' : if b = true then ta ⟨a.g, m1⟩ AQ else tb ⟨a.g, m1⟩ AQ := h1
  cases b with
  | true => exact ⟨⟨a.g, m1⟩, L1, Mo1, AQ, r.next b1 e1, k.aft e1, h1'⟩
  | false => exact ⟨⟨a.g, m1⟩, L1, Mo1, AQ, r.next b1 e1, k.aft e1, h1'⟩
/-- a value's truth -/
def truA (m : Mm) (x : AV) : Option Bool := match x with
  | .d .none => some false
  | .d (.bool b) => some b
  | .d (.int i) => some (i != 0)
  | x => match seqA m x with
    | some ds => some (!ds.isEmpty)
    | none => none
def aTru (t : ATE) : ATT := fun a Q => t a fun x m => match truA m x with
  | some b => Q b m
  | none => False
theorem isEmpty_len {α β : Type} {xs : List α} {ds : List β} (h : xs.length = ds.length) : xs.isEmpty = ds.isEmpty := by cases xs <;> cases ds <;> simp_all
theorem truA_ok {m : Mm} {L Mo : List Addr} {H : Hp} {x : AV} {v : V} {k : Bool} (bb : B C m L Mo H) (r : AVR C L Mo H x v) (h : truA m x = some k) : TruV C.K v H k := by
  unfold truA at h
  split at h
  · cases h; cases r; rfl
  · cases h; cases r; rfl
  · cases h; cases r; rfl
  · split at h
    · rename_i ds e
      cases h
      obtain ⟨l, xs, rfl, h1, h2⟩ := seqA_ok bb r e
      rcases h1 with h1 | h1
      · exact .inl ⟨xs, h1, by rw [isEmpty_len h2.len]⟩
      · exact .inr (.inl ⟨xs, h1, by rw [isEmpty_len h2.len]⟩)
    · cases h
theorem qt_tru (ha : QE X a ta) (he : ∀ whole, isTrue a X.env whole = (do let v ← whole; standAt a.pos; holding [v] (truthy v))) : QT X a (aTru ta) := fun C hK => PT.imp (pt_truth (ha C hK) he) fun σ H Q ⟨a, L, Mo, AQ, r, k, h⟩ => by
  refine ⟨a, L, Mo, _, r, fun x m1 v L1 Mo1 H1 h1 b1 v1 e1 => ?_, h⟩
  have h1' : (match truA m1 x with | some b => AQ b m1 | none => False) := h1
  split at h1'
  · rename_i b e
    exact ⟨b, hK ▸ truA_ok b1 v1 e, k _ _ _ _ _ h1' b1 e1⟩
  · exact h1'.elim

/-! ### arguments, displays -/
def aNil : ATA := fun a Q => Q [] a.m
def aCons (ta : ATE) (tr : ATA) : ATA := fun a Q => ta a fun x m1 => tr ⟨a.g, m1⟩ fun xs m2 => Q (x :: xs) m2
variable {es : List Expr} {tr : ATA}
theorem qa_nil : QA X [] aNil := fun C hK => PA.imp pa_nil fun σ H Q ⟨a, L, Mo, AQ, r, k, h⟩ => k _ _ _ _ _ _ h r.b .nil X2.refl
theorem qa_cons (ha : QE X e ta) (hr : QA X es tr) (hs : starEach (e :: es) X.env = (false, eval e X.env) :: starEach es X.env := by rfl) : QA X (e :: es) (aCons ta tr) := fun C hK => PA.imp (pa_cons (ha C hK) (hr C hK) hs) fun σ H Q ⟨a, L, Mo, AQ, r, k, h⟩ =>
  ⟨a, L, Mo, _, r, fun x m1 v L1 Mo1 H1 h1 b1 v1 e1 => ⟨⟨a.g, m1⟩, L1, Mo1, _, r.next b1 e1, fun xs m2 vs L2 Mo2 H2 h2 b2 v2 e2 => k _ _ _ _ _ _ h2 b2 (.cons (v1.mono e2) v2) (e1.trans e2), h1⟩, h⟩
def datas : List AV → Option (List D)
  | [] => some []
  | .d x :: r => match datas r with
    | some l => some (x :: l)
    | none => none
  | _ => none
theorem datas_ok {L Mo : List Addr} {H : Hp} : ∀ {avs : List AV} {vs : List V} {ds : List D}, AVRs C L Mo H avs vs → datas avs = some ds → DqAll C.K (C.hd L Mo H) vs ds
  | [], _, _, .nil, h => by cases h; exact .nil
  | .d x :: r, _, _, .cons q t, h => by
    simp only [datas] at h
    split at h
    · rename_i l e
      cases h
      exact .cons q (datas_ok t e)
    · cases h
  | .o j :: r, _, _, .cons q t, h => by simp [datas] at h
  | .src :: r, _, _, .cons q t, h => by simp [datas] at h
  | .cells :: r, _, _, .cons q t, h => by simp [datas] at h
  | .scr _ :: r, _, _, .cons q t, h => by simp [datas] at h
  | .kt _ :: r, _, _, .cons q t, h => by simp [datas] at h
  | .dt _ :: r, _, _, .cons q t, h => by simp [datas] at h
  | .ty _ :: r, _, _, .cons q t, h => by simp [datas] at h
  | .ad _ :: r, _, _, .cons q t, h => by simp [datas] at h
def aTup (t : ATA) : ATE := fun a Q => t a fun avs m => match datas avs with
  | some ds => ds.length ≤ 1000 ∧ Q (.d (.tuple ds)) m
  | none => False
def aLst (t : ATA) : ATE := fun a Q => t a fun avs m => match datas avs with
  | some ds => ds.length ≤ 1000 ∧ Q (.d (.list ds)) m
  | none => False
/-- a list that its def may change -/
def aLstM (t : ATA) : ATE := fun a Q => t a fun avs m => match datas avs with
  | some ds => ds.length ≤ 1000 ∧ Q (.o m.o.length) ⟨m.s, m.o ++ [.l ds]⟩
  | none => False
theorem line1000 {n : Nat} (h : n ≤ 1000) : n ≤ sizeLine := Nat.le_of_lt (small1000 h)
theorem q_tup {x1} (h : QA X es tr) : QE X (.Tuple es x1 pos) (aTup tr) := fun C hK => PE.imp (pe_tup (h C hK)) fun σ H Q ⟨a, L, Mo, AQ, r, k, h⟩ => by
  refine ⟨a, L, Mo, _, r, fun xs m1 vs L1 Mo1 H1 h1 b1 v1 e1 => ?_, h⟩
  have h1' : (match datas xs with | some ds => ds.length ≤ 1000 ∧ AQ (.d (.tuple ds)) m1 | none => False) := h1
  split at h1'
  · rename_i ds e
    have q := datas_ok v1 e
    exact ⟨line1000 (by rw [q.len]; exact h1'.1), fun p hp => (k.aft e1).tup b1 hp q h1'.2⟩
  · exact h1'.elim
theorem q_lst (h : QA X es tr) : QE X (.List es pos) (aLst tr) := fun C hK => PE.imp (pe_lst (h C hK)) fun σ H Q ⟨a, L, Mo, AQ, r, k, h⟩ => by
  refine ⟨a, L, Mo, _, r, fun xs m1 vs L1 Mo1 H1 h1 b1 v1 e1 => ?_, h⟩
  have h1' : (match datas xs with | some ds => ds.length ≤ 1000 ∧ AQ (.d (.list ds)) m1 | none => False) := h1
  split at h1'
  · rename_i ds e
    have q := datas_ok v1 e
    exact ⟨line1000 (by rw [q.len]; exact h1'.1), fun p hp => (k.aft e1).lst b1 hp q h1'.2⟩
  · exact h1'.elim
theorem q_lstM (h : QA X es tr) : QE X (.List es pos) (aLstM tr) := fun C hK => PE.imp (pe_lst (h C hK)) fun σ H Q ⟨a, L, Mo, AQ, r, k, h⟩ => by
  refine ⟨a, L, Mo, _, r, fun xs m1 vs L1 Mo1 H1 h1 b1 v1 e1 => ?_, h⟩
  have h1' : (match datas xs with | some ds => ds.length ≤ 1000 ∧ AQ (.o m1.o.length) ⟨m1.s, m1.o ++ [.l ds]⟩ | none => False) := h1
  split at h1'
  · rename_i ds e
    have q := datas_ok v1 e
    exact ⟨line1000 (by rw [q.len]; exact h1'.1), fun p hp => (k.aft e1).lstM b1 hp q h1'.2⟩
  · exact h1'.elim

/-! ### calls of built-ins -/
abbrev AC1 := List AV → Mm → (AV → Mm → Prop) → Prop
def CallQ (X : Cx) (f : Value) (r : AC1) : Prop := ∃ r2, CallR X f r2 ∧ ∀ (C : Ct) L Mo H m avs vs Q AQ, C.K = X.K → B C m L Mo H → AVRs C L Mo H avs vs → Cont C L Mo H AQ Q → r avs m AQ → r2 vs H Q
def aCall (r : AC1) (t : ATA) : ATE := fun a Q => t a fun avs m => r avs m Q
theorem call_imp {r : AC1} {r2 : List V → Hp → VK → Prop} (hK : C.K = X.K) (ho : ∀ (C : Ct) L Mo H m avs vs Q AQ, C.K = X.K → B C m L Mo H → AVRs C L Mo H avs vs → Cont C L Mo H AQ Q → r avs m AQ → r2 vs H Q) (σ : List (Option V)) (H : Hp) (Q : VK)
    (h : lft C (aCall r tr) σ H Q) : tCB r2 (lftA C tr) σ H Q := by
  obtain ⟨a, L, Mo, AQ, rr, k, h⟩ := h
  exact ⟨a, L, Mo, _, rr, fun xs m1 vs L1 Mo1 H1 h1 b1 v1 e1 => ho C L1 Mo1 H1 m1 xs vs Q AQ hK b1 v1 (k.aft e1) h1, h⟩
variable {x : Str} {id T : String} {p : Pos}
theorem q_callB {r : AC1} (o : CallQ X (.builtin id) r) (hg : Gl X x) (hm : X.mg x = none) (hv : bootBuiltins x = some (.builtin id)) (ha : QA X (e :: es) tr) (hn : x ≠ "__name__" := by decide) (hdb : (x == ("__debug__" : Str)) = false := by decide)
    (he : starEach (e :: es) X.env = (false, eval e X.env) :: starEach es X.env := by rfl) (hpl : (backTo pos (starEach es X.env)).any (·.1) = false := by rfl) : QE X (.Call (.Name x p) (e :: es) [] pos) (aCall r tr) := fun C hK => by
  obtain ⟨r2, ho, hi⟩ := o
  exact PE.imp (pe_callB ho hg hm hv (ha C hK) hn hdb he hpl) (call_imp hK hi)
theorem q_callTy {r : AC1} (o : CallQ X (.type T) r) (hg : Gl X x) (hm : X.mg x = none) (hv : bootBuiltins x = some (.type T)) (ha : QA X (e :: es) tr) (hn : x ≠ "__name__" := by decide) (hdb : (x == ("__debug__" : Str)) = false := by decide)
    (he : starEach (e :: es) X.env = (false, eval e X.env) :: starEach es X.env := by rfl) (hpl : (backTo pos (starEach es X.env)).any (·.1) = false := by rfl) : QE X (.Call (.Name x p) (e :: es) [] pos) (aCall r tr) := fun C hK => by
  obtain ⟨r2, ho, hi⟩ := o
  exact PE.imp (pe_callTy ho hg hm hv (ha C hK) hn hdb he hpl) (call_imp hK hi)
theorem av1 {L Mo : List Addr} {H : Hp} {x : AV} {vs : List V} (h : AVRs C L Mo H [x] vs) : ∃ v, vs = [v] ∧ AVR C L Mo H x v := by
  cases h with
  | cons q t => cases t; exact ⟨_, rfl, q⟩
theorem av2 {L Mo : List Addr} {H : Hp} {x y : AV} {vs : List V} (h : AVRs C L Mo H [x, y] vs) : ∃ v w, vs = [v, w] ∧ AVR C L Mo H x v ∧ AVR C L Mo H y w := by
  cases h with
  | cons q t => cases t with
    | cons q2 t2 => cases t2; exact ⟨_, _, rfl, q, q2⟩
def bLen : AC1 := fun avs m Q => match avs with
  | [.d (.str x)] => x.length ≤ sizeLine ∧ Q (.d (.int x.length)) m
  | [x] => match seqA m x with
    | some ds => Q (.d (.int ds.length)) m
    | none => False
  | _ => False
theorem cq_len : CallQ X (.builtin "len") bLen := by
  refine ⟨_, call_len, fun C L Mo H m avs vs Q AQ hK b r k hh => ?_⟩
  unfold bLen at hh
  split at hh
  · obtain ⟨v, rfl, rv⟩ := av1 r
    have := dq_str rv
    subst this
    exact ⟨_, _, rfl, ⟨hh.1, rfl⟩, k.ret hh.2 b (.int _)⟩
  · split at hh
    · rename_i ds e
      obtain ⟨v, rfl, rv⟩ := av1 r
      obtain ⟨l, xs, rfl, h1, h2⟩ := seqA_ok b rv e
      rcases h1 with h1 | h1
      · exact ⟨_, xs.length, rfl, .inl ⟨xs, hK ▸ h1, rfl⟩, by rw [h2.len]; exact k.ret hh b (.int _)⟩
      · exact ⟨_, xs.length, rfl, .inr ⟨xs, hK ▸ h1, rfl⟩, by rw [h2.len]; exact k.ret hh b (.int _)⟩
    · exact hh.elim
  · exact hh.elim
def bInt : AC1 := fun avs m Q => match avs with
  | [.d (.int i)] => Q (.d (.int i)) m
  | [.d (.bool k)] => Q (.d (.int (if k then 1 else 0))) m
  | _ => False
theorem cq_int : CallQ X (.type "int") bInt := by
  refine ⟨_, call_int1, fun C L Mo H m avs vs Q AQ hK b r k hh => ?_⟩
  unfold bInt at hh
  split at hh
  · obtain ⟨v, rfl, rv⟩ := av1 r
    exact .inl ⟨_, by rw [dq_int rv], k.ret hh b (.int _)⟩
  · obtain ⟨v, rfl, rv⟩ := av1 r
    exact .inr ⟨_, by rw [dq_bl rv], k.ret hh b (.int _)⟩
  · exact hh.elim
def bAbs : AC1 := fun avs m Q => match avs with
  | [.d (.int i)] => Q (.d (.int (if i < 0 then -i else i))) m
  | _ => False
theorem cq_abs : CallQ X (.builtin "abs") bAbs := by
  refine ⟨_, call_abs, fun C L Mo H m avs vs Q AQ hK b r k hh => ?_⟩
  unfold bAbs at hh
  split at hh
  · obtain ⟨v, rfl, rv⟩ := av1 r
    exact ⟨_, by rw [dq_int rv], k.ret hh b (.int _)⟩
  · exact hh.elim
def bMax : AC1 := fun avs m Q => match avs with
  | [.d (.int i), .d (.int j)] => Q (.d (.int (if j > i then j else i))) m
  | _ => False
theorem cq_max (hc : X.calm = true) : CallQ X (.builtin "max") bMax := by
  refine ⟨_, call_max2 hc, fun C L Mo H m avs vs Q AQ hK b r k hh => ?_⟩
  unfold bMax at hh
  split at hh
  · obtain ⟨v, w, rfl, rv, rw_⟩ := av2 r
    exact ⟨_, _, by rw [dq_int rv, dq_int rw_], k.ret hh b (.int _)⟩
  · exact hh.elim
def bMin : AC1 := fun avs m Q => match avs with
  | [.d (.int i), .d (.int j)] => Q (.d (.int (if j < i then j else i))) m
  | _ => False
theorem cq_min (hc : X.calm = true) : CallQ X (.builtin "min") bMin := by
  refine ⟨_, call_min2 hc, fun C L Mo H m avs vs Q AQ hK b r k hh => ?_⟩
  unfold bMin at hh
  split at hh
  · obtain ⟨v, w, rfl, rv, rw_⟩ := av2 r
    exact ⟨_, _, by rw [dq_int rv, dq_int rw_], k.ret hh b (.int _)⟩
  · exact hh.elim
def bTuple : AC1 := fun avs m Q => match avs with
  | [.d (.tuple ds)] => Q (.d (.tuple ds)) m
  | [x] => match lstA m x with
    | some ds => Q (.d (.tuple ds)) m
    | none => False
  | _ => False
theorem cq_tuple : CallQ X (.type "tuple") bTuple := by
  refine ⟨_, call_tuple_of, fun C L Mo H m avs vs Q AQ hK b r k hh => ?_⟩
  unfold bTuple at hh
  split at hh
  · rename_i ds
    obtain ⟨v, rfl, rv⟩ := av1 r
    obtain ⟨l, xs, rfl, h1, h2⟩ := tupA_ok (ds := ds) rv rfl
    exact ⟨l, xs, rfl, .inr ⟨hK ▸ h1, k.ret hh b rv⟩⟩
  · split at hh
    · rename_i ds e
      obtain ⟨v, rfl, rv⟩ := av1 r
      obtain ⟨l, xs, rfl, h1, h2⟩ := lstA_ok b rv e
      exact ⟨l, xs, rfl, .inl ⟨SqL.of h1, fun p hp => k.tup b hp h2 hh⟩⟩
    · exact hh.elim
  · exact hh.elim
/-- list(x): a new list, not changed afterwards; one that may be changed -/
def bList : AC1 := fun avs m Q => match avs with
  | [x] => match seqA m x with
    | some ds => Q (.d (.list ds)) m
    | none => False
  | _ => False
theorem cq_list : CallQ X (.type "list") bList := by
  refine ⟨_, call_list_of, fun C L Mo H m avs vs Q AQ hK b r k hh => ?_⟩
  unfold bList at hh
  split at hh
  · split at hh
    · rename_i ds e
      obtain ⟨v, rfl, rv⟩ := av1 r
      obtain ⟨l, xs, rfl, h1, h2⟩ := seqA_ok b rv e
      exact ⟨l, xs, rfl, hK ▸ h1, fun p hp => k.lst b hp h2 hh⟩
    · exact hh.elim
  · exact hh.elim
def bListM : AC1 := fun avs m Q => match avs with
  | [x] => match seqA m x with
    | some ds => Q (.o m.o.length) ⟨m.s, m.o ++ [.l ds]⟩
    | none => False
  | _ => False
theorem cq_listM : CallQ X (.type "list") bListM := by
  refine ⟨_, call_list_of, fun C L Mo H m avs vs Q AQ hK b r k hh => ?_⟩
  unfold bListM at hh
  split at hh
  · split at hh
    · rename_i ds e
      obtain ⟨v, rfl, rv⟩ := av1 r
      obtain ⟨l, xs, rfl, h1, h2⟩ := seqA_ok b rv e
      exact ⟨l, xs, rfl, hK ▸ h1, fun p hp => k.lstM b hp h2 hh⟩
    · exact hh.elim
  · exact hh.elim
def intsD : List D → Option (List Int)
  | [] => some []
  | .int i :: r => match intsD r with
    | some l => some (i :: l)
    | none => none
  | _ => none
theorem intsD_ok {K : PySem.W.Frag} {H : Hp} : ∀ {ds : List D} {xs : List V} {ns : List Int}, DqAll K H xs ds → intsD ds = some ns → xs = ns.map V.int
  | [], _, _, h, e => by cases e; cases h; rfl
  | .int i :: r, _, _, h, e => by
    simp only [intsD] at e
    split at e
    · rename_i l e'
      cases e
      cases h with
      | cons h1 h2 => cases h1; simp [intsD_ok h2 e']
    · cases e
  | .none :: r, _, _, h, e => by simp [intsD] at e
  | .bool _ :: r, _, _, h, e => by simp [intsD] at e
  | .str _ :: r, _, _, h, e => by simp [intsD] at e
  | .list _ :: r, _, _, h, e => by simp [intsD] at e
  | .tuple _ :: r, _, _, h, e => by simp [intsD] at e
  | .dict _ :: r, _, _, h, e => by simp [intsD] at e
theorem intsD_map (ns : List Int) : intsD (ns.map PyData.int) = some ns := by
  induction ns with
  | nil => rfl
  | cons n ns ih => simp [intsD, ih]
def bSum : AC1 := fun avs m Q => match avs with
  | [x] => match lstA m x with
    | some ds => match intsD ds with
      | some ns => Q (.d (.int ns.sum)) m
      | none => False
    | none => False
  | _ => False
theorem cq_sum (hc : X.calm = true) : CallQ X (.builtin "sum") bSum := by
  refine ⟨_, cr_sum hc, fun C L Mo H m avs vs Q AQ hK b r k hh => ?_⟩
  unfold bSum at hh
  split at hh
  · split at hh
    · rename_i ds e
      split at hh
      · rename_i ns e2
        obtain ⟨v, rfl, rv⟩ := av1 r
        obtain ⟨l, xs, rfl, h1, h2⟩ := lstA_ok b rv e
        exact ⟨l, ns, rfl, SqL.of (by rw [h1, intsD_ok h2 e2]), k.ret hh b (.int _)⟩
      · exact hh.elim
    · exact hh.elim
  · exact hh.elim
end
end QL

namespace QL
open PySem PySem.Spec PyProof.Rows L2

/-! ### statements -/
structure AEnds where
  nx : AS → Prop
  rt : AV → Mm → Prop
  bk : AS → Prop := fun _ => False
  ct : AS → Prop := fun _ => False
abbrev ATS := AEnds → AS → Prop
structure Bel (C : Ct) (AD : AEnds) (D : Ends) : Prop where
  nx : ∀ a L Mo σ H, AD.nx a → R C a L Mo σ H → D.nx σ H
  rt : ∀ av m L Mo H v, AD.rt av m → B C m L Mo H → AVR C L Mo H av v → D.rt v H
  bk : ∀ a L Mo σ H, AD.bk a → R C a L Mo σ H → D.bk σ H
  ct : ∀ a L Mo σ H, AD.ct a → R C a L Mo σ H → D.ct σ H
def lftS (C : Ct) (t : ATS) : TS := fun D σ H => ∃ a L Mo AD, R C a L Mo σ H ∧ Bel C AD D ∧ t AD a
theorem PS.imp {X : Cx} {e : Stmt} {t t' : TS} (h : PS X e t) (i : ∀ D σ H, t' D σ H → t D σ H) : PS X e t' := ⟨fun pins s σ H Q I q => h.run pins s σ H Q I (i Q σ H q)⟩
theorem PSs.imp {X : Cx} {e : List Stmt} {t t' : TS} (h : PSs X e t) (i : ∀ D σ H, t' D σ H → t D σ H) : PSs X e t' := ⟨fun pins s σ H Q I q => h.run pins s σ H Q I (i Q σ H q)⟩
def QS (X : Cx) (st : Stmt) (t : ATS) : Prop := ∀ C : Ct, C.K = X.K → PS X st (lftS C t)
def QSs (X : Cx) (st : List Stmt) (t : ATS) : Prop := ∀ C : Ct, C.K = X.K → PSs X st (lftS C t)
def aNext : ATS := fun D a => D.nx a
def aSeq (t u : ATS) : ATS := fun D a => t { D with nx := u D } a
section
variable {X : Cx} {st : Stmt} {sts : List Stmt} {t u : ATS} {e : Expr} {te : ATE} {pos : Pos}
theorem qss_nil : QSs X [] aNext := fun C hK => PSs.imp pss_nil fun D σ H ⟨a, L, Mo, AD, r, b, h⟩ => b.nx _ _ _ _ _ h r
theorem qss_cons (h1 : QS X st t) (h2 : QSs X sts u) : QSs X (st :: sts) (aSeq t u) := fun C hK => PSs.imp (pss_cons (h1 C hK) (h2 C hK)) fun D σ H ⟨a, L, Mo, AD, r, b, h⟩ =>
  ⟨a, L, Mo, { AD with nx := u AD }, r, ⟨fun a' L' Mo' σ' H' q r' => ⟨a', L', Mo', AD, r', b, q⟩, b.rt, b.bk, b.ct⟩, h⟩
theorem qss_one (h1 : QS X st t) : QSs X [st] t := fun C hK => pss_one (h1 C hK)
def aBreak : ATS := fun D a => D.bk a
def aCont : ATS := fun D a => D.ct a
theorem qs_pass : QS X (.Pass pos) aNext := fun C hK => PS.imp ps_pass fun D σ H ⟨a, L, Mo, AD, r, b, h⟩ => b.nx _ _ _ _ _ h r
theorem qs_break : QS X (.Break pos) aBreak := fun C hK => PS.imp ps_break fun D σ H ⟨a, L, Mo, AD, r, b, h⟩ => b.bk _ _ _ _ _ h r
theorem qs_continue : QS X (.Continue pos) aCont := fun C hK => PS.imp ps_continue fun D σ H ⟨a, L, Mo, AD, r, b, h⟩ => b.ct _ _ _ _ _ h r
def aDrop (te : ATE) : ATS := fun D a => te a fun _ m => D.nx ⟨a.g, m⟩
theorem qs_expr (he : QE X e te) (hs : swapsWith e none pos.line X.env = pure false := by rfl) : QS X (.Expr e pos) (aDrop te) := fun C hK => PS.imp (ps_expr (he C hK) hs) fun D σ H ⟨a, L, Mo, AD, r, b, h⟩ =>
  ⟨a, L, Mo, _, r, fun av m' v L' Mo' H' q b' rv x => b.nx _ _ _ _ _ q (r.next b' x), h⟩
def aRet (te : ATE) : ATS := fun D a => te a D.rt
theorem qs_ret (he : QE X e te) : QS X (.Return (some e) pos) (aRet te) := fun C hK => PS.imp (ps_ret (he C hK)) fun D σ H ⟨a, L, Mo, AD, r, b, h⟩ =>
  ⟨a, L, Mo, _, r, fun av m' v L' Mo' H' q b' rv x => b.rt _ _ _ _ _ _ q b' rv, h⟩
def aRetN : ATS := fun D a => D.rt (.d .none) a.m
theorem qs_retN : QS X (.Return none pos) aRetN := fun C hK => PS.imp ps_retN fun D σ H ⟨a, L, Mo, AD, r, b, h⟩ => b.rt _ _ _ _ _ _ h r.b .non
def aIfS (c : ATT) (t u : ATS) : ATS := fun D a => c a fun b m => if b = true then t D ⟨a.g, m⟩ else u D ⟨a.g, m⟩
theorem qs_if {c : Expr} {x y : List Stmt} {tc : ATT} (hc : QT X c tc) (ha : QSs X x t) (hb : QSs X y u) : QS X (.If c x y pos) (aIfS tc t u) := fun C hK => PS.imp (ps_if (hc C hK) (ha C hK) (hb C hK)) fun D σ H ⟨a, L, Mo, AD, r, b, h⟩ => by
  refine ⟨a, L, Mo, _, r, fun k m1 L1 Mo1 H1 h1 b1 e1 => ?_, h⟩
  have h1' : if k = true then t AD ⟨a.g, m1⟩ else u AD ⟨a.g, m1⟩ := h1
  cases k with
  | true => exact ⟨⟨a.g, m1⟩, L1, Mo1, AD, r.next b1 e1, b, h1'⟩
  | false => exact ⟨⟨a.g, m1⟩, L1, Mo1, AD, r.next b1 e1, b, h1'⟩
def aNever : ATS := fun _ _ => False
theorem qs_never : QS X st aNever := fun C hK => PS.imp ps_never fun D σ H ⟨a, L, Mo, AD, r, b, h⟩ => h
end

/-! ### targets: the slots alone change -/
abbrev ATG := AV → Mm → List (Option AV) → (List (Option AV) → Prop) → Prop
abbrev ATGs := List D → Mm → List (Option AV) → (List (Option AV) → Prop) → Prop
def lftG (C : Ct) (vs : List Nat) (t : ATG) : TG := fun v σ H Q => ∃ a L Mo av AQ, R C a L Mo σ H ∧ AVR C L Mo H av v ∧ (∀ g' σ', AQ g' → R C ⟨g', a.m⟩ L Mo σ' H → wipe σ' vs = wipe σ vs → Q σ' H) ∧ t av a.m a.g AQ
def lftGs (C : Ct) (vs : List Nat) (t : ATGs) : TGs := fun us σ H Q => ∃ a L Mo ds AQ, R C a L Mo σ H ∧ DqAll C.K (C.hd L Mo H) us ds ∧ (∀ g' σ', AQ g' → R C ⟨g', a.m⟩ L Mo σ' H → wipe σ' vs = wipe σ vs → Q σ' H) ∧ t ds a.m a.g AQ
theorem PG.imp {X : Cx} {e : Expr} {t t' : TG} (h : PG X e t) (i : ∀ v σ H Q, t' v σ H Q → t v σ H Q) : PG X e t' := ⟨fun pins s σ H v u Q I rv q => h.run pins s σ H v u Q I rv (i v σ H Q q)⟩
theorem PGs.imp {X : Cx} {e : List Expr} {t t' : TGs} (h : PGs X e t) (i : ∀ v σ H Q, t' v σ H Q → t v σ H Q) : PGs X e t' := ⟨fun pins s σ H v u Q I rv q => h.run pins s σ H v u Q I rv (i v σ H Q q)⟩
def QG (X : Cx) (vs : List Nat) (e : Expr) (t : ATG) : Prop := ∀ C : Ct, C.K = X.K → PG X e (lftG C vs t)
def QGs (X : Cx) (vs : List Nat) (e : List Expr) (t : ATGs) : Prop := ∀ C : Ct, C.K = X.K → PGs X e (lftGs C vs t)
theorem wipe_get {σ : List (Option V)} {j : Nat} : ∀ {vs : List Nat}, (wipe σ vs)[j]? = if j ∈ vs then (if j < σ.length then some none else none) else σ[j]?
  | [] => by simp [wipe]
  | v :: vs => by
    show ((wipe σ vs).set v none)[j]? = _
    by_cases h : v = j
    · subst h
      rw [if_pos List.mem_cons_self]
      by_cases hl : v < σ.length
      · rw [if_pos hl, List.getElem?_set_self (by rw [wipe_length]; exact hl)]
      · rw [if_neg hl, List.getElem?_eq_none_iff.mpr (by rw [List.length_set, wipe_length]; omega)]
    · rw [List.getElem?_set_ne h, wipe_get]
      by_cases hm : j ∈ vs
      · rw [if_pos hm, if_pos (List.mem_cons_of_mem _ hm)]
      · rw [if_neg hm, if_neg (by simp [hm]; exact fun e => h e.symm)]
theorem wipe_set {σ : List (Option V)} {i : Nat} {v : Option V} {vs : List Nat} (h : i ∈ vs) : wipe (σ.set i v) vs = wipe σ vs := by
  apply List.ext_getElem?
  intro j
  rw [wipe_get, wipe_get, List.length_set]
  by_cases hj : j ∈ vs
  · rw [if_pos hj, if_pos hj]
  · rw [if_neg hj, if_neg hj, List.getElem?_set_ne (fun e => hj (by rw [← e]; exact h))]
section
variable {X : Cx} {pos : Pos} {vs : List Nat}
def aGName (i : Nat) : ATG := fun av m g Q => Q (g.set i (some av))
theorem qg_name {i : Nat} {x : Str} (hN : X.N.Nodup) (hi : X.N[i]? = some x) (hx : Loc X.env.scope x) (hv : i ∈ vs) (hf : X.fn x = true ∨ X.env.scope.names.lookup x = some .local := by first | exact .inl rfl | exact .inr rfl | assumption) : QG X vs (.Name x pos) (aGName i) := fun C hK =>
  PG.imp (pg_name hN hi hx hf) fun v σ H Q ⟨a, L, Mo, av, AQ, r, rv, k, h⟩ => k _ _ h (r.set i rv) (wipe_set hv)
def aGNil : ATGs := fun ds m g Q => match ds with
  | [] => Q g
  | _ => False
def aGCons (t : ATG) (u : ATGs) : ATGs := fun ds m g Q => match ds with
  | d :: r => t (.d d) m g fun g' => u r m g' Q
  | [] => False
theorem qgs_nil : QGs X vs [] aGNil := fun C hK => PGs.imp pgs_nil fun us σ H Q ⟨a, L, Mo, ds, AQ, r, rv, k, h⟩ => by
  unfold aGNil at h
  split at h
  · cases rv; exact ⟨rfl, k _ _ h r rfl⟩
  · exact h.elim
theorem qgs_cons {e : Expr} {es : List Expr} {t : ATG} {u : ATGs} (h1 : QG X vs e t) (h2 : QGs X vs es u) (hs : (assignEach (e :: es) X.env).map (·.2) = assign e X.env :: (assignEach es X.env).map (·.2) := by rfl) : QGs X vs (e :: es) (aGCons t u) := fun C hK =>
  PGs.imp (pgs_cons (h1 C hK) (h2 C hK) hs) fun us σ H Q ⟨a, L, Mo, ds, AQ, r, rv, k, h⟩ => by
    unfold aGCons at h
    split at h
    · rename_i d ds'
      cases rv with
      | cons q1 q2 =>
        refine ⟨_, _, rfl, a, L, Mo, .d d, _, r, q1, fun g' σ' hg r' w => ⟨⟨g', a.m⟩, L, Mo, _, AQ, r', q2, fun g2 σ2 hg2 r2 w2 => k g2 σ2 hg2 r2 (w2.trans w), hg⟩, h⟩
    · exact h.elim
def aGTup (n : Nat) (t : ATGs) : ATG := fun av m g Q => match tupA av with
  | some ds => ds.length = n ∧ t ds m g Q
  | none => False
theorem qg_tup {es : List Expr} {k : Nat} {t : ATGs} {n : Nat} (hc : X.calm = true) (h : QGs X vs es t) (hn : (assignEach es X.env).length = n := by rfl) (hst : (assignEach es X.env).findIdx? (·.1) = none := by rfl) : QG X vs (.Tuple es k pos) (aGTup n t) := fun C hK =>
  PG.imp (pg_tup hc (h C hK) hn hst) fun v σ H Q ⟨a, L, Mo, av, AQ, r, rv, k, h⟩ => by
    unfold aGTup at h
    split at h
    · rename_i ds e
      obtain ⟨l, xs, rfl, h1, h2⟩ := tupA_ok rv e
      exact ⟨l, xs, rfl, hK ▸ h1, h2.len.trans h.1, a, L, Mo, ds, AQ, r, h2, k, h.2⟩
    · exact h.elim
/-- a list unpacked -/
def aGLst (n : Nat) (t : ATGs) : ATG := fun av m g Q => match lstA m av with
  | some ds => ds.length = n ∧ t ds m g Q
  | none => False
theorem qg_lst {es : List Expr} {k : Nat} {t : ATGs} {n : Nat} (hc : X.calm = true) (h : QGs X vs es t) (hn : (assignEach es X.env).length = n := by rfl) (hst : (assignEach es X.env).findIdx? (·.1) = none := by rfl) : QG X vs (.Tuple es k pos) (aGLst n t) := fun C hK =>
  PG.imp (pg_unl hc (h C hK) hn hst) fun v σ H Q ⟨a, L, Mo, av, AQ, r, rv, k, h⟩ => by
    unfold aGLst at h
    split at h
    · rename_i ds e
      obtain ⟨l, xs, rfl, h1, h2⟩ := lstA_ok r.b rv e
      exact ⟨l, xs, rfl, SqL.of h1, h2.len.trans h.1, a, L, Mo, ds, AQ, r, h2, k, h.2⟩
    · exact h.elim
def aAsg (te : ATE) (g : ATG) : ATS := fun D a => te a fun x m => g x m a.g fun g' => D.nx ⟨g', m⟩
theorem asg_imp {C : Ct} {te : ATE} {g : ATG} (D : Ends) (σ : List (Option V)) (H : Hp) (h : lftS C (aAsg te g) D σ H) : tAsg (lft C te) (lftG C vs g) D σ H := by
  obtain ⟨a, L, Mo, AD, r, b, h⟩ := h
  exact ⟨a, L, Mo, _, r, fun x m1 v L1 Mo1 H1 h1 b1 v1 e1 => ⟨⟨a.g, m1⟩, L1, Mo1, x, _, r.next b1 e1, v1, fun g' σ' hg r' _ => b.nx _ _ _ _ _ hg r', h1⟩, h⟩
theorem qs_asg {tg e : Expr} {te : ATE} {g : ATG} (he : QE X e te) (hg : QG X vs tg g) (hs : swapsWithSole [tg] e pos.line X.env = pure false := by rfl) (hw : swappedStores [tg] e X.env = pure none := by rfl)
    (h1 : (assignEach [tg] X.env).map (·.2) = [assign tg X.env] := by rfl) : QS X (.Assign [tg] e pos) (aAsg te g) := fun C hK => PS.imp (ps_asg (he C hK) (hg C hK) hs hw h1) asg_imp
def aSet (i : Nat) (te : ATE) : ATS := fun D a => te a fun x m => D.nx ⟨a.g.set i (some x), m⟩
theorem qs_set {i : Nat} {x : Str} {e : Expr} {te : ATE} {pos' : Pos} (hN : X.N.Nodup) (hi : X.N[i]? = some x) (hx : Loc X.env.scope x) (he : QE X e te) (hs : swapsWith e (some (.Name x pos')) pos.line X.env = pure false := by rfl) (hf : X.fn x = true ∨ X.env.scope.names.lookup x = some .local := by first | exact .inl rfl | exact .inr rfl | assumption) :
    QS X (.Assign [.Name x pos'] e pos) (aSet i te) := fun C hK => PS.imp (ps_set hN hi hx (he C hK) hs hf) fun D σ H ⟨a, L, Mo, AD, r, b, h⟩ =>
  ⟨a, L, Mo, _, r, fun x m1 v L1 Mo1 H1 h1 b1 v1 e1 => b.nx _ _ _ _ _ h1 ((r.next b1 e1).set i v1), h⟩
def aPar (i j : Nat) (ta : ATA) : ATS := fun D a => ta a fun xs m => match xs with
  | [x, y] => D.nx ⟨(a.g.set i (some x)).set j (some y), m⟩
  | _ => False
theorem qs_par {i j : Nat} {x y : Str} {a b : Expr} {ta : ATA} {px py pt : Pos} {kt k2 pt2} (hc : X.calm = true) (hN : X.N.Nodup) (hi : X.N[i]? = some x) (hj : X.N[j]? = some y) (hij : i ≠ j)
    (hx : X.env.scope.names.lookup x = some .local) (hy : X.env.scope.names.lookup y = some .local) (ha : QA X [a, b] ta)
    (hw : swappedStores [.Tuple [.Name x px, .Name y py] kt pt] (.Tuple [a, b] k2 pt2) X.env = pure (some [x, y]))
    (hs : swapsWithSole [.Tuple [.Name x px, .Name y py] kt pt] (.Tuple [a, b] k2 pt2) pos.line X.env = pure false := by rfl) :
    QS X (.Assign [.Tuple [.Name x px, .Name y py] kt pt] (.Tuple [a, b] k2 pt2) pos) (aPar i j ta) := fun C hK => PS.imp (ps_par hc hN hi hj hij hx hy (ha C hK) hw hs) fun D σ H ⟨a, L, Mo, AD, r, b, h⟩ => by
  refine ⟨a, L, Mo, _, r, fun xs m1 vs L1 Mo1 H1 h1 b1 v1 e1 => ?_, h⟩
  split at h1
  · obtain ⟨v, w, rfl, q1, q2⟩ := av2 v1
    exact ⟨v, w, rfl, b.nx _ _ _ _ _ h1 (((r.next b1 e1).set i q1).set j q2)⟩
  · exact h1.elim
/-- x += e, ints -/
def aAugI (i : Nat) (f : Int → Int → Int) (te : ATE) : ATS := fun D a => match slotA a.g i with
  | some (.d (.int k)) => te a fun y m => match y with
    | .d (.int j) => D.nx ⟨a.g.set i (some (.d (.int (f k j)))), m⟩
    | _ => False
  | _ => False
theorem qs_augI {i : Nat} {x : Str} {e : Expr} {te : ATE} {op : Operator} {f : Int → Int → Int} {pos' : Pos} (hN : X.N.Nodup) (hi : X.N[i]? = some x) (hx : Loc X.env.scope x) (he : QE X e te) (ho : PIp X op (ipI f)) (hf : X.fn x = true ∨ X.env.scope.names.lookup x = some .local := by first | exact .inl rfl | exact .inr rfl | assumption) :
    QS X (.AugAssign (.Name x pos') op e pos) (aAugI i f te) := fun C hK => PS.imp (ps_aug hN hi hx (he C hK) ho hf) fun D σ H ⟨a, L, Mo, AD, r, b, h⟩ => by
  unfold aAugI at h
  split at h
  · rename_i k e
    obtain ⟨v, h1, h2⟩ := r.sl i _ (slotA_get e)
    refine ⟨v, h1, a, L, Mo, _, r, fun y m1 w L1 Mo1 H1 h1 b1 v1 e1 => ?_, h⟩
    split at h1
    · exact ⟨_, _, dq_int h2, dq_int v1, b.nx _ _ _ _ _ h1 ((r.next b1 e1).set i (.int _))⟩
    · exact h1.elim
  · exact h.elim
end

/-! ### dropping local objects -/
def fzV (n : Nat) (m : Mm) : AV → Option AV
  | .o j => if j < n then some (.o j) else match m.o[j]? with
    | some (.l ds) => some (.d (.list ds))
    | some (.kd kvs) => some (.d (.dict (kvD kvs)))
    | some (.td kvs) => some (.dt kvs)
    | none => none
  | x => some x
def fzS (n : Nat) (m : Mm) : Option AV → Option AV
  | some x => fzV n m x
  | none => none
def clr (g : List (Option AV)) (fs : List Nat) : List (Option AV) := fs.foldr (fun v g => g.set v none) g
def norm (n : Nat) (fs : List Nat) (a : AS) : AS := ⟨clr (a.g.map (fzS n a.m)) fs, ⟨a.m.s, a.m.o.take n⟩⟩
section
variable {C : Ct} {m : Mm} {a : AS} {L Mo : List Addr} {σ : List (Option V)} {H : Hp}
theorem mem_zlm {n : Nat} {x : Addr} (h : x ∈ C.Z ++ (L ++ Mo.take n)) : x ∈ C.Z ++ (L ++ Mo) := by
  simp only [List.mem_append] at h ⊢
  rcases h with h | h | h
  · exact .inl h
  · exact .inr (.inl h)
  · exact .inr (.inr (List.mem_of_mem_take h))
theorem hd_take (n : Nat) : Same (C.hd L Mo H) (C.hd L (Mo.take n) H) := fun x o h => by
  obtain ⟨h1, h2⟩ := hid_some h
  rw [Ct.hd, hid_of (fun z => h1 (mem_zlm z))]; exact h2
theorem B.take (b : B C m L Mo H) (n : Nat) : B C ⟨m.s, m.o.take n⟩ L (Mo.take n) H := by
  refine ⟨?_, b.sr, paired_take n (paired_impM b.ob fun o l _ q => q.mono (hd_take n) rfl), b.kp, b.nl, fun x hx => b.no x (List.mem_of_mem_take hx), b.zt, b.l0⟩
  exact b.nd.sublist ((List.Sublist.refl _).append ((List.Sublist.refl _).append (List.take_sublist _ _)))
theorem AVR.fz {n : Nat} {av av' : AV} {v : V} (b : B C m L Mo H) (r : AVR C L Mo H av v) (h : fzV n m av = some av') : AVR C L (Mo.take n) H av' v := by
  cases av with
  | d x => cases h; exact Dq.mono (hd_take n) _ _ r
  | src => cases h; exact r
  | cells => cases h; exact r
  | scr ns =>
    cases h
    obtain ⟨a, rfl, q⟩ := r
    exact ⟨a, rfl, (hd_take n).seq q⟩
  | kt ns =>
    cases h
    obtain ⟨a, rfl, q⟩ := r
    exact ⟨a, rfl, hd_take n _ _ q⟩
  | dt ns =>
    cases h
    obtain ⟨a, ys, rfl, q, q2⟩ := r
    exact ⟨a, ys, rfl, hd_take n _ _ q, q2.mono (hd_take n)⟩
  | ty n => cases h; exact r
  | ad n => cases h; exact r
  | o j =>
    simp only [fzV] at h
    split at h
    · rename_i hj
      cases h
      obtain ⟨l, h1, rfl⟩ := r
      exact ⟨l, by rw [List.getElem?_take_of_lt hj]; exact h1, rfl⟩
    · rename_i hj
      obtain ⟨l, h1, rfl⟩ := r
      have up : ∀ u, H l = some u → C.hd L (Mo.take n) H l = some u := fun u h3 => by
        have hm : l ∈ Mo.drop n := by
          have : (Mo.drop n)[j - n]? = some l := by rw [List.getElem?_drop]; rw [show n + (j - n) = j by omega]; exact h1
          exact List.mem_of_getElem? this
        rw [Ct.hd, hid_of]
        · exact h3
        · intro z
          have nd := b.nd
          have e2 : C.Z ++ (L ++ Mo) = (C.Z ++ (L ++ Mo.take n)) ++ Mo.drop n := by simp [List.append_assoc]
          rw [e2] at nd
          exact (List.nodup_append.mp nd).2.2 l z l hm rfl
      split at h
      · rename_i ds e
        cases h
        obtain ⟨l', h2, xs, h3, h4⟩ := paired_at b.ob e
        rw [h1] at h2; cases h2
        exact Dq.lst (xs := xs) (up _ h3) (DqAll.mono (hd_take n) _ _ h4)
      · rename_i ds e
        cases h
        obtain ⟨l', h2, xs, h3, h4⟩ := paired_at b.ob e
        rw [h1] at h2; cases h2
        exact Dq.dk (ys := xs) (up _ h3) (KQ.toK (h4.mono (hd_take n)))
      · rename_i ds e
        cases h
        obtain ⟨l', h2, xs, h3, h4⟩ := paired_at b.ob e
        rw [h1] at h2; cases h2
        exact ⟨_, xs, rfl, up _ h3, h4.mono (hd_take n)⟩
      · cases h
theorem R.clr (r : R C a L Mo σ H) (fs : List Nat) : R C ⟨QL.clr a.g fs, a.m⟩ L Mo σ H := by
  induction fs with
  | nil => exact r
  | cons v fs ih =>
    refine ⟨r.b, by have := ih.ln; simpa [QL.clr] using this, fun i av e => ?_⟩
    have e' : ((QL.clr a.g fs).set v none)[i]? = some (some av) := e
    by_cases hv : v = i
    · subst hv
      by_cases hl : v < (QL.clr a.g fs).length
      · rw [List.getElem?_set_self hl] at e'; cases e'
      · rw [List.getElem?_eq_none_iff.mpr (by rw [List.length_set]; omega)] at e'; cases e'
    · rw [List.getElem?_set_ne hv] at e'
      exact ih.sl i av e'
theorem R.norm (r : R C a L Mo σ H) (n : Nat) (fs : List Nat) : R C (norm n fs a) L (Mo.take n) σ H := by
  suffices r0 : R C ⟨a.g.map (fzS n a.m), ⟨a.m.s, a.m.o.take n⟩⟩ L (Mo.take n) σ H from r0.clr fs
  refine ⟨r.b.take n, by simp [r.ln], fun i av e => ?_⟩
  have e' : (a.g.map (fzS n a.m))[i]? = some (some av) := e
  rw [List.getElem?_map] at e'
  cases q : a.g[i]? with
  | none => rw [q] at e'; cases e'
  | some o =>
    rw [q] at e'
    have e2 : fzS n a.m o = some av := Option.some.inj e'
    cases o with
    | none => cases e2
    | some x =>
      obtain ⟨v, h1, h2⟩ := r.sl i x q
      exact ⟨v, h1, h2.fz r.b e2⟩
end

/-! ### a context that starts here -/
def Ct.here (C : Ct) (L Mo : List Addr) (H : Hp) : Ct := ⟨C.K, C.Z, L, hid Mo H⟩
section
variable {C : Ct} {m m' : Mm} {a : AS} {L Mo L' Mo' : List Addr} {σ : List (Option V)} {H H' : Hp}
theorem B.here (b : B C m L Mo H) : B (C.here L Mo H) m L Mo H := by
  have nd := b.nd
  refine ⟨b.nd, b.sr, b.ob, fun x u h _ => (hid_some h).2, fun x h => .inl h, fun x hx => ⟨if_pos hx, fun z => ?_⟩, fun z hz => ⟨?_, fun q => ?_⟩, .inr rfl⟩
  · have q := (List.nodup_append.mp nd).2.1
    exact (List.nodup_append.mp q).2.2 x z x hx rfl
  · obtain ⟨u, hu, hnt⟩ := b.thereN (List.mem_append_left _ hz)
    refine ⟨u, ?_, hnt⟩
    show hid Mo H z = some u
    rw [hid_of (fun q => (List.nodup_append.mp nd).2.2 z hz z (List.mem_append_right _ q) rfl)]; exact hu
  · exact (List.nodup_append.mp nd).2.2 z hz z (List.mem_append_left _ q) rfl
theorem B.back (b : B C m L Mo H) (b' : B (C.here L Mo H) m' L' Mo' H') : B C m' L' Mo' H' := by
  refine ⟨b'.nd, b'.sr, b'.ob, fun x u h hl => ?_, fun x hx => ?_, fun x hx => ?_, b.zt, ?_⟩
  · have h1 := b.kp x u h hl
    refine b'.kp x u ?_ fun z => ?_
    · show hid Mo H x = some u
      rw [hid_of (fun z => by rw [(b.no x z).1] at h; cases h)]; exact h1
    · rcases b.nl x z with q | q
      · exact hl q
      · rw [q] at h; cases h
  · rcases b'.nl x hx with z | z
    · exact b.nl x z
    · have z' : hid Mo H x = none := z
      by_cases hm : x ∈ Mo
      · exact .inr (b.no x hm).1
      · rw [hid_of hm] at z'; exact .inr (b.fresh0 z')
  · obtain ⟨z1, z2⟩ := b'.no x hx
    have z' : hid Mo H x = none := z1
    by_cases hm : x ∈ Mo
    · exact b.no x hm
    · rw [hid_of hm] at z'; exact ⟨b.fresh0 z', b.freshL z'⟩
  · rcases b.l0 with q | q
    · exact .inl q
    · rcases b'.l0 with z | z
      · exact .inl (q.symm.trans z)
      · exact .inr (z.trans q)
theorem hereSame (b' : B (C.here L Mo H) m' L' Mo' H') : Same (C.hd L Mo H) ((C.here L Mo H).hd L' Mo' H') := fun x o h => by
  obtain ⟨h1, h2⟩ := hid_some h
  have hx : hid Mo H x = some o := by rw [hid_of (fun z => h1 (by simp [z]))]; exact h2
  have n1 : x ∉ L := fun z => h1 (by simp [z])
  have n2 : x ∉ L' := fun z => by
    rcases b'.nl x z with q | q
    · exact n1 q
    · rw [show (C.here L Mo H).H0 x = some o from hx] at q; cases q
  have n3 : x ∉ Mo' := fun z => by
    have q := (b'.no x z).1
    rw [show (C.here L Mo H).H0 x = some o from hx] at q; cases q
  rw [Ct.hd, hid_of (fun z => by
    simp only [List.mem_append] at z
    rcases z with z | z | z
    · exact h1 (by simp only [List.mem_append]; exact .inl z)
    · exact n2 z
    · exact n3 z)]
  exact b'.kp x o hx n1
theorem AVR.here {av : AV} {v : V} (h : AVR C L Mo H av v) : AVR (C.here L Mo H) L Mo H av v := by
  cases av with
  | d x => exact h
  | o j => exact h
  | src => exact h
  | cells => exact h
  | scr ns => exact h
  | kt ns => exact h
  | dt ns => exact h
  | ty ns => exact h
  | ad ns => exact h
theorem AVR.unhere {av : AV} {v : V} (h : AVR (C.here L Mo H) L' Mo' H' av v) : AVR C L' Mo' H' av v := by
  cases av with
  | d x => exact h
  | o j => exact h
  | src => exact h
  | cells => exact h
  | scr ns => exact h
  | kt ns => exact h
  | dt ns => exact h
  | ty ns => exact h
  | ad ns => exact h
theorem R.here (r : R C a L Mo σ H) : R (C.here L Mo H) a L Mo σ H := ⟨r.b.here, r.ln, fun i av e => let ⟨v, h1, h2⟩ := r.sl i av e; ⟨v, h1, h2.here⟩⟩
theorem R.back {a' : AS} {σ' : List (Option V)} (b : B C m L Mo H) (r : R (C.here L Mo H) a' L' Mo' σ' H') : R C a' L' Mo' σ' H' := ⟨b.back r.b, r.ln, fun i av e => let ⟨v, h1, h2⟩ := r.sl i av e; ⟨v, h1, h2.unhere⟩⟩
end
end QL

namespace QL
open PySem PySem.Spec PyProof.Rows L2

/-! ### what is walked -/
def ItemsOk (C : Ct) (J : It) (L Mo : List Addr) (H : Hp) (ds : List D) : Prop := ∀ (C2 : Ct) (L1 Mo1 : List Addr) (H1 : Hp) (m1 : Mm), C2.K = C.K → B C2 m1 L1 Mo1 H1 → Same (C.hd L Mo H) (C2.hd L1 Mo1 H1) →
  (∀ (i : Nat) (d : D), ds[i]? = some d → J.go i H1 ∧ ∀ x H2, J.yld i H1 x H2 → B C2 m1 L1 Mo1 H2 ∧ X2 C2 L1 Mo1 H1 L1 Mo1 H2 ∧ Dq C.K (C2.hd L1 Mo1 H2) x d) ∧ J.stop ds.length H1
abbrev AIt := AS → (List D → Mm → Prop) → Prop
def lftI (C : Ct) (t : AIt) : TI := fun σ H R' => ∃ a L Mo AQ, R C a L Mo σ H ∧ (∀ ds m' L' Mo' H' J, AQ ds m' → B C m' L' Mo' H' → X2 C L Mo H L' Mo' H' → ItemsOk C J L' Mo' H' ds → R' J H') ∧ t a AQ
theorem PI.imp {X : Cx} {tg e : Expr} {t t' : TI} (h : PI X tg e t) (i : ∀ σ H Q, t' σ H Q → t σ H Q) : PI X tg e t' := ⟨fun pins s σ H Q I q => h.run pins s σ H Q I (i σ H Q q)⟩
def QI (X : Cx) (tg e : Expr) (t : AIt) : Prop := ∀ C : Ct, C.K = X.K → PI X tg e (lftI C t)
def rngD (lo : Int) (n : Nat) : List D := (List.range n).map fun k => .int (lo + (k : Nat))
theorem rngD_len (lo : Int) (n : Nat) : (rngD lo n).length = n := by simp [rngD]
theorem rngD_at {lo : Int} {n i : Nat} {d : D} (h : (rngD lo n)[i]? = some d) : i < n ∧ d = .int (lo + i) := by
  unfold rngD at h
  rw [List.getElem?_map] at h
  cases e : (List.range n)[i]? with
  | none => rw [e] at h; cases h
  | some j =>
    rw [e] at h
    have h1 := List.getElem?_eq_some_iff.mp e
    obtain ⟨h2, h3⟩ := h1
    rw [List.getElem_range] at h3
    subst h3
    exact ⟨by simpa using h2, (Option.some.inj h).symm⟩
theorem items_rng {C : Ct} {L Mo : List Addr} {H : Hp} (lo : Int) (n : Nat) : ItemsOk C (Itr lo n) L Mo H (rngD lo n) := fun C2 L1 Mo1 H1 m1 hK b sm =>
  ⟨fun i d h => ⟨(rngD_at h).1, fun x H2 ⟨e1, e2⟩ => by subst e1; rw [e2, (rngD_at h).2]; exact ⟨b, X2.refl, .int _⟩⟩, by show n ≤ _; rw [rngD_len]; exact Nat.le_refl _⟩
theorem items_lst {C : Ct} {L Mo : List Addr} {H : Hp} {a : Addr} {xs : List V} {ds : List D} (h : C.hd L Mo H a = some (.lst xs)) (hx : DqAll C.K (C.hd L Mo H) xs ds) : ItemsOk C (Itl C.K a) L Mo H ds := fun C2 L1 Mo1 H1 m1 hK b sm => by
  have q : SqL C.K H1 a xs := SqL.of (hid_some (sm _ _ h)).2
  refine ⟨fun i d e => ?_, xs, q, by rw [hx.len]; exact Nat.le_refl _⟩
  obtain ⟨v, h1, h2⟩ := hx.at e
  refine ⟨⟨xs, v, q, h1⟩, fun x H2 ⟨e1, e2⟩ => ?_⟩
  subst e1
  have := e2 xs q
  rw [h1] at this; cases this
  exact ⟨b, X2.refl, Dq.mono sm _ _ h2⟩
theorem items_tup {C : Ct} {L Mo : List Addr} {H : Hp} {a : Addr} {xs : List V} {ds : List D} (h : SqT C.K (C.hd L Mo H) a xs) (hx : DqAll C.K (C.hd L Mo H) xs ds) : ItemsOk C (Itt C.K a) L Mo H ds := fun C2 L1 Mo1 H1 m1 hK b sm => by
  have q : SqT C.K H1 a xs := same_tup hid_same (same_tup sm h)
  refine ⟨fun i d e => ?_, xs, q, by rw [hx.len]; exact Nat.le_refl _⟩
  obtain ⟨v, h1, h2⟩ := hx.at e
  refine ⟨⟨xs, v, q, h1⟩, fun x H2 ⟨e1, e2⟩ => ?_⟩
  subst e1
  have := e2 xs q
  rw [h1] at this; cases this
  exact ⟨b, X2.refl, Dq.mono sm _ _ h2⟩
section
variable {X : Cx} {tg e : Expr} {te : ATE}
def Rg (j : Int) : Prop := -(2 ^ 62) ≤ j ∧ j < 2 ^ 62
def aRng1 (t : ATA) : AIt := fun a Q => t a fun avs m => match avs with
  | [.d (.int j)] => Rg j ∧ Q (rngD 0 j.toNat) m
  | _ => False
def aRng2 (t : ATA) : AIt := fun a Q => t a fun avs m => match avs with
  | [.d (.int i), .d (.int j)] => Rg i ∧ Rg j ∧ Q (rngD i (j - i).toNat) m
  | _ => False
theorem qi_range1 {a : Expr} {ta : ATA} {p pos : Pos} (hg : Gl X "range") (hm : X.mg "range" = none) (ha : QA X [a] ta) (hs : starEach [a] X.env = [(false, eval a X.env)] := by rfl) : QI X tg (.Call (.Name "range" p) [a] [] pos) (aRng1 ta) := fun C hK =>
  PI.imp (pi_range1 hg hm (ha C hK) hs) fun σ H R' ⟨a, L, Mo, AQ, r, k, h⟩ => by
    refine ⟨a, L, Mo, _, r, fun xs m1 vs L1 Mo1 H1 h1 b1 v1 e1 => ?_, h⟩
    split at h1
    · obtain ⟨v, rfl, q⟩ := av1 v1
      exact ⟨_, by rw [dq_int q], h1.1.1, h1.1.2, k _ _ _ _ _ _ h1.2 b1 e1 (items_rng _ _)⟩
    · exact h1.elim
theorem qi_range2 {a b : Expr} {ta : ATA} {p pos : Pos} (hg : Gl X "range") (hm : X.mg "range" = none) (ha : QA X [a, b] ta) (hs : starEach [a, b] X.env = [(false, eval a X.env), (false, eval b X.env)] := by rfl) (hs2 : starEach [b] X.env = [(false, eval b X.env)] := by rfl) :
    QI X tg (.Call (.Name "range" p) [a, b] [] pos) (aRng2 ta) := fun C hK =>
  PI.imp (pi_range2 hg hm (ha C hK) hs hs2) fun σ H R' ⟨a, L, Mo, AQ, r, k, h⟩ => by
    refine ⟨a, L, Mo, _, r, fun xs m1 vs L1 Mo1 H1 h1 b1 v1 e1 => ?_, h⟩
    split at h1
    · obtain ⟨v, w, rfl, q, q'⟩ := av2 v1
      exact ⟨_, _, by rw [dq_int q, dq_int q'], ⟨h1.1.1, h1.1.2, h1.2.1.1, h1.2.1.2⟩, k _ _ _ _ _ _ h1.2.2 b1 e1 (items_rng _ _)⟩
    · exact h1.elim
def aItT (te : ATE) : AIt := fun a Q => te a fun x m => match x with
  | .d (.tuple ds) => Q ds m
  | _ => False
def aItL (te : ATE) : AIt := fun a Q => te a fun x m => match x with
  | .d (.list ds) => Q ds m
  | _ => False
theorem qi_tup (h : QE X e te) : QI X tg e (aItT te) := fun C hK => PI.imp (pi_tup (h C hK)) fun σ H R' ⟨a, L, Mo, AQ, r, k, h⟩ => by
  refine ⟨a, L, Mo, _, r, fun x m1 v L1 Mo1 H1 h1 b1 v1 e1 => ?_, h⟩
  split at h1
  · cases v1 with
    | tup q1 q2 => exact ⟨_, rfl, ⟨_, hK ▸ same_tup hid_same q1⟩, k _ _ _ _ _ _ h1 b1 e1 (hK ▸ items_tup q1 q2)⟩
  · exact h1.elim
theorem qi_lst (h : QE X e te) : QI X tg e (aItL te) := fun C hK => PI.imp (pi_list (h C hK)) fun σ H R' ⟨a, L, Mo, AQ, r, k, h⟩ => by
  refine ⟨a, L, Mo, _, r, fun x m1 v L1 Mo1 H1 h1 b1 v1 e1 => ?_, h⟩
  split at h1
  · cases v1 with
    | lst q1 q2 => exact ⟨_, rfl, ⟨_, SqL.of (hid_some q1).2⟩, k _ _ _ _ _ _ h1 b1 e1 (hK ▸ items_lst q1 q2)⟩
  · exact h1.elim
end

/-! ### for -/
def aForL (n : Nat) (fs : List Nat) (g : ATG) (tb : ATS) (E : AEnds) : List D → AS → Prop
  | [], a => E.nx a
  | d :: r, a => g (.d d) a.m a.g fun g' => tb { E with nx := fun a2 => aForL n fs g tb E r (norm n fs a2), ct := fun a2 => aForL n fs g tb E r (norm n fs a2), bk := fun a2 => E.nx (norm n fs a2) } ⟨g', a.m⟩
def aFor (fs : List Nat) (ti : AIt) (g : ATG) (tb : ATS) : ATS := fun E a => ti a fun ds m => aForL m.o.length fs g tb E ds ⟨clr a.g fs, m⟩
section
variable {X : Cx} {pos : Pos} {vs : List Nat}
theorem Bel.here {C : Ct} {AD : AEnds} {E : Ends} {m : Mm} {L Mo : List Addr} {H : Hp} (b : Bel C AD E) (bb : B C m L Mo H) : Bel (C.here L Mo H) AD E :=
  ⟨fun a L' Mo' σ' H' q r => b.nx _ _ _ _ _ q (R.back bb r), fun av m' L' Mo' H' v q b' rv => b.rt _ _ _ _ _ _ q (bb.back b') rv.unhere, fun a L' Mo' σ' H' q r => b.bk _ _ _ _ _ q (R.back bb r), fun a L' Mo' σ' H' q r => b.ct _ _ _ _ _ q (R.back bb r)⟩
theorem drop_at {ds : List D} {i : Nat} {d : D} {r : List D} (h : ds.drop i = d :: r) : ds[i]? = some d ∧ ds.drop (i + 1) = r := by
  have h1 : (ds.drop i)[0]? = some d := by rw [h]; rfl
  rw [List.getElem?_drop] at h1
  refine ⟨by simpa using h1, ?_⟩
  have : (ds.drop i).drop 1 = r := by rw [h]; rfl
  rw [List.drop_drop] at this
  exact this
theorem qs_for (fs : List Nat) {tg iter : Expr} {body : List Stmt} {ti : AIt} {g : ATG} {tb : ATS} (hp : PassesOwn (model X.prog X.w) X.A X.env X.xe) (hc : X.calm = true) (hi : QI X tg iter ti) (hg : QG X vs tg g) (hb : QSs X body tb)
    (hs : ∀ x, foldedSetIterable iter X.env x = pure x := by intro _; rfl) : QS X (.For tg iter body [] pos) (aFor fs ti g tb) := fun C hK => by
  -- the body's reading is taken in a context that starts at the loop: one for each start
  refine ⟨fun pins s σ H E I h => ?_⟩
  obtain ⟨a, L, Mo, AD, r, bel, h⟩ := h
  -- the iterable first
  have key : ∀ (L' Mo' : List Addr) (H' : Hp) (m' : Mm), B C m' L' Mo' H' → PSs X body (lftS (C.here L' Mo' H') tb) ∧ PG X tg (lftG (C.here L' Mo' H') vs g) := fun L' Mo' H' m' _ => ⟨hb (C.here L' Mo' H') hK, hg (C.here L' Mo' H') hK⟩
  -- one reading for all: the context is chosen within
  have hb' : PSs X body (fun D σ H => ∃ L' Mo' H', lftS (C.here L' Mo' H') tb D σ H) := ⟨fun pins s σ H Q I ⟨L', Mo', H', q⟩ => (hb (C.here L' Mo' H') hK).run pins s σ H Q I q⟩
  have hg' : PG X tg (fun v σ H Q => ∃ L' Mo' H', lftG (C.here L' Mo' H') vs g v σ H Q) := ⟨fun pins s σ H v u Q I rv ⟨L', Mo', H', q⟩ => (hg (C.here L' Mo' H') hK).run pins s σ H v u Q I rv q⟩
  refine (ps_for hp hc (hi C hK) hg' hb' hs).run pins s σ H E I ?_
  refine ⟨a, L, Mo, _, r, fun ds m' L' Mo' H' J q b' x ok => ?_, h⟩
  have q' : aForL m'.o.length fs g tb AD ds ⟨clr a.g fs, m'⟩ := q
  have bel' := bel.here b'
  refine ⟨fun i k σ1 H1 => ∃ a1 L1 Mo1, R (C.here L' Mo' H') a1 L1 Mo1 σ1 H1 ∧ aForL m'.o.length fs g tb AD (ds.drop i) a1 ∧ i + k = ds.length, ⟨ds.length, ⟨clr a.g fs, m'⟩, L', Mo', (r.next b' x).here.clr fs, by simpa using q', by omega⟩, ?_⟩
  rintro i k σ1 H1 ⟨a1, L1, Mo1, r1, h1, e1⟩
  have okk := ok (C.here L' Mo' H') L1 Mo1 H1 a1.m rfl r1.b (hereSame r1.b)
  cases hd : ds.drop i with
  | nil =>
    have hl : ds.length ≤ i := List.drop_eq_nil_iff.mp hd
    have : i = ds.length := by omega
    rw [hd] at h1
    subst this
    exact .inl ⟨okk.2, bel'.nx _ _ _ _ _ h1 r1⟩
  | cons d rr =>
    rw [hd] at h1
    obtain ⟨hat, hdr⟩ := drop_at hd
    obtain ⟨hgo, hyl⟩ := okk.1 i d hat
    refine .inr ⟨hgo, fun σ2 H2 => ∃ a2 L2 Mo2, R (C.here L' Mo' H') a2 L2 Mo2 σ2 H2 ∧ aForL m'.o.length fs g tb AD rr (norm m'.o.length fs a2), ?_, ?_⟩
    · rintro σ2 H2 ⟨a2, L2, Mo2, r2, h2⟩
      have hlt : i < ds.length := (List.getElem?_eq_some_iff.mp hat).1
      exact ⟨k - 1, by omega, norm m'.o.length fs a2, L2, _, r2.norm _ _, by rw [hdr]; exact h2, by omega⟩
    · intro y H2 hy
      obtain ⟨b2, x2, dq⟩ := hyl y H2 hy
      refine ⟨L', Mo', H', a1, L1, Mo1, .d d, _, r1.next b2 x2, dq, fun g' σ' hg2 r' _ => ⟨L', Mo', H', ⟨g', a1.m⟩, L1, Mo1, _, r', ?_, hg2⟩, h1⟩
      exact ⟨fun a2 L2 Mo2 σ2 H2 q r => ⟨a2, L2, Mo2, r, q⟩, bel'.rt, fun a2 L2 Mo2 σ2 H2 q r => bel'.nx _ _ _ _ _ q (r.norm _ _), fun a2 L2 Mo2 σ2 H2 q r => ⟨a2, L2, Mo2, r, q⟩⟩
/-! ### while -/
def aWhile (fs : List Nat) (c : ATT) (tb : ATS) : ATS := fun E a0 => ∃ (I : AS → Prop) (μ : AS → Nat), I ⟨clr a0.g fs, a0.m⟩ ∧ ∀ a, I a → c a fun b m => if b = true then
  tb { E with nx := fun a2 => I (norm a0.m.o.length fs a2) ∧ μ (norm a0.m.o.length fs a2) < μ a, ct := fun a2 => I (norm a0.m.o.length fs a2) ∧ μ (norm a0.m.o.length fs a2) < μ a, bk := fun a2 => E.nx (norm a0.m.o.length fs a2) } ⟨a.g, m⟩ else E.nx ⟨a.g, m⟩
theorem qs_while (fs : List Nat) {c : Expr} {body : List Stmt} {tc : ATT} {tb : ATS} (hp : PassesOwn (model X.prog X.w) X.A X.env X.xe) (hc : QT X c tc) (hb : QSs X body tb) : QS X (.While c body [] pos) (aWhile fs tc tb) := fun C hK =>
  PS.imp (ps_while hp (hc C hK) (hb C hK)) fun E σ H ⟨a0, L, Mo, AD, r, bel, I, μ, h0, hs⟩ => by
    refine ⟨fun k σ1 H1 => ∃ a L1 Mo1, R C a L1 Mo1 σ1 H1 ∧ I a ∧ μ a = k, ⟨_, ⟨clr a0.g fs, a0.m⟩, L, Mo, r.clr fs, h0, rfl⟩, ?_⟩
    rintro k σ1 H1 ⟨a, L1, Mo1, r1, h1, rfl⟩
    refine ⟨a, L1, Mo1, _, r1, fun b m2 L2 Mo2 H2 h2 b2 x2 => ?_, hs a h1⟩
    cases b with
    | true =>
      rw [if_pos rfl] at h2 ⊢
      refine ⟨fun σ' H' => ∃ a2 L' Mo', R C a2 L' Mo' σ' H' ∧ I (norm a0.m.o.length fs a2) ∧ μ (norm a0.m.o.length fs a2) < μ a, ?_, ?_⟩
      · rintro σ' H' ⟨a2, L', Mo', r', q1, q2⟩
        exact ⟨_, q2, norm a0.m.o.length fs a2, L', _, r'.norm _ _, q1, rfl⟩
      · exact ⟨⟨a.g, m2⟩, L2, Mo2, { AD with nx := fun a2 => I (norm a0.m.o.length fs a2) ∧ μ (norm a0.m.o.length fs a2) < μ a, ct := fun a2 => I (norm a0.m.o.length fs a2) ∧ μ (norm a0.m.o.length fs a2) < μ a, bk := fun a2 => AD.nx (norm a0.m.o.length fs a2) }, r1.next b2 x2, ⟨fun a2 L' Mo' σ' H' q r => ⟨a2, L', Mo', r, q⟩, bel.rt, fun a2 L' Mo' σ' H' q r => bel.nx _ _ _ _ _ q (r.norm _ _), fun a2 L' Mo' σ' H' q r => ⟨a2, L', Mo', r, q⟩⟩, h2⟩
    | false =>
      rw [if_neg Bool.false_ne_true] at h2 ⊢
      exact bel.nx _ _ _ _ _ h2 (r1.next b2 x2)
end
end QL

namespace QL
open PySem PySem.Spec PyProof.Rows L2

/-! ### comprehensions: the new list stands at p, hidden, while it is made -/
def Ct.mk' (C : Ct) (L Mo : List Addr) (H : Hp) (p : Addr) (acc : List V) : Ct := ⟨C.K, C.Z ++ [p], L, upd (hid Mo H) p (.lst acc)⟩
section
variable {C : Ct} {m m' : Mm} {a : AS} {L Mo L' Mo' : List Addr} {σ : List (Option V)} {H H' : Hp} {p : Addr} {acc acc' : List V}
theorem mk_hd0 (hp : H p = none) : (C.mk' L Mo H p acc).hd L Mo (upd H p (.lst acc)) = C.hd L Mo H := by
  funext x
  show hid ((C.Z ++ [p]) ++ (L ++ Mo)) (upd H p (.lst acc)) x = hid (C.Z ++ (L ++ Mo)) H x
  unfold hid
  by_cases h : x = p
  · subst h
    rw [if_pos (by grind)]
    by_cases h2 : x ∈ C.Z ++ (L ++ Mo)
    · rw [if_pos h2]
    · rw [if_neg h2, hp]
  · by_cases h2 : x ∈ C.Z ++ (L ++ Mo)
    · rw [if_pos h2, if_pos (by grind)]
    · rw [if_neg h2, if_neg (by grind), upd_ne h]
theorem AVR.same {C2 : Ct} {av : AV} {v : V} (h : AVR C L Mo H av v) (hK : C2.K = C.K) (e : Same (C.hd L Mo H) (C2.hd L Mo H')) : AVR C2 L Mo H' av v := by
  cases av with
  | d x => rw [AVR, hK]; exact Dq.mono e _ _ h
  | o j => exact h
  | src => exact h
  | cells => exact h
  | scr ns =>
    obtain ⟨a, rfl, q⟩ := h
    exact ⟨a, rfl, by rw [hK]; exact e.seq q⟩
  | kt ns =>
    obtain ⟨a, rfl, q⟩ := h
    exact ⟨a, rfl, e _ _ q⟩
  | dt ns =>
    obtain ⟨a, ys, rfl, q, q2⟩ := h
    exact ⟨a, ys, rfl, e _ _ q, by rw [hK]; exact q2.mono e⟩
  | ty n => exact h
  | ad n => exact h
theorem B.mk0 (b : B C m L Mo H) (hp : H p = none) : B (C.mk' L Mo H p []) m L Mo (upd H p (.lst [])) := by
  have hf := b.fresh hp
  have nd := b.nd
  have b' := b.alloc (ho := .lst []) hp
  refine ⟨?_, b'.sr, paired_impM b.ob fun o l hl q => q.mono (by show Same _ ((C.mk' L Mo H p []).hd L Mo _); rw [mk_hd0 hp]; exact Same.refl _) (upd_ne fun e => hf (by grind)), fun x u h _ => ?_, fun x h => .inl h, fun x hx => ⟨?_, ?_⟩, fun z hz => ?_, .inr rfl⟩
  · show ((C.Z ++ [p]) ++ (L ++ Mo)).Nodup
    grind
  · have h' : upd (hid Mo H) p (.lst []) x = some u := h
    by_cases e : x = p
    · subst e; rw [upd_same] at h' ⊢; exact h'
    · rw [upd_ne e] at h' ⊢; exact (hid_some h').2
  · show upd (hid Mo H) p (.lst []) x = none
    rw [upd_ne (fun e => hf (by grind))]; exact if_pos hx
  · show x ∉ L
    intro z
    have q := (List.nodup_append.mp nd).2.1
    exact (List.nodup_append.mp q).2.2 x z x hx rfl
  · have hz' : z ∈ C.Z ++ [p] := hz
    show (∃ u, upd (hid Mo H) p (.lst []) z = some u ∧ NT u) ∧ z ∉ L
    by_cases e : z = p
    · subst e; exact ⟨⟨_, upd_same, fun _ e => nomatch e⟩, fun q => hf (by grind)⟩
    · have hz2 : z ∈ C.Z := by grind
      obtain ⟨u, hu, hnt⟩ := b.thereN (List.mem_append_left _ hz2)
      refine ⟨⟨u, ?_, hnt⟩, fun q => (List.nodup_append.mp nd).2.2 z hz2 z (List.mem_append_left _ q) rfl⟩
      rw [upd_ne e, hid_of (fun q => (List.nodup_append.mp nd).2.2 z hz2 z (List.mem_append_right _ q) rfl)]; exact hu
theorem mk_at (b' : B (C.mk' L Mo H p acc) m' L' Mo' H') (hL : p ∉ L) : H' p = some (.lst acc) := b'.kp p _ (show upd (hid Mo H) p (.lst acc) p = some (.lst acc) from upd_same) hL
theorem mk_sameS (hp : H p = none) (b' : B (C.mk' L Mo H p acc) m' L' Mo' H') : Same (C.hd L Mo H) ((C.mk' L Mo H p acc).hd L' Mo' H') := fun x o h => by
  obtain ⟨h1, h2⟩ := hid_some h
  have ne : x ≠ p := ne_of_none h2 hp
  have hx : (C.mk' L Mo H p acc).H0 x = some o := by
    show upd (hid Mo H) p (.lst acc) x = some o
    rw [upd_ne ne, hid_of (fun z => h1 (by grind))]; exact h2
  have n1 : x ∉ L := fun z => h1 (by grind)
  have n2 : x ∉ L' := fun z => by
    rcases b'.nl x z with q | q
    · exact n1 q
    · rw [hx] at q; cases q
  have n3 : x ∉ Mo' := fun z => by
    have q := (b'.no x z).1
    rw [hx] at q; cases q
  have n4 : x ∉ (C.mk' L Mo H p acc).Z := by
    show x ∉ C.Z ++ [p]
    grind
  rw [Ct.hd, hid_of (by grind)]
  exact b'.kp x o hx n1
theorem B.mkStep (b : B C m L Mo H) (hp : H p = none) (b' : B (C.mk' L Mo H p acc) m' L' Mo' H') : B (C.mk' L Mo H p acc') m' L' Mo' (upd H' p (.lst acc')) := by
  have hf := b.fresh hp
  have hpZ : p ∈ (C.mk' L Mo H p acc).Z := by show p ∈ C.Z ++ [p]; simp
  have nd := b'.nd
  have np : p ∉ L' ++ Mo' := fun z => (List.nodup_append.mp nd).2.2 p hpZ p z rfl
  have e : (C.mk' L Mo H p acc').hd L' Mo' (upd H' p (.lst acc')) = (C.mk' L Mo H p acc).hd L' Mo' H' := by
    have := hd_updIn (C := C.mk' L Mo H p acc) (L := L') (Mo := Mo') (H := H') (ho := .lst acc') (x := p) (List.mem_append_left _ hpZ)
    exact this
  refine ⟨nd, srcAt_upd b'.sr fun z => np (by grind), paired_impM b'.ob fun o l hl q => q.mono (by rw [e]; exact Same.refl _) (upd_ne fun z => np (by grind)), fun x u h hl => ?_, fun x hx => ?_, fun x hx => ?_, fun z hz => ?_, b'.l0⟩
  · have h' : upd (hid Mo H) p (.lst acc') x = some u := h
    by_cases ex : x = p
    · subst ex; rw [upd_same] at h' ⊢; exact h'
    · rw [upd_ne ex] at h' ⊢
      exact b'.kp x u (show upd (hid Mo H) p (.lst acc) x = some u by rw [upd_ne ex]; exact h') hl
  · rcases b'.nl x hx with z | z
    · exact .inl z
    · have z' : upd (hid Mo H) p (.lst acc) x = none := z
      refine .inr (show upd (hid Mo H) p (.lst acc') x = none from ?_)
      have ex : x ≠ p := fun q => by subst q; rw [upd_same] at z'; cases z'
      rw [upd_ne ex] at z' ⊢; exact z'
  · obtain ⟨z, w⟩ := b'.no x hx
    have z' : upd (hid Mo H) p (.lst acc) x = none := z
    refine ⟨show upd (hid Mo H) p (.lst acc') x = none from ?_, w⟩
    have ex : x ≠ p := fun q => by subst q; rw [upd_same] at z'; cases z'
    rw [upd_ne ex] at z' ⊢; exact z'
  · obtain ⟨⟨u, z1, hnt⟩, w⟩ := b'.zt z hz
    refine ⟨?_, w⟩
    by_cases ex : z = p
    · subst ex; exact ⟨_, upd_same, fun _ e => nomatch e⟩
    · have z' : upd (hid Mo H) p (.lst acc) z = some u := z1
      rw [upd_ne ex] at z'
      exact ⟨u, show upd (hid Mo H) p (.lst acc') z = some u by rw [upd_ne ex]; exact z', hnt⟩
theorem B.mkEnd (b : B C m L Mo H) (hp : H p = none) (b' : B (C.mk' L Mo H p acc) m' L' Mo' H') : B C m' L' Mo' H' := by
  have hf := b.fresh hp
  have hm : ∀ x, (C.mk' L Mo H p acc).H0 x = none → x ≠ p ∧ hid Mo H x = none := fun x z => by
    have z' : upd (hid Mo H) p (.lst acc) x = none := z
    have ex : x ≠ p := fun q => by subst q; rw [upd_same] at z'; cases z'
    rw [upd_ne ex] at z'; exact ⟨ex, z'⟩
  have fre : ∀ x, (C.mk' L Mo H p acc).H0 x = none → C.H0 x = none ∧ x ∉ C.L0 := fun x z => by
    obtain ⟨_, z'⟩ := hm x z
    by_cases q : x ∈ Mo
    · exact b.no x q
    · rw [hid_of q] at z'; exact ⟨b.fresh0 z', b.freshL z'⟩
  have hs : Same ((C.mk' L Mo H p acc).hd L' Mo' H') (C.hd L' Mo' H') := fun x o h => by
    obtain ⟨h1, h2⟩ := hid_some h
    have : x ∉ (C.Z ++ [p]) ++ (L' ++ Mo') := h1
    rw [Ct.hd, hid_of (by grind)]; exact h2
  refine ⟨?_, b'.sr, paired_impM b'.ob fun o l hl q => q.mono hs rfl, fun x u h hl => ?_, fun x hx => ?_, fun x hx => fre x (b'.no x hx).1, b.zt, ?_⟩
  · have nd : ((C.Z ++ [p]) ++ (L' ++ Mo')).Nodup := b'.nd
    grind
  · have h1 := b.kp x u h hl
    refine b'.kp x u ?_ fun z => ?_
    · show upd (hid Mo H) p (.lst acc) x = some u
      rw [upd_ne (ne_of_none h1 hp), hid_of (fun z => by rw [(b.no x z).1] at h; cases h)]; exact h1
    · rcases b.nl x z with q | q
      · exact hl q
      · rw [q] at h; cases h
  · rcases b'.nl x hx with z | z
    · exact b.nl x z
    · exact .inr (fre x z).1
  · rcases b.l0 with q | q
    · exact .inl q
    · rcases b'.l0 with z | z
      · exact .inl (q.symm.trans z)
      · exact .inr (z.trans q)
theorem mk_out (b' : B (C.mk' L Mo H p acc) m' L' Mo' H') : Same ((C.mk' L Mo H p acc).hd L' Mo' H') (C.hd L' Mo' H') := fun x o h => by
  obtain ⟨h1, h2⟩ := hid_some h
  have : x ∉ (C.Z ++ [p]) ++ (L' ++ Mo') := h1
  rw [Ct.hd, hid_of (by grind)]; exact h2
theorem R.wiped (r : R C a L Mo σ H) (vs : List Nat) : R C ⟨vs.foldr (fun v g => g.set v none) a.g, a.m⟩ L Mo (wipe σ vs) H := by
  induction vs with
  | nil => exact r
  | cons v vs ih =>
    refine ⟨r.b, by rw [wipe_length]; have := ih.ln; rw [wipe_length] at this; simpa using this, fun i av e => ?_⟩
    have e' : ((vs.foldr (fun v g => g.set v none) a.g).set v none)[i]? = some (some av) := e
    by_cases hv : v = i
    · subst hv
      by_cases hl : v < (vs.foldr (fun v g => g.set v none) a.g).length
      · rw [List.getElem?_set_self hl] at e'; cases e'
      · rw [List.getElem?_eq_none_iff.mpr (by rw [List.length_set]; omega)] at e'; cases e'
    · rw [List.getElem?_set_ne hv] at e'
      obtain ⟨w, h1, h2⟩ := ih.sl i av e'
      exact ⟨w, by show ((wipe σ vs).set v none)[i]? = _; rw [List.getElem?_set_ne hv]; exact h1, h2⟩
end
theorem wipe_wipe {σ : List (Option V)} {vs : List Nat} : wipe (wipe σ vs) vs = wipe σ vs := by
  apply List.ext_getElem?
  intro j
  rw [wipe_get, wipe_length, wipe_get]
  by_cases hj : j ∈ vs
  · rw [if_pos hj, if_pos hj]
  · rw [if_neg hj, if_neg hj]
def awipe (g : List (Option AV)) (vs : List Nat) : List (Option AV) := vs.foldr (fun v g => g.set v none) g
def aYes : ATT := fun a Q => Q true a.m
def QTs (X : Cx) (e : List Expr) (t : ATT) : Prop := ∀ C : Ct, C.K = X.K → PTs X e (lftT C t)
theorem PTs.imp {X : Cx} {e : List Expr} {t t' : TT} (h : PTs X e t) (i : ∀ σ H Q, t' σ H Q → t σ H Q) : PTs X e t' := ⟨fun pins s σ H Q I q => h.run pins s σ H Q I (i σ H Q q)⟩
theorem qts_nil {X : Cx} : QTs X [] aYes := fun C hK => PTs.imp pts_nil fun σ H Q ⟨a, L, Mo, AQ, r, k, h⟩ => k _ _ _ _ _ h r.b X2.refl
theorem qts_one {X : Cx} {c : Expr} {t : ATT} (h : QT X c t) : QTs X [c] t := fun C hK => pts_one (h C hK)
def aLcL (g : ATG) (tt : ATT) (te : ATE) (g0 : List (Option AV)) : List D → List D → Mm → (List D → Mm → Prop) → Prop
  | [], acc, m, Q => Q acc m
  | d :: r, acc, m, Q => g (.d d) m g0 fun g' => tt ⟨g', m⟩ fun b m1 => if b = true then te ⟨g', m1⟩ fun y m2 => (match y with
    | .d e => aLcL g tt te g0 r (acc ++ [e]) m2 Q
    | _ => False) else aLcL g tt te g0 r acc m1 Q
def aLc (ti : AIt) (g : ATG) (tt : ATT) (te : ATE) (vs : List Nat) : ATE := fun a Q => ti a fun ds m => ds.length ≤ 1000000 ∧ aLcL g tt te (awipe a.g vs) ds [] m fun acc m' => Q (.d (.list acc)) m'
section
variable {X : Cx} {elt tg iter : Expr} {ifs : List Expr} {scope : Scope} {own : List (Str × Nat)} {pos : Pos} {ti : AIt} {g : ATG} {tt : ATT} {te : ATE}
/-- the block's readings for any context -/
def exG (K : PySem.W.Frag) (vs : List Nat) (g : ATG) : TG := fun v σ H Q => ∃ C : Ct, C.K = K ∧ lftG C vs g v σ H Q
def exT (K : PySem.W.Frag) (t : ATT) : TT := fun σ H Q => ∃ C : Ct, C.K = K ∧ lftT C t σ H Q
def exE (K : PySem.W.Frag) (t : ATE) : TE := fun σ H Q => ∃ C : Ct, C.K = K ∧ lft C t σ H Q
theorem QG.ex {Y : Cx} {vs : List Nat} {e : Expr} {K : PySem.W.Frag} (h : QG Y vs e g) (hK : Y.K = K) : PG Y e (exG K vs g) := ⟨fun pins s σ H v u Q I rv ⟨C, e1, q⟩ => (h C (e1.trans hK.symm)).run pins s σ H v u Q I rv q⟩
theorem QTs.ex {Y : Cx} {e : List Expr} {K : PySem.W.Frag} (h : QTs Y e tt) (hK : Y.K = K) : PTs Y e (exT K tt) := ⟨fun pins s σ H Q I ⟨C, e1, q⟩ => (h C (e1.trans hK.symm)).run pins s σ H Q I q⟩
theorem QE.ex {Y : Cx} {e : Expr} {K : PySem.W.Frag} (h : QE Y e te) (hK : Y.K = K) : PE Y e (exE K te) := ⟨fun pins s σ H Q I ⟨C, e1, q⟩ => (h C (e1.trans hK.symm)).run pins s σ H Q I q⟩
theorem lc_imp {C : Ct} (hK : C.K = X.K) (σ : List (Option V)) (H : Hp) (Q : VK) (h : lft C (aLc ti g tt te (own.map (·.2))) σ H Q) : tLc (lftI C ti) (exG X.K (own.map (·.2)) g) (exT X.K tt) (exE X.K te) (own.map (·.2)) σ H Q := by
  obtain ⟨a, L, Mo, AQ, r, k, h⟩ := h
  refine ⟨a, L, Mo, _, r, fun ds m1 L1 Mo1 H1 J q b1 x1 ok => ?_, h⟩
  obtain ⟨hsz, q⟩ := q
  intro p hp
  have hL : p ∉ L1 := fun z => b1.fresh hp (by simp [z])
  refine ⟨fun i n H2 => ∃ (acc : List V) (da : List D) (m2 : Mm) (L2 Mo2 : List Addr), R (C.mk' L1 Mo1 H1 p acc) ⟨awipe a.g (own.map (·.2)), m2⟩ L2 Mo2 (wipe σ (own.map (·.2))) H2 ∧ DqAll C.K ((C.mk' L1 Mo1 H1 p acc).hd L2 Mo2 H2) acc da ∧
    (L1 = [] ∨ L2 = L1) ∧ Mo1 <+: Mo2 ∧ aLcL g tt te (awipe a.g (own.map (·.2))) (ds.drop i) da m2 (fun acc m' => AQ (.d (.list acc)) m') ∧ i + n = ds.length ∧ acc.length ≤ i, ⟨ds.length, ?_⟩, ?_⟩
  · have r1 : R C ⟨a.g, m1⟩ L1 Mo1 σ H1 := r.next b1 x1
    have r2 : R (C.mk' L1 Mo1 H1 p []) ⟨a.g, m1⟩ L1 Mo1 σ (upd H1 p (.lst [])) := ⟨b1.mk0 hp, r1.ln, fun i av e => let ⟨v, h1, h2⟩ := r1.sl i av e; ⟨v, h1, h2.same rfl (by rw [mk_hd0 hp]; exact Same.refl _)⟩⟩
    exact ⟨[], [], m1, L1, Mo1, r2.wiped _, .nil, .inr rfl, List.prefix_rfl, by simpa using q, by omega, Nat.le_refl _⟩
  · rintro i n H2 ⟨acc, da, m2, L2, Mo2, r2, dq2, pl, po, q2, e2, hla⟩
    have okk := ok (C.mk' L1 Mo1 H1 p acc) L2 Mo2 H2 m2 rfl r2.b (mk_sameS hp r2.b)
    cases hd : ds.drop i with
    | nil =>
      have hl : ds.length ≤ i := List.drop_eq_nil_iff.mp hd
      have : i = ds.length := by omega
      rw [hd] at q2
      subst this
      refine .inl ⟨okk.2, ?_⟩
      have hat := mk_at r2.b hL
      have bb := b1.mkEnd hp r2.b
      have hnp : p ∉ C.Z ++ (L2 ++ Mo2) := by
        have nd : ((C.Z ++ [p]) ++ (L2 ++ Mo2)).Nodup := r2.b.nd
        grind
      exact k _ _ _ _ _ _ q2 bb (Dq.lst (by rw [Ct.hd, hid_of hnp]; exact hat) (DqAll.mono (mk_out r2.b) _ _ dq2)) (x1.trans ⟨pl, po, (mk_sameS hp r2.b).trans (mk_out r2.b)⟩)
    | cons d rr =>
      rw [hd] at q2
      obtain ⟨hat, hdr⟩ := drop_at hd
      obtain ⟨hgo, hyl⟩ := okk.1 i d hat
      have hlt : i < ds.length := (List.getElem?_eq_some_iff.mp hat).1
      refine .inr ⟨hgo, fun H3 => ∃ (acc : List V) (da : List D) (m3 : Mm) (L3 Mo3 : List Addr), R (C.mk' L1 Mo1 H1 p acc) ⟨awipe a.g (own.map (·.2)), m3⟩ L3 Mo3 (wipe σ (own.map (·.2))) H3 ∧ DqAll C.K ((C.mk' L1 Mo1 H1 p acc).hd L3 Mo3 H3) acc da ∧
        (L1 = [] ∨ L3 = L1) ∧ Mo1 <+: Mo3 ∧ aLcL g tt te (awipe a.g (own.map (·.2))) rr da m3 (fun acc m' => AQ (.d (.list acc)) m') ∧ acc.length ≤ i + 1, ?_, ?_⟩
      · rintro H3 ⟨acc3, da3, m3, L3, Mo3, r3, dq3, pl3, po3, q3, hl3⟩
        exact ⟨n - 1, by omega, acc3, da3, m3, L3, Mo3, r3, dq3, pl3, po3, by rw [hdr]; exact q3, by omega, hl3⟩
      · intro y H3 hy
        obtain ⟨b3, x3, dq3⟩ := hyl y H3 hy
        have r3 := r2.next b3 x3
        have q3 : g (.d d) m2 (awipe a.g (own.map (·.2))) (fun g' => tt ⟨g', m2⟩ fun b m1 => if b = true then te ⟨g', m1⟩ fun y m2 => (match y with
          | .d e => aLcL g tt te (awipe a.g (own.map (·.2))) rr (da ++ [e]) m2 (fun acc m' => AQ (.d (.list acc)) m')
          | _ => False) else aLcL g tt te (awipe a.g (own.map (·.2))) rr da m1 (fun acc m' => AQ (.d (.list acc)) m')) := q2
        refine ⟨C.mk' L1 Mo1 H1 p acc, hK, ⟨awipe a.g (own.map (·.2)), m2⟩, L2, Mo2, .d d, _, r3, dq3, fun g' σ' hg2 r' hw => ⟨by rw [hw]; exact wipe_wipe, ?_⟩, q3⟩
        refine ⟨C.mk' L1 Mo1 H1 p acc, hK, ⟨g', m2⟩, L2, Mo2, _, r', fun b m4 L4 Mo4 H4 h4 b4 x4 => ?_, hg2⟩
        have pl4 : L1 = [] ∨ L4 = L1 := by
          rcases pl with z | z
          · exact .inl z
          · rcases x4.pl with w | w
            · exact .inl (z ▸ w)
            · exact .inr (w.trans z)
        have po4 : Mo1 <+: Mo4 := po.trans x4.po
        have dq4 : DqAll C.K ((C.mk' L1 Mo1 H1 p acc).hd L4 Mo4 H4) acc da := DqAll.mono (x3.sm.trans x4.sm) _ _ dq2
        have r4 := r3.next b4 x4
        show if b = true then _ else _
        cases b with
        | false =>
          rw [if_neg Bool.false_ne_true] at h4 ⊢
          exact ⟨acc, da, m4, L4, Mo4, r4, dq4, pl4, po4, h4, by omega⟩
        | true =>
          rw [if_pos rfl] at h4 ⊢
          refine ⟨C.mk' L1 Mo1 H1 p acc, hK, ⟨g', m4⟩, L4, Mo4, _, r'.next b4 x4, fun y5 m5 v5 L5 Mo5 H5 h5 b5 v5r x5 => ?_, h4⟩
          split at h5
          · rename_i e
            have hL5 := mk_at b5 hL
            have dq5 : DqAll C.K ((C.mk' L1 Mo1 H1 p acc).hd L5 Mo5 H5) acc da := DqAll.mono x5.sm _ _ dq4
            have pz : p ∈ (C.mk' L1 Mo1 H1 p acc).Z := by show p ∈ C.Z ++ [p]; simp
            have ehd : (C.mk' L1 Mo1 H1 p (acc ++ [v5])).hd L5 Mo5 (upd H5 p (.lst (acc ++ [v5]))) = (C.mk' L1 Mo1 H1 p acc).hd L5 Mo5 H5 :=
              hd_updIn (C := C.mk' L1 Mo1 H1 p acc) (L := L5) (Mo := Mo5) (H := H5) (ho := .lst (acc ++ [v5])) (x := p) (List.mem_append_left _ pz)
            have r5 := r4.next b5 x5
            refine ⟨acc, hL5, Nat.lt_of_le_of_lt hla (Nat.lt_of_lt_of_le hlt (Nat.le_trans hsz (by decide))), acc ++ [v5], da ++ [e], m5, L5, Mo5, ?_, ?_, ?_, po4.trans x5.po, h5, by simp; omega⟩
            · exact ⟨B.mkStep b1 hp b5, r5.ln, fun i av e => let ⟨v, h1, h2⟩ := r5.sl i av e; ⟨v, h1, h2.same rfl (by rw [ehd]; exact Same.refl _)⟩⟩
            · rw [ehd]; exact dq5.app (.cons v5r .nil)
            · rcases pl4 with z | z
              · exact .inl z
              · rcases x5.pl with w | w
                · exact .inl (z ▸ w)
                · exact .inr (w.trans z)
          · exact h5.elim
end
end QL

namespace QL
open PySem PySem.Spec PyProof.Rows L2

section
variable {X : Cx} {elt tg iter : Expr} {ifs : List Expr} {scope : Scope} {own : List (Str × Nat)} {pos : Pos} {ti : AIt} {g : ATG} {tt : ATT} {te : ATE}
theorem q_lc (hc : X.calm = true) (hN : X.N.Nodup) (hi : QI X tg iter ti) (ok : BlkOk X.N X.env.scope scope own)
    (hg : ∀ (s : Shared) (H : Hp) (Ca : Addr) (cl : List (Str × Addr)) (fp : List Addr), QG (X.blk s H scope (compEnvC scope cl Ca X.env) fp) (own.map (·.2)) tg g)
    (ht : ∀ (s : Shared) (H : Hp) (Ca : Addr) (cl : List (Str × Addr)) (fp : List Addr), QTs (X.blk s H scope (compEnvC scope cl Ca X.env) fp) ifs tt)
    (he : ∀ (s : Shared) (H : Hp) (Ca : Addr) (cl : List (Str × Addr)) (fp : List Addr), QE (X.blk s H scope (compEnvC scope cl Ca X.env) fp) elt te) (hs : ∀ x, foldedSetIterable iter X.env x = pure x := by intro _; rfl) :
    QE X (.ListComp elt [⟨tg, iter, ifs, 0⟩] scope pos) (aLc ti g tt te (own.map (·.2))) := fun C hK =>
  PE.imp (pe_lc hc hN (hi C hK) ok (fun s H Ca cl fp => (hg s H Ca cl fp).ex rfl) (fun s H Ca cl fp => (ht s H Ca cl fp).ex rfl) (fun s H Ca cl fp => (he s H Ca cl fp).ex rfl) hs) (lc_imp hK)
theorem qs_setLc {i : Nat} {y : Str} {py : Pos} {spos : Pos} (hc : X.calm = true) (hN : X.N.Nodup) (hy : X.N[i]? = some y) (hyl : X.env.scope.names.lookup y = some .local)
    (hsw : swapsWith (.ListComp elt [⟨tg, iter, ifs, 0⟩] scope pos) (some (.Name y py)) spos.line X.env = pure true) (hi : QI X tg iter ti) (ok : BlkOk X.N X.env.scope scope own)
    (hg : ∀ (s : Shared) (H : Hp) (Ca : Addr) (cl : List (Str × Addr)) (fp : List Addr), QG (X.blk s H scope (compEnvC scope cl Ca X.env) fp) (own.map (·.2)) tg g)
    (ht : ∀ (s : Shared) (H : Hp) (Ca : Addr) (cl : List (Str × Addr)) (fp : List Addr), QTs (X.blk s H scope (compEnvC scope cl Ca X.env) fp) ifs tt)
    (he : ∀ (s : Shared) (H : Hp) (Ca : Addr) (cl : List (Str × Addr)) (fp : List Addr), QE (X.blk s H scope (compEnvC scope cl Ca X.env) fp) elt te) (hs : ∀ x, foldedSetIterable iter X.env x = pure x := by intro _; rfl) :
    QS X (.Assign [.Name y py] (.ListComp elt [⟨tg, iter, ifs, 0⟩] scope pos) spos) (aSet i (aLc ti g tt te (own.map (·.2)))) := fun C hK =>
  PS.imp (ps_setLc hc hN hy hyl hsw (hi C hK) ok (fun s H Ca cl fp => (hg s H Ca cl fp).ex rfl) (fun s H Ca cl fp => (ht s H Ca cl fp).ex rfl) (fun s H Ca cl fp => (he s H Ca cl fp).ex rfl) hs) fun E σ H ⟨a, L, Mo, AD, r, b, h⟩ =>
    lc_imp hK σ H _ ⟨a, L, Mo, _, r, fun x m1 v L1 Mo1 H1 h1 b1 v1 e1 => b.nx _ _ _ _ _ h1 ((r.next b1 e1).set i v1), h⟩
end

/-! ### defs, called where no repr is under way -/
structure FnG (P : Program) (w : World) (K : PySem.W.Frag) (mg : Str → Option Value) (base : Heap) (CX : CXT) (k : Nat) (f : Addr) (fd : FuncData) (ps : List Str) (sp : Sp) : Prop where
  len : ∀ vs H Q E, sp vs H Q E → vs.length = ps.length
  run : ∀ (A : Around) (outer : List Env) (s : Shared) (H : Hp) (args : Args) (us : List Value) (vs : List V) (Q : VK) (E : XK),
    Room k A → A.guards = some [] → Env0 P w K mg base A outer s H → BindsTo s fd args (ps.zip us) → Vals vs us → sp vs H Q E →
      codeAny (model P w) A (.call (.ref f) args) (CR CX outer P w H s Q E) s
theorem FnG.of {P : Program} {w : World} {K : PySem.W.Frag} {mg : Str → Option Value} {base : Heap} {CX : CXT} {k : Nat} {f : Addr} {fd : FuncData} {ps : List Str} {sp : Sp} (F : FnOk P w K mg base CX k f fd ps sp) : FnG P w K mg base CX k f fd ps sp :=
  ⟨F.len, fun A outer s H args us vs Q E hr _ e0 hb hv hs => F.run A outer s H args us vs Q E hr e0 hb hv hs⟩
theorem FnG.mono {P : Program} {w : World} {K : PySem.W.Frag} {mg : Str → Option Value} {base : Heap} {CX : CXT} {j k : Nat} {f : Addr} {fd : FuncData} {ps : List Str} {sp : Sp} (F : FnG P w K mg base CX j f fd ps sp) (h : j ≤ k) : FnG P w K mg base CX k f fd ps sp :=
  ⟨F.len, fun A outer s H args us vs Q E hr hg e0 hb hv hs => F.run A outer s H args us vs Q E (hr.mono h) hg e0 hb hv hs⟩
section
variable {P : Program} {w : World} {K : PySem.W.Frag} {mg : Str → Option Value} {base : Heap} {CX : CXT}
theorem Fun.okG {x qual : Str} {st : Stmt} {f : Addr} {fd : FuncData} {N ps : List Str} {k : Nat} {sp : Sp} (F : Fun K x qual st f fd) (S : FnScope N ps (defScope st)) (len : ∀ vs H Q E, sp vs H Q E → vs.length = ps.length)
    (hbody : ∀ (cdv : Value) (A : Around) (outer : List Env) (s : Shared) (H : Hp) (vs : List V) (Q : VK) (E : XK), Room k (A.deeper (envOfC qual (defScope st) s.heap.objs.size f cdv)) → A.guards = some [] → sp vs H Q E →
      ∃ t, PSs (cxOf CX P w K mg base N qual (defScope st) f cdv A outer s H E) (defBody st) t ∧ t { nx := fun _ H' => Q .non H', rt := Q } (start N vs) H) : FnG P w K mg base CX (k + 1) f fd ps sp := by
  obtain ⟨oc, od, kV, doc, pm, an, cdv, ct, osl, rfl, lk, hcd⟩ := F.ex
  constructor
  · exact len
  · intro A outer s H args us vs Q E hr hgd e0 hb r hsp
    have hl := len vs H Q E hsp
    have inS : K.In s.heap := e0.mod.kin.keeps (fun b o e => (e0.bs b o e).1)
    have noLim : s.heap.NoLimit := e0.mod.nolimit.keeps (fun b o e => (e0.bs b o e).1)
    have kinds : ∀ y ∈ ps.zip us, (defScope st).names.lookup y.1 = some .local ∨
        ((defScope st).names.lookup y.1 = some .cell ∧ ((cellsFrom (s.heap.objs.size + 1) (defScope st).names []).lookup y.1).isSome = true) := by
      intro ⟨n, v⟩ hy
      cases S.par n (List.of_mem_zip hy).1 with
      | inl q => exact .inl q
      | inr q => exact .inr ⟨q, PySem.W.cellsFrom_some _ _ _ (.inl q)⟩
    apply codeAny_call_function hr.depth (inS _ _ lk) rfl S.co S.gen rfl (PySem.W.codeRec_of inS hcd)
    apply hb
    apply wpAny_newFunctionEnv_cells S.kind kinds
    intro env he s1 x
    subst he
    refine ⟨noLim.keeps x.toInCall.keep, codeAny_func ?_⟩
    obtain ⟨t, ht, hq⟩ := hbody cdv A outer s H vs Q E (hr.deeper _) hgd hsp
    have I := inv_start (CX := CX) (P := P) (w := w) (K := K) (mg := mg) (base := base) (N := N) (qual := qual) (f := f) (cd := cdv) (E := E) S hr.hd e0 hl r x
    apply wpAny_mono (ht.run [] s1 (start N vs) H _ I hq)
    · intro fl s' hs
      cases fl with
      | ret u =>
        obtain ⟨v, σ', H', J, rv, q⟩ := hs
        exact ⟨v, H', J.os, J.bare, J.base, J.hok, rv, q⟩
      | next =>
        obtain ⟨σ', H', J, q⟩ := hs
        exact ⟨V.non, H', J.os, J.bare, J.base, J.hok, rfl, q⟩
      | brk =>
        obtain ⟨σ', H', J, q⟩ := hs
        exact q.elim
      | cont =>
        obtain ⟨σ', H', J, q⟩ := hs
        exact q.elim
    · intro e s' hs
      exact hs
end
section
variable {X : Cx} {CX : CXT} {k : Nat} {f : Addr} {fd : FuncData} {ps : List Str} {sp : Sp} {E : XK} {x : Str} {p pos : Pos} {e : Expr} {es : List Expr} {t : TA}
theorem run_g {pins : List (Addr × Obj)} {σ : List (Option V)} {H : Hp} {s : Shared} {Q : VK} {us : List Value} {vs : List V} (F : FnG X.prog X.w X.K X.mg X.base CX k f fd ps sp) (hr : Room k X.A) (hgd : X.A.guards = some []) (hb : Binds X.K fd ps []) (hx : Passes CX X E)
    (I : Inv X pins σ H s) (r : Vals vs us) (h : sp vs H Q E) : wpAny (model X.prog X.w) X.A (call (.ref f) us) (EP X pins σ Q) X.xe s := by
  have hl : us.length = ps.length := by rw [← r.length]; exact F.len _ _ _ _ h
  have hbt := hb s us I.kIn (by simpa using hl)
  rw [List.append_nil] at hbt
  apply wpAny_call
  apply codeAny_mono (F.run X.A X.stack s H ⟨us, []⟩ us vs Q E hr hgd I.env0 hbt r h)
  intro res s' hq
  cases res with
  | error e => exact hx pins σ H s e s' I hq
  | ok fl =>
    cases fl with
    | ret u => exact I.after hq
    | next => exact hq.elim
    | brk => exact hq.elim
    | cont => exact hq.elim
theorem pe_g (F : FnG X.prog X.w X.K X.mg X.base CX k f fd ps sp) (hr : Room k X.A) (hgd : X.A.guards = some []) (hg : Gl X x) (hm : X.mg x = some (.ref f)) (hk : PySem.W.keepIn X.K (.ref f) = true) (hb : Binds X.K fd ps []) (hx : Passes CX X E)
    (ha : PA X (e :: es) t) (hdb : (x == ("__debug__" : Str)) = false := by decide) (he : starEach (e :: es) X.env = (false, eval e X.env) :: starEach es X.env := by rfl) (hpl : (backTo pos (starEach es X.env)).any (·.1) = false := by rfl) :
    PE X (.Call (.Name x p) (e :: es) [] pos) (fun σ H Q => t σ H fun vs H1 => sp vs H1 Q E) := by
  constructor
  intro pins s σ H Q I h
  apply wpAny_Call_Name_kw
  refine ld_glob I hg hm ?_ hdb
  refine PySem.W.callWith_K (h₀ := X.base) I.ok.mod.kin hk ?_ he hpl
  apply thn (ha.run pos pins s σ H _ I h)
  intro us s1 ⟨vs, H1, I1, r, q⟩
  exact ⟨I1.kIn, run_g F hr hgd hb hx I1 r q⟩
theorem pe_g0 (F : FnG X.prog X.w X.K X.mg X.base CX k f fd ps sp) (hr : Room k X.A) (hgd : X.A.guards = some []) (hg : Gl X x) (hm : X.mg x = some (.ref f)) (hk : PySem.W.keepIn X.K (.ref f) = true) (hb : Binds X.K fd ps []) (hx : Passes CX X E)
    (hdb : (x == ("__debug__" : Str)) = false := by decide) : PE X (.Call (.Name x p) [] [] pos) (fun σ H Q => sp [] H Q E) := by
  constructor
  intro pins s σ H Q I h
  apply wpAny_Call_Name_kw
  refine ld_glob I hg hm ?_ hdb
  exact PySem.W.callWith_K0 I.kIn hk (run_g (us := []) F hr hgd hb hx I .nil h)
end

/-! ### an abstract def -/
abbrev AFn := List AV → Option Src → (AV → Option Src → Prop) → Prop
structure Entry (K : PySem.W.Frag) (Z L : List Addr) (s : Option Src) (H : Hp) : Prop where
  nd : (Z ++ L).Nodup
  sr : SrcAt H s L
  zt : ∀ z ∈ Z, ∃ u, H z = some u ∧ NT u
theorem Entry.b {K : PySem.W.Frag} {Z L : List Addr} {s : Option Src} {H : Hp} (e : Entry K Z L s H) : B ⟨K, Z, L, H⟩ ⟨s, []⟩ L [] H :=
  ⟨by simpa using e.nd, e.sr, .nil, fun _ _ h _ => h, fun _ h => .inl h, fun _ h => (by cases h), fun z hz => ⟨e.zt z hz, fun q => (List.nodup_append.mp e.nd).2.2 z hz z q rfl⟩, .inr rfl⟩
def spOf (K : PySem.W.Frag) (n : Nat) (fn : AFn) : Sp := fun vs H Q _ => vs.length = n ∧ ∃ (Z L : List Addr) (s : Option Src) (avs : List AV) (AQ : AV → Option Src → Prop), Entry K Z L s H ∧ AVRs ⟨K, Z, L, H⟩ L [] H avs vs ∧
  (∀ av s' v L' H', AQ av s' → B ⟨K, Z, L, H⟩ ⟨s', []⟩ L' [] H' → AVR ⟨K, Z, L, H⟩ L' [] H' av v → Q v H') ∧ fn avs s AQ
/-- what a def's body is to reach -/
def endsA (AQ : AV → Option Src → Prop) : AEnds where
  nx := fun a => AQ (.d .none) a.m.s
  rt := fun av m => match fzV 0 m av with
    | some x => AQ x m.s
    | none => False
def startA (N : List Str) (avs : List AV) : List (Option AV) := avs.map some ++ List.replicate (N.length - avs.length) none
section
variable {P : Program} {w : World} {K : PySem.W.Frag} {mg : Str → Option Value} {base : Heap} {CX : CXT}
theorem start_rel {C : Ct} {L Mo : List Addr} {H : Hp} {N : List Str} {avs : List AV} {vs : List V} (r : AVRs C L Mo H avs vs) (i : Nat) (av : AV) (h : (startA N avs)[i]? = some (some av)) : ∃ v, (L2.start N vs)[i]? = some (some v) ∧ AVR C L Mo H av v := by
  unfold startA at h
  unfold L2.start
  have hl := Paired.length r
  by_cases hi : i < avs.length
  · rw [List.getElem?_append_left (by simpa using hi), List.getElem?_map] at h
    cases e : avs[i]? with
    | none => rw [e] at h; cases h
    | some x =>
      rw [e] at h
      have hx : x = av := Option.some.inj (Option.some.inj h)
      subst hx
      obtain ⟨v, h1, h2⟩ := paired_at r e
      exact ⟨v, by rw [List.getElem?_append_left (by simp; omega), List.getElem?_map, h1]; rfl, h2⟩
  · rw [List.getElem?_append_right (by simpa using hi)] at h
    have := List.mem_of_getElem? h
    simp at this
theorem fn_okA {x qual : Str} {st : Stmt} {f : Addr} {fd : FuncData} {N ps : List Str} {k n : Nat} {fn : AFn} {t : ATS} (F : Fun K x qual st f fd) (S : FnScope N ps (defScope st)) (hn : ps.length = n)
    (hbody : ∀ (cdv : Value) (A : Around) (outer : List Env) (s : Shared) (H : Hp) (E : XK), Room k (A.deeper (envOfC qual (defScope st) s.heap.objs.size f cdv)) → (A.deeper (envOfC qual (defScope st) s.heap.objs.size f cdv)).guards = some [] →
      QSs (cxOf CX P w K mg base N qual (defScope st) f cdv A outer s H E).nox (defBody st) t)
    (hf : ∀ avs s AQ, fn avs s AQ → t (endsA AQ) ⟨startA N avs, ⟨s, []⟩⟩) : FnG P w K mg base CX (k + 1) f fd ps (spOf K n fn) := by
  refine Fun.okG F S (fun vs H Q E h => h.1.trans hn.symm) fun cdv A outer s H vs Q E hr hgd h => ?_
  obtain ⟨hl, Z, L, sr, avs, AQ, en, rv, hQ, hfn⟩ := h
  have hb := hbody cdv A outer s H E hr hgd
  refine ⟨_, (hb ⟨K, Z, L, H⟩ rfl).nox, ⟨startA N avs, ⟨sr, []⟩⟩, L, [], endsA AQ, ⟨en.b, ?_, fun i av e => start_rel rv i av e⟩, ⟨fun a L' Mo' σ' H' q r => ?_, fun av m L' Mo' H' v q b' r => ?_, fun _ _ _ _ _ q _ => q.elim, fun _ _ _ _ _ q _ => q.elim⟩, hf avs sr AQ hfn⟩
  · have := Paired.length rv
    simp [startA, L2.start, this]
  · exact hQ _ _ _ _ _ q (r.b.take 0) .non
  · have q' : (match fzV 0 m av with | some x => AQ x m.s | none => False) := q
    split at q'
    · rename_i x e
      exact hQ _ _ _ _ _ q' (b'.take 0) (r.fz b' e)
    · exact q'.elim
end
/-- no local object among the arguments -/
def argsOk : List AV → Bool
  | [] => true
  | .o _ :: _ => false
  | .cells :: _ => false
  | _ :: r => argsOk r
def aFn (n : Nat) (fn : AFn) (t : ATA) : ATE := fun a Q => t a fun avs m => avs.length = n ∧ argsOk avs = true ∧ fn avs m.s fun av s' => Q av ⟨s', m.o⟩
section
variable {X : Cx} {CX : CXT} {k n : Nat} {f : Addr} {fd : FuncData} {ps : List Str} {fn : AFn} {E : XK} {x : Str} {p pos : Pos} {e : Expr} {es : List Expr} {t : ATA}
theorem hid_congr {Z Z' : List Addr} {H : Hp} (h : ∀ a, a ∈ Z ↔ a ∈ Z') : hid Z H = hid Z' H := by
  funext a
  unfold hid
  by_cases q : a ∈ Z
  · rw [if_pos q, if_pos ((h a).mp q)]
  · rw [if_neg q, if_neg fun z => q ((h a).mpr z)]
theorem fn_imp {C : Ct} {m : Mm} {L Mo : List Addr} {H : Hp} {avs : List AV} {vs : List V} {AQ : AV → Mm → Prop} {Q : VK} (hl : vs.length = n) (b : B C m L Mo H) (r : AVRs C L Mo H avs vs) (k : Cont C L Mo H AQ Q) (ok : argsOk avs = true) (h : fn avs m.s fun av s' => AQ av ⟨s', m.o⟩) : spOf C.K n fn vs H Q E := by
  have hh : ∀ (L' : List Addr) (H' : Hp), hid ((C.Z ++ Mo) ++ (L' ++ [])) H' = C.hd L' Mo H' := fun L' H' => hid_congr fun a => by grind
  have nd := b.nd
  refine ⟨hl, C.Z ++ Mo, L, m.s, avs, _, ⟨by grind, b.sr, fun z hz => b.thereN (by grind)⟩, ?_, fun av s' v L' H' q b' rv => ?_, h⟩
  · have go : ∀ (avs : List AV) (vs : List V), AVRs C L Mo H avs vs → argsOk avs = true → AVRs ⟨C.K, C.Z ++ Mo, L, H⟩ L [] H avs vs := by
      intro avs vs r ok
      induction r with
      | nil => exact .nil
      | cons q t ih =>
        rename_i a v l l'
        cases a with
        | o j => simp [argsOk] at ok
        | d y => exact .cons (by show Dq C.K (hid ((C.Z ++ Mo) ++ (L ++ [])) H) v y; rw [hh]; exact q) (ih (by simpa [argsOk] using ok))
        | src => exact .cons q (ih (by simpa [argsOk] using ok))
        | cells => simp [argsOk] at ok
        | kt ns =>
          obtain ⟨c, e1, e2⟩ := q
          exact .cons ⟨c, e1, by show hid ((C.Z ++ Mo) ++ (L ++ [])) H c = _; rw [hh]; exact e2⟩ (ih (by simpa [argsOk] using ok))
        | dt ns =>
          obtain ⟨c, ys, e1, e2, e3⟩ := q
          exact .cons ⟨c, ys, e1, by show hid ((C.Z ++ Mo) ++ (L ++ [])) H c = _; rw [hh]; exact e2, by show KQ C.K (hid ((C.Z ++ Mo) ++ (L ++ [])) H) ys ns; rw [hh]; exact e3⟩ (ih (by simpa [argsOk] using ok))
        | ty ns => exact .cons q (ih (by simpa [argsOk] using ok))
        | ad ns => exact .cons q (ih (by simpa [argsOk] using ok))
        | scr ns =>
          obtain ⟨c, e1, e2⟩ := q
          exact .cons ⟨c, e1, by show SqL C.K (hid ((C.Z ++ Mo) ++ (L ++ [])) H) c _; rw [hh]; exact e2⟩ (ih (by simpa [argsOk] using ok))
    exact go avs vs r ok
  · have keep : ∀ a u, H a = some u → a ∉ L → H' a = some u := fun a u h1 h2 => b'.kp a u h1 h2
    have nd' : ((C.Z ++ Mo) ++ (L' ++ [])).Nodup := b'.nd
    have hs : Same (C.hd L Mo H) (C.hd L' Mo H') := fun a u h1 => by
      obtain ⟨h2, h3⟩ := hid_some h1
      have n1 : a ∉ L := fun z => h2 (by simp [z])
      have n2 : a ∉ L' := fun z => by
        rcases b'.nl a z with q | q
        · exact n1 q
        · rw [show H a = none from q] at h3; cases h3
      rw [Ct.hd, hid_of (by grind)]
      exact keep a u h3 n1
    have hL : L = [] ∨ L' = L := b'.l0
    have bb : B C ⟨s', m.o⟩ L' Mo H' := by
      refine ⟨by grind, b'.sr, paired_impM b.ob fun o l hl2 q2 => q2.mono hs ?_, fun a u h1 h2 => ?_, fun a ha => ?_, b.no, b.zt, ?_⟩
      · obtain ⟨u, hu⟩ := q2.there
        rw [hu]
        exact keep l u hu fun z => (List.nodup_append.mp (List.nodup_append.mp nd).2.1).2.2 l z l hl2 rfl
      · have h3 := b.kp a u h1 h2
        refine keep a u h3 fun z => ?_
        rcases b.nl a z with q2 | q2
        · exact h2 q2
        · rw [q2] at h1; cases h1
      · rcases b'.nl a ha with z | z
        · exact b.nl a z
        · exact .inr (b.fresh0 z)
      · rcases b.l0 with z | z
        · exact .inl z
        · rcases hL with z2 | z2
          · exact .inl (z.symm.trans z2)
          · exact .inr (z2.trans z)
    have rv' : AVR C L' Mo H' av v := by
      cases av with
      | d y =>
        have : Dq C.K (hid ((C.Z ++ Mo) ++ (L' ++ [])) H') v y := rv
        rw [hh] at this; exact this
      | o j => obtain ⟨l, h1, _⟩ := rv; simp at h1
      | src => exact rv
      | cells => exact rv
      | scr ns =>
        obtain ⟨c, e1, e2⟩ := rv
        have e3 : SqL C.K (hid ((C.Z ++ Mo) ++ (L' ++ [])) H') c (ns.map V.int) := e2
        rw [hh] at e3
        exact ⟨c, e1, e3⟩
      | kt ns =>
        obtain ⟨c, e1, e2⟩ := rv
        have e3 : hid ((C.Z ++ Mo) ++ (L' ++ [])) H' c = _ := e2
        rw [hh] at e3
        exact ⟨c, e1, e3⟩
      | dt ns =>
        obtain ⟨c, ys, e1, e2, e4⟩ := rv
        have e3 : hid ((C.Z ++ Mo) ++ (L' ++ [])) H' c = _ := e2
        have e5 : KQ C.K (hid ((C.Z ++ Mo) ++ (L' ++ [])) H') ys ns := e4
        rw [hh] at e3 e5
        exact ⟨c, ys, e1, e3, e5⟩
      | ty ns => exact rv
      | ad ns => exact rv
    exact k _ _ _ _ _ _ q bb rv' ⟨hL, List.prefix_rfl, hs⟩
theorem q_fn (F : FnG X.prog X.w X.K X.mg X.base CX k f fd ps (spOf X.K n fn)) (hr : Room k X.A) (hgd : X.A.guards = some []) (hg : Gl X x) (hm : X.mg x = some (.ref f)) (hk : PySem.W.keepIn X.K (.ref f) = true) (hb : Binds X.K fd ps []) (hx : Passes CX X E)
    (ha : QA X (e :: es) t) (hdb : (x == ("__debug__" : Str)) = false := by decide) (he : starEach (e :: es) X.env = (false, eval e X.env) :: starEach es X.env := by rfl) (hpl : (backTo pos (starEach es X.env)).any (·.1) = false := by rfl) :
    QE X (.Call (.Name x p) (e :: es) [] pos) (aFn n fn t) := fun C hK => PE.imp (pe_g F hr hgd hg hm hk hb hx (ha C hK) hdb he hpl) fun σ H Q ⟨a, L, Mo, AQ, r, k, h⟩ =>
  ⟨a, L, Mo, _, r, fun avs m1 vs L1 Mo1 H1 ⟨hl, h1⟩ b1 v1 e1 => by
    have := fn_imp (E := E) (fn := fn) (n := n) ((Paired.length v1).symm.trans hl) b1 v1 (k.aft e1) h1.1 h1.2
    rw [hK] at this
    exact this, h⟩
theorem q_fn0 (F : FnG X.prog X.w X.K X.mg X.base CX k f fd ps (spOf X.K 0 fn)) (hr : Room k X.A) (hgd : X.A.guards = some []) (hg : Gl X x) (hm : X.mg x = some (.ref f)) (hk : PySem.W.keepIn X.K (.ref f) = true) (hb : Binds X.K fd ps []) (hx : Passes CX X E)
    (hdb : (x == ("__debug__" : Str)) = false := by decide) : QE X (.Call (.Name x p) [] [] pos) (aFn 0 fn aNil) := fun C hK => PE.imp (pe_g0 F hr hgd hg hm hk hb hx hdb) fun σ H Q ⟨a, L, Mo, AQ, r, k, h⟩ => by
    have := fn_imp (E := E) (fn := fn) (n := 0) (vs := []) rfl r.b .nil k h.2.1 h.2.2
    rw [hK] at this
    exact this
end
end QL

namespace QL
open PySem PySem.Spec PyProof.Rows L2

/-! ### repr -/
/-- what repr asks of the data: ints that are shown, not too deep, not too long -/
def RepOk (d : D) : Prop := d.hasDict = false ∧ d.showable = true ∧ d.depth ≤ 64 ∧ d.shown.length ≤ sizeLine
section
variable {X : Cx}
theorem cr_repr (hg : X.A.guards = some []) (hu : X.A.units + 100 < cLine) : CallR X (.builtin "repr") (fun xs H Q => ∃ x d, xs = [x] ∧ Dq X.K H x d ∧ RepOk d ∧ Q (.str d.shown) H) := by
  intro pins s σ H xs us Q I r h
  obtain ⟨x, d, rfl, hd, ⟨hnd, hs, hdp, hl⟩, q⟩ := h
  obtain ⟨u, rfl, rx⟩ := vals1 r
  cases hd with
  | non =>
    cases rx
    exact PySem.P.repr_of_none ⟨.str _, H, I.tok _, ⟨_, rfl⟩, q⟩
  | bl b =>
    cases rx
    exact PySem.P.repr_of_bool ⟨.str _, H, I.tok _, ⟨_, rfl⟩, q⟩
  | int i =>
    obtain ⟨t, rfl⟩ := rx
    refine PySem.P.repr_of_int (by simpa [PyData.showable] using hs) ⟨.str _, H, I.tok _, ⟨_, rfl⟩, q⟩
  | str z =>
    obtain ⟨t, rfl⟩ := rx
    exact PySem.P.repr_of_str (h := ⟨.str _, H, I.tok _, ⟨_, rfl⟩, q⟩) (hsz := by simpa [PyData.shown] using hl)
  | lst h1 h2 =>
    cases rx
    obtain ⟨as, rd⟩ := Dp.reads I _ _ _ (Dq.toDp _ _ hnd (Dq.lst h1 h2)) rfl
    exact repr_of_reads' rd hs (PyData.noDict_hsm hnd) hg (by omega) (fun _ _ e => e) (fun h' u tk k => ⟨.str _, H, I.kept k, ⟨_, rfl⟩, q⟩) hl
  | tup h1 h2 =>
    cases rx
    obtain ⟨as, rd⟩ := Dp.reads I _ _ _ (Dq.toDp _ _ hnd (Dq.tup h1 h2)) rfl
    exact repr_of_reads' rd hs (PyData.noDict_hsm hnd) hg (by omega) (fun _ _ e => e) (fun h' u tk k => ⟨.str _, H, I.kept k, ⟨_, rfl⟩, q⟩) hl
  | dk h1 h2 => simp [PyData.hasDict] at hnd
def bRepr : AC1 := fun avs m Q => match avs with
  | [x] => match datA m x with
    | some d => RepOk d ∧ Q (.d (.str d.shown)) m
    | none => False
  | _ => False
theorem cq_repr (hg : X.A.guards = some []) (hu : X.A.units + 100 < cLine) : CallQ X (.builtin "repr") bRepr := by
  refine ⟨_, cr_repr hg hu, fun C L Mo H m avs vs Q AQ hK b r k hh => ?_⟩
  unfold bRepr at hh
  split at hh
  · split at hh
    · rename_i d e
      obtain ⟨v, rfl, rv⟩ := av1 r
      exact ⟨v, d, rfl, hK ▸ datA_ok b rv e, hh.1, k.ret hh.2 b (.str _)⟩
    · exact hh.elim
  · exact hh.elim

end
end QL

namespace QL
open PySem PySem.Spec PyProof.Rows L2

/-! ### a local object changes -/
section
variable {C : Ct} {m : Mm} {L Mo : List Addr} {H : Hp} {l : Addr} {j : Nat} {ho : HO} {mo : MO}
theorem B.upd (b : B C m L Mo H) (hj : Mo[j]? = some l) (ok : ∀ h, h = C.hd L Mo H → MOk C.K h (L2.upd H l ho) mo l) : B C ⟨m.s, m.o.set j mo⟩ L Mo (L2.upd H l ho) := by
  have hm : l ∈ Mo := List.mem_of_getElem? hj
  have e : C.hd L Mo (L2.upd H l ho) = C.hd L Mo H := hd_updIn (by grind)
  have nd := b.nd
  have nL : l ∉ L := fun z => (List.nodup_append.mp (List.nodup_append.mp nd).2.1).2.2 l z l hm rfl
  have hob : Paired (MOk C.K (C.hd L Mo (L2.upd H l ho)) (L2.upd H l ho)) (m.o.set j mo) Mo := by
    rw [e]
    have nMo : Mo.Nodup := (List.nodup_append.mp (List.nodup_append.mp nd).2.1).2.1
    have go : ∀ (o : List MO) (r : List Addr) (j : Nat), Paired (MOk C.K (C.hd L Mo H) H) o r → r.Nodup → r[j]? = some l → Paired (MOk C.K (C.hd L Mo H) (L2.upd H l ho)) (o.set j mo) r := by
      intro o r j q
      induction q generalizing j with
      | nil => intro _ h; simp at h
      | cons q t ih =>
        rename_i a b l1 l2
        intro nd h
        cases j with
        | zero =>
          simp at h; subst h
          refine .cons (ok _ rfl) (paired_impM t fun o x hx q => q.mono (Same.refl _) (upd_ne fun z => ?_))
          exact (List.nodup_cons.mp nd).1 (z ▸ hx)
        | succ j =>
          simp at h
          refine .cons (q.mono (Same.refl _) (upd_ne fun z => ?_)) (ih j (List.nodup_cons.mp nd).2 h)
          exact (List.nodup_cons.mp nd).1 (z ▸ List.mem_of_getElem? h)
    exact go _ _ _ b.ob nMo hj
  refine ⟨nd, srcAt_upd b.sr nL, hob, fun a u h1 h2 => ?_, b.nl, b.no, b.zt, b.l0⟩
  rw [upd_ne (fun z => by subst z; rw [(b.no _ hm).1] at h1; cases h1)]
  exact b.kp a u h1 h2
theorem X2.upd (hm : l ∈ Mo) : X2 C L Mo H L Mo (L2.upd H l ho) := ⟨.inr rfl, List.prefix_rfl, by
  rw [show C.hd L Mo (L2.upd H l ho) = C.hd L Mo H from hd_updIn (by grind)]; exact Same.refl _⟩
end
abbrev AM := AV → List AV → Mm → (AV → Mm → Prop) → Prop
def MtQ (X : Cx) (id : String) (r : AM) : Prop := ∃ r2, MtR X id r2 ∧ ∀ (C : Ct) L Mo H m x avs v vs Q AQ, C.K = X.K → B C m L Mo H → AVR C L Mo H x v → AVRs C L Mo H avs vs → Cont C L Mo H AQ Q → r x avs m AQ → r2 v vs H Q
/-- o.m(..), o a list -/
def aMt (r : AM) (to : ATE) (t : ATA) : ATE := fun a Q => to a fun x m1 => match lstA m1 x with
  | some _ => t ⟨a.g, m1⟩ fun avs m2 => r x avs m2 Q
  | none => False
def aMt0 (r : AM) (to : ATE) : ATE := fun a Q => to a fun x m1 => match lstA m1 x with
  | some _ => r x [] m1 Q
  | none => False
section
variable {X : Cx} {o e : Expr} {es : List Expr} {to : ATE} {t : ATA} {name : Str} {apos cpos : Pos} {id : String} {r : AM}
theorem q_mt (hm : MtQ X id r) (slot : Slot "list" name id) (hty : typeOf (.builtin id) = pure (.type "method_descriptor")) (ho : QE X o to) (ha : QA X (e :: es) t)
    (hbase : attributeBase o name X.env (eval o X.env) = eval o X.env := by rfl)
    (hfew : ((backTo cpos (starEach (e :: es) X.env)).all (fun x => !x.1) && (backToKw cpos (keywordEach [] X.env)).all (fun x => x.1.isSome)
      && decide ((e :: es).length + ([] : List Keyword).length + (if ([] : List Keyword).isEmpty then 0 else 1) < 30)) = true := by rfl)
    (hline : (apos.endLine == cpos.line) = true := by rfl) (hs : starEach (e :: es) X.env = (false, eval e X.env) :: starEach es X.env := by rfl) (hplain : (backTo cpos (starEach es X.env)).any (·.1) = false := by rfl) :
    QE X (.Call (.Attribute o name apos) (e :: es) [] cpos) (aMt r to t) := fun C hK => by
  obtain ⟨r2, hr, hi⟩ := hm
  refine PE.imp (pe_bm PySem.F.plainAttrs_list slot hty hr (ho C hK) (ha C hK) hbase hfew hline hs hplain) fun σ H Q ⟨a, L, Mo, AQ, rr, k, h⟩ => ?_
  refine ⟨a, L, Mo, _, rr, fun x m1 v L1 Mo1 H1 h1 b1 v1 e1 => ?_, h⟩
  split at h1
  · rename_i ds e
    obtain ⟨l, xs, rfl, h2, _⟩ := lstA_ok b1 v1 e
    exact ⟨.inl ⟨rfl, xs, SqL.of h2⟩, ⟨a.g, m1⟩, L1, Mo1, _, rr.next b1 e1, fun avs m2 vs L2 Mo2 H2 h2 b2 v2 e2 => hi C L2 Mo2 H2 m2 x avs _ vs Q AQ hK b2 (v1.mono e2) v2 (k.aft (e1.trans e2)) h2, h1⟩
  · exact h1.elim
theorem q_mt0 (hm : MtQ X id r) (slot : Slot "list" name id) (hty : typeOf (.builtin id) = pure (.type "method_descriptor")) (ho : QE X o to)
    (hbase : attributeBase o name X.env (eval o X.env) = eval o X.env := by rfl) (hline : (apos.endLine == cpos.line) = true := by rfl) :
    QE X (.Call (.Attribute o name apos) [] [] cpos) (aMt0 r to) := fun C hK => by
  obtain ⟨r2, hr, hi⟩ := hm
  refine PE.imp (pe_bm0 PySem.F.plainAttrs_list slot hty hr (ho C hK) hbase hline) fun σ H Q ⟨a, L, Mo, AQ, rr, k, h⟩ => ?_
  refine ⟨a, L, Mo, _, rr, fun x m1 v L1 Mo1 H1 h1 b1 v1 e1 => ?_, h⟩
  split at h1
  · rename_i ds e
    obtain ⟨l, xs, rfl, h2, _⟩ := lstA_ok b1 v1 e
    exact ⟨.inl ⟨rfl, xs, SqL.of h2⟩, hi C L1 Mo1 H1 m1 x [] _ [] Q AQ hK b1 v1 .nil (k.aft e1) h1⟩
  · exact h1.elim
theorem o_at {C : Ct} {m : Mm} {L Mo : List Addr} {H : Hp} {j : Nat} {v : V} {mo : MO} (b : B C m L Mo H) (r : AVR C L Mo H (.o j) v) (h : m.o[j]? = some mo) : ∃ l, v = .ref l ∧ Mo[j]? = some l ∧ MOk C.K (C.hd L Mo H) H mo l := by
  obtain ⟨l, h1, rfl⟩ := r
  obtain ⟨l', h2, h3⟩ := paired_at b.ob h
  rw [h1] at h2; cases h2
  exact ⟨l, rfl, h1, h3⟩
/-- append -/
def mApp : AM := fun x avs m Q => match x, avs with
  | .o j, [.d d] => match m.o[j]? with
    | some (.l ds) => ds.length ≤ 1000000 ∧ Q (.d .none) ⟨m.s, m.o.set j (.l (ds ++ [d]))⟩
    | _ => False
  | _, _ => False
theorem line6 {n : Nat} (h : n ≤ 1000000) : n < sizeLine := Nat.lt_of_le_of_lt h (by decide)
theorem mq_append : MtQ X "list.append" mApp := by
  refine ⟨_, mt_append, fun C L Mo H m x avs v vs Q AQ hK b r1 r2 k hh => ?_⟩
  unfold mApp at hh
  split at hh
  · split at hh
    · rename_i ds e
      obtain ⟨l, rfl, hl, xs, h3, h4⟩ := o_at b r1 e
      obtain ⟨w, rfl, rw_⟩ := av1 r2
      refine ⟨l, xs, w, rfl, rfl, h3, by rw [h4.len]; exact line6 hh.1, k _ _ _ _ _ _ hh.2 (b.upd hl fun h e => ⟨_, upd_same, by rw [e]; exact h4.app (.cons rw_ .nil)⟩) .non (X2.upd (List.mem_of_getElem? hl))⟩
    · exact hh.elim
  · exact hh.elim
/-- pop, the last -/
def mPop : AM := fun x avs m Q => match x, avs with
  | .o j, [] => match m.o[j]? with
    | some (.l ds) => match ds.getLast? with
      | some d => Q (.d d) ⟨m.s, m.o.set j (.l ds.dropLast)⟩
      | none => False
    | _ => False
  | _, _ => False
theorem mq_pop : MtQ X "list.pop" mPop := by
  refine ⟨_, mt_pop, fun C L Mo H m x avs v vs Q AQ hK b r1 r2 k hh => ?_⟩
  unfold mPop at hh
  split at hh
  · split at hh
    · rename_i ds e
      split at hh
      · rename_i d ed
        obtain ⟨l, rfl, hl, xs, h3, h4⟩ := o_at b r1 e
        cases r2
        rw [List.getLast?_eq_getElem?] at ed
        obtain ⟨y, h5, h6⟩ := h4.at ed
        have hu := X2.upd (C := C) (L := L) (H := H) (ho := .lst xs.dropLast) (List.mem_of_getElem? hl)
        refine ⟨l, xs, y, rfl, rfl, h3, by rw [h4.len]; exact h5, k _ _ _ _ _ _ hh (b.upd hl fun h e => ⟨_, upd_same, by rw [e]; exact h4.pop⟩) (Dq.mono hu.sm _ _ h6) hu⟩
      · exact hh.elim
    · exact hh.elim
  · exact hh.elim
/-- extend by a data list -/
def mExt : AM := fun x avs m Q => match x, avs with
  | .o j, [y] => match m.o[j]?, lstA m y with
    | some (.l ds), some es => ds.length + es.length ≤ 1000000 ∧ Q (.d .none) ⟨m.s, m.o.set j (.l (ds ++ es))⟩
    | _, _ => False
  | _, _ => False
theorem mq_extend : MtQ X "list.extend" mExt := by
  refine ⟨_, mt_extend, fun C L Mo H m x avs v vs Q AQ hK b r1 r2 k hh => ?_⟩
  unfold mExt at hh
  split at hh
  · split at hh
    · rename_i ds es e e2
      obtain ⟨l, rfl, hl, xs, h3, h4⟩ := o_at b r1 e
      obtain ⟨w, rfl, rw_⟩ := av1 r2
      obtain ⟨l2, zs, rfl, h5, h6⟩ := lstA_ok b rw_ e2
      refine ⟨l, l2, xs, zs, rfl, rfl, h3, h5, by rw [h4.len, h6.len]; exact Nat.le_of_lt (line6 hh.1), k _ _ _ _ _ _ hh.2 (b.upd hl fun h e => ⟨_, upd_same, by rw [e]; exact h4.app h6⟩) .non (X2.upd (List.mem_of_getElem? hl))⟩
    · exact hh.elim
  · exact hh.elim
end

/-! ### the law's source -/
section
variable {C : Ct} {m : Mm} {L Mo : List Addr} {H : Hp} {S S' : Src} {d c : Addr}
theorem B.src (b : B C m L Mo H) (hs : m.s = some S) : ∃ d c, L = [d, c] ∧ H d = some (.dK (srcKv S c)) ∧ H c = some (.lst (S.cells.map V.int)) ∧ d ≠ c := by
  have q := b.sr
  rw [hs] at q
  obtain ⟨d, c, e, h1, h2⟩ := q
  exact ⟨d, c, e, h1, h2, ne_of h1 h2 (by intro z; cases z)⟩
/-- the source's dict or list is written -/
theorem B.setS (b : B C m [d, c] Mo H) {x : Addr} {ho : HO} (hx : x = d ∨ x = c) (h : SrcAt (L2.upd H x ho) (some S') [d, c]) : B C ⟨some S', m.o⟩ [d, c] Mo (L2.upd H x ho) := by
  have hm : x ∈ [d, c] := by rcases hx with rfl | rfl <;> simp
  have e : C.hd [d, c] Mo (L2.upd H x ho) = C.hd [d, c] Mo H := hd_updIn (by grind)
  have nd := b.nd
  refine ⟨nd, h, ?_, fun a u h1 h2 => ?_, b.nl, b.no, b.zt, b.l0⟩
  · rw [e]
    refine paired_impM b.ob fun o l hl q => q.mono (Same.refl _) (upd_ne fun z => ?_)
    exact (List.nodup_append.mp (List.nodup_append.mp nd).2.1).2.2 x hm l hl z.symm
  · have h3 := b.kp a u h1 h2
    rw [upd_ne (fun z => ?_)]
    · exact h3
    · subst z
      rcases b.nl _ hm with q | q
      · exact h2 q
      · rw [q] at h1; cases h1
theorem X2.setS {x : Addr} {ho : HO} (hx : x = d ∨ x = c) : X2 C [d, c] Mo H [d, c] Mo (L2.upd H x ho) := ⟨.inr rfl, List.prefix_rfl, by
  rw [show C.hd [d, c] Mo (L2.upd H x ho) = C.hd [d, c] Mo H from hd_updIn (by rcases hx with rfl | rfl <;> simp)]; exact Same.refl _⟩
end
def isSrc : AV → Bool
  | .src => true
  | _ => false
inductive SF where
  | left | mixed | turn
def SF.name : SF → Str
  | .left => "left"
  | .mixed => "mixed"
  | .turn => "turn"
def SF.get : SF → Src → Int
  | .left, S => S.left
  | .mixed, S => S.mixed
  | .turn, S => S.turn
def SF.put : SF → Src → Int → Src
  | .left, S, i => { S with left := i }
  | .mixed, S, i => { S with mixed := i }
  | .turn, S, i => { S with turn := i }

theorem srcKv_get (f : SF) (S : Src) (c : Addr) : valV (srcKv S c) (.inr f.name) = some (.int (f.get S)) := by cases f <;> rfl
theorem srcKv_cells (S : Src) (c : Addr) : valV (srcKv S c) (.inr "cells") = some (.ref c) := rfl
theorem srcKv_put (f : SF) (S : Src) (c : Addr) (i : Int) : putK (srcKv S c) (.inr f.name) (.int i) = srcKv (f.put S i) c := by cases f <;> rfl
theorem src_d {C : Ct} {m : Mm} {L Mo : List Addr} {H : Hp} {x : AV} {v : V} {S : Src} (b : B C m L Mo H) (r : AVR C L Mo H x v) (hx : isSrc x = true) (hs : m.s = some S) :
    ∃ d c, L = [d, c] ∧ v = .ref d ∧ H d = some (.dK (srcKv S c)) ∧ H c = some (.lst (S.cells.map V.int)) ∧ d ≠ c := by
  cases x <;> simp [isSrc] at hx
  obtain ⟨d, c, e1, h1, h2, ne⟩ := b.src hs
  obtain ⟨d', c', e2, rfl⟩ := r
  rw [e1] at e2; cases e2
  exact ⟨d, c, e1, rfl, h1, h2, ne⟩
/-- source['left'] -/
def aSrcF (f : SF) (te : ATE) : ATE := fun a Q => te a fun x m => if isSrc x = true then match m.s with
  | some S => Q (.d (.int (f.get S))) m
  | none => False else False
def aSrcC (te : ATE) : ATE := fun a Q => te a fun x m => if isSrc x = true then match m.s with
  | some _ => Q .cells m
  | none => False else False
section
variable {X : Cx} {e : Expr} {te : ATE} {pos p2 : Pos} {j : Nat}
theorem q_srcF (f : SF) (hu : X.A.units + 1 < cLine) (h : QE X e te) : QE X (.Subscript e (.Constant (.str f.name) j p2) pos) (aSrcF f te) := fun C hK => PE.imp (pe_dget hu (h C hK) (pe_str (x := f.name)) (fun _ _ => rfl)) fun σ H Q ⟨a, L, Mo, AQ, r, k, h⟩ => by
  refine ⟨a, L, Mo, _, r, fun x m1 v L1 Mo1 H1 h1 b1 v1 e1 => ?_, h⟩
  split at h1
  · rename_i hx
    split at h1
    · rename_i S hs
      obtain ⟨d, c, e2, rfl, h2, h3, ne⟩ := src_d b1 v1 hx hs
      exact ⟨d, .int (f.get S), rfl, .inl ⟨_, .inr f.name, .inl h2, rfl, (srcKv_get f S c).symm⟩, (k.aft e1).ret h1 b1 (.int _)⟩
    · exact h1.elim
  · exact h1.elim
theorem q_srcC (hu : X.A.units + 1 < cLine) (h : QE X e te) : QE X (.Subscript e (.Constant (.str "cells") j p2) pos) (aSrcC te) := fun C hK => PE.imp (pe_dget hu (h C hK) (pe_str (x := "cells")) (fun _ _ => rfl)) fun σ H Q ⟨a, L, Mo, AQ, r, k, h⟩ => by
  refine ⟨a, L, Mo, _, r, fun x m1 v L1 Mo1 H1 h1 b1 v1 e1 => ?_, h⟩
  split at h1
  · rename_i hx
    split at h1
    · rename_i S hs
      obtain ⟨d, c, e2, rfl, h2, h3, ne⟩ := src_d b1 v1 hx hs
      exact ⟨d, .ref c, rfl, .inl ⟨_, .inr "cells", .inl h2, rfl, (srcKv_cells S c).symm⟩, (k.aft e1).ret h1 b1 ⟨d, c, e2, rfl⟩⟩
    · exact h1.elim
  · exact h1.elim
/-- source['left'] = e -/
def aSrcPut (f : SF) (te tv : ATE) : ATS := fun E a => tv a fun y m1 => te ⟨a.g, m1⟩ fun x m2 => if isSrc x = true then match m2.s, y with
  | some S, .d (.int i) => E.nx ⟨a.g, ⟨some (f.put S i), m2.o⟩⟩
  | _, _ => False else False
theorem qs_srcPut {value : Expr} {tv : ATE} {pos' : Pos} (f : SF) (hu : X.A.units + 1 < cLine) (h : QE X e te) (hv : QE X value tv) (hs : swapsWith value (some (.Subscript e (.Constant (.str f.name) j p2) pos')) pos.line X.env = pure false := by rfl) :
    QS X (.Assign [.Subscript e (.Constant (.str f.name) j p2) pos'] value pos) (aSrcPut f te tv) := fun C hK => PS.imp (ps_dput hu (h C hK) (pe_str (x := f.name)) (hv C hK) hs) fun D σ H ⟨a, L, Mo, AD, r, b, h⟩ => by
  refine ⟨a, L, Mo, _, r, fun y m1 w L1 Mo1 H1 h1 b1 w1 e1 => ⟨⟨a.g, m1⟩, L1, Mo1, _, r.next b1 e1, fun x m2 v L2 Mo2 H2 h2 b2 v2 e2 => ?_, h1⟩, h⟩
  split at h2
  · rename_i hx
    split at h2
    · rename_i S i hs
      obtain ⟨d, c, e3, rfl, h3, h4, ne⟩ := src_d b2 v2 hx hs
      subst e3
      have hw := dq_int w1
      subst hw
      have hsr : SrcAt (upd H2 d (.dK (srcKv (f.put S i) c))) (some (f.put S i)) [d, c] := ⟨d, c, rfl, upd_same, by rw [upd_ne ne.symm]; cases f <;> exact h4⟩
      refine ⟨d, _, rfl, .inl ⟨_, .inr f.name, h3, rfl, (show 4 < sizeLine by decide), rfl⟩, ?_⟩
      rw [srcKv_put]
      exact b.nx _ _ _ _ _ h2 ((r.next b1 e1).next b2 e2 |>.next (b2.setS (.inl rfl) hsr) (X2.setS (.inl rfl)))
    · exact h2.elim
  · exact h2.elim
/-- source['cells'].pop() -/
def mPopC : AM := fun x avs m Q => match x, avs with
  | .cells, [] => match m.s with
    | some S => match S.cells.getLast? with
      | some i => Q (.d (.int i)) ⟨some { S with cells := S.cells.dropLast }, m.o⟩
      | none => False
    | none => False
  | _, _ => False
theorem mq_popC : MtQ X "list.pop" mPopC := by
  refine ⟨_, mt_pop, fun C L Mo H m x avs v vs Q AQ hK b r1 r2 k hh => ?_⟩
  unfold mPopC at hh
  split at hh
  · split at hh
    · rename_i S hs
      split at hh
      · rename_i i ei
        cases r2
        obtain ⟨d, c, e1, h1, h2, ne⟩ := b.src hs
        obtain ⟨d', c', e2, rfl⟩ := r1
        rw [e1] at e2; cases e2
        subst e1
        rw [List.getLast?_eq_getElem?] at ei
        have hsr : SrcAt (upd H c (.lst (S.cells.map V.int).dropLast)) (some { S with cells := S.cells.dropLast }) [d, c] := ⟨d, c, rfl, by rw [upd_ne ne]; exact h1, by rw [upd_same, List.map_dropLast]⟩
        refine ⟨c, _, .int i, rfl, rfl, h2, by rw [List.length_map, List.getElem?_map, ei]; rfl, k _ _ _ _ _ _ hh (b.setS (.inr rfl) hsr) (.int _) (X2.setS (.inr rfl))⟩
      · exact hh.elim
    · exact hh.elim
  · exact hh.elim
/-- a list backwards, a new local object -/
def aRevM (te : ATE) : ATE := fun a Q => te a fun x m => match lstA m x with
  | some ds => Q (.o m.o.length) ⟨m.s, m.o ++ [.l ds.reverse]⟩
  | none => False
theorem q_revM {k : Nat} {p1 p2 p3 pos : Pos} (h : QE X e te) : QE X (.Subscript e (.Slice none none (some (.UnaryOp .USub (.Constant (.int 1) k p1) p2)) p3) pos) (aRevM te) := fun C hK => PE.imp (pe_revL (h C hK)) fun σ H Q ⟨a, L, Mo, AQ, r, k, h⟩ => by
  refine ⟨a, L, Mo, _, r, fun x m1 v L1 Mo1 H1 h1 b1 v1 e1 => ?_, h⟩
  split at h1
  · rename_i ds e
    obtain ⟨l, xs, rfl, h2, h3⟩ := lstA_ok b1 v1 e
    exact ⟨l, xs, rfl, SqL.of h2, fun p hp => (k.aft e1).lstM b1 hp h3.rev h1⟩
  · exact h1.elim
def aRev (te : ATE) : ATE := fun a Q => te a fun x m => match lstA m x with
  | some ds => Q (.d (.list ds.reverse)) m
  | none => False
theorem q_rev {k : Nat} {p1 p2 p3 pos : Pos} (h : QE X e te) : QE X (.Subscript e (.Slice none none (some (.UnaryOp .USub (.Constant (.int 1) k p1) p2)) p3) pos) (aRev te) := fun C hK => PE.imp (pe_revL (h C hK)) fun σ H Q ⟨a, L, Mo, AQ, r, k, h⟩ => by
  refine ⟨a, L, Mo, _, r, fun x m1 v L1 Mo1 H1 h1 b1 v1 e1 => ?_, h⟩
  split at h1
  · rename_i ds e
    obtain ⟨l, xs, rfl, h2, h3⟩ := lstA_ok b1 v1 e
    exact ⟨l, xs, rfl, SqL.of h2, fun p hp => (k.aft e1).lst b1 hp h3.rev h1⟩
  · exact h1.elim
/-- {'cells': .., 'left': .., 'mixed': .., 'turn': ..} -/
def aSrcNew (tc tl tm tt : ATE) : ATE := fun a Q => a.m.s = none ∧ tc ⟨a.g, ⟨none, a.m.o ++ [.kd []]⟩⟩ fun x1 m1 => tl ⟨a.g, m1⟩ fun x2 m2 => tm ⟨a.g, m2⟩ fun x3 m3 => tt ⟨a.g, m3⟩ fun x4 m4 => match x1, x2, x3, x4 with
  | .o j, .d (.int l), .d (.int mi), .d (.int tu) => m4.s = none ∧ j = a.m.o.length + 1 ∧ ∃ ns : List Int, m4.o = a.m.o ++ [.kd [], .l (ns.map PyData.int)] ∧ Q .src ⟨some ⟨ns, l, mi, tu⟩, a.m.o⟩
  | _, _, _, _ => False
theorem q_srcNew {e1 e2 e3 e4 : Expr} {t1 t2 t3 t4 : ATE} {p1 p2 p3 p4 : Pos} {j1 j2 j3 j4 : Nat} (h1 : QE X e1 t1) (h2 : QE X e2 t2) (h3 : QE X e3 t3) (h4 : QE X e4 t4) :
    QE X (.Dict [some (.Constant (.str "cells") j1 p1), some (.Constant (.str "left") j2 p2), some (.Constant (.str "mixed") j3 p3), some (.Constant (.str "turn") j4 p4)] [e1, e2, e3, e4] pos) (aSrcNew t1 t2 t3 t4) := fun C hK =>
  PE.imp (pe_disp (pps_cons pe_str (h1 C hK) (pps_cons pe_str (h2 C hK) (pps_cons pe_str (h3 C hK) (pps_cons pe_str (h4 C hK) pps_nil)))) (by rfl) (by rfl) (fun z => by cases z) (show 4 ≤ 15 by decide)) fun σ H Q ⟨a, L, Mo, AQ, r, k, hs, h⟩ => by
    intro p hp
    have hL : L = [] := by
      have q := r.b.sr
      rw [hs] at q; exact q
    subst hL
    have bA : B C ⟨none, a.m.o ++ [.kd []]⟩ [] (Mo ++ [p]) (upd H p (.dK [])) := by
      have := r.b.allocO (o := .kd []) (ho := .dK []) hp fun h' e => ⟨[], upd_same, .nil⟩
      rw [hs] at this; exact this
    have xA : X2 C [] Mo H [] (Mo ++ [p]) (upd H p (.dK [])) := X2.allocO hp
    have rA : R C ⟨a.g, ⟨none, a.m.o ++ [.kd []]⟩⟩ [] (Mo ++ [p]) σ (upd H p (.dK [])) := r.next bA xA
    refine ⟨⟨a.g, ⟨none, a.m.o ++ [.kd []]⟩⟩, [], Mo ++ [p], _, rA, fun x1 m1 v1 L1 Mo1 H1 q1 b1 r1 y1 => ?_, h⟩
    refine ⟨⟨a.g, m1⟩, L1, Mo1, _, rA.next b1 y1, fun x2 m2 v2 L2 Mo2 H2 q2 b2 r2 y2 => ?_, q1⟩
    refine ⟨⟨a.g, m2⟩, L2, Mo2, _, (rA.next b1 y1).next b2 y2, fun x3 m3 v3 L3 Mo3 H3 q3 b3 r3 y3 => ?_, q2⟩
    refine ⟨⟨a.g, m3⟩, L3, Mo3, _, ((rA.next b1 y1).next b2 y2).next b3 y3, fun x4 m4 v4 L4 Mo4 H4 q4 b4 r4 y4 => ?_, q3⟩
    split at q4
    · rename_i l mi tu
      rename_i j
      obtain ⟨es4, rfl, ns, eo, q⟩ := q4
      have hL4 : L4 = [] := by
        have z := b4.sr
        rw [es4] at z; exact z
      subst hL4
      have y14 : X2 C [] (Mo ++ [p]) (upd H p (.dK [])) [] Mo4 H4 := y1.trans (y2.trans (y3.trans y4))
      have hlen : Mo4.length = Mo.length + 2 := by
        have z := Paired.length b4.ob
        rw [eo] at z
        have z2 := Paired.length r.b.ob
        simp at z
        omega
      obtain ⟨tl, htl⟩ := y14.po
      have htl1 : tl.length = 1 := by
        have z := congrArg List.length htl
        simp at z
        omega
      obtain ⟨c, rfl⟩ := List.length_eq_one_iff.mp htl1
      subst htl
      have z2 := Paired.length r.b.ob
      -- the list
      have r1' := ((r1.mono y2).mono y3).mono y4
      obtain ⟨c', hc, rfl⟩ := r1'
      have : c' = c := by
        rw [z2, List.getElem?_append_right (by simp)] at hc
        simp at hc; exact hc.symm
      subst this
      obtain ⟨_, hc2, xs, hx1, hx2⟩ := paired_at (i := a.m.o.length + 1) (a := MO.l (ns.map PyData.int)) b4.ob (by rw [eo]; simp)
      rw [hc] at hc2; cases hc2
      obtain rfl := hx2.ints
      obtain ⟨p', hp1, ys, hp2, hp3⟩ := paired_at (i := a.m.o.length) (a := MO.kd []) b4.ob (by rw [eo]; simp)
      have : p' = p := by
        rw [z2, List.append_assoc, List.getElem?_append_right (by simp)] at hp1
        simp at hp1; exact hp1.symm
      subst this
      cases hp3
      have hv2 := dq_int (r2.mono (y3.trans y4)); have hv3 := dq_int (r3.mono y4); have hv4 := dq_int r4
      subst hv2; subst hv3; subst hv4
      have nd4 := b4.nd
      have ne : p' ≠ c' := by
        intro z; subst z
        have nd5 : (C.Z ++ ([] ++ (Mo ++ [p'] ++ [p']))).Nodup := nd4
        simp [List.nodup_append] at nd5
      refine ⟨hp2, srcKv ⟨ns, l, mi, tu⟩ c', rfl, (show 4 ≤ 15 by decide), ?_⟩
      show Q (.ref p') (upd H4 p' (.dK (srcKv ⟨ns, l, mi, tu⟩ c')))
      have e5 : C.hd [] (Mo ++ [p'] ++ [c']) (upd H4 p' (.dK (srcKv ⟨ns, l, mi, tu⟩ c'))) = C.hd [] (Mo ++ [p'] ++ [c']) H4 := hd_updIn (by simp)
      have e6 : ∀ Hh, C.hd [p', c'] Mo Hh = C.hd [] (Mo ++ [p'] ++ [c']) Hh := fun Hh => hid_congr fun x => by simp only [List.mem_append, List.mem_cons, List.not_mem_nil]; grind
      have hob : Paired (MOk C.K (C.hd [] (Mo ++ [p'] ++ [c']) H4) H4) a.m.o Mo := by
        have z := paired_take a.m.o.length b4.ob
        rw [eo, List.take_left, z2] at z
        have z3 : (Mo ++ [p'] ++ [c']).take Mo.length = Mo := by rw [List.append_assoc, List.take_left]
        rw [z3] at z
        exact z
      have nM : ∀ x ∈ Mo, x ≠ p' := fun x hx z => by
        subst z
        have nd5 : (C.Z ++ ([] ++ (Mo ++ [x] ++ [c']))).Nodup := nd4
        simp [List.nodup_append] at nd5
        grind
      have bN : B C ⟨some ⟨ns, l, mi, tu⟩, a.m.o⟩ [p', c'] Mo (upd H4 p' (.dK (srcKv ⟨ns, l, mi, tu⟩ c'))) := by
        refine ⟨?_, ⟨p', c', rfl, upd_same, by rw [upd_ne ne.symm]; exact hx1⟩, ?_, fun x u g1 g2 => ?_, fun x hx => .inr (b4.no x (by simp at hx; grind)).1, fun x hx => b4.no x (by simp [hx]), b4.zt, ?_⟩
        · have nd5 : (C.Z ++ ([] ++ (Mo ++ [p'] ++ [c']))).Nodup := nd4
          show (C.Z ++ ([p', c'] ++ Mo)).Nodup
          simp only [List.nil_append, List.append_assoc] at nd5 ⊢
          rw [List.nodup_append] at nd5 ⊢
          refine ⟨nd5.1, ?_, fun x hx y hy => nd5.2.2 x hx y (by simp at hy ⊢; grind)⟩
          have n6 := nd5.2.1
          simp [List.nodup_append] at n6 ⊢
          grind
        · rw [e6, e5]
          exact paired_impM hob fun o x hx w => w.mono (Same.refl _) (upd_ne (nM x hx))
        · have g3 := b4.kp x u g1 g2
          rw [upd_ne (fun z => by subst z; rw [(b4.no x (by simp)).1] at g1; cases g1)]
          exact g3
        · rcases b4.l0 with z | z
          · exact .inl z
          · exact .inl z.symm
      refine k _ _ _ _ _ _ q bN ⟨p', c', rfl, rfl⟩ ⟨.inl rfl, List.prefix_rfl, fun x u g => ?_⟩
      have g2 := y14.sm _ _ (xA.sm _ _ g)
      rw [e6, e5]
      exact g2
    · exact q4.elim
end
end QL

namespace QL
open PySem PySem.Spec PyProof.Rows L2

/-- the law: of any script of at most 63 ints it hands back True -/
def lawFn : AFn := fun avs s Q => ∃ ns : List Int, avs = [.scr ns] ∧ s = none ∧ ns.length ≤ 63 ∧ ∀ s', Q (.d (.bool true)) s'
theorem law_runG {P : Program} {w : World} {K : PySem.W.Frag} {mg mb : Str → Option Value} {k : Nat} {fa a : Addr} {fd : FuncData} {x : Str} {s₁ : Shared} {vs : List Value} {ns : List Int}
    (KX : K.In s₁.heap) (hns : s₁.heap.Ns mainGlobals mg) (hb : s₁.heap.Ns builtinsNs mb) (hbb : ∀ x : Str, x ≠ "__name__" → mb x = bootBuiltins x) (hlim : s₁.heap.NoLimit) (hg : s₁.gens = #[])
    (ha : s₁.heap.get? a = some { cls := .type "list", data := .seq vs.toArray }) (hi : IntsAre vs ns) (hl : ns.length ≤ 63) (hr : Room k callerA)
    (F : ∀ base : Heap, K.In base → base.Ns mainGlobals mg → FnG P w K mg base CX0 k fa fd [x] (spOf K 1 lawFn)) (hbind : ∀ (s : Shared) (u : Value), BindsTo s fd ⟨[u], []⟩ [(x, u)]) :
    codeAny (model P w) callerA (.call (.ref fa) ⟨[.ref a], []⟩) (fun r s' => r = .ok (.ret (.bool true)) ∧ OldK s₁.heap s'.heap ∧ s'.os = s₁.os ∧ AllBare s'.gens) s₁ := by
  have hvals := vals_of_ints hi
  have hlen : vs.length = ns.length := hi.length
  have main : ∀ H : Hp, Only H → SqL K H a (ns.map V.int) → HOk P w H s₁.heap → (∀ b, H b ≠ none → b = a) → (H a ≠ none → K.lookup a = none) →
      codeAny (model P w) callerA (.call (.ref fa) ⟨[.ref a], []⟩) (fun r s' => r = .ok (.ret (.bool true)) ∧ OldK s₁.heap s'.heap ∧ s'.os = s₁.os ∧ AllBare s'.gens) s₁ := by
    intro H hO hS hok hA hK
    have baseK : ∀ {b : Addr} {o : Obj}, s₁.heap.get? b = some o → H b = none → (hidT s₁.heap H).get? b = some o := fun e n => hidT_get e n
    have notDict : ∀ {b : Addr} {o : Obj} {es : Array DictEntry} {ep : Nat}, s₁.heap.get? b = some o → o.data = .dict es ep → H b = none := by
      intro b o es ep e d
      cases q : H b with
      | none => rfl
      | some u =>
        have hba := hA b (by simp [q])
        subst hba
        rw [ha] at e
        cases e
        exact nomatch (show Data.seq vs.toArray _ = Data.dict es ep from d)
    have nsB : ∀ {b : Addr} {m : Str → Option Value}, s₁.heap.Ns b m → (hidT s₁.heap H).Ns b m := by
      intro b m ⟨o, es, ep, e, d, r⟩
      exact ⟨o, es, ep, baseK e (notDict e d), d, r⟩
    have kBase : K.In (hidT s₁.heap H) := by
      intro b o e
      apply baseK (KX b o e)
      cases q : H b with
      | none => rfl
      | some u =>
        have hba := hA b (by simp [q])
        subst hba
        rw [hK (by simp [q])] at e
        cases e
    obtain ⟨mc, lim1, lim2⟩ := hlim
    have hM : Mod K mg (hidT s₁.heap H) := ⟨kBase, nsB hns, ⟨mb, nsB hb, hbb⟩, ⟨mc, nsB lim1, lim2⟩⟩
    have env : Env0 P w K mg (hidT s₁.heap H) callerA [] s₁ H :=
      { frames := rfl, mod := hM, bs := fun b o e => of_hidT e, bsz := Nat.le_of_eq (hidT_size _ _), funs := trivial, frf := fun b hb => absurd (show b ∈ ([] : List Addr) from hb) (by simp), hok := hok, bare := .of_eq hg }
    have want : spOf K 1 lawFn [.ref a] H (fun v _ => v = .bl true) (fun _ _ _ => False) := by
      refine ⟨rfl, [], [], none, [.scr ns], fun av _ => av = .d (.bool true), ⟨List.nodup_nil, rfl, fun z hz => by cases hz⟩, .cons ⟨a, rfl, ?_⟩ .nil, ?_, ns, rfl, rfl, hl, fun _ => rfl⟩
      · have e : hid ([] ++ ([] ++ [])) H = H := by funext b; simp [hid]
        show SqL K (hid ([] ++ ([] ++ [])) H) a _
        rw [e]; exact hS
      · rintro av s' v L' H' rfl b r
        exact dq_bl r
    apply codeAny_mono ((F _ kBase (nsB hns)).run callerA [] s₁ H ⟨[.ref a], []⟩ [.ref a] [.ref a] _ _ hr rfl env (hbind s₁ (.ref a)) (.cons rfl .nil) want)
    intro r s' h
    cases r with
    | error e => exact False.elim h
    | ok fl =>
      cases fl with
      | next => exact h.elim
      | brk => exact h.elim
      | cont => exact h.elim
      | ret u =>
        obtain ⟨v, H', os, bare, un, hok', rel, q⟩ := h
        have q' : v = .bl true := q
        subst q'
        have hu : u = Value.bool true := rel
        subst hu
        refine ⟨rfl, OldK.of_keep ?_, os, bare⟩
        intro b o e
        cases q : H b with
        | none => exact un.keep b o e q (fun z => absurd (show b ∈ ([] : List Addr) from z) (by simp)) (by simp)
        | some u =>
          cases hO b with
          | inl z => rw [q] at z; cases z
          | inr z =>
            obtain ⟨ob, xs, z⟩ := z
            have z2 := un.frzs b ob _ z
            have e1 := (hok b _ z).1
            have e2 := (hok' b _ z2).1
            rw [e] at e1
            cases e1
            exact e2
  have hsz : ns.length ≤ sizeLine := Nat.le_trans hl (by decide)
  cases hk : K.lookup a with
  | some o =>
    have e := KX a o hk
    rw [ha] at e
    cases e
    exact main (fun _ => none) (fun _ => .inl rfl) (.inr ⟨_, vs.toArray, _, hk, rfl, rfl, rfl, by rw [List.size_toArray, hlen]; exact hsz, by simpa using hvals⟩)
      (fun b u z => nomatch (show (none : Option HO) = some u from z)) (fun b z => absurd rfl z) (fun z => absurd rfl z)
  | none =>
    have hat : (fun b => if b = a then some (HO.frz { cls := .type "list", data := .seq vs.toArray } (.lst (ns.map V.int))) else none : Hp) a = some (HO.frz { cls := .type "list", data := .seq vs.toArray } (.lst (ns.map V.int))) := if_pos rfl
    apply main (fun b => if b = a then some (.frz { cls := .type "list", data := .seq vs.toArray } (.lst (ns.map V.int))) else none)
    · intro b
      by_cases hb : b = a
      · exact .inr ⟨_, _, if_pos hb⟩
      · exact .inl (if_neg hb)
    · exact .inl (.inr ⟨_, hat⟩)
    · intro b u z
      by_cases hb : b = a
      · have z' := (if_pos hb).symm.trans z
        cases z'
        subst hb
        exact ⟨ha, by simpa using hsz, vs, _, hvals, ha⟩
      · exact nomatch ((if_neg hb).symm.trans z)
    · intro b z
      by_cases hb : b = a
      · exact hb
      · exact absurd (if_neg hb) z
    · intro _
      exact hk
theorem walkG {l : PySem.W.OpenLaw} {k : Nat} {q : Program} {loose : List Str} {XP : (Str → Option Value) → Heap → Prop} {YP : World → Heap → Prop} {d : DefRec} {K : Params → PySem.W.Frag} {x : Str}
    (hn : l.most = some 63) (hdf : d.params.defaults = []) (hr : Room k callerA)
    (hY : ∀ (w : World) (h : Heap), YP w h → (K w.params).In h)
    (F : ∀ (w : World) (mg : Str → Option Value) (fa : Addr) (h : Heap), (K w.params).In h → h.Ns mainGlobals mg → mg d.name = some (.ref fa) →
      ∃ fd : FuncData, (∀ (s : Shared) (u : Value), BindsTo s fd ⟨[u], []⟩ [(x, u)]) ∧
        ∀ base : Heap, (K w.params).In base → base.Ns mainGlobals mg → FnG l.prog w (K w.params) mg base CX0 k fa fd [x] (spOf (K w.params) 1 lawFn)) :
    PySem.W.WalkO q loose XP YP l.row.toRowW d [] (fun f vs => PySem.call f vs) := by
  apply Att.attach_call hn hdf
  intro w s₀ s₁ mg mb fa o pm cd doc a vs ns G Y ho hd hcd hmg hobj hints hlen hg
  have kIn := hY w _ Y
  obtain ⟨fd, hb, hF⟩ := F w mg fa _ kIn G.T.g hmg
  exact law_runG kIn G.T.g G.T.b G.T.builtins G.T.nolimit hg hobj hints hlen hr hF hb
end QL

namespace QL
open PySem PySem.Spec PyProof.Rows L2

/-! ### short words for printed terms -/
abbrev allv : List Nat := List.range 40
theorem qv {X : Cx} (i : Nat) {x : Str} {pos : Pos} (hN : X.N[i]? = some x := by rfl) (hv : Vis X.env.scope x := by first | exact Or.inl rfl | exact Or.inr (Or.inl rfl) | exact Or.inr (Or.inr rfl)) (hd : (x == ("__debug__" : Str)) = false := by decide)
    (hcd : (x == ("__classdict__" : Str)) = false := by decide) : QE X (.Name x pos) (aVar i) := q_var hN hv hd hcd
/-- a module's constant -/
def ConstAt (K : PySem.W.Frag) (mg : Str → Option Value) (x : Str) (d : D) : Prop := ∃ (v : V) (u : Value), mg x = some u ∧ RelV v u ∧ ∀ H, Dq K H v d
theorem q_const {X : Cx} {x : Str} {d : D} {pos : Pos} (h : ConstAt X.K X.mg x d) (hg : Gl X x := by rfl) (hdb : (x == ("__debug__" : Str)) = false := by decide) : QE X (.Name x pos) (aC d) := by
  obtain ⟨v, u, h1, h2, h3⟩ := h
  exact q_glob hg h1 h2 h3 hdb
/-- a def of the text -/
def DefAt (K : PySem.W.Frag) (mg : Str → Option Value) (x : Str) (st : Stmt) (ps : List Str) : Prop := ∃ (f : Addr) (fd : FuncData), mg x = some (.ref f) ∧ Fun K x x st f fd ∧ Binds K fd ps []
/-- a def that keeps its promise -/
def Callee (P : Program) (w : World) (K : PySem.W.Frag) (mg : Str → Option Value) (base : Heap) (x : Str) (k n : Nat) (fn : AFn) : Prop :=
  ∃ (f : Addr) (fd : FuncData) (ps : List Str), mg x = some (.ref f) ∧ PySem.W.keepIn K (.ref f) = true ∧ Binds K fd ps [] ∧ FnG P w K mg base CX0 k f fd ps (spOf K n fn)
section
variable {P : Program} {w : World} {K : PySem.W.Frag} {mg : Str → Option Value} {base : Heap}
theorem DefAt.callee {x : Str} {st : Stmt} {ps N : List Str} {k n : Nat} {fn : AFn} {t : ATS} (Df : DefAt K mg x st ps) (S : FnScope N ps (defScope st)) (hn : ps.length = n)
    (hbody : ∀ (f : Addr) (cdv : Value) (A : Around) (outer : List Env) (s : Shared) (H : Hp) (E : XK), Room k (A.deeper (envOfC x (defScope st) s.heap.objs.size f cdv)) → (A.deeper (envOfC x (defScope st) s.heap.objs.size f cdv)).guards = some [] →
      QSs (cxOf CX0 P w K mg base N x (defScope st) f cdv A outer s H E).nox (defBody st) t)
    (hf : ∀ avs s AQ, fn avs s AQ → t (endsA AQ) ⟨startA N avs, ⟨s, []⟩⟩) : Callee P w K mg base x (k + 1) n fn := by
  obtain ⟨f, fd, h1, h2, h3⟩ := Df
  exact ⟨f, fd, ps, h1, h2.kp, h3, fn_okA h2 S hn (hbody f) hf⟩
theorem Callee.imp {x : Str} {k n : Nat} {fn fn' : AFn} (c : Callee P w K mg base x k n fn) (h : ∀ avs s Q, fn' avs s Q → fn avs s Q) : Callee P w K mg base x k n fn' := by
  obtain ⟨f, fd, ps, h1, h2, h3, F⟩ := c
  exact ⟨f, fd, ps, h1, h2, h3, ⟨fun vs H Q E ⟨e, Z, L, s, avs, AQ, q1, q2, q3, q4⟩ => F.len vs H Q E ⟨e, Z, L, s, avs, AQ, q1, q2, q3, h _ _ _ q4⟩,
    fun A outer s H args us vs Q E hr hg e0 hb hv ⟨e, Z, L, s', avs, AQ, q1, q2, q3, q4⟩ => F.run A outer s H args us vs Q E hr hg e0 hb hv ⟨e, Z, L, s', avs, AQ, q1, q2, q3, h _ _ _ q4⟩⟩⟩
end
section
variable {X : Cx} {k n : Nat} {fn : AFn} {x : Str} {p pos : Pos} {e : Expr} {es : List Expr} {t : ATA}
theorem q_call (c : Callee X.prog X.w X.K X.mg X.base x k n fn) (hr : Room k X.A) (hgd : X.A.guards = some []) (ha : QA X (e :: es) t) (hg : Gl X x := by rfl) (hdb : (x == ("__debug__" : Str)) = false := by decide)
    (he : starEach (e :: es) X.env = (false, eval e X.env) :: starEach es X.env := by rfl) (hpl : (backTo pos (starEach es X.env)).any (·.1) = false := by rfl) : QE X (.Call (.Name x p) (e :: es) [] pos) (aFn n fn t) := by
  obtain ⟨f, fd, ps, h1, h2, h3, F⟩ := c
  exact q_fn F hr hgd hg h1 h2 h3 pass0 ha hdb he hpl
theorem q_call0 (c : Callee X.prog X.w X.K X.mg X.base x k 0 fn) (hr : Room k X.A) (hgd : X.A.guards = some []) (hg : Gl X x := by rfl) (hdb : (x == ("__debug__" : Str)) = false := by decide) : QE X (.Call (.Name x p) [] [] pos) (aFn 0 fn aNil) := by
  obtain ⟨f, fd, ps, h1, h2, h3, F⟩ := c
  exact q_fn0 F hr hgd hg h1 h2 h3 pass0 hdb
/-- the script, walked -/
def aItS (te : ATE) : AIt := fun a Q => te a fun x m => match x with
  | .scr ns => Q (ns.map PyData.int) m
  | _ => False
theorem items_scr {C : Ct} {L Mo : List Addr} {H : Hp} {a : Addr} {ns : List Int} (h : SqL C.K (C.hd L Mo H) a (ns.map V.int)) : ItemsOk C (Itl C.K a) L Mo H (ns.map PyData.int) := fun C2 L1 Mo1 H1 m1 hK b sm => by
  have q : SqL C.K H1 a (ns.map V.int) := hid_same.seq (sm.seq h)
  refine ⟨fun i d e => ?_, _, q, by simp⟩
  obtain ⟨v, h1, h2⟩ := (DqAll.ofInts (K := C.K) (H := H) ns).at e
  refine ⟨⟨_, v, q, h1⟩, fun x H2 ⟨e1, e2⟩ => ?_⟩
  subst e1
  have := e2 _ q
  rw [h1] at this; cases this
  rw [List.getElem?_map] at e
  cases e3 : ns[i]? with
  | none => rw [e3] at e; cases e
  | some z =>
    rw [e3] at e
    cases e
    cases h2
    exact ⟨b, X2.refl, .int _⟩
theorem qi_scr {tg e : Expr} {te : ATE} (h : QE X e te) : QI X tg e (aItS te) := fun C hK => PI.imp (pi_list (h C hK)) fun σ H R' ⟨a, L, Mo, AQ, r, k, h⟩ => by
  refine ⟨a, L, Mo, _, r, fun x m1 v L1 Mo1 H1 h1 b1 v1 e1 => ?_, h⟩
  split at h1
  · obtain ⟨l, rfl, q⟩ := v1
    exact ⟨_, rfl, ⟨_, hK ▸ hid_same.seq q⟩, k _ _ _ _ _ _ h1 b1 e1 (hK ▸ items_scr q)⟩
  · exact h1.elim
end
theorem bt_len : bootBuiltins "len" = some (.builtin "len") := by decide +kernel
theorem bt_abs : bootBuiltins "abs" = some (.builtin "abs") := by decide +kernel
theorem bt_int : bootBuiltins "int" = some (.type "int") := by decide +kernel
theorem bt_tuple : bootBuiltins "tuple" = some (.type "tuple") := by decide +kernel
theorem bt_list : bootBuiltins "list" = some (.type "list") := by decide +kernel
theorem bt_dict : bootBuiltins "dict" = some (.type "dict") := by decide +kernel
theorem bt_str : bootBuiltins "str" = some (.type "str") := by decide +kernel
theorem bt_max : bootBuiltins "max" = some (.builtin "max") := by decide +kernel
theorem bt_min : bootBuiltins "min" = some (.builtin "min") := by decide +kernel
theorem bt_sum : bootBuiltins "sum" = some (.builtin "sum") := by decide +kernel
theorem bt_repr : bootBuiltins "repr" = some (.builtin "repr") := by decide +kernel
theorem bt_sorted : bootBuiltins "sorted" = some (.builtin "sorted") := by decide +kernel
theorem bt_all : bootBuiltins "all" = some (.builtin "all") := by decide +kernel
theorem bt_any : bootBuiltins "any" = some (.builtin "any") := by decide +kernel
theorem bt_isinstance : bootBuiltins "isinstance" = some (.builtin "isinstance") := by decide +kernel
end QL

namespace QL
open PySem PySem.Spec PyProof.Rows L2

/-! ### slices -/
abbrev ATO := AS → (Option Int → Mm → Prop) → Prop
def lftO (C : Ct) (t : ATO) : TO := fun σ H Q => ∃ a L Mo AQ, R C a L Mo σ H ∧ (∀ i m' L' Mo' H', AQ i m' → B C m' L' Mo' H' → X2 C L Mo H L' Mo' H' → Q i H') ∧ t a AQ
theorem PO.imp {X : Cx} {e : Option Expr} {t t' : TO} (h : PO X e t) (i : ∀ σ H Q, t' σ H Q → t σ H Q) : PO X e t' := ⟨fun pins s σ H Q I q => h.run pins s σ H Q I (i σ H Q q)⟩
def QO (X : Cx) (e : Option Expr) (t : ATO) : Prop := ∀ C : Ct, C.K = X.K → PO X e (lftO C t)
def aNoPart : ATO := fun a Q => Q none a.m
def aPart (t : ATE) : ATO := fun a Q => t a fun x m => match x with
  | .d (.int i) => Q (some i) m
  | _ => False
def cutD (ds : List D) (lo hi : Option Int) : List D := (ds.drop (HT.sIx ds.length 0 lo)).take (HT.sIx ds.length ds.length hi - HT.sIx ds.length 0 lo)
def aSlice (te : ATE) (tl th : ATO) : ATE := fun a Q => te a fun x m1 => tl ⟨a.g, m1⟩ fun lo m2 => th ⟨a.g, m2⟩ fun hi m3 => match tupA x with
  | some ds => Q (.d (.tuple (cutD ds lo hi))) m3
  | none => match lstA m3 x with
    | some ds => Q (.d (.list (cutD ds lo hi))) m3
    | none => False
section
variable {X : Cx} {e : Expr} {te : ATE} {lo hi : Option Expr} {tl th : ATO} {pos p2 : Pos}
theorem qo_none : QO X none aNoPart := fun C hK => PO.imp po_none fun σ H Q ⟨a, L, Mo, AQ, r, k, h⟩ => k _ _ _ _ _ h r.b X2.refl
theorem qo_some {e : Expr} (h : QE X e te) : QO X (some e) (aPart te) := fun C hK => PO.imp (po_some (h C hK)) fun σ H Q ⟨a, L, Mo, AQ, r, k, h⟩ => by
  refine ⟨a, L, Mo, _, r, fun x m1 v L1 Mo1 H1 h1 b1 v1 e1 => ?_, h⟩
  split at h1
  · exact ⟨_, dq_int v1, k _ _ _ _ _ h1 b1 e1⟩
  · exact h1.elim
theorem tupA_eq {x : AV} {ds : List D} (h : tupA x = some ds) : x = .d (.tuple ds) := by
  cases x with
  | d y => cases y <;> simp [tupA] at h; subst h; rfl
  | o j => simp [tupA] at h
  | src => simp [tupA] at h
  | cells => simp [tupA] at h
  | scr ns => simp [tupA] at h
  | kt ns => simp [tupA] at h
  | dt ns => simp [tupA] at h
  | ty ns => simp [tupA] at h
  | ad ns => simp [tupA] at h
theorem cut_ok {K : PySem.W.Frag} {H : Hp} {xs : List V} {ds : List D} {lo hi : Option Int} (h : DqAll K H xs ds) : DqAll K H (cutV xs lo hi) (cutD ds lo hi) := by
  unfold cutV cutD
  rw [h.len]
  exact (h.drop _).take _
theorem q_slice (h : QE X e te) (hl : QO X lo tl) (hu : QO X hi th) : QE X (.Subscript e (.Slice lo hi none p2) pos) (aSlice te tl th) := fun C hK =>
  PE.imp (pe_slice (SlR.or sl_tupA sl_list) (h C hK) (hl C hK) (hu C hK)) fun σ H Q ⟨a, L, Mo, AQ, r, k, h⟩ => by
  refine ⟨a, L, Mo, _, r, fun x m1 v L1 Mo1 H1 h1 b1 v1 e1 => ⟨⟨a.g, m1⟩, L1, Mo1, _, r.next b1 e1, fun l m2 L2 Mo2 H2 h2 b2 e2 => ⟨⟨a.g, m2⟩, L2, Mo2, _, (r.next b1 e1).next b2 e2, fun u m3 L3 Mo3 H3 h3 b3 e3 => ?_, h2⟩, h1⟩, h⟩
  have v3 := (v1.mono e2).mono e3
  have kk := k.aft (e1.trans (e2.trans e3))
  split at h3
  · rename_i ds e
    obtain ⟨l', xs, rfl, q1, q2⟩ := tupA_ok v3 e
    refine .inl ⟨l', xs, rfl, hK ▸ q1, fun hw => ?_, fun _ p hp => kk.tup b3 hp (cut_ok q2) h3⟩
    have : cutD ds l u = ds := by
      unfold cutD
      rw [← q2.len, hw.1, hw.2]
      simp [q2.len]
    rw [this] at h3
    rw [tupA_eq e] at v3
    exact kk.ret h3 b3 v3
  · split at h3
    · rename_i ds e
      obtain ⟨l', xs, rfl, q1, q2⟩ := lstA_ok b3 v3 e
      exact .inr ⟨l', xs, rfl, SqL.of q1, fun p hp => kk.lst b3 hp (cut_ok q2) h3⟩
    · exact h3.elim
end

/-! ### dicts by ints and texts, as local objects -/
def putD {κ : Type} [DecidableEq κ] (kvs : List (κ × D)) (k : κ) (v : D) : List (κ × D) :=
  if (kvs.any fun kv => decide (kv.1 = k)) = true then kvs.map (fun kv => if kv.1 = k then (kv.1, v) else kv) else kvs ++ [(k, v)]
def valD {κ : Type} [DecidableEq κ] (kvs : List (κ × D)) (k : κ) : Option D := (kvs.find? fun kv => decide (kv.1 = k)).map (·.2)
section
variable {κ : Type} [DecidableEq κ] {K : PySem.W.Frag} {h : Hp}
theorem KQ.any {ys : List (κ × V)} {kvs : List (κ × D)} (q : KQ K h ys kvs) (k : κ) : (ys.any fun kv => decide (kv.1 = k)) = (kvs.any fun kv => decide (kv.1 = k)) := by
  induction q with
  | nil => rfl
  | cons a b ih => rw [List.any_cons, List.any_cons, ih, a.1]
theorem KQ.mapPut {k : κ} {v : V} {d : D} (r : Dq K h v d) {l : List (κ × V)} {l' : List (κ × D)} (q : KQ K h l l') : KQ K h (l.map fun kv => if kv.1 = k then (kv.1, v) else kv) (l'.map fun kv => if kv.1 = k then (kv.1, d) else kv) := by
  induction q with
  | nil => exact .nil
  | cons a b ih =>
    rename_i p p' l l'
    obtain ⟨e, f⟩ := a
    rw [List.map_cons, List.map_cons]
    refine .cons ?_ ih
    by_cases hk : p.1 = k
    · simp only [if_pos hk, if_pos (e ▸ hk : p'.1 = k)]; exact ⟨e, r⟩
    · simp only [if_neg hk, if_neg (fun z => hk (e.trans z) : ¬ p'.1 = k)]; exact ⟨e, f⟩
theorem KQ.put {ys : List (κ × V)} {kvs : List (κ × D)} {k : κ} {v : V} {d : D} (q : KQ K h ys kvs) (r : Dq K h v d) : KQ K h (putK ys k v) (putD kvs k d) := by
  unfold putK putD
  rw [q.any k]
  split
  · exact q.mapPut r
  · exact paired_app q (.cons ⟨rfl, r⟩ .nil)
theorem KQ.val {ys : List (κ × V)} {kvs : List (κ × D)} (q : KQ K h ys kvs) (k : κ) : (valV ys k = none ∧ valD kvs k = none) ∨ ∃ v d, valV ys k = some v ∧ valD kvs k = some d ∧ Dq K h v d := by
  induction q with
  | nil => exact .inl ⟨rfl, rfl⟩
  | cons a b ih =>
    rename_i p p' l l'
    obtain ⟨e, f⟩ := a
    by_cases hk : p.1 = k
    · have hk' : p'.1 = k := e ▸ hk
      exact .inr ⟨p.2, p'.2, by simp [valV, List.find?_cons, hk], by simp [valD, List.find?_cons, hk'], f⟩
    · have hk' : ¬ p'.1 = k := fun z => hk (e.trans z)
      have e1 : valV (p :: l) k = valV l k := by simp [valV, List.find?_cons, hk]
      have e2 : valD (p' :: l') k = valD l' k := by simp [valD, List.find?_cons, hk']
      rw [e1, e2]; exact ih
theorem KQ.keys {ys : List (κ × V)} {kvs : List (κ × D)} (q : KQ K h ys kvs) : ys.map (·.1) = kvs.map (·.1) := by
  induction q with
  | nil => rfl
  | cons a b ih => simp [ih, a.1]
theorem KQ.length {ys : List (κ × V)} {kvs : List (κ × D)} (q : KQ K h ys kvs) : ys.length = kvs.length := Paired.length q
end
def mergeD (kvs more : List (Key × D)) : List (Key × D) := more.foldl (fun acc kv => putD acc kv.1 kv.2) kvs
theorem KQ.merge {K : PySem.W.Frag} {h : Hp} : ∀ {more : List (Key × V)} {md : List (Key × D)} {ys : List (Key × V)} {kvs : List (Key × D)}, KQ K h more md → KQ K h ys kvs → KQ K h (mergeK ys more) (mergeD kvs md)
  | _, _, _, _, .nil, q => q
  | _, _, _, _, .cons a t, q => by
    rename_i p p' l l'
    have := KQ.merge t (q.put (k := p.1) a.2)
    show KQ K h (mergeK (putK _ p.1 p.2) l) (mergeD (putD _ p'.1 p'.2) l')
    rw [← a.1]; exact this
def keyD : D → Option Key
  | .int i => some (.inl i)
  | .str x => some (.inr x)
  | _ => none
def pairsD : List D → Option (List (Key × D))
  | [] => some []
  | .tuple [k, v] :: r => match keyD k, pairsD r with
    | some k, some l => some ((k, v) :: l)
    | _, _ => none
  | _ => none
theorem keyD_ok {K : PySem.W.Frag} {h : Hp} {v : V} {d : D} {k : Key} (r : Dq K h v d) (e : keyD d = some k) : v = kV k := by
  cases d <;> simp [keyD] at e
  · subst e; exact dq_int r
  · subst e; exact dq_str r
theorem pairsD_ok {K : PySem.W.Frag} {h : Hp} : ∀ {ds : List D} {xs : List V} {kvs : List (Key × D)}, DqAll K h xs ds → pairsD ds = some kvs → ∃ (ps : List Addr) (ys : List (Key × V)), xs = ps.map V.ref ∧ Paired (fun p kv => SqT K h p [kV kv.1, kv.2]) ps ys ∧ KQ K h ys kvs
  | [], _, _, r, e => by cases e; cases r; exact ⟨[], [], rfl, .nil, .nil⟩
  | d :: ds, _, _, r, e => by
    cases r with
    | cons r1 r2 =>
      unfold pairsD at e
      split at e
      · rename_i h1; cases h1
      · rename_i k v rr h1
        cases h1
        split at e
        · rename_i k' l e1 e2
          cases e
          obtain ⟨ps, ys, rfl, h2, h3⟩ := pairsD_ok r2 e2
          cases r1 with
          | tup q1 q2 =>
            cases q2 with
            | cons q3 q4 =>
              cases q4 with
              | cons q5 q6 =>
                cases q6
                have hk := keyD_ok q3 e1
                subst hk
                exact ⟨_ :: ps, (k', _) :: ys, rfl, .cons q1 h2, .cons ⟨rfl, q5⟩ h3⟩
        · cases e
      · cases e
section
variable {X : Cx}
/-- dict(pairs) -/
def bDict : AC1 := fun avs m Q => match avs with
  | [x] => match lstA m x with
    | some ds => match pairsD ds with
      | some kvs => Q (.o m.o.length) ⟨m.s, m.o ++ [.kd (mergeD [] kvs)]⟩
      | none => False
    | none => False
  | _ => False
theorem cq_dict (hc : X.calm = true) : CallQ X (.type "dict") bDict := by
  refine ⟨_, call_dictP hc, fun C L Mo H m avs vs Q AQ hK b r k hh => ?_⟩
  unfold bDict at hh
  split at hh
  · split at hh
    · rename_i ds e
      split at hh
      · rename_i kvs e2
        obtain ⟨v, rfl, rv⟩ := av1 r
        obtain ⟨l, xs, rfl, h1, h2⟩ := lstA_ok b rv e
        obtain ⟨ps, ys, rfl, h3, h4⟩ := pairsD_ok h2 e2
        refine ⟨l, ps, ys, rfl, SqL.of h1, hK ▸ Paired.mapP h3 fun a c q => same_tup hid_same q, fun p hp => ?_⟩
        exact k _ _ _ _ _ _ hh (b.allocO (o := .kd (mergeD [] kvs)) hp fun h' e => ⟨_, upd_same, (KQ.merge h4 .nil).mono e⟩) ⟨p, by rw [Paired.length b.ob]; simp, rfl⟩ (X2.allocO hp)
      · exact hh.elim
    · exact hh.elim
  · exact hh.elim
/-- sorted(d), the keys ints -/
def intKeys : List (Key × D) → Option (List Int)
  | [] => some []
  | (.inl i, _) :: r => match intKeys r with
    | some l => some (i :: l)
    | none => none
  | _ => none
theorem intKeys_ok : ∀ {kvs : List (Key × D)} {ks : List Int}, intKeys kvs = some ks → kvs.map (·.1) = ks.map Sum.inl
  | [], _, e => by cases e; rfl
  | (.inl i, _) :: r, _, e => by
    simp only [intKeys] at e
    split at e
    · rename_i l e2; cases e; simp [intKeys_ok e2]
    · cases e
  | (.inr x, _) :: r, _, e => by simp [intKeys] at e
def bSortD : AC1 := fun avs m Q => match avs with
  | [.o j] => match m.o[j]? with
    | some (.kd kvs) => match intKeys kvs with
      | some ks => ks.length < 64 ∧ ∀ ns : List Int, ns.Perm ks → ns.Pairwise (· ≤ ·) → Q (.d (.list (ns.map PyData.int))) m
      | none => False
    | _ => False
  | _ => False
theorem cq_sortD (hc : X.calm = true) : CallQ X (.builtin "sorted") bSortD := by
  refine ⟨_, call_sortedDI hc, fun C L Mo H m avs vs Q AQ hK b r k hh => ?_⟩
  unfold bSortD at hh
  split at hh
  · split at hh
    · rename_i kvs e
      split at hh
      · rename_i ks e2
        obtain ⟨v, rfl, rv⟩ := av1 r
        obtain ⟨l, rfl, hl, ys, h3, h4⟩ := o_at b rv e
        exact ⟨l, ys, ks, rfl, .inl h3, h4.keys.trans (intKeys_ok e2), hh.1, fun ns p h5 h6 hp => k.lst b hp (DqAll.ofInts ns) (hh.2 ns h5 h6)⟩
      · exact hh.elim
    · exact hh.elim
  · exact hh.elim
end

/-! ### for the pure side -/
theorem endsA_nx (AQ : AV → Option Src → Prop) (a : AS) : (endsA AQ).nx a = AQ (.d .none) a.m.s := rfl
theorem endsA_rt_d (AQ : AV → Option Src → Prop) (x : D) (m : Mm) : (endsA AQ).rt (.d x) m = AQ (.d x) m.s := rfl
theorem endsA_rt_src (AQ : AV → Option Src → Prop) (m : Mm) : (endsA AQ).rt .src m = AQ .src m.s := rfl
theorem endsA_rt_o (AQ : AV → Option Src → Prop) (j : Nat) (s : Option Src) (o : List MO) (ds : List D) (h : o[j]? = some (.l ds)) : (endsA AQ).rt (.o j) ⟨s, o⟩ = AQ (.d (.list ds)) s := by
  simp [endsA, fzV, h]
theorem endsA_rt_kd (AQ : AV → Option Src → Prop) (j : Nat) (s : Option Src) (o : List MO) (ds : List (Key × D)) (h : o[j]? = some (.kd ds)) : (endsA AQ).rt (.o j) ⟨s, o⟩ = AQ (.d (.dict (kvD ds))) s := by
  simp [endsA, fzV, h]
theorem endsA_rt_td (AQ : AV → Option Src → Prop) (j : Nat) (s : Option Src) (o : List MO) (ds : List (List Key × D)) (h : o[j]? = some (.td ds)) : (endsA AQ).rt (.o j) ⟨s, o⟩ = AQ (.dt ds) s := by
  simp [endsA, fzV, h]
/-- one turn of a comprehension -/
def stepC (g : ATG) (tt : ATT) (te : ATE) (g0 : List (Option AV)) (d : D) (m : Mm) (K : Option D → Mm → Prop) : Prop := g (.d d) m g0 fun g' => tt ⟨g', m⟩ fun b m1 => if b = true then te ⟨g', m1⟩ fun y m2 => (match y with
  | .d e => K (some e) m2
  | _ => False) else K none m1
theorem aLcL_step {g : ATG} {tt : ATT} {te : ATE} {g0 : List (Option AV)} {d : D} {r acc : List D} {m : Mm} {Q : List D → Mm → Prop}
    (h : stepC g tt te g0 d m fun o m2 => match o with | some e => aLcL g tt te g0 r (acc ++ [e]) m2 Q | none => aLcL g tt te g0 r acc m2 Q) : aLcL g tt te g0 (d :: r) acc m Q := h
theorem aLcL_pure0 {g : ATG} {tt : ATT} {te : ATE} {g0 : List (Option AV)} {m : Mm} {Q : List D → Mm → Prop} (f : D → Option D) : ∀ (ds acc : List D), (∀ d ∈ ds, ∀ K, K (f d) m → stepC g tt te g0 d m K) → Q (acc ++ ds.filterMap f) m → aLcL g tt te g0 ds acc m Q
  | [], acc, _, h => by simpa [aLcL] using h
  | d :: r, acc, hs, h => by
    refine aLcL_step (hs d List.mem_cons_self _ ?_)
    cases e : f d with
    | none => exact aLcL_pure0 f r acc (fun d' hd => hs d' (List.mem_cons_of_mem _ hd)) (by simpa [List.filterMap_cons, e] using h)
    | some y => exact aLcL_pure0 f r (acc ++ [y]) (fun d' hd => hs d' (List.mem_cons_of_mem _ hd)) (by simpa [List.filterMap_cons, e] using h)
/-- a comprehension that reckons -/
theorem aLcL_pure {g : ATG} {tt : ATT} {te : ATE} {g0 : List (Option AV)} {m : Mm} {Q : List D → Mm → Prop} {ds : List D} (f : D → Option D) (hs : ∀ d ∈ ds, ∀ K, K (f d) m → stepC g tt te g0 d m K) (h : Q (ds.filterMap f) m) : aLcL g tt te g0 ds [] m Q :=
  aLcL_pure0 f ds [] hs h
/-- a comprehension with an invariant -/
theorem aLcL_inv0 {g : ATG} {tt : ATT} {te : ATE} {g0 : List (Option AV)} {Q : List D → Mm → Prop} (I : Nat → List D → Mm → Prop) : ∀ (ds : List D) (i : Nat) (acc : List D) (m : Mm), I i acc m → (∀ (j : Nat) (d : D) acc m K, d ∈ ds → I j acc m → (∀ e m', I (j + 1) (acc ++ [e]) m' → K (some e) m') → (∀ m', I (j + 1) acc m' → K none m') → stepC g tt te g0 d m K) →
    (∀ acc m, I (i + ds.length) acc m → Q acc m) → aLcL g tt te g0 ds acc m Q
  | [], i, acc, m, h, _, hq => hq acc m (by simpa using h)
  | d :: r, i, acc, m, h, hs, hq => aLcL_step (hs i d acc m _ List.mem_cons_self h
      (fun e m' h' => aLcL_inv0 I r (i + 1) _ m' h' (fun j d' acc m K hd => hs j d' acc m K (List.mem_cons_of_mem _ hd)) fun acc m q => hq acc m (by rw [List.length_cons, show i + (r.length + 1) = i + 1 + r.length by omega]; exact q))
      (fun m' h' => aLcL_inv0 I r (i + 1) _ m' h' (fun j d' acc m K hd => hs j d' acc m K (List.mem_cons_of_mem _ hd)) fun acc m q => hq acc m (by rw [List.length_cons, show i + (r.length + 1) = i + 1 + r.length by omega]; exact q)))
theorem aLcL_inv {g : ATG} {tt : ATT} {te : ATE} {g0 : List (Option AV)} {Q : List D → Mm → Prop} {ds : List D} {m : Mm} (I : Nat → List D → Mm → Prop) (h0 : I 0 [] m) (hs : ∀ (j : Nat) (d : D) acc m K, d ∈ ds → I j acc m → (∀ e m', I (j + 1) (acc ++ [e]) m' → K (some e) m') → (∀ m', I (j + 1) acc m' → K none m') → stepC g tt te g0 d m K)
    (hq : ∀ acc m, I ds.length acc m → Q acc m) : aLcL g tt te g0 ds [] m Q := aLcL_inv0 I ds 0 [] m h0 hs fun acc m q => hq acc m (by simpa using q)
theorem aForL_nil {n : Nat} {fs : List Nat} {g : ATG} {tb : ATS} {E : AEnds} {a : AS} (h : E.nx a) : aForL n fs g tb E [] a := h
end QL

namespace QL
open PySem PySem.Spec PyProof.Rows L2
/-! ### lists of anything told as data -/
def intR (lo : Int) (n : Nat) : List Int := (List.range n).map fun k : Nat => lo + (k : Int)
theorem rngD_eq (lo : Int) (n : Nat) : rngD lo n = (intR lo n).map PyData.int := by
  unfold rngD intR
  rw [List.map_map]
  rfl
theorem mem_intR {lo : Int} {n : Nat} {i : Int} (h : i ∈ intR lo n) : lo ≤ i ∧ i < lo + n := by
  obtain ⟨k, h1, rfl⟩ := List.mem_map.mp h
  have := List.mem_range.mp h1
  omega
theorem intR_len (lo : Int) (n : Nat) : (intR lo n).length = n := by simp [intR]
theorem aLcL_map {β : Type} {g : ATG} {tt : ATT} {te : ATE} {g0 : List (Option AV)} {m : Mm} {Q : List D → Mm → Prop} {xs : List β} (e : β → D) (c : β → Bool) (v : β → D)
    (hs : ∀ x ∈ xs, ∀ K, K (if c x = true then some (v x) else none) m → stepC g tt te g0 (e x) m K) (h : Q ((xs.filter c).map v) m) : aLcL g tt te g0 (xs.map e) [] m Q := by
  have go : ∀ (xs : List β) (acc : List D), (∀ x ∈ xs, ∀ K, K (if c x = true then some (v x) else none) m → stepC g tt te g0 (e x) m K) → Q (acc ++ (xs.filter c).map v) m → aLcL g tt te g0 (xs.map e) acc m Q := by
    intro xs
    induction xs with
    | nil => intro acc _ h; simpa [aLcL] using h
    | cons x xs ih =>
      intro acc hs h
      rw [List.map_cons]
      refine aLcL_step (hs x List.mem_cons_self _ ?_)
      by_cases hc : c x = true
      · simp only [hc, if_true]
        exact ih _ (fun y hy => hs y (List.mem_cons_of_mem _ hy)) (by simpa [List.filter_cons, hc] using h)
      · simp only [hc, if_false]
        exact ih _ (fun y hy => hs y (List.mem_cons_of_mem _ hy)) (by simpa [List.filter_cons, hc] using h)
  exact go xs [] hs (by simpa using h)
/-- .. without a test -/
theorem aLcL_all {β : Type} {g : ATG} {tt : ATT} {te : ATE} {g0 : List (Option AV)} {m : Mm} {Q : List D → Mm → Prop} {xs : List β} (e : β → D) (v : β → D)
    (hs : ∀ x ∈ xs, ∀ K, K (some (v x)) m → stepC g tt te g0 (e x) m K) (h : Q (xs.map v) m) : aLcL g tt te g0 (xs.map e) [] m Q :=
  by
    have e1 : xs.filter (fun _ => true) = xs := List.filter_eq_self.mpr (by simp)
    exact aLcL_map e (fun _ => true) v (fun x hx K hK => hs x hx K (by simpa using hK)) (by rw [e1]; exact h)
/-- a for that keeps an invariant and does not leave: behind i items I i holds -/
theorem sub64 : (9223372036854775808 : Int) = 2 ^ 63 := by decide
theorem Rg.of {j : Int} (h1 : -4611686018427387904 ≤ j) (h2 : j < 4611686018427387904) : Rg j := ⟨by simpa using h1, by simpa using h2⟩
theorem MulOk.l {i j : Int} (h1 : -18446744073709551616 < i) (h2 : i < 18446744073709551616) : MulOk i j := .inl (.inl ⟨by simpa using h1, by simpa using h2⟩)
theorem MulOk.r {i j : Int} (h1 : -18446744073709551616 < j) (h2 : j < 18446744073709551616) : MulOk i j := .inl (.inr ⟨by simpa using h1, by simpa using h2⟩)
/-! data of plain things -/
theorem shaped_int (i : Int) : SeqAt.shaped (.int i) = true := rfl
end QL

namespace QL
open PySem PySem.Spec PyProof.Rows L2
/-! ### what repr asks, made easy -/
mutual
def IntsB : D → Prop
  | .none => True
  | .bool _ => True
  | .int i => i.natAbs.log2 < 1900
  | .str x => ∀ c ∈ x.cps.toList, c < 16 ^ 8
  | .list xs => IntsBs xs
  | .tuple xs => IntsBs xs
  | .dict _ => False
def IntsBs : List D → Prop
  | [] => True
  | x :: xs => IntsB x ∧ IntsBs xs
end
mutual
theorem IntsB.show_ : ∀ d : D, IntsB d → d.showable = true ∧ d.leavesShort 2000 = true
  | .none, _ => ⟨rfl, rfl⟩
  | .bool _, _ => ⟨rfl, rfl⟩
  | .int i, h => by
    have h' : i.natAbs.log2 < 1900 := h
    refine ⟨by simp [PyData.showable]; omega, ?_⟩
    have e := int_text_length_le (k := 1900) (by decide) h'
    simp only [PyData.leavesShort, decide_eq_true_eq]
    show (Str.ofString (toString i)).length ≤ 2000
    rw [PySem.ofString_length]; omega
  | .str x, h => by
    refine ⟨rfl, ?_⟩
    simp only [PyData.leavesShort, List.all_eq_true, decide_eq_true_eq]
    exact h
  | .list xs, h => by
    obtain ⟨h1, h2⟩ := IntsBs.show_ xs h
    exact ⟨by simpa [PyData.showable] using h1, by simpa [PyData.leavesShort] using h2⟩
  | .tuple xs, h => by
    obtain ⟨h1, h2⟩ := IntsBs.show_ xs h
    exact ⟨by simpa [PyData.showable] using h1, by simpa [PyData.leavesShort] using h2⟩
  | .dict _, h => h.elim
theorem IntsBs.show_ : ∀ ds : List D, IntsBs ds → PyData.showableAll ds = true ∧ PyData.leavesShortAll 2000 ds = true
  | [], _ => ⟨rfl, rfl⟩
  | d :: ds, h => by
    obtain ⟨h1, h2⟩ := IntsB.show_ d h.1
    obtain ⟨h3, h4⟩ := IntsBs.show_ ds h.2
    exact ⟨by simp [PyData.showableAll, h1, h3], by simp [PyData.leavesShortAll, h2, h4]⟩
end
mutual
theorem IntsB.noDict : ∀ d : D, IntsB d → d.hasDict = false
  | .none, _ => by simp [PyData.hasDict]
  | .bool _, _ => by simp [PyData.hasDict]
  | .int _, _ => by simp [PyData.hasDict]
  | .str _, _ => by simp [PyData.hasDict]
  | .list xs, h => by simp only [PyData.hasDict]; exact IntsBs.noDict xs h
  | .tuple xs, h => by simp only [PyData.hasDict]; exact IntsBs.noDict xs h
  | .dict _, h => h.elim
theorem IntsBs.noDict : ∀ ds : List D, IntsBs ds → PyData.hasDictAll ds = false
  | [], _ => by simp [PyData.hasDictAll]
  | d :: ds, h => by simp [PyData.hasDictAll, IntsB.noDict d h.1, IntsBs.noDict ds h.2]
end
theorem RepOk.of {d : D} (h : IntsB d) (hd : d.depth ≤ 64) (hb : d.bulk ≤ 8000) : RepOk d := by
  obtain ⟨h1, h2⟩ := h.show_
  refine ⟨h.noDict, h1, hd, ?_⟩
  have e := PyData.shown_le_bulk 2000 (by decide) d h2
  rw [sizeLine_eq]
  omega
/-- an int of up to 1899 bits -/
theorem log_small {i : Int} (h : i.natAbs < 2 ^ 1899) : i.natAbs.log2 < 1900 := by
  by_cases h0 : i.natAbs = 0
  · rw [h0]; decide
  · have := (Nat.log2_lt h0).mpr h
    omega
theorem log_64 {i : Int} (h1 : -18446744073709551616 < i) (h2 : i < 18446744073709551616) : i.natAbs.log2 < 1900 := by
  have e : (2 : Nat) ^ 64 = 18446744073709551616 := by decide
  have h : i.natAbs < 2 ^ 64 := by omega
  exact log_small (Nat.lt_of_lt_of_le h (Nat.pow_le_pow_right (by decide) (by decide)))
end QL

namespace QL
open PySem PySem.Spec PyProof.Rows L2

/-! ### dicts as data and as local objects -/
def unK : List (D × D) → List (Key × D)
  | [] => []
  | (k, d) :: r => match keyD k with
    | some k => (k, d) :: unK r
    | none => unK r
theorem keyD_kD (k : Key) : keyD (kD k) = some k := by cases k <;> rfl
theorem unK_kvD : ∀ kvs : List (Key × D), unK (kvD kvs) = kvs
  | [] => rfl
  | (k, d) :: r => by
    show unK ((kD k, d) :: kvD r) = _
    unfold unK
    rw [keyD_kD, unK_kvD r]
theorem DqK.un {K : PySem.W.Frag} {h : Hp} : ∀ {kvs : List (D × D)} {ys : List (Key × V)}, DqK K h ys kvs → KQ K h ys (unK kvs)
  | [], _, q => by cases q; exact .nil
  | (k, d) :: r, _, q => by
    cases q with
    | cons q1 q2 =>
      unfold unK
      rw [keyD_kD]
      exact .cons ⟨rfl, q1⟩ (DqK.un q2)
/-- a dict by ints and texts -/
def dkA (m : Mm) : AV → Option (List (Key × D))
  | .d (.dict kvs) => some (unK kvs)
  | .o j => match m.o[j]? with
    | some (.kd kvs) => some kvs
    | _ => none
  | _ => none
/-- a dict by tuples -/
def dtA (m : Mm) : AV → Option (List (List Key × D))
  | .dt kvs => some kvs
  | .o j => match m.o[j]? with
    | some (.td kvs) => some kvs
    | _ => none
  | _ => none
def keyA : AV → Option Key
  | .d d => keyD d
  | _ => none
section
variable {C : Ct} {m : Mm} {L Mo : List Addr} {H : Hp} {x : AV} {v : V}
theorem dkA_ok {kvs : List (Key × D)} (b : B C m L Mo H) (r : AVR C L Mo H x v) (h : dkA m x = some kvs) : ∃ l ys, v = .ref l ∧ H l = some (.dK ys) ∧ KQ C.K (C.hd L Mo H) ys kvs := by
  cases x with
  | d y =>
    cases y <;> simp [dkA] at h
    subst h
    cases r with
    | dk h1 h2 => exact ⟨_, _, rfl, (hid_some h1).2, DqK.un h2⟩
  | o j =>
    simp only [dkA] at h
    split at h
    · rename_i kvs' e
      cases h
      obtain ⟨l, rfl, _, ys, h3, h4⟩ := o_at b r e
      exact ⟨l, ys, rfl, h3, h4⟩
    · cases h
  | src => simp [dkA] at h
  | cells => simp [dkA] at h
  | scr ns => simp [dkA] at h
  | kt ns => simp [dkA] at h
  | dt ns => simp [dkA] at h
  | ty ns => simp [dkA] at h
  | ad ns => simp [dkA] at h
theorem dtA_ok {kvs : List (List Key × D)} (b : B C m L Mo H) (r : AVR C L Mo H x v) (h : dtA m x = some kvs) : ∃ l ys, v = .ref l ∧ H l = some (.dT ys) ∧ KQ C.K (C.hd L Mo H) ys kvs := by
  cases x with
  | d y => simp [dtA] at h
  | o j =>
    simp only [dtA] at h
    split at h
    · rename_i kvs' e
      cases h
      obtain ⟨l, rfl, _, ys, h3, h4⟩ := o_at b r e
      exact ⟨l, ys, rfl, h3, h4⟩
    · cases h
  | src => simp [dtA] at h
  | cells => simp [dtA] at h
  | scr ns => simp [dtA] at h
  | kt ns => simp [dtA] at h
  | ty ns => simp [dtA] at h
  | ad ns => simp [dtA] at h
  | dt ns =>
    simp [dtA] at h
    subst h
    obtain ⟨a, ys, rfl, h1, h2⟩ := r
    exact ⟨a, ys, rfl, (hid_some h1).2, h2⟩
theorem keyA_ok {k : Key} (r : AVR C L Mo H x v) (h : keyA x = some k) : v = kV k := by
  cases x with
  | d y => exact keyD_ok r h
  | o j => simp [keyA] at h
  | src => simp [keyA] at h
  | cells => simp [keyA] at h
  | scr ns => simp [keyA] at h
  | kt ns => simp [keyA] at h
  | dt ns => simp [keyA] at h
  | ty ns => simp [keyA] at h
  | ad ns => simp [keyA] at h
def OptQ (K : PySem.W.Frag) (h : Hp) : Option V → Option D → Prop
  | some v, some d => Dq K h v d
  | none, none => True
  | _, _ => False
theorem KQ.opt {κ : Type} [DecidableEq κ] {K : PySem.W.Frag} {h : Hp} {ys : List (κ × V)} {kvs : List (κ × D)} (q : KQ K h ys kvs) (k : κ) : OptQ K h (valV ys k) (valD kvs k) := by
  rcases q.val k with ⟨q1, q2⟩ | ⟨z, d, q1, q2, q3⟩
  · rw [q1, q2]; trivial
  · rw [q1, q2]; exact q3
theorem OptQ.some_ {K : PySem.W.Frag} {h : Hp} {o : Option V} {d : D} (q : OptQ K h o (some d)) : ∃ z, o = some z ∧ Dq K h z d := by
  cases o with
  | none => exact q.elim
  | some z => exact ⟨z, rfl, q⟩
theorem OptQ.none_ {K : PySem.W.Frag} {h : Hp} {o : Option V} (q : OptQ K h o none) : o = none := by
  cases o with
  | none => rfl
  | some z => exact q.elim
theorem OptQ.isSome {K : PySem.W.Frag} {h : Hp} {o : Option V} {d : Option D} (q : OptQ K h o d) : o.isSome = d.isSome := by
  cases d with
  | none => rw [q.none_]; rfl
  | some d => obtain ⟨z, rfl, _⟩ := q.some_; rfl
/-- what a look at a key finds -/
def lookA (m : Mm) (x y : AV) : Option (Option D) := match dkA m x with
  | some kvs => match keyA y with
    | some k => some (valD kvs k)
    | none => none
  | none => match dtA m x with
    | some kvs => match y with
      | .kt ks => some (valD kvs ks)
      | _ => none
    | none => none
theorem lookA_ok {y : AV} {w : V} {o : Option D} (b : B C m L Mo H) (r1 : AVR C L Mo H x v) (r2 : AVR C L Mo H y w) (h : lookA m x y = some o) :
    ∃ a o', v = .ref a ∧ DGet H a w o' ∧ OptQ C.K (C.hd L Mo H) o' o := by
  unfold lookA at h
  split at h
  · rename_i kvs e
    split at h
    · rename_i k ek
      cases h
      obtain ⟨l, ys, rfl, h3, h4⟩ := dkA_ok b r1 e
      have hk := keyA_ok r2 ek
      subst hk
      exact ⟨l, _, rfl, DGet.k h3, h4.opt k⟩
    · cases h
  · split at h
    · rename_i kvs e
      split at h
      · rename_i ks
        cases h
        obtain ⟨l, ys, rfl, h3, h4⟩ := dtA_ok b r1 e
        obtain ⟨b', rfl, h5⟩ := r2
        exact ⟨l, _, rfl, DGet.t h3 (hid_some h5).2, h4.opt ks⟩
      · cases h
    · cases h
end
section
variable {X : Cx} {o i e f value : Expr} {pos pos' apos cpos : Pos} {td ty tv tx : ATE}
/-- d[y] -/
def aDix : AR2 := fun x y m Q => match lookA m x y with
  | some (some d) => Q (.d d) m
  | _ => False
theorem q_dix (hu : X.A.units + 1 < cLine) (ho : QE X o td) (hi : QE X i ty) (hs : NoSl i := by intro _ _; rfl) : QE X (.Subscript o i pos) (aBin aDix td ty) := fun C hK => PE.imp (pe_dget hu (ho C hK) (hi C hK) hs) fun σ H Q ⟨a, L, Mo, AQ, r, k, h⟩ => by
  refine ⟨a, L, Mo, _, r, fun x m1 v L1 Mo1 H1 h1 b1 v1 e1 => ⟨⟨a.g, m1⟩, L1, Mo1, _, r.next b1 e1, fun y m2 w L2 Mo2 H2 h2 b2 w2 e2 => ?_, h1⟩, h⟩
  have h2' : (match lookA m2 x y with | some (some d) => AQ (.d d) m2 | _ => False) := h2
  split at h2'
  · rename_i d e
    obtain ⟨l, o', rfl, g, q⟩ := lookA_ok b2 (v1.mono e2) w2 e
    obtain ⟨z, rfl, q⟩ := q.some_
    exact ⟨l, z, rfl, g, ((k.aft e1).aft e2).ret h2' b2 q⟩
  · exact h2'.elim
/-- y in d -/
def aDin : AR2 := fun y x m Q => match lookA m x y with
  | some o => Q (.d (.bool o.isSome)) m
  | none => False
def aDnin : AR2 := fun y x m Q => match lookA m x y with
  | some o => Q (.d (.bool (!o.isSome))) m
  | none => False
theorem op_din (hu : X.A.units + 1 < cLine) : OpR X (compareOp .In) (fun y x H Q => ∃ a o, x = .ref a ∧ DGet H a y o ∧ Q (.bl o.isSome) H) := by
  intro pins s σ H y x v u Q I ry rx h
  obtain ⟨a, ov, ex, g, q2⟩ := h
  subst ex
  obtain rfl : u = Value.ref a := rx
  exact d_in hu I g ry fun s3 I3 => ⟨.bl ov.isSome, H, I3, rfl, q2⟩
theorem op_dnin (hu : X.A.units + 1 < cLine) : OpR X (compareOp .NotIn) (fun y x H Q => ∃ a o, x = .ref a ∧ DGet H a y o ∧ Q (.bl (!o.isSome)) H) := by
  intro pins s σ H y x v u Q I ry rx h
  obtain ⟨a, ov, ex, g, q2⟩ := h
  subst ex
  obtain rfl : u = Value.ref a := rx
  exact d_notIn hu I g ry fun s3 I3 => ⟨.bl (!ov.isSome), H, I3, rfl, q2⟩
theorem oq_din (hu : X.A.units + 1 < cLine) : OpQ X (compareOp .In) aDin := by
  refine ⟨_, op_din hu, fun C L Mo H m y x w v Q AQ hK b r2 r1 k hh => ?_⟩
  unfold aDin at hh
  split at hh
  · rename_i o e
    obtain ⟨l, o', rfl, g, q⟩ := lookA_ok b r1 r2 e
    refine ⟨l, o', rfl, g, ?_⟩
    rw [q.isSome]
    exact k.ret hh b (.bl _)
  · exact hh.elim
theorem oq_dnin (hu : X.A.units + 1 < cLine) : OpQ X (compareOp .NotIn) aDnin := by
  refine ⟨_, op_dnin hu, fun C L Mo H m y x w v Q AQ hK b r2 r1 k hh => ?_⟩
  unfold aDnin at hh
  split at hh
  · rename_i o e
    obtain ⟨l, o', rfl, g, q⟩ := lookA_ok b r1 r2 e
    refine ⟨l, o', rfl, g, ?_⟩
    rw [q.isSome]
    exact k.ret hh b (.bl _)
  · exact hh.elim
/-- d.get(y, z) -/
def isDictA (m : Mm) (x : AV) : Bool := (dkA m x).isSome || (dtA m x).isSome
theorem isDictA_ok {C : Ct} {m : Mm} {L Mo : List Addr} {H : Hp} {x : AV} {v : V} (b : B C m L Mo H) (r : AVR C L Mo H x v) (h : isDictA m x = true) : ∃ a, v = .ref a ∧ IsD H a := by
  unfold isDictA at h
  cases e : dkA m x with
  | some kvs =>
    obtain ⟨l, ys, rfl, h3, _⟩ := dkA_ok b r e
    exact ⟨l, rfl, .inl ⟨ys, .inl h3⟩⟩
  | none =>
    cases e2 : dtA m x with
    | some kvs =>
      obtain ⟨l, ys, rfl, h3, _⟩ := dtA_ok b r e2
      exact ⟨l, rfl, .inr ⟨ys, .inl h3⟩⟩
    | none => rw [e, e2] at h; simp at h
def aDget (td ty tx : ATE) : ATE := fun a Q => td a fun x m1 => isDictA m1 x = true ∧ ty ⟨a.g, m1⟩ fun y m2 => tx ⟨a.g, m2⟩ fun z m3 => match lookA m3 x y with
  | some (some d) => Q (.d d) m3
  | some none => Q z m3
  | none => False
theorem q_dget (hu : X.A.units + 1 < cLine) (ho : QE X o td) (he : QE X e ty) (hf : QE X f tx) (m : M2 X o "get" apos e f cpos := by exact ⟨rfl, rfl, rfl, rfl⟩) : QE X (.Call (.Attribute o "get" apos) [e, f] [] cpos) (aDget td ty tx) := fun C hK =>
  PE.imp (pe_dget2 hu (ho C hK) (he C hK) (hf C hK) m) fun σ H Q ⟨a, L, Mo, AQ, r, k, h⟩ => by
    refine ⟨a, L, Mo, _, r, fun x m1 v L1 Mo1 H1 ⟨h0, h1⟩ b1 v1 e1 => ?_, h⟩
    obtain ⟨l, rfl, hd⟩ := isDictA_ok b1 v1 h0
    refine ⟨l, rfl, hd, ⟨a.g, m1⟩, L1, Mo1, _, r.next b1 e1, fun y m2 w L2 Mo2 H2 h2 b2 w2 e2 => ⟨⟨a.g, m2⟩, L2, Mo2, _, (r.next b1 e1).next b2 e2, fun z m3 w' L3 Mo3 H3 h3 b3 w3 e3 => ?_, h2⟩, h1⟩
    have h3' : (match lookA m3 x y with | some (some d) => AQ (.d d) m3 | some none => AQ z m3 | none => False) := h3
    split at h3'
    · rename_i d e
      obtain ⟨l', o', hl, g, q⟩ := lookA_ok b3 ((v1.mono e2).mono e3) (w2.mono e3) e
      obtain ⟨z', rfl, q⟩ := q.some_
      cases hl
      exact ⟨_, g, (((k.aft e1).aft e2).aft e3).ret h3' b3 q⟩
    · rename_i e
      obtain ⟨l', o', hl, g, q⟩ := lookA_ok b3 ((v1.mono e2).mono e3) (w2.mono e3) e
      cases hl
      have q' : o' = none := q.none_
      subst q'
      exact ⟨_, g, (((k.aft e1).aft e2).aft e3).ret h3' b3 w3⟩
    · exact h3'.elim
/-- d[y] = v, d a local object -/
def aDput (td ty tv : ATE) : ATS := fun E a => tv a fun v m1 => td ⟨a.g, m1⟩ fun x m2 => ty ⟨a.g, m2⟩ fun y m3 => match x, v with
  | .o j, .d d => match m3.o[j]? with
    | some (.kd kvs) => match keyA y with
      | some k => kvs.length ≤ 1000000 ∧ E.nx ⟨a.g, ⟨m3.s, m3.o.set j (.kd (putD kvs k d))⟩⟩
      | none => False
    | some (.td kvs) => match y with
      | .kt ks => kvs.length ≤ 1000000 ∧ E.nx ⟨a.g, ⟨m3.s, m3.o.set j (.td (putD kvs ks d))⟩⟩
      | _ => False
    | _ => False
  | _, _ => False
theorem qs_dput (hu : X.A.units + 1 < cLine) (ho : QE X o td) (hi : QE X i ty) (hv : QE X value tv) (hs : swapsWith value (some (.Subscript o i pos')) pos.line X.env = pure false := by rfl) :
    QS X (.Assign [.Subscript o i pos'] value pos) (aDput td ty tv) := fun C hK => PS.imp (ps_dput hu (ho C hK) (hi C hK) (hv C hK) hs) fun D σ H ⟨a, L, Mo, AD, r, b, h⟩ => by
  refine ⟨a, L, Mo, _, r, fun v m1 w L1 Mo1 H1 h1 b1 w1 e1 => ⟨⟨a.g, m1⟩, L1, Mo1, _, r.next b1 e1, fun x m2 u L2 Mo2 H2 h2 b2 v2 e2 => ⟨⟨a.g, m2⟩, L2, Mo2, _, (r.next b1 e1).next b2 e2, fun y m3 z L3 Mo3 H3 h3 b3 z3 e3 => ?_, h2⟩, h1⟩, h⟩
  have r3 := ((r.next b1 e1).next b2 e2).next b3 e3
  split at h3
  · rename_i j d
    have hw : Dq C.K (C.hd L3 Mo3 H3) w d := (w1.mono e2).mono e3
    split at h3
    · rename_i kvs e
      split at h3
      · rename_i k ek
        obtain ⟨l, rfl, hl, ys, h4, h5⟩ := o_at b3 (v2.mono e3) e
        have hk := keyA_ok z3 ek
        subst hk
        refine ⟨l, _, rfl, DPut.k h4 (by rw [h5.length]; exact line6 h3.1), b.nx _ _ _ _ _ h3.2 (r3.next (b3.upd hl fun h e => ⟨_, upd_same, by rw [e]; exact h5.put hw⟩) (X2.upd (List.mem_of_getElem? hl)))⟩
      · exact h3.elim
    · rename_i kvs e
      split at h3
      · rename_i ks
        obtain ⟨l, rfl, hl, ys, h4, h5⟩ := o_at b3 (v2.mono e3) e
        obtain ⟨b', rfl, h6⟩ := z3
        refine ⟨l, _, rfl, DPut.t h4 (hid_some h6).2 (by rw [h5.length]; exact line6 h3.1), b.nx _ _ _ _ _ h3.2 (r3.next (b3.upd hl fun h e => ⟨_, upd_same, by rw [e]; exact h5.put hw⟩) (X2.upd (List.mem_of_getElem? hl)))⟩
      · exact h3.elim
    · exact h3.elim
  · exact h3.elim
/-- {} -/
def aDnewK : ATE := fun a Q => Q (.o a.m.o.length) ⟨a.m.s, a.m.o ++ [.kd []]⟩
def aDnewT : ATE := fun a Q => Q (.o a.m.o.length) ⟨a.m.s, a.m.o ++ [.td []]⟩
theorem q_dnewK : QE X (.Dict [] [] pos) aDnewK := fun C hK => PE.imp pe_dnewK fun σ H Q ⟨a, L, Mo, AQ, r, k, h⟩ p hp =>
  k _ _ _ _ _ _ h (r.b.allocO (o := .kd []) hp fun h' e => ⟨[], upd_same, .nil⟩) ⟨p, by rw [Paired.length r.b.ob]; simp, rfl⟩ (X2.allocO hp)
theorem q_dnewT : QE X (.Dict [] [] pos) aDnewT := fun C hK => PE.imp pe_dnewT fun σ H Q ⟨a, L, Mo, AQ, r, k, h⟩ p hp =>
  k _ _ _ _ _ _ h (r.b.allocO (o := .td []) hp fun h' e => ⟨[], upd_same, .nil⟩) ⟨p, by rw [Paired.length r.b.ob]; simp, rfl⟩ (X2.allocO hp)
/-- a tuple that is to be a key -/
def keysD : List D → Option (List Key)
  | [] => some []
  | d :: r => match keyD d, keysD r with
    | some k, some l => some (k :: l)
    | _, _ => none
theorem keysD_ok {K : PySem.W.Frag} {h : Hp} : ∀ {ds : List D} {vs : List V} {ks : List Key}, DqAll K h vs ds → keysD ds = some ks → vs = ks.map kV
  | [], _, _, q, e => by cases q; cases e; rfl
  | d :: r, _, _, q, e => by
    cases q with
    | cons q1 q2 =>
      simp only [keysD] at e
      split at e
      · rename_i k l e1 e2
        cases e
        rw [List.map_cons, keyD_ok q1 e1, keysD_ok q2 e2]
      · cases e
theorem keysD_kD : ∀ ks : List Key, keysD (ks.map kD) = some ks
  | [] => rfl
  | k :: r => by
    rw [List.map_cons]
    unfold keysD
    rw [keyD_kD, keysD_kD r]
def bTupleK : AC1 := fun avs m Q => match avs with
  | [x] => match lstA m x with
    | some ds => match keysD ds with
      | some ks => Q (.kt ks) m
      | none => False
    | none => False
  | _ => False
theorem cq_tupleK : CallQ X (.type "tuple") bTupleK := by
  refine ⟨_, call_tuple_of, fun C L Mo H m avs vs Q AQ hK b r k hh => ?_⟩
  unfold bTupleK at hh
  split at hh
  · split at hh
    · rename_i ds e
      split at hh
      · rename_i ks ek
        obtain ⟨v, rfl, rv⟩ := av1 r
        obtain ⟨l, xs, rfl, h1, h2⟩ := lstA_ok b rv e
        have := keysD_ok h2 ek
        subst this
        exact ⟨l, _, rfl, .inl ⟨SqL.of h1, fun p hp => k _ _ _ _ _ _ hh (b.alloc hp) ⟨p, rfl, hd_new b hp⟩ (X2.alloc hp)⟩⟩
      · exact hh.elim
    · exact hh.elim
  · exact hh.elim
variable {es : List Expr} {tr : ATA}
def aTupK (t : ATA) : ATE := fun a Q => t a fun avs m => match datas avs with
  | some ds => match keysD ds with
    | some ks => ds.length ≤ 1000 ∧ Q (.kt ks) m
    | none => False
  | none => False
theorem q_tupK {x1} (h : QA X es tr) : QE X (.Tuple es x1 pos) (aTupK tr) := fun C hK => PE.imp (pe_tup (h C hK)) fun σ H Q ⟨a, L, Mo, AQ, r, k, h⟩ => by
  refine ⟨a, L, Mo, _, r, fun xs m1 vs L1 Mo1 H1 h1 b1 v1 e1 => ?_, h⟩
  have h1' : (match datas xs with | some ds => (match keysD ds with | some ks => ds.length ≤ 1000 ∧ AQ (.kt ks) m1 | none => False) | none => False) := h1
  split at h1'
  · rename_i ds e
    split at h1'
    · rename_i ks ek
      have q := datas_ok v1 e
      have := keysD_ok q ek
      subst this
      exact ⟨line1000 (by rw [q.len]; exact h1'.1), fun p hp => (k.aft e1) _ _ _ _ _ _ h1'.2 (b1.alloc hp) ⟨p, rfl, hd_new b1 hp⟩ (X2.alloc hp)⟩
    · exact h1'.elim
  · exact h1'.elim
end
end QL

namespace QL
open PySem PySem.Spec PyProof.Rows L2 RZ

/-! ### zip, enumerate -/
def zipD (xs ys : List D) : List D := (xs.zip ys).map fun p => .tuple [p.1, p.2]
theorem zipD_at {xs ys : List D} {i : Nat} {d : D} (h : (zipD xs ys)[i]? = some d) : ∃ x y, xs[i]? = some x ∧ ys[i]? = some y ∧ d = .tuple [x, y] := by
  unfold zipD at h
  rw [List.getElem?_map] at h
  cases e : (xs.zip ys)[i]? with
  | none => rw [e] at h; cases h
  | some p =>
    rw [e] at h
    obtain ⟨h1, h2⟩ := List.getElem?_zip_eq_some.mp e
    exact ⟨p.1, p.2, h1, h2, (Option.some.inj h).symm⟩
theorem zipD_len (xs ys : List D) : (zipD xs ys).length = min xs.length ys.length := by simp [zipD]
theorem items_zipL {C : Ct} {L Mo : List Addr} {H : Hp} {a b : Addr} {xs ys : List V} {ds es : List D} (h : C.hd L Mo H a = some (.lst xs)) (hx : DqAll C.K (C.hd L Mo H) xs ds) (g : C.hd L Mo H b = some (.lst ys)) (hy : DqAll C.K (C.hd L Mo H) ys es) :
    ItemsOk C (Itz C.K a b) L Mo H (zipD ds es) := fun C2 L1 Mo1 H1 m1 hK bb sm => by
  have q : SqL C.K H1 a xs := SqL.of (hid_some (sm _ _ h)).2
  have q' : SqL C.K H1 b ys := SqL.of (hid_some (sm _ _ g)).2
  refine ⟨fun i d e => ?_, xs, ys, q, q', by rw [zipD_len, hx.len, hy.len]; omega⟩
  obtain ⟨x, y, e1, e2, rfl⟩ := zipD_at e
  obtain ⟨v, h1, h2⟩ := hx.at e1
  obtain ⟨w, h3, h4⟩ := hy.at e2
  refine ⟨⟨xs, ys, v, w, q, q', h1, h3⟩, fun z H2 ⟨T, v', w', e3, hT, e4, f1, f2⟩ => ?_⟩
  subst e3; subst e4
  have f1 := f1 xs q
  have f2 := f2 ys q'
  rw [h1] at f1; cases f1
  rw [h3] at f2; cases f2
  refine ⟨bb.alloc hT, X2.alloc hT, .tup (SqT.of (hd_new bb hT)) (.cons (Dq.mono (hd_upd hT) _ _ (Dq.mono sm _ _ h2)) (.cons (Dq.mono (hd_upd hT) _ _ (Dq.mono sm _ _ h4)) .nil))⟩
theorem items_zipT {C : Ct} {L Mo : List Addr} {H : Hp} {a b : Addr} {xs ys : List V} {ds es : List D} (h : SqT C.K (C.hd L Mo H) a xs) (hx : DqAll C.K (C.hd L Mo H) xs ds) (g : SqT C.K (C.hd L Mo H) b ys) (hy : DqAll C.K (C.hd L Mo H) ys es) :
    ItemsOk C (ItzT C.K a b) L Mo H (zipD ds es) := fun C2 L1 Mo1 H1 m1 hK bb sm => by
  have q : SqT C.K H1 a xs := same_tup hid_same (same_tup sm h)
  have q' : SqT C.K H1 b ys := same_tup hid_same (same_tup sm g)
  refine ⟨fun i d e => ?_, xs, ys, q, q', by rw [zipD_len, hx.len, hy.len]; omega⟩
  obtain ⟨x, y, e1, e2, rfl⟩ := zipD_at e
  obtain ⟨v, h1, h2⟩ := hx.at e1
  obtain ⟨w, h3, h4⟩ := hy.at e2
  refine ⟨⟨xs, ys, v, w, q, q', h1, h3⟩, fun z H2 ⟨T, v', w', e3, hT, e4, f1, f2⟩ => ?_⟩
  subst e3; subst e4
  have f1 := f1 xs q
  have f2 := f2 ys q'
  rw [h1] at f1; cases f1
  rw [h3] at f2; cases f2
  refine ⟨bb.alloc hT, X2.alloc hT, .tup (SqT.of (hd_new bb hT)) (.cons (Dq.mono (hd_upd hT) _ _ (Dq.mono sm _ _ h2)) (.cons (Dq.mono (hd_upd hT) _ _ (Dq.mono sm _ _ h4)) .nil))⟩
def enumD (xs : List D) : List D := (List.range xs.length).zipWith (fun i x => .tuple [.int (i : Nat), x]) xs
theorem enumD_at {xs : List D} {i : Nat} {d : D} (h : (enumD xs)[i]? = some d) : ∃ x, xs[i]? = some x ∧ d = .tuple [.int (i : Nat), x] := by
  unfold enumD at h
  rw [List.getElem?_zipWith] at h
  cases e : xs[i]? with
  | none => rw [e] at h; revert h; cases (List.range xs.length)[i]? <;> simp
  | some x =>
    have hi := (List.getElem?_eq_some_iff.mp e).1
    rw [e, List.getElem?_range hi] at h
    exact ⟨x, rfl, (Option.some.inj h).symm⟩
theorem enumD_len (xs : List D) : (enumD xs).length = xs.length := by simp [enumD]
theorem items_enum {C : Ct} {L Mo : List Addr} {H : Hp} {a : Addr} {xs : List V} {ds : List D} (h : C.hd L Mo H a = some (.lst xs)) (hx : DqAll C.K (C.hd L Mo H) xs ds) : ItemsOk C (Ite C.K a) L Mo H (enumD ds) := fun C2 L1 Mo1 H1 m1 hK bb sm => by
  have q : SqL C.K H1 a xs := SqL.of (hid_some (sm _ _ h)).2
  refine ⟨fun i d e => ?_, xs, q, by rw [enumD_len, hx.len]; exact Nat.le_refl _⟩
  obtain ⟨x, e1, rfl⟩ := enumD_at e
  obtain ⟨v, h1, h2⟩ := hx.at e1
  refine ⟨⟨xs, v, q, h1⟩, fun z H2 ⟨T, v', e3, hT, e4, f1⟩ => ?_⟩
  subst e3; subst e4
  have f1 := f1 xs q
  rw [h1] at f1; cases f1
  refine ⟨bb.alloc hT, X2.alloc hT, .tup (SqT.of (hd_new bb hT)) (.cons (.int _) (.cons (Dq.mono (hd_upd hT) _ _ (Dq.mono sm _ _ h2)) .nil))⟩
section
variable {X : Cx} {e e2 : Expr} {ta : ATA} {p pos tpos : Pos} {elts : List Expr} {kk : Nat}
def aZip (t : ATA) : AIt := fun a Q => t a fun avs m => match avs with
  | [.d (.list xs), .d (.list ys)] => Q (zipD xs ys) m
  | [.d (.tuple xs), .d (.tuple ys)] => Q (zipD xs ys) m
  | _ => False
theorem qi_zip (hg : Gl X "zip") (hm : X.mg "zip" = none) (ha : QA X [e, e2] ta) (hs : starEach [e, e2] X.env = (false, eval e X.env) :: starEach [e2] X.env := by rfl) (hpl : (backTo pos (starEach [e2] X.env)).any (·.1) = false := by rfl) :
    QI X (.Tuple elts kk tpos) (.Call (.Name "zip" p) [e, e2] [] pos) (aZip ta) := fun C hK => PI.imp (pi_zipA hg hm (ha C hK) hs hpl) fun σ H R' ⟨a, L, Mo, AQ, r, k, h⟩ => by
  refine ⟨a, L, Mo, _, r, fun xs m1 vs L1 Mo1 H1 h1 b1 v1 e1 => ?_, h⟩
  split at h1
  · obtain ⟨v, w, rfl, q, q'⟩ := av2 v1
    cases q with
    | lst c1 c2 =>
      cases q' with
      | lst c3 c4 => exact ⟨_, _, _, _, rfl, .inl ⟨SqL.of (hid_some c1).2, SqL.of (hid_some c3).2, k _ _ _ _ _ _ h1 b1 e1 (hK ▸ items_zipL c1 c2 c3 c4)⟩⟩
  · obtain ⟨v, w, rfl, q, q'⟩ := av2 v1
    cases q with
    | tup c1 c2 =>
      cases q' with
      | tup c3 c4 => exact ⟨_, _, _, _, rfl, .inr ⟨hK ▸ same_tup hid_same c1, hK ▸ same_tup hid_same c3, k _ _ _ _ _ _ h1 b1 e1 (hK ▸ items_zipT c1 c2 c3 c4)⟩⟩
  · exact h1.elim
def aEnum (t : ATA) : AIt := fun a Q => t a fun avs m => match avs with
  | [.d (.list xs)] => Q (enumD xs) m
  | _ => False
theorem qi_enum (hg : Gl X "enumerate") (hm : X.mg "enumerate" = none) (ha : QA X [e] ta) (hs : starEach [e] X.env = [(false, eval e X.env)] := by rfl) :
    QI X (.Tuple elts kk tpos) (.Call (.Name "enumerate" p) [e] [] pos) (aEnum ta) := fun C hK => PI.imp (pi_enum hg hm (ha C hK) hs) fun σ H R' ⟨a, L, Mo, AQ, r, k, h⟩ => by
  refine ⟨a, L, Mo, _, r, fun xs m1 vs L1 Mo1 H1 h1 b1 v1 e1 => ?_, h⟩
  split at h1
  · obtain ⟨v, rfl, q⟩ := av1 v1
    cases q with
    | lst c1 c2 => exact ⟨_, _, rfl, SqL.of (hid_some c1).2, k _ _ _ _ _ _ h1 b1 e1 (hK ▸ items_enum c1 c2)⟩
  · exact h1.elim
end
/-! ### x in a row -/
section
variable {X : Cx}
theorem DqAll.list {K : PySem.W.Frag} {H : Hp} {l : Addr} {xs : List V} {ds : List D} (h1 : H l = some (.lst xs)) (h : DqAll K H xs ds) (n : PyData.hasDictAll ds = false) : Dp K H (.ref l) (.list ds) := .lst (SqL.of h1) (DqAll.toDp _ _ n h)
def aInL : AR2 := fun x y m Q => match datA m x, lstA m y with
  | some d, some ds => SeqAt.shaped d = true ∧ SeqAt.shaped (.list ds) = true ∧ Q (.d (.bool (ds.any fun z => PyData.eqv z d))) m
  | _, _ => False
theorem oq_inL (hu : X.A.units + 65 < cLine) : OpQ X (compareOp .In) aInL := by
  refine ⟨_, op_inD hu, fun C L Mo H m x y v w Q AQ hK b r1 r2 k hh => ?_⟩
  unfold aInL at hh
  split at hh
  · rename_i d ds e1 e2
    obtain ⟨l, xs, rfl, h1, h2⟩ := lstA_ok b r2 e2
    have nd : (PyData.list ds).hasDict = false := shaped_noDict hh.2.1
    refine ⟨d, ds, Dq.toDp _ _ (shaped_noDict hh.1) (hK ▸ datA_ok b r1 e1), hK ▸ Dq.toDp _ _ nd (.lst h1 (DqAll.mono hid_same _ _ h2)), hh.1, hh.2.1, k.ret hh.2.2 b (.bl _)⟩
  · exact hh.elim
def aNinL : AR2 := fun x y m Q => match datA m x, lstA m y with
  | some d, some ds => SeqAt.shaped d = true ∧ SeqAt.shaped (.list ds) = true ∧ Q (.d (.bool (!ds.any fun z => PyData.eqv z d))) m
  | _, _ => False
theorem oq_ninL (hu : X.A.units + 65 < cLine) : OpQ X (compareOp .NotIn) aNinL := by
  refine ⟨_, op_notInD hu, fun C L Mo H m x y v w Q AQ hK b r1 r2 k hh => ?_⟩
  unfold aNinL at hh
  split at hh
  · rename_i d ds e1 e2
    obtain ⟨l, xs, rfl, h1, h2⟩ := lstA_ok b r2 e2
    have nd : (PyData.list ds).hasDict = false := shaped_noDict hh.2.1
    refine ⟨d, ds, Dq.toDp _ _ (shaped_noDict hh.1) (hK ▸ datA_ok b r1 e1), hK ▸ Dq.toDp _ _ nd (.lst h1 (DqAll.mono hid_same _ _ h2)), hh.1, hh.2.1, k.ret hh.2.2 b (.bl _)⟩
  · exact hh.elim
theorem op_inTD (hu : X.A.units + 65 < cLine) : OpR X (compareOp .In) (fun x y H Q => ∃ d ds, Dp X.K H x d ∧ Dp X.K H y (.tuple ds) ∧ SeqAt.shaped d = true ∧ SeqAt.shaped (.tuple ds) = true ∧ Q (.bl (ds.any fun z => PyData.eqv z d)) H) := by
  intro pins s σ H x y v u Q I rx ry h
  obtain ⟨d, ds, hd, he, sd, se, q⟩ := h
  obtain ⟨as, r1⟩ := Dp.reads I d x v hd rx
  obtain ⟨bs, r2⟩ := Dp.reads I (.tuple ds) y u he ry
  exact SeqAt.in_tuple_reads r2 r1 (SeqAt.canLay_of_shaped se) (SeqAt.canLay_of_shaped sd) (room_in_shaped sd hu) ⟨.bl _, H, I, rfl, q⟩
theorem op_notInTD (hu : X.A.units + 65 < cLine) : OpR X (compareOp .NotIn) (fun x y H Q => ∃ d ds, Dp X.K H x d ∧ Dp X.K H y (.tuple ds) ∧ SeqAt.shaped d = true ∧ SeqAt.shaped (.tuple ds) = true ∧ Q (.bl (!ds.any fun z => PyData.eqv z d)) H) := by
  intro pins s σ H x y v u Q I rx ry h
  obtain ⟨d, ds, hd, he, sd, se, q⟩ := h
  obtain ⟨as, r1⟩ := Dp.reads I d x v hd rx
  obtain ⟨bs, r2⟩ := Dp.reads I (.tuple ds) y u he ry
  exact SeqAt.notIn_tuple_reads r2 r1 (SeqAt.canLay_of_shaped se) (SeqAt.canLay_of_shaped sd) (room_in_shaped sd hu) ⟨.bl _, H, I, rfl, q⟩
def aInT : AR2 := fun x y m Q => match datA m x, tupA y with
  | some d, some ds => SeqAt.shaped d = true ∧ SeqAt.shaped (.tuple ds) = true ∧ Q (.d (.bool (ds.any fun z => PyData.eqv z d))) m
  | _, _ => False
def aNinT : AR2 := fun x y m Q => match datA m x, tupA y with
  | some d, some ds => SeqAt.shaped d = true ∧ SeqAt.shaped (.tuple ds) = true ∧ Q (.d (.bool (!ds.any fun z => PyData.eqv z d))) m
  | _, _ => False
theorem oq_inT (hu : X.A.units + 65 < cLine) : OpQ X (compareOp .In) aInT := by
  refine ⟨_, op_inTD hu, fun C L Mo H m x y v w Q AQ hK b r1 r2 k hh => ?_⟩
  unfold aInT at hh
  split at hh
  · rename_i d ds e1 e2
    have e3 := tupA_eq e2
    subst e3
    have nd : (PyData.tuple ds).hasDict = false := shaped_noDict hh.2.1
    refine ⟨d, ds, Dq.toDp _ _ (shaped_noDict hh.1) (hK ▸ datA_ok b r1 e1), hK ▸ Dq.toDp _ _ nd (Dq.mono hid_same _ _ r2), hh.1, hh.2.1, k.ret hh.2.2 b (.bl _)⟩
  · exact hh.elim
theorem oq_ninT (hu : X.A.units + 65 < cLine) : OpQ X (compareOp .NotIn) aNinT := by
  refine ⟨_, op_notInTD hu, fun C L Mo H m x y v w Q AQ hK b r1 r2 k hh => ?_⟩
  unfold aNinT at hh
  split at hh
  · rename_i d ds e1 e2
    have e3 := tupA_eq e2
    subst e3
    have nd : (PyData.tuple ds).hasDict = false := shaped_noDict hh.2.1
    refine ⟨d, ds, Dq.toDp _ _ (shaped_noDict hh.1) (hK ▸ datA_ok b r1 e1), hK ▸ Dq.toDp _ _ nd (Dq.mono hid_same _ _ r2), hh.1, hh.2.1, k.ret hh.2.2 b (.bl _)⟩
  · exact hh.elim
end
/-! ### sizes of great numbers -/
def Bd (k : Nat) (i : Int) : Prop := i.natAbs < 2 ^ k
theorem Bd.le {a b : Nat} {i : Int} (h : Bd a i) (hab : a ≤ b) : Bd b i := Nat.lt_of_lt_of_le h (Nat.pow_le_pow_right (by decide) hab)
theorem Bd.mul {a b : Nat} {i j : Int} (h : Bd a i) (g : Bd b j) : Bd (a + b) (i * j) := by
  unfold Bd at *
  rw [Int.natAbs_mul, Nat.pow_add]
  exact Nat.mul_lt_mul'' h g
theorem Bd.add {a : Nat} {i j : Int} (h : Bd a i) (g : Bd a j) : Bd (a + 1) (i + j) := by
  unfold Bd at *
  rw [Nat.pow_succ]
  omega
theorem Bd.sub {a : Nat} {i j : Int} (h : Bd a i) (g : Bd a j) : Bd (a + 1) (i - j) := by
  unfold Bd at *
  rw [Nat.pow_succ]
  omega
theorem Bd.neg {a : Nat} {i : Int} (h : Bd a i) : Bd a (-i) := by
  unfold Bd at *
  omega
theorem Bd.of64 {i : Int} (h1 : -18446744073709551616 < i) (h2 : i < 18446744073709551616) : Bd 64 i := by
  unfold Bd
  have e : (2 : Nat) ^ 64 = 18446744073709551616 := by decide
  omega
theorem Bd.log {k : Nat} {i : Int} (h : Bd k i) : i.natAbs.log2 ≤ k := by
  by_cases h0 : i.natAbs = 0
  · rw [h0]; exact Nat.zero_le _
  · exact Nat.le_of_lt ((Nat.log2_lt h0).mpr h)
theorem Bd.log_lt {k n : Nat} {i : Int} (h : Bd k i) (hk : k < n) : i.natAbs.log2 < n := Nat.lt_of_le_of_lt h.log hk
theorem MulOk.bd {a b : Nat} {i j : Int} (h : Bd a i) (g : Bd b j) (hs : a + b < 1000000) : MulOk i j := by
  have h1 := h.log
  have h2 := g.log
  exact .inr (show i.natAbs.log2 + j.natAbs.log2 < 1000000 by omega)
/-! ### a look behind a put -/
theorem valD_nil {κ : Type} [DecidableEq κ] (k : κ) : valD ([] : List (κ × D)) k = none := rfl
theorem valD_cons {κ : Type} [DecidableEq κ] (p : κ × D) (r : List (κ × D)) (k : κ) : valD (p :: r) k = if p.1 = k then some p.2 else valD r k := by
  unfold valD
  rw [List.find?_cons]
  by_cases h : p.1 = k <;> simp [h]
theorem valD_append {κ : Type} [DecidableEq κ] (l r : List (κ × D)) (k : κ) : valD (l ++ r) k = (valD l k).or (valD r k) := by
  induction l with
  | nil => rfl
  | cons p l ih =>
    rw [List.cons_append, valD_cons, valD_cons, ih]
    by_cases h : p.1 = k <;> simp [h]
theorem valD_none {κ : Type} [DecidableEq κ] {l : List (κ × D)} {k : κ} (h : ¬ (l.any fun kv => decide (kv.1 = k)) = true) : valD l k = none := by
  induction l with
  | nil => rfl
  | cons p l ih =>
    rw [List.any_cons, Bool.or_eq_true, not_or] at h
    rw [valD_cons, if_neg (fun e => h.1 (decide_eq_true e))]
    exact ih h.2
theorem valD_map {κ : Type} [DecidableEq κ] (l : List (κ × D)) (k k' : κ) (v : D) : valD (l.map fun kv => if kv.1 = k then (kv.1, v) else kv) k' = if k = k' then (if (l.any fun kv => decide (kv.1 = k)) = true then some v else none) else valD l k' := by
  induction l with
  | nil => by_cases h : k = k' <;> simp [h, valD_nil]
  | cons p l ih =>
    rw [List.map_cons, valD_cons, ih, List.any_cons, valD_cons]
    by_cases h1 : p.1 = k
    · simp only [h1, if_true, decide_true, Bool.true_or]
      by_cases h2 : k = k' <;> simp [h2]
    · simp only [h1, if_false, decide_false, Bool.false_or]
      by_cases h2 : k = k'
      · subst h2
        simp [h1]
      · by_cases h3 : p.1 = k' <;> simp [h2, h3]
theorem valD_putD {κ : Type} [DecidableEq κ] (l : List (κ × D)) (k k' : κ) (v : D) : valD (putD l k v) k' = if k = k' then some v else valD l k' := by
  unfold putD
  by_cases h : (l.any fun kv => decide (kv.1 = k)) = true
  · rw [if_pos h, valD_map, if_pos h]
  · rw [if_neg h, valD_append, valD_cons, valD_nil]
    by_cases e : k = k'
    · subst e
      rw [valD_none h, if_pos rfl]; rfl
    · rw [if_neg e, if_neg e]
      cases valD l k' <;> rfl
theorem putD_len {κ : Type} [DecidableEq κ] (l : List (κ × D)) (k : κ) (v : D) : (putD l k v).length ≤ l.length + 1 := by
  unfold putD
  split
  · rw [List.length_map]; omega
  · rw [List.length_append]; exact Nat.le_refl _
/-! ### places that are told -/
theorem atD_0 (a0 : D) (l : List D) : atD (a0 :: l) 0 = some a0 := rfl
theorem atD_1 (a0 a1 : D) (l : List D) : atD (a0 :: a1 :: l) 1 = some a1 := rfl
theorem atD_2 (a0 a1 a2 : D) (l : List D) : atD (a0 :: a1 :: a2 :: l) 2 = some a2 := rfl
theorem atD_3 (a0 a1 a2 a3 : D) (l : List D) : atD (a0 :: a1 :: a2 :: a3 :: l) 3 = some a3 := rfl
theorem atD_4 (a0 a1 a2 a3 a4 : D) (l : List D) : atD (a0 :: a1 :: a2 :: a3 :: a4 :: l) 4 = some a4 := rfl
theorem atD_5 (a0 a1 a2 a3 a4 a5 : D) (l : List D) : atD (a0 :: a1 :: a2 :: a3 :: a4 :: a5 :: l) 5 = some a5 := rfl
theorem atD_6 (a0 a1 a2 a3 a4 a5 a6 : D) (l : List D) : atD (a0 :: a1 :: a2 :: a3 :: a4 :: a5 :: a6 :: l) 6 = some a6 := rfl
theorem atD_7 (a0 a1 a2 a3 a4 a5 a6 a7 : D) (l : List D) : atD (a0 :: a1 :: a2 :: a3 :: a4 :: a5 :: a6 :: a7 :: l) 7 = some a7 := rfl
theorem atD_8 (a0 a1 a2 a3 a4 a5 a6 a7 a8 : D) (l : List D) : atD (a0 :: a1 :: a2 :: a3 :: a4 :: a5 :: a6 :: a7 :: a8 :: l) 8 = some a8 := rfl
theorem atD_9 (a0 a1 a2 a3 a4 a5 a6 a7 a8 a9 : D) (l : List D) : atD (a0 :: a1 :: a2 :: a3 :: a4 :: a5 :: a6 :: a7 :: a8 :: a9 :: l) 9 = some a9 := rfl
theorem atD_10 (a0 a1 a2 a3 a4 a5 a6 a7 a8 a9 a10 : D) (l : List D) : atD (a0 :: a1 :: a2 :: a3 :: a4 :: a5 :: a6 :: a7 :: a8 :: a9 :: a10 :: l) 10 = some a10 := rfl
theorem atD_11 (a0 a1 a2 a3 a4 a5 a6 a7 a8 a9 a10 a11 : D) (l : List D) : atD (a0 :: a1 :: a2 :: a3 :: a4 :: a5 :: a6 :: a7 :: a8 :: a9 :: a10 :: a11 :: l) 11 = some a11 := rfl
theorem atD_12 (a0 a1 a2 a3 a4 a5 a6 a7 a8 a9 a10 a11 a12 : D) (l : List D) : atD (a0 :: a1 :: a2 :: a3 :: a4 :: a5 :: a6 :: a7 :: a8 :: a9 :: a10 :: a11 :: a12 :: l) 12 = some a12 := rfl
theorem atD_neg1 (ds : List D) : atD ds (-1) = ds.getLast? := by
  unfold atD
  rw [if_neg (by decide), List.getLast?_eq_getElem?]
  by_cases h : -(ds.length : Int) ≤ -1
  · rw [if_pos h]
    congr 1
    omega
  · rw [if_neg h]
    have : ds.length = 0 := by omega
    rw [List.length_eq_zero_iff.mp this]; rfl
end QL

namespace QL
open PySem PySem.Spec PyProof.Rows L2 RZ

section
variable {X : Cx}
/-! ### names of built-in types; isinstance -/
def aTy (T : String) : ATE := fun a Q => Q (.ty T) a.m
theorem q_ty {x : Str} {T : String} {pos : Pos} (hg : Gl X x) (hm : X.mg x = none) (hv : bootBuiltins x = some (.type T)) (hn : x ≠ "__name__" := by decide) (hd : (x == ("__debug__" : Str)) = false := by decide) : QE X (.Name x pos) (aTy T) := fun C hK =>
  PE.imp (pe_bltn (v := .ty T) hg hm hv rfl hn hd) fun σ H Q ⟨a, L, Mo, AQ, r, k, h⟩ => k.ret h r.b rfl
def tyD : D → String
  | .none => "NoneType"
  | .bool _ => "bool"
  | .int _ => "int"
  | .str _ => "str"
  | .list _ => "list"
  | .tuple _ => "tuple"
  | .dict _ => "dict"
def tyA (m : Mm) : AV → Option String
  | .d x => some (tyD x)
  | .o j => match m.o[j]? with
    | some (.l _) => some "list"
    | some _ => some "dict"
    | none => none
  | .kt _ => some "tuple"
  | .dt _ => some "dict"
  | _ => none
theorem tyX_tup {K : PySem.W.Frag} {H : Hp} {a : Addr} {xs : List V} (h : SqT K H a xs) : TyX K H (.ref a) (.type "tuple") := by
  rcases h with (h | ⟨o, h⟩) | ⟨o, its, n, h, hc, _⟩
  · exact .base (.tup h)
  · exact .fTuple h
  · exact .kTuple h hc
theorem tyA_ok {C : Ct} {m : Mm} {L Mo : List Addr} {H : Hp} {x : AV} {v : V} {T : String} (b : B C m L Mo H) (r : AVR C L Mo H x v) (h : tyA m x = some T) : TyX C.K H v (.type T) := by
  cases x with
  | d y =>
    cases h
    cases r with
    | non => exact .base .non
    | bl b => exact .base (.bl b)
    | int i => exact .base (.int i)
    | str x => exact .base (.str x)
    | lst h1 h2 => exact .base (.lst (hid_some h1).2)
    | tup h1 h2 => exact tyX_tup (same_tup hid_same h1)
    | dk h1 h2 => exact .base (.dK (hid_some h1).2)
  | o j =>
    simp only [tyA] at h
    split at h
    · rename_i ds e
      cases h
      obtain ⟨l, rfl, _, ys, h3, h4⟩ := o_at b r e
      exact .base (.lst h3)
    · rename_i o ho e
      cases h
      obtain ⟨l, rfl, _, h3⟩ := o_at b r e
      cases o with
      | l ds => exact (ho ds rfl).elim
      | kd kvs => obtain ⟨ys, h3, _⟩ := h3; exact .base (.dK h3)
      | td kvs => obtain ⟨ys, h3, _⟩ := h3; exact .base (.dT h3)
    · cases h
  | src => simp [tyA] at h
  | cells => simp [tyA] at h
  | scr ns => simp [tyA] at h
  | kt ks => cases h; obtain ⟨a, rfl, q⟩ := r; exact .base (.tup (hid_some q).2)
  | dt kvs => cases h; obtain ⟨a, ys, rfl, q, _⟩ := r; exact .base (.dT (hid_some q).2)
  | ty n => simp [tyA] at h
  | ad n => simp [tyA] at h
def isiT (t T : String) : Bool := t == T || (t == "bool" && T == "int")
def tysOk : List String := ["NoneType", "bool", "int", "str", "list", "tuple", "dict"]
theorem kit_isi {K : PySem.W.Frag} : ∀ t ∈ tysOk, ∀ T ∈ tysOk, PySem.W.kitOne K (.type t) (.type T) = some (isiT t T) := by
  intro t ht T hT
  simp only [tysOk, List.mem_cons, List.not_mem_nil, or_false] at ht hT
  rcases ht with rfl | rfl | rfl | rfl | rfl | rfl | rfl <;> rcases hT with rfl | rfl | rfl | rfl | rfl | rfl | rfl <;> rfl
theorem tyA_mem {m : Mm} {x : AV} {T : String} (h : tyA m x = some T) : T ∈ tysOk := by
  cases x with
  | d y => cases h; cases y <;> simp [tyD, tysOk]
  | o j =>
    simp only [tyA] at h
    split at h
    · cases h; decide
    · cases h; decide
    · cases h
  | src => simp [tyA] at h
  | cells => simp [tyA] at h
  | scr ns => simp [tyA] at h
  | kt ks => cases h; decide
  | dt kvs => cases h; decide
  | ty n => simp [tyA] at h
  | ad n => simp [tyA] at h
def bIsi : AC1 := fun avs m Q => match avs with
  | [x, .ty T] => match tyA m x with
    | some t => T ∈ tysOk ∧ Q (.d (.bool (isiT t T))) m
    | none => False
  | _ => False
theorem cq_isi : CallQ X (.builtin "isinstance") bIsi := by
  refine ⟨_, call_isi, fun C L Mo H m avs vs Q AQ hK b r k hh => ?_⟩
  unfold bIsi at hh
  split at hh
  · rename_i x T
    split at hh
    · rename_i t e
      obtain ⟨v, w, rfl, rv, rw_⟩ := av2 r
      have hw : w = .ty T := rw_
      subst hw
      exact ⟨v, .ty T, .type t, .type T, _, rfl, .ty T, hK ▸ tyA_ok b rv e, kit_isi t (tyA_mem e) T hh.1, k.ret hh.2 b (.bl _)⟩
    · exact hh.elim
  · exact hh.elim
/-! ### all, any, sorted, max, min, str -/
def boolsD : List D → Option (List Bool)
  | [] => some []
  | .bool b :: r => match boolsD r with
    | some l => some (b :: l)
    | none => none
  | _ => none
theorem boolsD_ok : ∀ {ds : List D} {bs : List Bool}, boolsD ds = some bs → ds = bs.map PyData.bool
  | [], _, e => by cases e; rfl
  | .bool b :: r, _, e => by
    simp only [boolsD] at e
    split at e
    · rename_i l e2; cases e; rw [boolsD_ok e2]; rfl
    · cases e
  | .none :: r, _, e => by simp [boolsD] at e
  | .int _ :: r, _, e => by simp [boolsD] at e
  | .str _ :: r, _, e => by simp [boolsD] at e
  | .list _ :: r, _, e => by simp [boolsD] at e
  | .tuple _ :: r, _, e => by simp [boolsD] at e
  | .dict _ :: r, _, e => by simp [boolsD] at e
theorem boolsD_map : ∀ bs : List Bool, boolsD (bs.map PyData.bool) = some bs
  | [] => rfl
  | b :: r => by rw [List.map_cons]; unfold boolsD; rw [boolsD_map r]
def bAll : AC1 := fun avs m Q => match avs with
  | [x] => match lstA m x with
    | some ds => match boolsD ds with
      | some bs => Q (.d (.bool (bs.all id))) m
      | none => False
    | none => False
  | _ => False
theorem cq_all (hc : X.calm = true) : CallQ X (.builtin "all") bAll := by
  refine ⟨_, cr_all hc, fun C L Mo H m avs vs Q AQ hK b r k hh => ?_⟩
  unfold bAll at hh
  split at hh
  · split at hh
    · rename_i ds e
      split at hh
      · rename_i bs e2
        obtain ⟨v, rfl, rv⟩ := av1 r
        obtain ⟨l, xs, rfl, h1, h2⟩ := lstA_ok b rv e
        have e3 := boolsD_ok e2
        subst e3
        have := DqAll.bls h2
        subst this
        exact ⟨l, bs, rfl, SqL.of h1, k.ret hh b (.bl _)⟩
      · exact hh.elim
    · exact hh.elim
  · exact hh.elim
def bAny : AC1 := fun avs m Q => match avs with
  | [x] => match lstA m x with
    | some ds => match boolsD ds with
      | some bs => Q (.d (.bool (bs.any id))) m
      | none => False
    | none => False
  | _ => False
theorem cq_any (hc : X.calm = true) : CallQ X (.builtin "any") bAny := by
  refine ⟨_, cr_any hc, fun C L Mo H m avs vs Q AQ hK b r k hh => ?_⟩
  unfold bAny at hh
  split at hh
  · split at hh
    · rename_i ds e
      split at hh
      · rename_i bs e2
        obtain ⟨v, rfl, rv⟩ := av1 r
        obtain ⟨l, xs, rfl, h1, h2⟩ := lstA_ok b rv e
        have e3 := boolsD_ok e2
        subst e3
        have := DqAll.bls h2
        subst this
        exact ⟨l, bs, rfl, SqL.of h1, k.ret hh b (.bl _)⟩
      · exact hh.elim
    · exact hh.elim
  · exact hh.elim
def intsL (m : Mm) (x : AV) : Option (List Int) := match lstA m x with
  | some ds => intsD ds
  | none => none
theorem intsL_ok {C : Ct} {m : Mm} {L Mo : List Addr} {H : Hp} {x : AV} {v : V} {ns : List Int} (b : B C m L Mo H) (r : AVR C L Mo H x v) (h : intsL m x = some ns) : ∃ l, v = .ref l ∧ H l = some (.lst (ns.map V.int)) := by
  unfold intsL at h
  split at h
  · rename_i ds e
    obtain ⟨l, xs, rfl, h1, h2⟩ := lstA_ok b r e
    have e3 := intsD_ok h2 h
    subst e3
    exact ⟨l, rfl, h1⟩
  · cases h
def bSorted : AC1 := fun avs m Q => match avs with
  | [x] => match intsL m x with
    | some ns => ∀ ns' : List Int, ns'.Perm ns → ns'.Pairwise (· ≤ ·) → Q (.d (.list (ns'.map PyData.int))) m
    | none => False
  | _ => False
theorem cq_sorted : CallQ X (.builtin "sorted") bSorted := by
  refine ⟨_, cr_sortedI, fun C L Mo H m avs vs Q AQ hK b r k hh => ?_⟩
  unfold bSorted at hh
  split at hh
  · split at hh
    · rename_i ns e
      obtain ⟨v, rfl, rv⟩ := av1 r
      obtain ⟨l, rfl, h1⟩ := intsL_ok b rv e
      exact ⟨l, ns, rfl, SqL.of h1, fun ns' p h2 h3 hp => k.lst b hp (DqAll.ofInts ns') (hh ns' h2 h3)⟩
    · exact hh.elim
  · exact hh.elim
def bMaxL : AC1 := fun avs m Q => match avs with
  | [x] => match intsL m x with
    | some ns => 0 < ns.length ∧ ∀ k, k ∈ ns → (∀ y, y ∈ ns → y ≤ k) → Q (.d (.int k)) m
    | none => False
  | _ => False
theorem cq_maxL (hc : X.calm = true) : CallQ X (.builtin "max") bMaxL := by
  refine ⟨_, cr_max hc, fun C L Mo H m avs vs Q AQ hK b r k hh => ?_⟩
  unfold bMaxL at hh
  split at hh
  · split at hh
    · rename_i ns e
      obtain ⟨v, rfl, rv⟩ := av1 r
      obtain ⟨l, rfl, h1⟩ := intsL_ok b rv e
      exact ⟨l, ns, rfl, SqL.of h1, hh.1, fun j h2 h3 => k.ret (hh.2 j h2 h3) b (.int _)⟩
    · exact hh.elim
  · exact hh.elim
def bMinL : AC1 := fun avs m Q => match avs with
  | [x] => match intsL m x with
    | some ns => 0 < ns.length ∧ ∀ k, k ∈ ns → (∀ y, y ∈ ns → k ≤ y) → Q (.d (.int k)) m
    | none => False
  | _ => False
theorem cq_minL (hc : X.calm = true) : CallQ X (.builtin "min") bMinL := by
  refine ⟨_, cr_min hc, fun C L Mo H m avs vs Q AQ hK b r k hh => ?_⟩
  unfold bMinL at hh
  split at hh
  · split at hh
    · rename_i ns e
      obtain ⟨v, rfl, rv⟩ := av1 r
      obtain ⟨l, rfl, h1⟩ := intsL_ok b rv e
      exact ⟨l, ns, rfl, SqL.of h1, hh.1, fun j h2 h3 => k.ret (hh.2 j h2 h3) b (.int _)⟩
    · exact hh.elim
  · exact hh.elim
def bStr : AC1 := fun avs m Q => match avs with
  | [.d (.int i)] => i.natAbs.log2 < 1920 ∧ Q (.d (.str (toString i))) m
  | _ => False
theorem cq_str : CallQ X (.type "str") bStr := by
  refine ⟨_, call_str_int, fun C L Mo H m avs vs Q AQ hK b r k hh => ?_⟩
  unfold bStr at hh
  split at hh
  · obtain ⟨v, rfl, rv⟩ := av1 r
    exact ⟨_, by rw [dq_int rv], hh.1, k.ret hh.2 b (.str _)⟩
  · exact hh.elim
/-! ### is, is not -/
def noneA : AV → Option Bool
  | .d .none => some true
  | .d _ => some false
  | .o _ => some false
  | .kt _ => some false
  | .dt _ => some false
  | _ => none
theorem noneA_ok {C : Ct} {L Mo : List Addr} {H : Hp} {x : AV} {v : V} {k : Bool} (r : AVR C L Mo H x v) (h : noneA x = some k) : decide (v = .non) = k := by
  cases x with
  | d y =>
    cases r <;> (simp only [noneA] at h; cases h) <;> rfl
  | o j => cases h; obtain ⟨l, _, rfl⟩ := r; rfl
  | src => simp [noneA] at h
  | cells => simp [noneA] at h
  | scr ns => simp [noneA] at h
  | kt ks => cases h; obtain ⟨a, rfl, q⟩ := r; rfl
  | dt kvs => cases h; obtain ⟨a, ys, rfl, q, _⟩ := r; rfl
  | ty n => simp [noneA] at h
  | ad n => simp [noneA] at h
def aIsN : AR2 := fun x y m Q => match y, noneA x with
  | .d .none, some b => Q (.d (.bool b)) m
  | _, _ => False
theorem oq_isN : OpQ X (compareOp .Is) aIsN := by
  refine ⟨_, op_isN, fun C L Mo H m x y v w Q AQ hK b r1 r2 k hh => ?_⟩
  unfold aIsN at hh
  split at hh
  · rename_i c e
    cases r2
    exact ⟨rfl, by rw [noneA_ok r1 e]; exact k.ret hh b (.bl _)⟩
  · exact hh.elim
def aNotN : AR2 := fun x y m Q => match y, noneA x with
  | .d .none, some b => Q (.d (.bool (!b))) m
  | _, _ => False
theorem oq_notN : OpQ X (compareOp .IsNot) aNotN := by
  refine ⟨_, op_notN, fun C L Mo H m x y v w Q AQ hK b r1 r2 k hh => ?_⟩
  unfold aNotN at hh
  split at hh
  · rename_i c e
    cases r2
    exact ⟨rfl, by rw [noneA_ok r1 e]; exact k.ret hh b (.bl _)⟩
  · exact hh.elim
def aIsB : AR2 := fun x y m Q => match x, y with
  | .d (.bool a), .d (.bool b) => Q (.d (.bool (decide (a = b)))) m
  | _, _ => False
theorem oq_isB : OpQ X (compareOp .Is) aIsB := by
  refine ⟨_, op_isBl, fun C L Mo H m x y v w Q AQ hK b r1 r2 k hh => ?_⟩
  unfold aIsB at hh
  split at hh
  · cases r1; cases r2
    exact ⟨_, _, rfl, rfl, k.ret hh b (.bl _)⟩
  · exact hh.elim
def aNotB : AR2 := fun x y m Q => match x, y with
  | .d (.bool a), .d (.bool b) => Q (.d (.bool (!decide (a = b)))) m
  | _, _ => False
theorem oq_notB : OpQ X (compareOp .IsNot) aNotB := by
  refine ⟨_, op_notBl, fun C L Mo H m x y v w Q AQ hK b r1 r2 k hh => ?_⟩
  unfold aNotB at hh
  split at hh
  · cases r1; cases r2
    exact ⟨_, _, rfl, rfl, k.ret hh b (.bl _)⟩
  · exact hh.elim
/-! ### bit_length -/
variable {o e : Expr} {to te : ATE} {apos pos : Pos}
def aBits (to : ATE) : ATE := fun a Q => to a fun x m => match x with
  | .d (.int i) => Q (.d (.int (Builtin.Int.intBits i : Nat))) m
  | _ => False
theorem q_bits (ho : QE X o to) (hbase : attributeBase o "bit_length" X.env (eval o X.env) = eval o X.env := by rfl) (hline : (apos.endLine == pos.line) = true := by rfl) : QE X (.Call (.Attribute o "bit_length" apos) [] [] pos) (aBits to) := fun C hK =>
  PE.imp (pe_bits (ho C hK) hbase hline) fun σ H Q ⟨a, L, Mo, AQ, r, k, h⟩ => by
    refine ⟨a, L, Mo, _, r, fun x m1 v L1 Mo1 H1 h1 b1 v1 e1 => ?_, h⟩
    split at h1
    · exact ⟨_, dq_int v1, (k.aft e1).ret h1 b1 (.int _)⟩
    · exact h1.elim
/-! ### tuple * n -/
def aRep : AR2 := fun x y m Q => match x, y with
  | .d (.tuple ds), .d (.int k) => ds ≠ [] ∧ 2 ≤ k ∧ k ≤ 1000 ∧ ds.length ≤ 1000 ∧ Q (.d (.tuple (List.replicate k.toNat ds).flatten)) m
  | _, _ => False
theorem oq_rep : OpQ X (binaryOp .Mult) aRep := by
  refine ⟨_, op_repT, fun C L Mo H m x y v w Q AQ hK b r1 r2 k hh => ?_⟩
  unfold aRep at hh
  split at hh
  · rename_i ds i
    obtain ⟨l1, vs, rfl, h1, h2⟩ := tupA_ok (ds := ds) r1 rfl
    have hw := dq_int r2
    subst hw
    have hl := h2.len
    refine ⟨l1, i, vs, rfl, rfl, hK ▸ h1, fun e => hh.1 ?_, hh.2.1, hh.2.2.1, by rw [hl]; exact hh.2.2.2.1, fun p hp => k.tup b hp (h2.rep i.toNat) hh.2.2.2.2⟩
    rw [e] at hl
    exact List.length_eq_zero_iff.mp hl.symm
  · exact hh.elim
/-! ### xs[i] = v -/
variable {i value : Expr} {ti tv : ATE} {tpos : Pos}
def aLput (to ti tv : ATE) : ATS := fun E a => tv a fun v m1 => to ⟨a.g, m1⟩ fun x m2 => ti ⟨a.g, m2⟩ fun y m3 => match x, y, v with
  | .o j, .d (.int k), .d d => match m3.o[j]? with
    | some (.l ds) => match ixN ds.length k with
      | some p => E.nx ⟨a.g, ⟨m3.s, m3.o.set j (.l (ds.set p d))⟩⟩
      | none => False
    | _ => False
  | _, _, _ => False
theorem qs_lput (ho : QE X o to) (hi : QE X i ti) (hv : QE X value tv) (hs : swapsWithSole [.Subscript o i tpos] value pos.line X.env = pure false := by rfl) (hw : swappedStores [.Subscript o i tpos] value X.env = pure none := by rfl)
    (h1 : (assignEach [.Subscript o i tpos] X.env).map (·.2) = [assign (.Subscript o i tpos) X.env] := by rfl)
    (ha : ∀ v, assign (.Subscript o i tpos) X.env v = (do
      let ov ← holding [v] (eval o X.env)
      let iv ← holding [v, ov] (eval i X.env)
      standAt tpos
      holding [v, ov, iv] (setItem ov iv v)
      release [v, ov, iv] []) := by intro _; rfl) :
    QS X (.Assign [.Subscript o i tpos] value pos) (aLput to ti tv) := fun C hK => PS.imp (ps_asg (hv C hK) (pg_sub (ho C hK) (hi C hK) set_list ha) hs hw h1) fun D σ H ⟨a, L, Mo, AD, r, b, h⟩ => by
  refine ⟨a, L, Mo, _, r, fun v m1 w L1 Mo1 H1 h1 b1 w1 e1 => ⟨⟨a.g, m1⟩, L1, Mo1, _, r.next b1 e1, fun x m2 u L2 Mo2 H2 h2 b2 v2 e2 => ⟨⟨a.g, m2⟩, L2, Mo2, _, (r.next b1 e1).next b2 e2, fun y m3 z L3 Mo3 H3 h3 b3 z3 e3 => ?_, h2⟩, h1⟩, h⟩
  have r3 := ((r.next b1 e1).next b2 e2).next b3 e3
  split at h3
  · rename_i j kk d
    have hw : Dq C.K (C.hd L3 Mo3 H3) w d := (w1.mono e2).mono e3
    split at h3
    · rename_i ds e
      split at h3
      · rename_i p ep
        obtain ⟨l, rfl, hl, ys, h4, h5⟩ := o_at b3 (v2.mono e3) e
        have hz := dq_int z3
        subst hz
        refine ⟨l, ys, kk, p, rfl, rfl, h4, by rw [h5.len]; exact ep, b.nx _ _ _ _ _ h3 (r3.next (b3.upd hl fun h e => ⟨_, upd_same, by rw [e]; exact h5.setAt p hw⟩) (X2.upd (List.mem_of_getElem? hl)))⟩
      · exact h3.elim
    · exact h3.elim
  · exact h3.elim
end
end QL

namespace QL
open PySem PySem.Spec PyProof.Rows L2 RZ

/-! ### t[::-1], t a tuple -/
section
variable {prog : Program} {w : World} {A : Around} {E : Value → Shared → Prop} {s : Shared}
theorem applied_rev {sl : Addr} {vs : Value} {n : Nat} {Q : Int × Int × Nat → Shared → Prop} (hs : s.heap.IsSliceOf sl .none .none vs) (ps : IsPart vs (some (-1))) (h : Q ((n : Int) - 1, -1, n) s) :
    wpAny (model prog w) A (Builtin.Slice.sliceApplied (.ref sl) (pure (n : Int))) Q E s := by
  obtain ⟨os, hos, hcs, hds⟩ := id hs
  unfold Builtin.Slice.sliceApplied Builtin.Slice.sliceFields
  refine wpAny_bind (wpAny_bind (wpAny_field hos hds (x := .none) rfl (wpAny_bind (wpAny_field hos hds (x := .none) rfl (wpAny_bind (wpAny_field hos hds (x := vs) rfl (wpAny_pure ?_)))))))
  refine wpAny_bind (HT.slicePart_ ps ?_)
  show wpAny _ _ (if ((-1 : Int) == 0) = true then _ else _) _ _ s
  rw [if_neg (by decide)]
  refine wpAny_bind (HT.slicePart_ .none (wpAny_bind (HT.slicePart_ .none (wpAny_bind (wpAny_pure ?_)))))
  show wpAny _ _ (match Builtin.Slice.sliceAdjust none none (-1) (n : Int) with | (lo, hi) => pure (lo, (-1 : Int), Builtin.Slice.slicePlaces lo hi (-1))) _ _ s
  have e : Builtin.Slice.sliceAdjust none none (-1) (n : Int) = ((n : Int) - 1, -1) := rfl
  rw [e]
  have e2 : Builtin.Slice.slicePlaces ((n : Int) - 1) (-1) (-1) = n := by
    unfold Builtin.Slice.slicePlaces
    rw [if_neg (by decide)]
    by_cases h0 : n = 0
    · subst h0; rfl
    · rw [if_pos (by omega)]
      have : ((n : Int) - 1 - -1 - 1) / (- -1) + 1 = n := by
        rw [show (- -1 : Int) = 1 from rfl, Int.ediv_one]; omega
      rw [this]; exact Int.toNat_natCast n
  show wpAny _ _ (pure ((n : Int) - 1, (-1 : Int), Builtin.Slice.slicePlaces ((n : Int) - 1) (-1) (-1))) _ _ s
  rw [e2]
  exact wpAny_pure h
theorem pick_rev (l : List Value) : ((List.range l.length).filterMap fun (k : Nat) => l.toArray[((l.length : Int) - 1 + (k : Int) * -1).toNat]?) = l.reverse := by
  apply List.ext_getElem?
  intro i
  have e : ∀ k ∈ List.range l.length, l.toArray[((l.length : Int) - 1 + (k : Int) * -1).toNat]? = some ((fun k => l.getD (l.length - 1 - k) .none) k) := by
    intro k hk
    have hk' : k < l.length := List.mem_range.mp hk
    have : ((l.length : Int) - 1 + (k : Int) * -1).toNat = l.length - 1 - k := by omega
    rw [this]
    simp [List.getD, List.getElem?_eq_getElem (show l.length - 1 - k < l.length by omega)]
  have e2 : (List.range l.length).filterMap (fun (k : Nat) => l.toArray[((l.length : Int) - 1 + (k : Int) * -1).toNat]?) = (List.range l.length).map fun k => l.getD (l.length - 1 - k) .none := by
    have go : ∀ (r : List Nat), (∀ k ∈ r, k ∈ List.range l.length) → r.filterMap (fun (k : Nat) => l.toArray[((l.length : Int) - 1 + (k : Int) * -1).toNat]?) = r.map fun k => l.getD (l.length - 1 - k) .none := by
      intro r
      induction r with
      | nil => intro _; rfl
      | cons k r ih =>
        intro h
        rw [List.filterMap_cons, e k (h k List.mem_cons_self), List.map_cons, ih fun j hj => h j (List.mem_cons_of_mem _ hj)]
    exact go _ fun _ h => h
  rw [e2, List.getElem?_map]
  by_cases hi : i < l.length
  · rw [List.getElem?_range hi, List.getElem?_reverse hi]
    simp [List.getD, List.getElem?_eq_getElem (show l.length - 1 - i < l.length by omega)]
  · rw [List.getElem?_eq_none (by simpa using hi), List.getElem?_eq_none (by simpa using hi)]; rfl
theorem getItem_tuple_rev {t sl : Addr} {l : List Value} {vs : Value} {Q : Value → Shared → Prop} (ht : IsTup s.heap t l.toArray) (hs : s.heap.IsSliceOf sl .none .none vs) (ps : IsPart vs (some (-1)))
    (h : Q (.ref s.heap.objs.size) { s with heap := s.heap.push { cls := .type "tuple", data := .seq l.reverse.toArray } }) (hsz : l.length ≤ sizeLine) : wpAny (model prog w) A (getItem (.ref t) (.ref sl)) Q E s := by
  have htake : sizeOk (.seq l.reverse.toArray) := by
    show l.reverse.toArray.size ≤ sizeLine
    simpa using hsz
  obtain ⟨os, hos, hcs, hds⟩ := id hs
  have hTs : s.TypeIs (.ref sl) "slice" := ⟨os, hos, hcs⟩
  unfold getItem
  try with_reducible refine wpAny_holding ?_
  first | refine wpAny_bind (wpAny_pure ?_) | skip
  refine wpAny_bind (wpAny_sequenceKey ht.typeIs (by decide) ?_)
  refine wpAny_bind (wpAny_callSpecial?_slot (name := Str.ofString "__getitem__") ht.typeIs PyProof.Rows.slot_tuple_getitem
    (wpAny_call_entry PyProof.Rows.slot_tuple_getitem ht.typeIs entry_tuple_getitem ?_ (args_tuple_getitem _ _)))
  show wpAny _ _ (Builtin.Tuple.tupleItemsOf (.ref t) >>= _) _ _ s
  refine wpAny_bind (PyProof.Rows.tupleItemsOf_ ht ?_)
  refine wpAny_bind (wpAny_typeOf hTs ?_)
  rw [if_pos (by decide)]
  refine wpAny_bind ?_
  have e0 : (pure ((l.toArray.size : Nat) : Int) : Sem Int) = pure (l.length : Int) := by simp
  rw [e0]
  refine applied_rev hs ps ?_
  have hno : ¬ (((l.length : Int) - 1 == 0 && (-1 : Int) == 1 && l.length == l.toArray.size) = true) := by
    intro q
    rw [Bool.and_eq_true, Bool.and_eq_true] at q
    exact absurd (eq_of_beq q.1.2) (by decide)
  show wpAny _ _ (if ((l.length : Int) - 1 == 0 && (-1 : Int) == 1 && l.length == l.toArray.size) = true then _ else _) _ _ s
  rw [if_neg hno, pick_rev]
  first
    | exact wpAny_bind (m := Builtin.Tuple.tupleExact _) (wpAny_newObj_type (wpAny_pure ⟨_, rfl, wpAny_pure h⟩) htake)
    | exact wpAny_bind (m := Builtin.Tuple.tupleExact _) (wpAny_newObj_type (wpAny_bind (wpAny_pure (wpAny_pure ⟨_, rfl, wpAny_pure h⟩))) htake)
    | exact wpAny_bind (wpAny_bind (m := Builtin.Tuple.tupleExact _) (wpAny_newObj_type (wpAny_pure (wpAny_pure ⟨_, rfl, wpAny_pure h⟩)) htake))
    | exact wpAny_bind (wpAny_bind (m := Builtin.Tuple.tupleExact _) (wpAny_newObj_type (wpAny_pure ⟨_, rfl, wpAny_pure h⟩) htake))
end
section
variable {X : Cx} {e : Expr} {te : ATE}
theorem pe_revT {te : TE} {k : Nat} {p1 p2 p3 pos : Pos} (he : PE X e te) : PE X (.Subscript e (.Slice none none (some (.UnaryOp .USub (.Constant (.int 1) k p1) p2)) p3) pos)
    (fun σ H Q => te σ H fun x H1 => ∃ a xs, x = .ref a ∧ SqT X.K H1 a xs ∧ ∀ p, H1 p = none → Q (.ref p) (upd H1 p (.tup xs.reverse))) := by
  refine ⟨fun pins s σ H Q I h => ?_⟩
  refine Subscript_ (thn (he.run pins s σ H _ I h) fun v s1 ⟨x, H1, I1, r1, q1⟩ => ?_)
  obtain ⟨a, xs, ex, hx, q⟩ := q1
  subst ex
  cases r1
  have hst : PO X (some (.UnaryOp .USub (.Constant (.int 1) k p1) p2)) (tPart (tUn (rU fun i => .int (-i)) (tC (.int 1)))) := po_some (pe_un un_neg pe_int)
  refine wpAny_Slice (thn (po_none.run pins s1 σ H1 (fun o H2 => o = none ∧ H2 = H1) I1 ⟨rfl, rfl⟩) fun vl s2 ⟨l, H2, I2, pl, el, e2⟩ => ?_)
  subst el e2
  refine thn (po_none.run pins s2 σ H2 (fun o H3 => o = none ∧ H3 = H2) I2 ⟨rfl, rfl⟩) fun vu s3 ⟨u, H3, I3, pu, eu, e3⟩ => ?_
  subst eu e3
  refine thn (hst.run pins s3 σ H3 (fun o H4 => o = some (-1) ∧ H4 = H3) I3 ⟨1, rfl, -1, rfl, rfl, rfl⟩) fun vs s4 ⟨o, H4, I4, ps, eo, e4⟩ => ?_
  subst eo e4
  cases pl
  cases pu
  have I5 : Inv X pins σ H4 { s4 with heap := s4.heap.push { cls := .type "slice", data := .fields #[.none, .none, vs] } } := I4.kept (t' := s4.toks) fun b ob q => Heap.get?_push_of_some _ q
  obtain ⟨its, r, ht, hz⟩ := I5.tuple hx
  have hlen := r.length
  show wpAny (model X.prog X.w) X.A (subscriptTail e (.Slice none none (some (.UnaryOp .USub (.Constant (.int 1) k p1) p2)) p3) (.ref a) (.ref s4.heap.objs.size)) (EP X pins σ Q) X.xe { s4 with heap := s4.heap.push { cls := .type "slice", data := .fields #[.none, .none, vs] } }
  refine tail_any (ops := [.ref a, .ref s4.heap.objs.size]) ht.typeIs (PyProof.Rows.slot_tuple_getitem.lookup) ?_ (by with_unfolding_all rfl)
  refine getItem_tuple_rev (l := its) ht (Heap.IsSliceOf.new _ .none .none vs) ps ?_ (by omega)
  refine ⟨.ref _, _, I5.laid (t' := s4.toks) (o := .tup xs.reverse) (fun b ob q => Heap.get?_push_of_some _ q) (Nat.le_refl _) ?_, rfl, q _ (I5.hok.fresh (Nat.le_refl _))⟩
  exact ⟨by rw [List.length_reverse]; exact hz, _, r.reverse, IsTup.new _ _⟩
def aRevT (te : ATE) : ATE := fun a Q => te a fun x m => match tupA x with
  | some ds => Q (.d (.tuple ds.reverse)) m
  | none => False
theorem q_revT {k : Nat} {p1 p2 p3 pos : Pos} (h : QE X e te) : QE X (.Subscript e (.Slice none none (some (.UnaryOp .USub (.Constant (.int 1) k p1) p2)) p3) pos) (aRevT te) := fun C hK => PE.imp (pe_revT (h C hK)) fun σ H Q ⟨a, L, Mo, AQ, r, k, h⟩ => by
  refine ⟨a, L, Mo, _, r, fun x m1 v L1 Mo1 H1 h1 b1 v1 e1 => ?_, h⟩
  split at h1
  · rename_i ds e
    obtain ⟨l, xs, rfl, h2, h3⟩ := tupA_ok v1 e
    exact ⟨l, xs, rfl, hK ▸ h2, fun p hp => (k.aft e1).tup b1 hp h3.rev h1⟩
  · exact h1.elim
end

/-! ### a dict of the module -/
def DictAt (K : PySem.W.Frag) (w : World) (mg : Str → Option Value) (x : Str) (tab : List (Str × Option D)) : Prop := ∃ (d : Addr) (es : Array DictEntry) (n : Nat), mg x = some (.ref d) ∧ KDict K w d es n ∧
  ∀ p ∈ tab, match p.2 with
    | none => PySem.W.nsIn K d p.1 = some none
    | some dd => ∃ (u : Value) (v : V), PySem.W.nsIn K d p.1 = some (some u) ∧ RelV v u ∧ ∀ H, Dq K H v dd
theorem tab_mem {tab : List (Str × Option D)} {z : Str} {r : Option D} (h : tab.lookup z = some r) : (z, r) ∈ tab := by
  induction tab with
  | nil => cases h
  | cons p l ih =>
    obtain ⟨k, v⟩ := p
    rw [List.lookup_cons] at h
    by_cases c : z = k
    · subst c
      rw [show (z == z) = true from beq_self_eq_true z] at h
      cases h; exact List.mem_cons_self
    · rw [show (z == k) = false from beq_eq_false_iff_ne.mpr c] at h
      exact List.mem_cons_of_mem _ (ih h)
section
variable {X : Cx} {e : Expr} {te : ATE} {x : Str} {p pos : Pos} {tab : List (Str × Option D)}
def aKin (tab : List (Str × Option D)) (te : ATE) : ATE := fun a Q => te a fun y m => match y with
  | .d (.str z) => match tab.lookup z with
    | some r => Q (.d (.bool r.isSome)) m
    | none => False
  | _ => False
def aKix (tab : List (Str × Option D)) (te : ATE) : ATE := fun a Q => te a fun y m => match y with
  | .d (.str z) => match tab.lookup z with
    | some (some d) => Q (.d d) m
    | _ => False
  | _ => False
theorem kin_imp {C : Ct} {d : Addr} {K : PySem.W.Frag} (hp : ∀ p ∈ tab, match p.2 with
    | none => PySem.W.nsIn K d p.1 = some none
    | some dd => ∃ (u : Value) (v : V), PySem.W.nsIn K d p.1 = some (some u) ∧ RelV v u ∧ ∀ H, Dq K H v dd) (σ : List (Option V)) (H : Hp) (Q : VK) (h : lft C (aKin tab te) σ H Q) :
    tOp (fun x y H Q => ∃ (z : Str) (r : Option Value), x = .str z ∧ y = .ref d ∧ PySem.W.nsIn K d z = some r ∧ Q (.bl r.isSome) H) (lft C te) (tC (.ref d)) σ H Q := by
  obtain ⟨a, L, Mo, AQ, rr, k, h⟩ := h
  refine ⟨a, L, Mo, _, rr, fun y m1 v L1 Mo1 H1 h1 b1 v1 e1 => ?_, h⟩
  split at h1
  · rename_i z
    split at h1
    · rename_i r e
      have q := hp _ (tab_mem e)
      cases r with
      | none => exact ⟨z, none, dq_str v1, rfl, q, (k.aft e1).ret h1 b1 (.bl _)⟩
      | some dd =>
        obtain ⟨u, v0, q1, q2, q3⟩ := q
        exact ⟨z, some u, dq_str v1, rfl, q1, (k.aft e1).ret h1 b1 (.bl _)⟩
    · exact h1.elim
  · exact h1.elim
theorem q_kin (D : DictAt X.K X.w X.mg x tab) (ha : QE X e te) (hg : Gl X x := by rfl) (hdb : (x == ("__debug__" : Str)) = false := by decide) (hm : behindInMarks .In (.Name x p) = false := by rfl) : QE X (.Compare e [.In] [.Name x p] pos) (aKin tab te) := fun C hK => by
  obtain ⟨d, es, n, h1, h2, h3⟩ := D
  exact PE.imp (pe_cmpR (op_in_kd h2) (ha C hK) (pe_glob (v := .ref d) hg h1 rfl hdb) hm) (kin_imp h3)
theorem qt_kin (D : DictAt X.K X.w X.mg x tab) (ha : QE X e te) (hg : Gl X x := by rfl) (hdb : (x == ("__debug__" : Str)) = false := by decide) (hm : behindInMarks .In (.Name x p) = false := by rfl) : QT X (.Compare e [.In] [.Name x p] pos) (aTest (aKin tab te)) := fun C hK => by
  obtain ⟨d, es, n, h1, h2, h3⟩ := D
  refine PT.imp (pt_cmpR (op_in_kd h2) (ha C hK) (pe_glob (v := .ref d) hg h1 rfl hdb) hm) fun σ H Q h => ?_
  have := test_imp σ H Q h
  obtain ⟨a, L, Mo, AQ, rr, k, h⟩ := this
  exact kin_imp h3 σ H _ ⟨a, L, Mo, AQ, rr, k, h⟩
theorem q_kix (D : DictAt X.K X.w X.mg x tab) (hi : QE X e te) (hg : Gl X x := by rfl) (hdb : (x == ("__debug__" : Str)) = false := by decide) (hs : NoSl e := by intro _ _; rfl) : QE X (.Subscript (.Name x p) e pos) (aKix tab te) := fun C hK => by
  obtain ⟨d, es, n, h1, h2, h3⟩ := D
  refine ⟨fun pins s σ H Q I h => ?_⟩
  refine subD_of PySem.F.slot_dict_getitem.lookup hs (thn ((pe_glob (v := .ref d) hg h1 rfl hdb).run pins s σ H (fun v H1 => v = .ref d ∧ H1 = H) I ⟨rfl, rfl⟩) fun u s1 ⟨x1, H1, I1, rx, e1, e2⟩ => ?_)
  subst e1; subst e2
  cases rx
  obtain ⟨a, L, Mo, AQ, rr, k, h⟩ := h
  refine thn ((hi C hK).run pins s1 σ H1 (fun y H2 => ∃ z dd u v, y = .str z ∧ PySem.W.nsIn X.K d z = some (some u) ∧ RelV v u ∧ (∀ H, Dq X.K H v dd) ∧ Q v H2) I1 ⟨a, L, Mo, _, rr, fun y m1 v L1 Mo1 H2 h1 b1 v1 e1 => ?_, h⟩) fun iv s2 ⟨y, H2, I2, ry, z, dd, u, v, ey, q1, q2, q3, q4⟩ => ?_
  · split at h1
    · rename_i z
      split at h1
      · rename_i dd e
        obtain ⟨u, v0, q1, q2, q3⟩ := h3 _ (tab_mem e)
        exact ⟨z, dd, u, v0, dq_str v1, q1, q2, q3, (k.aft e1).ret h1 b1 (by show Dq C.K _ _ _; rw [hK]; exact q3 _)⟩
      · exact h1.elim
    · exact h1.elim
  · subst ey
    exact ⟨kd_type h2 I2, op_item_kd h2 pins s2 σ H2 (.ref d) (.str z) _ _ _ I2 rfl ry ⟨z, u, v, rfl, rfl, q1, q2, q4⟩⟩
end
/-! ### xs[i], ys[j] = pair -/
section
variable {X : Cx} {e o i u j : Expr} {te to ti uo ui : ATE} {pos tp1 tp2 tp : Pos} {kk : Nat}
def lputK (to ti : ATE) (d : D) (a : AS) (K : Mm → Prop) : Prop := to a fun x m1 => ti ⟨a.g, m1⟩ fun y m2 => match x, y with
  | .o j, .d (.int k) => match m2.o[j]? with
    | some (.l ds) => match ixN ds.length k with
      | some p => K ⟨m2.s, m2.o.set j (.l (ds.set p d))⟩
      | none => False
    | _ => False
  | _, _ => False
def aLput2 (te to ti uo ui : ATE) : ATS := fun E a => te a fun x m => match x with
  | .d (.tuple [d, e]) => lputK to ti d ⟨a.g, m⟩ fun m' => lputK uo ui e ⟨a.g, m'⟩ fun m'' => E.nx ⟨a.g, m''⟩
  | _ => False
theorem lput_imp {C : Ct} {a : AS} {L Mo : List Addr} {σ : List (Option V)} {H : Hp} {d : D} {v : V} {K : Mm → Prop} {Q : L2.St → Hp → Prop} (r : R C a L Mo σ H) (hv : Dq C.K (C.hd L Mo H) v d) (h : lputK to ti d a K)
    (hq : ∀ m' L' Mo' H', K m' → R C ⟨a.g, m'⟩ L' Mo' σ H' → X2 C L Mo H L' Mo' H' → Q σ H') : gSub (lft C to) (lft C ti) rSetL v σ H Q := by
  refine ⟨a, L, Mo, _, r, fun x m1 ov L1 Mo1 H1 h1 b1 v1 e1 => ⟨⟨a.g, m1⟩, L1, Mo1, _, r.next b1 e1, fun y m2 iv L2 Mo2 H2 h2 b2 v2 e2 => ?_, h1⟩, h⟩
  split at h2
  · rename_i j kk
    split at h2
    · rename_i ds e
      split at h2
      · rename_i p ep
        obtain ⟨l, rfl, hl, ys, h4, h5⟩ := o_at b2 (v1.mono e2) e
        have hz := dq_int v2
        subst hz
        have hw := Dq.mono e2.sm _ _ (Dq.mono e1.sm _ _ hv)
        refine ⟨l, ys, kk, p, rfl, rfl, h4, by rw [h5.len]; exact ep, hq _ _ _ _ h2 (((r.next b1 e1).next b2 e2).next (b2.upd hl fun h e => ⟨_, upd_same, by rw [e]; exact h5.setAt p hw⟩) (X2.upd (List.mem_of_getElem? hl))) ((e1.trans e2).trans (X2.upd (List.mem_of_getElem? hl)))⟩
      · exact h2.elim
    · exact h2.elim
  · exact h2.elim
theorem qs_lput2 (hc : X.calm = true) (he : QE X e te) (ho : QE X o to) (hi : QE X i ti) (hu : QE X u uo) (hj : QE X j ui)
    (hs : swapsWithSole [.Tuple [.Subscript o i tp1, .Subscript u j tp2] kk tp] e pos.line X.env = pure false := by rfl) (hw : swappedStores [.Tuple [.Subscript o i tp1, .Subscript u j tp2] kk tp] e X.env = pure none := by rfl)
    (h1 : (assignEach [.Tuple [.Subscript o i tp1, .Subscript u j tp2] kk tp] X.env).map (·.2) = [assign (.Tuple [.Subscript o i tp1, .Subscript u j tp2] kk tp) X.env] := by rfl)
    (ha1 : ∀ v, assign (.Subscript o i tp1) X.env v = (do
      let ov ← holding [v] (eval o X.env)
      let iv ← holding [v, ov] (eval i X.env)
      standAt tp1
      holding [v, ov, iv] (setItem ov iv v)
      release [v, ov, iv] []) := by intro _; rfl)
    (ha2 : ∀ v, assign (.Subscript u j tp2) X.env v = (do
      let ov ← holding [v] (eval u X.env)
      let iv ← holding [v, ov] (eval j X.env)
      standAt tp2
      holding [v, ov, iv] (setItem ov iv v)
      release [v, ov, iv] []) := by intro _; rfl)
    (hc1 : (assignEach [.Subscript o i tp1, .Subscript u j tp2] X.env).map (·.2) = assign (.Subscript o i tp1) X.env :: (assignEach [.Subscript u j tp2] X.env).map (·.2) := by rfl)
    (hc2 : (assignEach [.Subscript u j tp2] X.env).map (·.2) = assign (.Subscript u j tp2) X.env :: (assignEach [] X.env).map (·.2) := by rfl)
    (hn : (assignEach [.Subscript o i tp1, .Subscript u j tp2] X.env).length = 2 := by rfl) (hst : (assignEach [.Subscript o i tp1, .Subscript u j tp2] X.env).findIdx? (·.1) = none := by rfl) :
    QS X (.Assign [.Tuple [.Subscript o i tp1, .Subscript u j tp2] kk tp] e pos) (aLput2 te to ti uo ui) := fun C hK =>
  PS.imp (ps_asg (he C hK) (pg_tup hc (pgs_cons (pg_sub (ho C hK) (hi C hK) set_list ha1) (pgs_cons (pg_sub (hu C hK) (hj C hK) set_list ha2) pgs_nil hc2) hc1) hn hst) hs hw h1) fun D σ H ⟨a, L, Mo, AD, r, b, h⟩ => by
    refine ⟨a, L, Mo, _, r, fun x m1 v L1 Mo1 H1 h1 b1 v1 e1 => ?_, h⟩
    split at h1
    · rename_i d f
      cases v1 with
      | tup q1 q2 =>
        cases q2 with
        | cons q3 q4 =>
          cases q4 with
          | cons q5 q6 =>
            cases q6
            refine ⟨_, _, rfl, hK ▸ same_tup hid_same q1, rfl, _, _, rfl, ?_⟩
            refine lput_imp (r.next b1 e1) q3 h1 fun m' L' Mo' H' k1 r1 x1 => ⟨_, _, rfl, ?_⟩
            refine lput_imp r1 (Dq.mono x1.sm _ _ q5) k1 fun m'' L'' Mo'' H'' k2 r2 x2 => ⟨rfl, ?_⟩
            exact b.nx _ _ _ _ _ k2 r2
    · exact h1.elim
/-! ### list.index -/
def mIndex : AM := fun x avs m Q => match lstA m x, avs with
  | some ds, [.d d] => SeqAt.shaped (.list ds) = true ∧ SeqAt.shaped d = true ∧ ∃ (j : Nat) (z : D), ds[j]? = some z ∧ PyData.eqv z d = true ∧ (∀ (k : Nat) (z' : D), k < j → ds[k]? = some z' → PyData.eqv z' d = false) ∧ Q (.d (.int (j : Nat))) m
  | _, _ => False
theorem mq_index (hu : X.A.units + 65 < cLine) : MtQ X "list.index" mIndex := by
  refine ⟨_, mt_indexD hu, fun C L Mo H m x avs v vs Q AQ hK b r1 r2 k hh => ?_⟩
  unfold mIndex at hh
  split at hh
  · rename_i ds d e
    obtain ⟨l, xs, rfl, h1, h2⟩ := lstA_ok b r1 e
    obtain ⟨w, rfl, rw_⟩ := av1 r2
    obtain ⟨s1, s2, j, z, hz, he, hn, hq⟩ := hh
    have nd : (PyData.list ds).hasDict = false := shaped_noDict s1
    exact ⟨l, w, d, ds, j, z, rfl, rfl, hK ▸ Dq.toDp _ _ nd (.lst h1 (DqAll.mono hid_same _ _ h2)), hK ▸ Dq.toDp _ _ (shaped_noDict s2) (Dq.mono hid_same _ _ rw_), s1, s2, hz, he, hn, k.ret hq b (.int _)⟩
  · exact hh.elim
/-! ### local objects let go -/
def aNorm (n : Nat) (fs : List Nat) (t : ATS) : ATS := fun E a => t E (norm n fs a)
theorem qs_norm {st : Stmt} {t : ATS} (n : Nat) (fs : List Nat) (h : QS X st t) : QS X st (aNorm n fs t) := fun C hK => PS.imp (h C hK) fun D σ H ⟨a, L, Mo, AD, r, b, h⟩ =>
  ⟨_, _, _, AD, r.norm n fs, b, h⟩
end
end QL

namespace QL
open PySem PySem.Spec PyProof.Rows L2 RZ
/-! ### a op1 b op2 c op3 d -/
section
variable {X : Cx} {a b c d : Expr} {pos : Pos}
def tChain3 (r r' r'' : R2) (ta tb tc td : TE) : TE := fun σ H Q => ta σ H fun x H1 => tb σ H1 fun y H2 => r x y H2 fun z H3 => ∃ k, z = .bl k ∧
  (if k = true then tc σ H3 fun w' H4 => r' y w' H4 fun z2 H5 => ∃ k2, z2 = .bl k2 ∧ (if k2 = true then td σ H5 fun w2 H6 => r'' w' w2 H6 Q else Q (.bl false) H5) else Q (.bl false) H3)
theorem pe_chain3 {op op' op'' : CmpOp} {r r' r'' : R2} {ta tb tc td : TE} (ho : OpR X (compareOp op) r) (ho' : OpR X (compareOp op') r') (ho'' : OpR X (compareOp op'') r'') (ha : PE X a ta) (hb : PE X b tb) (hc : PE X c tc) (hd : PE X d td)
    (hm : lastMarks [op, op', op''] [b, c, d] = false) : PE X (.Compare a [op, op', op''] [b, c, d] pos) (tChain3 r r' r'' ta tb tc td) := by
  refine ⟨fun pins s σ H Q I h => ?_⟩
  refine Compare_chain (thn (ha.run pins s σ H _ I h) fun v s1 ⟨x, H1, I1, r1, q1⟩ => chain_link (thn (hb.run pins s1 σ H1 _ I1 q1) fun u s2 ⟨y, H2, I2, r2, q2⟩ =>
    thn (ho pins s2 σ H2 x y v u _ I2 r1 r2 q2) fun d s3 ⟨z, H3, I3, r3, k, e, q3⟩ => ?_)) hm
  subst e
  cases r3
  refine wpAny_truthy_bool ?_
  cases k with
  | false => exact ite_ff ⟨.bl false, H3, I3, rfl, q3⟩
  | true =>
    refine ite_tt (chain_link (thn (hc.run pins s3 σ H3 _ I3 q3) fun w' s4 ⟨z', H4, I4, r4, q4⟩ => thn (ho' pins s4 σ H4 y z' u w' _ I4 r2 r4 q4) fun d s5 ⟨z2, H5, I5, r5, k2, e2, q5⟩ => ?_))
    subst e2
    cases r5
    refine wpAny_truthy_bool ?_
    cases k2 with
    | false => exact ite_ff ⟨.bl false, H5, I5, rfl, q5⟩
    | true => exact ite_tt (chain_last (thn (hd.run pins s5 σ H5 _ I5 q5) fun w2 s6 ⟨z3, H6, I6, r6, q6⟩ => ho'' pins s6 σ H6 z' z3 w' w2 Q I6 r4 r6 q6))
theorem pt_chain3 {op op' op'' : CmpOp} {r r' r'' : R2} {ta tb tc td : TE} (ho : OpR X (compareOp op) r) (ho' : OpR X (compareOp op') r') (ho'' : OpR X (compareOp op'') r'') (ha : PE X a ta) (hb : PE X b tb) (hc : PE X c tc) (hd : PE X d td)
    (hm : lastMarks [op, op', op''] [b, c, d] = false) : PT X (.Compare a [op, op', op''] [b, c, d] pos) (tTest (tChain3 r r' r'' ta tb tc td)) := by
  refine ⟨fun pins s σ H Q I h => ?_⟩
  refine isTrue_chain (thn (ha.run pins s σ H _ I h) fun v s1 ⟨x, H1, I1, r1, q1⟩ => test_link (thn (hb.run pins s1 σ H1 _ I1 q1) fun u s2 ⟨y, H2, I2, r2, q2⟩ =>
    thn (ho pins s2 σ H2 x y v u _ I2 r1 r2 q2) fun d s3 ⟨z, H3, I3, r3, k, e, q3⟩ => ?_)) hm
  subst e
  cases r3
  refine wpAny_truthy_bool ?_
  cases k with
  | false =>
    obtain ⟨k', e', q'⟩ := q3
    cases e'
    exact ite_ff ⟨H3, I3, q'⟩
  | true =>
    refine ite_tt (test_link (thn (hc.run pins s3 σ H3 _ I3 q3) fun w' s4 ⟨z', H4, I4, r4, q4⟩ => thn (ho' pins s4 σ H4 y z' u w' _ I4 r2 r4 q4) fun d s5 ⟨z2, H5, I5, r5, k2, e2, q5⟩ => ?_))
    subst e2
    cases r5
    refine wpAny_truthy_bool ?_
    cases k2 with
    | false =>
      obtain ⟨k', e', q'⟩ := q5
      cases e'
      exact ite_ff ⟨H5, I5, q'⟩
    | true =>
      refine ite_tt (test_last (thn (hd.run pins s5 σ H5 _ I5 q5) fun w2 s6 ⟨z3, H6, I6, r6, q6⟩ => thn (ho'' pins s6 σ H6 z' z3 w' w2 _ I6 r4 r6 q6) fun d' s7 ⟨z4, H7, I7, r7, k3, e3, q7⟩ => ?_))
      subst e3
      cases r7
      exact wpAny_truthy_bool ⟨H7, I7, q7⟩
def aChain3 (r r' r'' : AR2) (ta tb tc td : ATE) : ATE := fun a Q => ta a fun x m1 => tb ⟨a.g, m1⟩ fun y m2 => r x y m2 fun z m3 => match isB z with
  | some k => if k = true then tc ⟨a.g, m3⟩ fun w m4 => r' y w m4 fun z2 m5 => match isB z2 with
      | some k2 => if k2 = true then td ⟨a.g, m5⟩ fun w2 m6 => r'' w w2 m6 Q else Q (.d (.bool false)) m5
      | none => False
    else Q (.d (.bool false)) m3
  | none => False
variable {ta tb tc td : ATE}
theorem chain3_imp {C : Ct} {r r' r'' : AR2} {r2 r2' r2'' : R2} (hK : C.K = X.K) (ho : ∀ (C : Ct) L Mo H m x y v w Q AQ, C.K = X.K → B C m L Mo H → AVR C L Mo H x v → AVR C L Mo H y w → Cont C L Mo H AQ Q → r x y m AQ → r2 v w H Q)
    (ho' : ∀ (C : Ct) L Mo H m x y v w Q AQ, C.K = X.K → B C m L Mo H → AVR C L Mo H x v → AVR C L Mo H y w → Cont C L Mo H AQ Q → r' x y m AQ → r2' v w H Q)
    (ho'' : ∀ (C : Ct) L Mo H m x y v w Q AQ, C.K = X.K → B C m L Mo H → AVR C L Mo H x v → AVR C L Mo H y w → Cont C L Mo H AQ Q → r'' x y m AQ → r2'' v w H Q) (σ : List (Option V)) (H : Hp) (Q : VK)
    (h : lft C (aChain3 r r' r'' ta tb tc td) σ H Q) : tChain3 r2 r2' r2'' (lft C ta) (lft C tb) (lft C tc) (lft C td) σ H Q := by
  obtain ⟨a, L, Mo, AQ, rr, k, h⟩ := h
  refine ⟨a, L, Mo, _, rr, fun x m1 v L1 Mo1 H1 h1 b1 v1 e1 => ⟨⟨a.g, m1⟩, L1, Mo1, _, rr.next b1 e1, fun y m2 w L2 Mo2 H2 h2 b2 w2 e2 => ?_, h1⟩, h⟩
  refine ho C L2 Mo2 H2 m2 x y v w _ _ hK b2 (v1.mono e2) w2 (fun z m3 vz L3 Mo3 H3 h3 b3 v3 e3 => ?_) h2
  have k3 := k.aft (e1.trans (e2.trans e3))
  have rr3 := (rr.next b1 e1).next b3 (e2.trans e3)
  split at h3
  · rename_i kk ek
    refine ⟨kk, isB_rel ek v3, ?_⟩
    cases kk with
    | true =>
      rw [if_pos rfl] at h3 ⊢
      refine ⟨⟨a.g, m3⟩, L3, Mo3, _, rr3, fun u m4 vu L4 Mo4 H4 h4 b4 v4 e4 => ?_, h3⟩
      refine ho' C L4 Mo4 H4 m4 y u w vu _ _ hK b4 (w2.mono (e3.trans e4)) v4 (fun z2 m5 vz2 L5 Mo5 H5 h5 b5 v5 e5 => ?_) h4
      split at h5
      · rename_i kk2 ek2
        refine ⟨kk2, isB_rel ek2 v5, ?_⟩
        cases kk2 with
        | true =>
          rw [if_pos rfl] at h5 ⊢
          exact ⟨⟨a.g, m5⟩, L5, Mo5, _, rr3.next b5 (e4.trans e5), fun u2 m6 vu2 L6 Mo6 H6 h6 b6 v6 e6 => ho'' C L6 Mo6 H6 m6 u u2 vu vu2 Q AQ hK b6 (v4.mono (e5.trans e6)) v6 (k3.aft (e4.trans (e5.trans e6))) h6, h5⟩
        | false =>
          rw [if_neg Bool.false_ne_true] at h5 ⊢
          exact (k3.aft (e4.trans e5)).ret h5 b5 (.bl false)
      · exact h5.elim
    | false =>
      rw [if_neg Bool.false_ne_true] at h3 ⊢
      exact k3.ret h3 b3 (.bl false)
  · exact h3.elim
theorem q_chain3 {op op' op'' : CmpOp} {r r' r'' : AR2} (o : OpQ X (compareOp op) r) (o' : OpQ X (compareOp op') r') (o'' : OpQ X (compareOp op'') r'') (ha : QE X a ta) (hb : QE X b tb) (hc : QE X c tc) (hd : QE X d td) (hm : lastMarks [op, op', op''] [b, c, d] = false) :
    QE X (.Compare a [op, op', op''] [b, c, d] pos) (aChain3 r r' r'' ta tb tc td) := fun C hK => by
  obtain ⟨r2, ho, hi⟩ := o
  obtain ⟨r3, ho', hi'⟩ := o'
  obtain ⟨r4, ho'', hi''⟩ := o''
  exact PE.imp (pe_chain3 ho ho' ho'' (ha C hK) (hb C hK) (hc C hK) (hd C hK) hm) (chain3_imp hK hi hi' hi'')
theorem qt_chain3 {op op' op'' : CmpOp} {r r' r'' : AR2} (o : OpQ X (compareOp op) r) (o' : OpQ X (compareOp op') r') (o'' : OpQ X (compareOp op'') r'') (ha : QE X a ta) (hb : QE X b tb) (hc : QE X c tc) (hd : QE X d td) (hm : lastMarks [op, op', op''] [b, c, d] = false) :
    QT X (.Compare a [op, op', op''] [b, c, d] pos) (aTest (aChain3 r r' r'' ta tb tc td)) := fun C hK => by
  obtain ⟨r2, ho, hi⟩ := o
  obtain ⟨r3, ho', hi'⟩ := o'
  obtain ⟨r4, ho'', hi''⟩ := o''
  refine PT.imp (pt_chain3 ho ho' ho'' (ha C hK) (hb C hK) (hc C hK) (hd C hK) hm) fun σ H Q h => ?_
  obtain ⟨a, L, Mo, AQ, rr, k, h⟩ := test_imp σ H Q h
  exact chain3_imp hK hi hi' hi'' σ H _ ⟨a, L, Mo, AQ, rr, k, h⟩
end
/-! ### xs + ys, to be changed afterwards -/
section
variable {X : Cx}
def aCatM : AR2 := fun x y m Q => match lstA m x, lstA m y with
  | some xs, some ys => xs.length + ys.length ≤ sizeLine ∧ Q (.o m.o.length) ⟨m.s, m.o ++ [.l (xs ++ ys)]⟩
  | _, _ => False
theorem oq_catM : OpQ X (binaryOp .Add) aCatM := by
  refine ⟨_, op_cat, fun C L Mo H m x y v w Q AQ hK b r1 r2 k hh => ?_⟩
  unfold aCatM at hh
  split at hh
  · rename_i xs ys e1 e2
    obtain ⟨l1, vs, rfl, h1, h2⟩ := lstA_ok b r1 e1
    obtain ⟨l2, ws, rfl, h3, h4⟩ := lstA_ok b r2 e2
    exact ⟨l1, l2, vs, ws, rfl, rfl, h1, h3, by rw [h2.len, h4.len]; exact hh.1, fun p hp => k.lstM b hp (h2.app h4) hh.2⟩
  · exact hh.elim
end
theorem bt_bool : bootBuiltins "bool" = some (.type "bool") := by decide +kernel
end QL

namespace QL
open PySem PySem.Spec PyProof.Rows L2 RZ
/-! ### functions that a module brought in: gcd -/
section
variable {X : Cx} {e : Expr} {es : List Expr} {pos p : Pos} {x : Str} {id : String} {tr : ATA}
theorem q_callF {r : AC1} (o : CallQ X (.builtin id) r) (hg : Gl X x) (hm : X.mg x = some (.builtin id)) (ha : QA X (e :: es) tr) (hdb : (x == ("__debug__" : Str)) = false := by decide)
    (he : starEach (e :: es) X.env = (false, eval e X.env) :: starEach es X.env := by rfl) (hpl : (backTo pos (starEach es X.env)).any (·.1) = false := by rfl) : QE X (.Call (.Name x p) (e :: es) [] pos) (aCall r tr) := fun C hK => by
  obtain ⟨r2, ho, hi⟩ := o
  exact PE.imp (pe_callBfun ho hg hm (ha C hK) hdb he hpl) (call_imp hK hi)
theorem gcd_ex : ∃ f : Int → Int → Int, ∀ i j, f i j = ((Nat.gcd i.natAbs j.natAbs : Nat) : Int) := ⟨fun i j => ((Nat.gcd i.natAbs j.natAbs : Nat) : Int), fun _ _ => rfl⟩
/-- the greatest common part; no reduction looks into it -/
noncomputable def gcdI : Int → Int → Int := Classical.choose gcd_ex
theorem gcdI_eq (i j : Int) : gcdI i j = ((Nat.gcd i.natAbs j.natAbs : Nat) : Int) := Classical.choose_spec gcd_ex i j
def bGcd : AC1 := fun avs m Q => match avs with
  | [.d (.int i), .d (.int j)] => Q (.d (.int (gcdI i j))) m
  | _ => False
theorem cq_gcd : CallQ X (.builtin "math.gcd") bGcd := by
  refine ⟨_, cr_gcd, fun C L Mo H m avs vs Q AQ hK b r k hh => ?_⟩
  unfold bGcd at hh
  split at hh
  · obtain ⟨v, w, rfl, rv, rw_⟩ := av2 r
    rw [gcdI_eq] at hh
    exact ⟨_, _, by rw [dq_int rv, dq_int rw_], k.ret hh b (.int _)⟩
  · exact hh.elim
/-! ### // by any number but 0 -/
def DivN (_ j : Int) : Prop := j ≠ 0 ∧ j.natAbs.log2 < 9000
theorem op_fdivNW : OpR X (binaryOp .FloorDiv) (rI DivN fun i j => .int (i.fdiv j)) := opI fun _ _ _ _ _ _ _ hc q => floordiv_int hc.1 q (.inl (PyProof.noPylong_of_log2 hc.2))
def aFdivN : AR2 := intsR DivN fun i j => .int (i.fdiv j)
theorem oq_fdivN : OpQ X (binaryOp .FloorDiv) aFdivN := opq_ints op_fdivNW fun _ _ _ _ => .int _
/-! ### list * n -/
def aRepL : AR2 := fun x y m Q => match y with
  | .d (.int k) => match lstA m x with
    | some ds => -(2 ^ 63) ≤ k ∧ k < 2 ^ 63 ∧ ds.length * k.toNat ≤ sizeLine ∧ Q (.d (.list (List.replicate k.toNat ds).flatten)) m
    | none => False
  | _ => False
theorem oq_repL : OpQ X (binaryOp .Mult) aRepL := by
  refine ⟨_, op_rep, fun C L Mo H m x y v w Q AQ hK b r1 r2 k hh => ?_⟩
  unfold aRepL at hh
  split at hh
  · rename_i i
    have hw := dq_int r2
    subst hw
    split at hh
    · rename_i ds e
      obtain ⟨l, xs, rfl, h1, h2⟩ := lstA_ok b r1 e
      exact ⟨l, i, xs, rfl, rfl, h1, hh.1, hh.2.1, by rw [h2.len]; exact hh.2.2.1, fun p hp => k.lst b hp (h2.rep i.toNat) hh.2.2.2⟩
    · exact hh.elim
  · exact hh.elim
end
/-! ### the readings of statements, where they are given all they need -/
section
variable (D : AEnds) (a : AS)
theorem aNext_ap : aNext D a = D.nx a := rfl
theorem aSeq_ap (t u : ATS) : aSeq t u D a = t { D with nx := u D } a := rfl
theorem aBreak_ap : aBreak D a = D.bk a := rfl
theorem aCont_ap : aCont D a = D.ct a := rfl
theorem aDrop_ap (te : ATE) : aDrop te D a = te a fun _ m => D.nx ⟨a.g, m⟩ := rfl
theorem aRet_ap (te : ATE) : aRet te D a = te a D.rt := rfl
theorem aRetN_ap : aRetN D a = D.rt (.d .none) a.m := rfl
theorem aIfS_ap (c : ATT) (t u : ATS) : aIfS c t u D a = c a fun b m => if b = true then t D ⟨a.g, m⟩ else u D ⟨a.g, m⟩ := rfl
theorem aAsg_ap (te : ATE) (g : ATG) : aAsg te g D a = te a fun x m => g x m a.g fun g' => D.nx ⟨g', m⟩ := rfl
theorem aSet_ap (i : Nat) (te : ATE) : aSet i te D a = te a fun x m => D.nx ⟨a.g.set i (some x), m⟩ := rfl
theorem aPar_ap (i j : Nat) (ta : ATA) : aPar i j ta D a = ta a fun xs m => match xs with
  | [x, y] => D.nx ⟨(a.g.set i (some x)).set j (some y), m⟩
  | _ => False := rfl
theorem aFor_ap (fs : List Nat) (ti : AIt) (g : ATG) (tb : ATS) : aFor fs ti g tb D a = ti a fun ds m => aForL m.o.length fs g tb D ds ⟨clr a.g fs, m⟩ := rfl
theorem aWhile_ap (fs : List Nat) (c : ATT) (tb : ATS) : aWhile fs c tb D a = ∃ (I : AS → Prop) (μ : AS → Nat), I ⟨clr a.g fs, a.m⟩ ∧ ∀ a1, I a1 → c a1 fun b m => if b = true then
  tb { D with nx := fun a2 => I (norm a.m.o.length fs a2) ∧ μ (norm a.m.o.length fs a2) < μ a1, ct := fun a2 => I (norm a.m.o.length fs a2) ∧ μ (norm a.m.o.length fs a2) < μ a1, bk := fun a2 => D.nx (norm a.m.o.length fs a2) } ⟨a1.g, m⟩ else D.nx ⟨a1.g, m⟩ := rfl
end
end QL

namespace QL
open PySem PySem.Spec PyProof.Rows L2 RZ
/-! ### three ints, by the first, the second, the third -/
def lexT (p q : Int × Int × Int) : Bool := if p.1 = q.1 then (if p.2.1 = q.2.1 then decide (p.2.2 < q.2.2) else decide (p.2.1 < q.2.1)) else decide (p.1 < q.1)
theorem lexT_iff {p q : Int × Int × Int} : lexT p q = true ↔ p.1 < q.1 ∨ (p.1 = q.1 ∧ (p.2.1 < q.2.1 ∨ (p.2.1 = q.2.1 ∧ p.2.2 < q.2.2))) := by
  unfold lexT
  by_cases e : p.1 = q.1
  · rw [if_pos e]
    by_cases e2 : p.2.1 = q.2.1
    · rw [if_pos e2, decide_eq_true_eq]; omega
    · rw [if_neg e2, decide_eq_true_eq]; omega
  · rw [if_neg e, decide_eq_true_eq]; omega
theorem lexT_no {p q : Int × Int × Int} : lexT p q = false ↔ ¬ (p.1 < q.1 ∨ (p.1 = q.1 ∧ (p.2.1 < q.2.1 ∨ (p.2.1 = q.2.1 ∧ p.2.2 < q.2.2)))) := by
  rw [← lexT_iff]
  cases lexT p q <;> simp
theorem swo_lexT {α : Type} (k : α → Int × Int × Int) : SrtO.Swo fun v u => lexT (k v) (k u) := by
  refine ⟨fun x y h => ?_, fun x y z h1 h2 => ?_⟩
  · have a := lexT_iff.mp h
    refine lexT_no.mpr ?_
    omega
  · have a := lexT_no.mp h1
    have b := lexT_no.mp h2
    refine lexT_no.mpr ?_
    omega
def IsTrip (h : Heap) (v : Value) (p : Int × Int × Int) : Prop := ∃ a o t u z n, v = .ref a ∧ h.get? a = some o ∧ o.cls = .type "tuple" ∧ o.data = .seq #[.int p.1 t, .int p.2.1 u, .int p.2.2 z] n
theorem IsTrip.keeps {h h' : Heap} {v : Value} {p : Int × Int × Int} (x : IsTrip h v p) (k : ∀ b o, h.get? b = some o → o.cls = .type "tuple" → h'.get? b = some o) : IsTrip h' v p := by
  obtain ⟨a, o, t, u, z, n, e, ho, hc, hd⟩ := x
  exact ⟨a, o, t, u, z, n, e, k _ _ ho hc, hc, hd⟩
section
open SrtO Srt
variable {prog : Program} {w : World} {A : Around} {E : Value → Shared → Prop} {s : Shared}
theorem trip_cmp {vs : List Value} {k : Value → Int × Int × Int} (hp : ∀ v ∈ vs, IsTrip s.heap v (k v)) : Cmp prog w A s (tuples' true) (fun p => p.1 ∈ vs) (lt2 fun v u => lexT (k v) (k u)) := by
  intro p q hm hm'
  have h1 := hp _ hm
  have h2 := hp _ hm'
  show wpAny (model prog w) A (keyLt' (tuples' true) p.1 q.1) (fun r s' => s' = s ∧ r = lexT (k p.1) (k q.1)) (fun _ _ => False) s
  generalize (k p.1) = x at h1 ⊢
  generalize (k q.1) = y at h2 ⊢
  obtain ⟨x1, x2, x3⟩ := x
  obtain ⟨y1, y2, y3⟩ := y
  obtain ⟨a, o, t, u, z, n, e, ho, hc, hd⟩ := h1
  obtain ⟨a', o', t', u', z', n', e', ho', hc', hd'⟩ := h2
  rw [e, e']
  refine PySem.W.kat_lt ho hd ho' hd' ?_
  show PySem.W.KatLex prog w A true (decide (3 < 3)) _ [(.int x1 t, .int y1 t'), (.int x2 u, .int y2 u'), (.int x3 z, .int y3 z')] 0 s
  refine PySem.W.kat_cons (SeqAt.EqAt.int_int x1 t y1 t' prog w _ _ ?_)
  refine PySem.W.kat_go (fun e1 => ?_) (fun e1 => ?_)
  · have ex : x1 = y1 := by simpa using e1
    refine PySem.W.kat_yes (PySem.W.kat_cons (SeqAt.EqAt.int_int x2 u y2 u' prog w _ _ ?_))
    refine PySem.W.kat_go (fun e2 => ?_) (fun e2 => ?_)
    · have ey : x2 = y2 := by simpa using e2
      refine PySem.W.kat_yes (PySem.W.kat_cons (SeqAt.EqAt.int_int x3 z y3 z' prog w _ _ ?_))
      refine PySem.W.kat_go (fun e3 => ?_) (fun e3 => ?_)
      · have ez : x3 = y3 := by simpa using e3
        have e3 : lexT (x1, x2, x3) (y1, y2, y3) = false := lexT_no.mpr (by simp only []; omega)
        exact PySem.W.kat_yes (PySem.W.kat_nil ⟨rfl, e3.symm⟩)
      · have e4 : lexT (x1, x2, x3) (y1, y2, y3) = decide (x3 < y3) := by
          unfold lexT
          simp only []
          rw [if_pos ex, if_pos ey]
        refine PySem.W.kat_no (PySem.W.kat_one _ _ (PyProof.Rows.lt_int ?_))
        exact (show s = s ∧ decide (x3 < y3) = lexT (x1, x2, x3) (y1, y2, y3) from ⟨rfl, e4.symm⟩)
    · have ey : ¬ x2 = y2 := by simpa using e2
      have e3 : lexT (x1, x2, x3) (y1, y2, y3) = decide (x2 < y2) := by
        unfold lexT
        simp only []
        rw [if_pos ex, if_neg ey]
      refine PySem.W.kat_no (PySem.W.kat_one _ _ (PyProof.Rows.lt_int ?_))
      exact (show s = s ∧ decide (x2 < y2) = lexT (x1, x2, x3) (y1, y2, y3) from ⟨rfl, e3.symm⟩)
  · have ex : ¬ x1 = y1 := by simpa using e1
    have e3 : lexT (x1, x2, x3) (y1, y2, y3) = decide (x1 < y1) := by
      unfold lexT
      simp only []
      rw [if_neg ex]
    exact PySem.W.kat_no (oneLt_int ⟨rfl, e3.symm⟩)
theorem trips_first {h : Heap} {k : Value → Int × Int × Int} : ∀ {vs : List Value}, (∀ v ∈ vs, IsTrip h v (k v)) → ∃ fs : List Value, PySem.W.KatTups h vs fs ∧ fs.length = vs.length ∧ ∀ f ∈ fs, ∃ x t, f = Value.int x t
  | [], _ => ⟨[], PySem.W.KatTups.nil, rfl, fun _ hm => by simp at hm⟩
  | v :: vs, hp => by
    obtain ⟨fs, h1, h2, h3⟩ := trips_first (k := k) (vs := vs) fun v' hm => hp v' (List.mem_cons_of_mem _ hm)
    obtain ⟨a, o, t, u, z, n, e, ho, hc, hd⟩ := hp v (List.mem_cons_self ..)
    generalize k v = p at hd
    subst e
    refine ⟨.int p.1 t :: fs, PySem.W.KatTups.cons ho hc hd rfl h1, by rw [List.length_cons, List.length_cons, h2], fun f hm => ?_⟩
    rcases List.mem_cons.mp hm with rfl | hm
    · exact ⟨_, t, rfl⟩
    · exact h3 f hm
theorem trips_sortableO {a : Addr} {vs : List Value} {k : Value → Int × Int × Int} (h0 : 0 < vs.length) (hp : ∀ v ∈ vs, IsTrip s.heap v (k v)) (ha : ∀ o, s.heap.get? a = some o → o.cls ≠ .type "tuple") : SortableO prog w A s a vs fun v u => lexT (k v) (k u) := by
  intro h' keep
  have hp' : ∀ v ∈ vs, IsTrip h' v (k v) := fun v hm => (hp v hm).keeps fun b o e c => keep b o (fun z => by subst z; exact ha o e c) e
  obtain ⟨fs, h1, h2, h3⟩ := trips_first hp'
  refine ⟨tuples' true, fun Q E hq => ?_, trip_cmp hp'⟩
  refine PySem.W.kat_kind (T := .type "int") h1 (by omega) (fun f hm => ?_) (by rfl) ?_
  · obtain ⟨x, t, rfl⟩ := h3 f hm
    exact PySem.W.Looks.now
  · have e : (Value.type "int" != Value.type "tuple") = true := by first | decide +kernel | rfl | decide
    rw [e]
    exact hq
end

def TripAt (K : PySem.W.Frag) (H : Hp) (x : V) (p : Int × Int × Int) : Prop := ∃ t, x = .ref t ∧ SqT K H t [.int p.1, .int p.2.1, .int p.2.2]
open Classical in
noncomputable def kOf (K : PySem.W.Frag) (H : Hp) (x : V) : Int × Int × Int := if h : ∃ p, TripAt K H x p then Classical.choose h else (0, 0, 0)
section
variable {X : Cx} {pins : List (Addr × Obj)} {σ : L2.St} {H : Hp} {s : Shared}
theorem tripAt_inj (I : Inv X pins σ H s) {x : V} {p q : Int × Int × Int} (h1 : TripAt X.K H x p) (h2 : TripAt X.K H x q) : p = q := by
  obtain ⟨t, rfl, a⟩ := h1
  obtain ⟨t', e, b⟩ := h2
  cases e
  have := I.tuple_inj a b
  obtain ⟨p1, p2, p3⟩ := p
  obtain ⟨q1, q2, q3⟩ := q
  simp only [List.cons.injEq, V.int.injEq, and_true] at this
  obtain ⟨rfl, rfl, rfl⟩ := this
  rfl
theorem kOf_eq (I : Inv X pins σ H s) {x : V} {p : Int × Int × Int} (h : TripAt X.K H x p) : kOf X.K H x = p := by
  have hx : ∃ p, TripAt X.K H x p := ⟨p, h⟩
  unfold kOf
  rw [dif_pos hx]
  exact tripAt_inj I (Classical.choose_spec hx) h
theorem isTrip_of (I : Inv X pins σ H s) {u : Value} {x : V} {p : Int × Int × Int} (r : RelV x u) (h : TripAt X.K H x p) : IsTrip s.heap u p := by
  obtain ⟨t, rfl, a⟩ := h
  obtain rfl : u = Value.ref t := r
  obtain ⟨its, r, ⟨o, ho, hc, n, hd⟩, _⟩ := I.tuple a
  cases r with
  | cons r1 r => cases r with
    | cons r2 r => cases r with
      | cons r3 r =>
        cases r
        obtain ⟨t1, rfl⟩ := r1
        obtain ⟨t2, rfl⟩ := r2
        obtain ⟨t3, rfl⟩ := r3
        exact ⟨t, o, t1, t2, t3, n, rfl, ho, hc, hd⟩
theorem paired_k {K : PySem.W.Frag} {xs : List V} {ts : List (Int × Int × Int)} (k : V → Int × Int × Int) (hk : ∀ x p, TripAt K H x p → k x = p) (h : Paired (TripAt K H) xs ts) : ts = xs.map k := by
  induction h with
  | nil => rfl
  | cons h t ih => rw [List.map_cons, hk _ _ h, ← ih]
theorem paired_all {K : PySem.W.Frag} {xs : List V} {ts : List (Int × Int × Int)} (h : Paired (TripAt K H) xs ts) : ∀ x ∈ xs, ∃ p, TripAt K H x p := by
  induction h with
  | nil => intro x hx; cases hx
  | cons h t ih =>
    intro x hx
    rcases List.mem_cons.mp hx with rfl | hx
    · exact ⟨_, h⟩
    · exact ih x hx
theorem paired_map {K : PySem.W.Frag} (k : V → Int × Int × Int) : ∀ {ys : List V}, (∀ y ∈ ys, TripAt K H y (k y)) → Paired (TripAt K H) ys (ys.map k)
  | [], _ => .nil
  | y :: ys, h => .cons (h y (List.mem_cons_self ..)) (paired_map k fun z hz => h z (List.mem_cons_of_mem _ hz))
/-- the triples, sorted -/
def SrtT (ts' ts : List (Int × Int × Int)) : Prop := ts'.Perm ts ∧ ts'.Pairwise fun x y => lexT y x = false
/-- what comes out of the sort of the values -/
theorem sort_out (I : Inv X pins σ H s) {us out : List Value} {xs : List V} {ts : List (Int × Int × Int)} (rv : Vals xs us) (hx : Paired (TripAt X.K H) xs ts)
    (h1 : SrtO.Srtd (fun v u => lexT (kOf X.K H (backV v)) (kOf X.K H (backV u))) out) (h2 : SrtO.Stb (fun v u => lexT (kOf X.K H (backV v)) (kOf X.K H (backV u))) out us) :
    ∃ (ys : List V) (ts' : List (Int × Int × Int)), Vals ys out ∧ Paired (TripAt X.K H) ys ts' ∧ SrtT ts' ts ∧ ys.length = xs.length ∧ ys.Perm xs ∧ (ys.zip ts').Perm (xs.zip ts) := by
  have hk : ∀ x p, TripAt X.K H x p → kOf X.K H x = p := fun x p h => kOf_eq I h
  have hall := paired_all hx
  obtain ⟨e1, e2⟩ := refs_back rv fun x m => by
    obtain ⟨p, t, e, _⟩ := hall x m
    exact ⟨t, e⟩
  have h3 : ∀ u ∈ out, ∃ a, u = Value.ref a := fun u hu => e2 u (h2.perm.mem_iff.mp hu)
  have hperm : (out.map backV).Perm xs := by rw [e1]; exact h2.perm.map backV
  refine ⟨out.map backV, (out.map backV).map (kOf X.K H), vals_back h3, paired_map _ fun y hy => ?_, ⟨?_, ?_⟩, hperm.length_eq, hperm, ?_⟩
  · obtain ⟨p, hp⟩ := hall y (hperm.mem_iff.mp hy)
    rw [hk y p hp]; exact hp
  · rw [paired_k _ hk hx]
    exact hperm.map _
  · rw [List.map_map]
    exact List.pairwise_map.mpr h1
  · have z : ∀ l : List V, l.zip (l.map (kOf X.K H)) = l.map fun y => (y, kOf X.K H y) := by
      intro l
      induction l with
      | nil => rfl
      | cons a l ih => rw [List.map_cons, List.zip_cons_cons, ih, List.map_cons]
    rw [paired_k _ hk hx, z, z]
    exact hperm.map _
theorem cr_sortT3 : CallR X (.builtin "sorted") (fun vs H Q => ∃ (a : Addr) (xs : List V) (ts : List (Int × Int × Int)), vs = [V.ref a] ∧ SqL X.K H a xs ∧ Paired (TripAt X.K H) xs ts ∧
    ∀ ys ts' p, ys.length = ts'.length → (ys.zip ts').Perm (xs.zip ts) → SrtT ts' ts → H p = none → Q (.ref p) (upd H p (.lst ys))) := by
  intro pins s σ H vs us Q I r h
  obtain ⟨a, xs, ts, rfl, hs, hx, q⟩ := h
  obtain ⟨its, rv, hl, hz⟩ := I.list hs
  obtain ⟨u, rfl, ru⟩ := vals1 r
  obtain rfl : u = Value.ref a := ru
  have hall := paired_all hx
  have tr : ∀ v ∈ its, IsTrip s.heap v (kOf X.K H (backV v)) := by
    intro v hv
    obtain ⟨e1, e2⟩ := refs_back rv fun x m => by
      obtain ⟨p, t, e, _⟩ := hall x m
      exact ⟨t, e⟩
    obtain ⟨b, rfl⟩ := e2 v hv
    have hm : backV (.ref b) ∈ xs := by rw [e1]; exact List.mem_map.mpr ⟨_, hv, rfl⟩
    obtain ⟨p, hp⟩ := hall _ hm
    rw [kOf_eq I hp]
    exact isTrip_of I (x := .ref b) rfl hp
  refine SrtO.sorted_ord (swo_lexT fun v => kOf X.K H (backV v)) hl.isList (by rw [← rv.length]; exact hz) (fun h2 h₁ a ha kk => ?_) fun out hs' hb => ?_
  · refine trips_sortableO (s := { s with heap := h₁ }) (by omega) (fun v hm => (tr v hm).keeps fun b o e _ => (kk b o e).2) fun o e => ?_
    have e' : some o = some (seqObj "list" its.toArray 0) := e.symm.trans ha
    cases e'
    intro c
    exact absurd (Value.type.inj c) (by decide)
  · obtain ⟨ys, ts', r1, r2, r3, r4, r5, r6⟩ := sort_out I rv hx hs' hb
    obtain ⟨n, hn⟩ := PyProof.Rows.sortedAll_at s.heap its out.toArray
    refine ⟨.ref _, upd H _ (.lst ys), I.laid (t' := s.toks) (fun b o e => PyProof.Rows.sortedAll_old e) (Nat.le_succ _) ⟨by rw [r4]; exact hz, out, n, r1, hn⟩, rfl, q ys ts' _ (Paired.length r2) r6 r3 (I.hok.fresh (Nat.le_succ _))⟩

def TripH (H : Hp) (x : V) (p : Int × Int × Int) : Prop := ∃ b, x = .ref b ∧ H b = some (.tup [.int p.1, .int p.2.1, .int p.2.2])
theorem paired_memR {α β : Type} {F : α → β → Prop} : ∀ {l : List α} {r : List β} {b : β}, Paired F l r → b ∈ r → ∃ a ∈ l, F a b
  | _, _, _, .nil, h => by cases h
  | _, _, b, .cons (a := a) q t, h => by
    rcases List.mem_cons.mp h with rfl | h
    · exact ⟨_, List.mem_cons_self .., q⟩
    · obtain ⟨a', h1, h2⟩ := paired_memR t h
      exact ⟨a', List.mem_cons_of_mem _ h1, h2⟩
theorem paired_up {α β : Type} {F G : α → β → Prop} : ∀ {l : List α} {r : List β}, Paired F l r → (∀ a b, a ∈ l → F a b → G a b) → Paired G l r
  | _, _, .nil, _ => .nil
  | _, _, .cons q t, h => .cons (h _ _ (List.mem_cons_self ..) q) (paired_up t fun a b ha => h a b (List.mem_cons_of_mem _ ha))
/-- the key tuple of a triple -/
def key3 (t : Int × Int × Int) : List Key := [.inl t.1, .inl t.2.1, .inl t.2.2]
theorem trips_keys {K : PySem.W.Frag} : ∀ {kvs : List (List Key × V)} {bs : List Addr} {ts : List (Int × Int × Int)}, IsKeys H kvs bs → kvs.map (·.1) = ts.map key3 → Paired (TripAt K H) (bs.map V.ref) ts
  | [], _, [], .nil, _ => .nil
  | [], _, t :: ts, _, e => by cases e
  | kv :: kvs, _, [], _, e => by cases e
  | kv :: kvs, _, t :: ts, .cons h r, e => by
    simp only [List.map_cons, List.cons.injEq] at e
    refine .cons ⟨_, rfl, ?_⟩ (trips_keys r e.2)
    rw [e.1] at h
    exact .inl (.inl h)
theorem cr_sortDT (hc : X.calm = true) : CallR X (.builtin "sorted") (fun vs H Q => ∃ (a : Addr) (kvs : List (List Key × V)) (ts : List (Int × Int × Int)), vs = [V.ref a] ∧ Rd H a (.dT kvs) ∧ kvs.map (·.1) = ts.map key3 ∧
    ∀ ys ts' p, Paired (TripH H) ys ts' → SrtT ts' ts → H p = none → Q (.ref p) (upd H p (.lst ys))) := by
  intro pins s σ H vs us Q I r h
  obtain ⟨d, kvs, ts, rfl, hd, hkey, q⟩ := h
  obtain ⟨u, rfl, rx⟩ := r.one
  cases rx
  obtain ⟨z, hs, ks, pr, o, es, ep, ho, hx, hdt, he, hn⟩ := (show ObjOk X.prog X.w H s.heap d (.dT kvs) from hd.ok I.hok)
  have l1 : es.size = ks.length := size_of_entries he
  have l2 : kvs.length = ks.length := Paired.length pr
  have hT : Paired (TripAt X.K H) ((ks.map fun x => x.2.1).map V.ref) ts := trips_keys (isKeys_of pr) hkey
  refine Calls.call_function_entry PyProof.Rows.kind_sorted PyProof.Rows.plain_sorted PyProof.Rows.entry_sorted (PyProof.Rows.args_sorted1 _) ?_
  unfold Builtin.«sorted»
  refine wpAny_bind (m := checkCount "sorted" 1 1 _) (wpAny_pure ?_)
  refine wpAny_bind (PySem.W.kdu_collect (A := X.A.in1) (kdl_raw hs hx hdt) (I.ok.hd hc) ho (by omega) fun h' tk acc' kp it => ?_)
  have ea : acc'.toList = ks.map fun x => Value.ref x.2.1 := by
    have hl : acc'.toList.length = ks.length := by rw [Array.length_toList, it.1]; exact l1
    apply List.ext_getElem?
    intro j
    rw [List.getElem?_map]
    cases hj : acc'.toList[j]? with
    | none =>
      have h1 := List.getElem?_eq_none_iff.mp hj
      rw [List.getElem?_eq_none (by omega)]
      all_goals rfl
    | some v =>
      obtain ⟨en, hen, hv⟩ := it.2 j v (by rw [← Array.getElem?_toList]; exact hj)
      have qe := entry_at he j
      rw [hen] at qe
      cases hb : ks[j]? with
      | none =>
        rw [hb] at qe
        exact nomatch (show some en = none from qe)
      | some b =>
        rw [hb] at qe
        have e2 : en = entryOfKey (tupleKind (mixKind X.prog X.w)) b := Option.some.inj qe
        rw [hv, e2]
        all_goals rfl
  have eb : acc'.toList = (ks.map fun x => x.2.1).map Value.ref := by rw [ea, List.map_map]; all_goals rfl
  have rv : Vals ((ks.map fun x => x.2.1).map V.ref) acc'.toList := by rw [eb]; exact vals_refs _
  generalize hxs : ((ks.map fun x => x.2.1).map V.ref) = xs at rv hT
  have hz : xs.length ≤ sizeLine := by rw [← hxs, List.length_map, List.length_map]; omega
  have hlen : acc'.toList.length = xs.length := rv.length.symm
  have I1 : Inv X pins σ H { s with heap := h', toks := tk } := I.kept kp
  have hall := paired_all hT
  have tr : ∀ v ∈ acc'.toList, IsTrip h' v (kOf X.K H (backV v)) := by
    intro v hv
    obtain ⟨e1, e2⟩ := refs_back rv fun x m => by
      obtain ⟨p, t, e, _⟩ := hall x m
      exact ⟨t, e⟩
    obtain ⟨b, rfl⟩ := e2 v hv
    have hm : backV (.ref b) ∈ xs := by rw [e1]; exact List.mem_map.mpr ⟨_, hv, rfl⟩
    obtain ⟨p, hp⟩ := hall _ hm
    rw [kOf_eq I1 hp]
    exact isTrip_of I1 (x := .ref b) rfl hp
  refine wpAny_bind (wpAny_newList ?_ (by rw [hlen]; exact hz))
  have hoL : (h'.push (seqObj "list" acc'.toList.toArray 0)).get? h'.objs.size = some (seqObj "list" acc'.toList.toArray 0) := Heap.get?_push_size _ rfl
  have old : ∀ b o, h'.get? b = some o → (h'.push (seqObj "list" acc'.toList.toArray 0)).get? b = some o := fun b o e => Heap.get?_push_of_some _ e
  show wpAny _ _ _ _ _ { s with heap := h'.push (seqObj "list" acc'.toList.toArray 0), toks := tk }
  refine wpAny_bind (wpAny_holding (wpAny_call_entry PyProof.Rows.slot_list_sort ⟨_, hoL, rfl⟩ PyProof.Rows.entry_list_sort
    (SrtO.list_sort_ord (s := { s with heap := h'.push (seqObj "list" acc'.toList.toArray 0), toks := tk }) (swo_lexT fun v => kOf X.K H (backV v)) hoL (by rw [hlen]; exact hz) (fun h2 => ?_) fun out hs' hb => ⟨_, rfl, ?_⟩) (PyProof.Rows.args_list_sort _)))
  · refine trips_sortableO (by omega) (fun v hm => (tr v hm).keeps fun b o e _ => old b o e) fun o e => ?_
    have e' : some o = some (seqObj "list" acc'.toList.toArray 0) := e.symm.trans hoL
    cases e'
    intro c
    exact absurd (Value.type.inj c) (by decide)
  · obtain ⟨ys, ts', r1, r2, r3, r4, r5, _⟩ := sort_out I1 rv hT hs' hb
    have hH : ∀ y ∈ ys, ∃ b zs, y = V.ref b ∧ H b = some (.tup zs) := by
      intro y hy
      have hy' := r5.mem_iff.mp hy
      rw [← hxs] at hy'
      obtain ⟨b, hb1, rfl⟩ := List.mem_map.mp hy'
      obtain ⟨x, hx1, rfl⟩ := List.mem_map.mp hb1
      obtain ⟨kv, _, k2⟩ := paired_memR pr hx1
      exact ⟨_, _, rfl, k2.2.1⟩
    have r2 : Paired (TripH H) ys ts' := paired_up r2 fun y p hy hp => by
      obtain ⟨b, zs, rfl, h1⟩ := hH y hy
      obtain ⟨t, e, h2⟩ := hp
      cases e
      have := I1.tuple_inj (.inl (.inl h1)) h2
      subst this
      exact ⟨b, rfl, h1⟩
    obtain ⟨e', he'⟩ := PyProof.Rows.sortedHeap_at (vs := acc'.toList) (out := out.toArray) hoL
    refine wpAny_pure ⟨_, rfl, .ref h'.objs.size, upd H h'.objs.size (.lst ys), I1.laid (t' := tk) (fun b u e => ?_) (Nat.le_refl _)
      (show ObjOk X.prog X.w _ _ _ (.lst ys) from ⟨by rw [r4]; exact hz, out, e', r1, he'⟩), rfl, q ys ts' _ r2 r3 (I1.hok.fresh (Nat.le_refl _))⟩
    have hb' : b < h'.objs.size := Heap.lt_size e
    rw [PyProof.Rows.sortedHeap_old (Nat.ne_of_lt hb') (by rw [size_push']; exact Nat.lt_succ_of_lt hb')]
    exact Heap.get?_push_of_some _ e
end
/-! ### the rules over plain data -/
def trD (t : Int × Int × Int) : D := .tuple [.int t.1, .int t.2.1, .int t.2.2]
theorem dq_trip {K : PySem.W.Frag} {h : Hp} {v : V} {t : Int × Int × Int} (q : Dq K h v (trD t)) : TripAt K h v t := by
  cases q with
  | tup h1 h2 =>
    cases h2 with
    | cons a h2 => cases h2 with
      | cons b h2 => cases h2 with
        | cons c h2 =>
          cases h2; cases a; cases b; cases c
          exact ⟨_, rfl, h1⟩
theorem trip_dq {K : PySem.W.Frag} {h : Hp} {v : V} {t : Int × Int × Int} (q : TripAt K h v t) : Dq K h v (trD t) := by
  obtain ⟨b, rfl, q⟩ := q
  exact .tup q (.cons (.int _) (.cons (.int _) (.cons (.int _) .nil)))
theorem trips_pair {K : PySem.W.Frag} {h : Hp} : ∀ {xs : List V} {ts : List (Int × Int × Int)}, DqAll K h xs (ts.map trD) → Paired (TripAt K h) xs ts
  | [], [], _ => .nil
  | [], t :: ts, q => nomatch q
  | x :: xs, [], q => nomatch q
  | x :: xs, t :: ts, .cons a q => .cons (dq_trip a) (trips_pair q)
theorem pair_trips {K : PySem.W.Frag} {h : Hp} : ∀ {xs : List V} {ts : List (Int × Int × Int)}, Paired (TripAt K h) xs ts → DqAll K h xs (ts.map trD)
  | _, _, .nil => .nil
  | _, _, .cons a q => .cons (trip_dq a) (pair_trips q)
theorem zip_paired {α β : Type} {F : α → β → Prop} : ∀ {l : List α} {r : List β}, l.length = r.length → (∀ p ∈ l.zip r, F p.1 p.2) → Paired F l r
  | [], [], _, _ => .nil
  | a :: l, b :: r, e, h => .cons (h (a, b) (List.mem_cons_self ..)) (zip_paired (by simpa using e) fun p hp => h p (List.mem_cons_of_mem _ hp))
theorem paired_zip {α β : Type} {F : α → β → Prop} : ∀ {l : List α} {r : List β}, Paired F l r → ∀ p ∈ l.zip r, F p.1 p.2
  | _, _, .nil => fun p hp => by cases hp
  | _, _, .cons q t => fun p hp => by
    rcases List.mem_cons.mp hp with rfl | hp
    · exact q
    · exact paired_zip t p hp
/-- sorted of a list of triples of ints; of a dict by such -/
def bSortT : AC1 := fun avs m Q => match avs with
  | [x] => match dtA m x with
    | some kvs => ∃ ts, kvs.map (·.1) = ts.map key3 ∧ ∀ ts', SrtT ts' ts → Q (.d (.list (ts'.map trD))) m
    | none => match lstA m x with
      | some ds => ∃ ts, ds = ts.map trD ∧ ∀ ts', SrtT ts' ts → Q (.d (.list (ts'.map trD))) m
      | none => False
  | _ => False
section
variable {X : Cx}
theorem cq_sortT (hc : X.calm = true) : CallQ X (.builtin "sorted") bSortT := by
  refine ⟨_, CallR.or (cr_sortDT hc) cr_sortT3, fun C L Mo H m avs vs Q AQ hK b r k hh => ?_⟩
  have lst : ∀ (l : Addr) (xs : List V) (ts : List (Int × Int × Int)), SqL X.K H l xs → DqAll C.K (C.hd L Mo H) xs (ts.map trD) → (∀ ts', SrtT ts' ts → AQ (.d (.list (ts'.map trD))) m) →
      ∀ ys ts' p, ys.length = ts'.length → (ys.zip ts').Perm (xs.zip ts) → SrtT ts' ts → H p = none → Q (.ref p) (upd H p (.lst ys)) := by
    intro l xs ts h1 h2 h3 ys ts' p hl hz hs hp
    refine k.lst b hp (pair_trips (zip_paired hl fun p hp => ?_)) (h3 ts' hs)
    exact paired_zip (trips_pair h2) p (hz.mem_iff.mp hp)
  unfold bSortT at hh
  split at hh
  · rename_i x
    obtain ⟨v, rfl, rv⟩ := av1 r
    split at hh
    · rename_i kvs e
      obtain ⟨ts, h1, h2⟩ := hh
      obtain ⟨l, ys, rfl, h4, h5⟩ := dtA_ok b rv e
      refine .inl ⟨l, ys, ts, rfl, .inl h4, h5.keys.trans h1, fun ys ts' p h6 h7 hp => k.lst b hp (pair_trips (paired_up h6 fun y t _ q => ?_)) (h2 ts' h7)⟩
      obtain ⟨c, rfl, q⟩ := q
      exact ⟨c, rfl, .inl (.inl (b.tup_hd q))⟩
    · split at hh
      · rename_i ds e
        obtain ⟨ts, rfl, h2⟩ := hh
        obtain ⟨l, xs, rfl, h1, h3⟩ := lstA_ok b rv e
        exact .inr ⟨l, xs, ts, rfl, SqL.of h1, hK ▸ (L2.Paired.mapP (trips_pair h3) fun _ _ q => by obtain ⟨t, e, q⟩ := q; exact ⟨t, e, same_tup hid_same q⟩), lst l xs ts (SqL.of h1) h3 h2⟩
      · exact hh.elim
  · exact hh.elim
end
/-! ### d[key], the key a tuple of data -/
section
variable {X : Cx} {o i : Expr} {pos : Pos} {td ty : TE} {ta tb : ATE}
def tDGetT (K : PySem.W.Frag) (td ty : TE) : TE := fun σ H Q => td σ H fun x H1 => ty σ H1 fun y H2 => ∃ a v kvs ks b, x = .ref a ∧ H2 a = some (.dT kvs) ∧ y = .ref b ∧ SqT K H2 b (ks.map kV) ∧ valV kvs ks = some v ∧ Q v H2
theorem pe_dgetT (hu : X.A.units + 1 < cLine) (ho : PE X o td) (hi : PE X i ty) (hs : NoSl i) : PE X (.Subscript o i pos) (tDGetT X.K td ty) := by
  refine ⟨fun pins s σ H Q I h => ?_⟩
  refine subD_of PySem.F.slot_dict_getitem.lookup hs (thn (ho.run pins s σ H _ I h) fun u s1 ⟨x, H1, I1, rx, q1⟩ => thn (hi.run pins s1 σ H1 _ I1 q1) fun iv s2 ⟨y, H2, I2, ry, a, v, kvs, ks, b, ex, e, ey, eb, l, q2⟩ => ?_)
  subst ex
  obtain rfl : u = Value.ref a := rx
  obtain ⟨z, hd, xs, rel, dd⟩ := dt_of I2.hok e
  refine ⟨?_, ?_⟩
  · obtain ⟨o', es, ep, h1, h2, h3⟩ := dd
    exact ⟨_, h1, h2.1⟩
  · subst ey
    cases (show iv = Value.ref b from ry)
    obtain ⟨w', hw, rw'⟩ := RelO.some_of (v := v) (o := (atKey xs ks).map (·.2)) (by rw [← l]; exact rel.val ks)
    obtain ⟨p, hp, hp2⟩ := Option.map_eq_some_iff.mp hw
    have key : (tupleKind (mixKind X.prog X.w)).is s2.heap ks b := by
      obtain ⟨its, r, ⟨o', h1, h2, n, h3⟩, _⟩ := I2.tuple eb
      exact ⟨o', its.toArray, n, h1, h2, h3, by simpa using items_are r⟩
    refine wpAny_getItem_heap (tupleKind_room_in1 hu) key dd hp ?_
    rw [hp2]
    exact ⟨v, H2, I2.tok _, rw', q2⟩
def aDixT (td ty : ATE) : ATE := fun a Q => td a fun x m1 => ty ⟨a.g, m1⟩ fun y m2 => match dtA m2 x, y with
  | some kvs, .d (.tuple ds) => match keysD ds with
    | some ks => match valD kvs ks with
      | some d => Q (.d d) m2
      | none => False
    | none => False
  | _, _ => False
theorem q_dixT (hu : X.A.units + 1 < cLine) (ho : QE X o ta) (hi : QE X i tb) (hs : NoSl i := by intro _ _; rfl) : QE X (.Subscript o i pos) (aDixT ta tb) := fun C hK => PE.imp (pe_dgetT hu (ho C hK) (hi C hK) hs) fun σ H Q ⟨a, L, Mo, AQ, r, k, h⟩ => by
  refine ⟨a, L, Mo, _, r, fun x m1 v L1 Mo1 H1 h1 b1 v1 e1 => ⟨⟨a.g, m1⟩, L1, Mo1, _, r.next b1 e1, fun y m2 w L2 Mo2 H2 h2 b2 w2 e2 => ?_, h1⟩, h⟩
  split at h2
  · rename_i kvs ds e
    split at h2
    · rename_i ks ek
      split at h2
      · rename_i d ed
        obtain ⟨l, ys, rfl, h4, h5⟩ := dtA_ok b2 (v1.mono e2) e
        obtain ⟨t, xs, rfl, g1, g2⟩ := tupA_ok (ds := ds) w2 rfl
        have hx := keysD_ok g2 ek
        subst hx
        have q := h5.opt ks
        rw [ed] at q
        obtain ⟨z, hz, q⟩ := q.some_
        exact ⟨l, z, ys, ks, t, rfl, h4, rfl, hK ▸ g1, hz, ((k.aft e1).aft e2).ret h2 b2 q⟩
      · exact h2.elim
    · exact h2.elim
  · exact h2.elim
end
/-- a def of the text under another name -/
def DefAt2 (K : PySem.W.Frag) (mg : Str → Option Value) (x y : Str) (st : Stmt) (ps : List Str) : Prop := ∃ (f : Addr) (fd : FuncData), mg x = some (.ref f) ∧ Fun K y y st f fd ∧ Binds K fd ps []
section
variable {P : Program} {w : World} {K : PySem.W.Frag} {mg : Str → Option Value} {base : Heap}
theorem DefAt2.callee {x y : Str} {st : Stmt} {ps N : List Str} {k n : Nat} {fn : AFn} {t : ATS} (Df : DefAt2 K mg x y st ps) (S : FnScope N ps (defScope st)) (hn : ps.length = n)
    (hbody : ∀ (f : Addr) (cdv : Value) (A : Around) (outer : List Env) (s : Shared) (H : Hp) (E : XK), Room k (A.deeper (envOfC y (defScope st) s.heap.objs.size f cdv)) → (A.deeper (envOfC y (defScope st) s.heap.objs.size f cdv)).guards = some [] →
      QSs (cxOf CX0 P w K mg base N y (defScope st) f cdv A outer s H E).nox (defBody st) t)
    (hf : ∀ avs s AQ, fn avs s AQ → t (endsA AQ) ⟨startA N avs, ⟨s, []⟩⟩) : Callee P w K mg base x (k + 1) n fn := by
  obtain ⟨f, fd, h1, h2, h3⟩ := Df
  exact ⟨f, fd, ps, h1, h2.kp, h3, fn_okA h2 S hn (hbody f) hf⟩
theorem Callee.none {x : Str} {st : Stmt} {ps : List Str} {k n : Nat} (Df : DefAt K mg x st ps) : Callee P w K mg base x k n (fun _ _ _ => False) := by
  obtain ⟨f, fd, h1, h2, h3⟩ := Df
  exact ⟨f, fd, ps, h1, h2.kp, h3, ⟨fun vs H Q E ⟨_, _, _, _, _, _, _, _, _, h⟩ => h.elim, fun A outer s H args us vs Q E _ _ _ _ _ ⟨_, _, _, _, _, _, _, _, _, h⟩ => h.elim⟩⟩
end
end QL

namespace QL
open PySem RZ
open PySem.Sem (wp)
/-! ### zip of two tuples, strict=True -/
abbrev ZipS (h : Heap) (z TI TO : Addr) (f0 : Value) : Prop :=
  h.get? z = some { cls := .type "zip", dict := none, data := .fields #[f0, .bool false, .bool true, .ref TI, .ref TO], slots := #[] }
section
variable {prog : Program} {w : World} {A : Around} {E : Value → Shared → Prop} {s : Shared}
theorem orEnd_item {it l : Addr} {i : Nat} {items} {x : Value} {Q : Option Value → Shared → Prop} (hit : s.heap.IsTupleIter it l i) (hl : s.heap.IsTuple l items) (hx : items[i]? = some x)
    (hQ : ∀ h', h'.IsTupleIter it l (i + 1) → Heap.SameBut it s.heap h' → Q (some x) { s with heap := h' }) : wpAny (model prog w) A (Builtin.SmallTypes.nextOrEnd (.ref it)) Q E s := by
  unfold Builtin.SmallTypes.nextOrEnd
  exact wpAny_bind (wpAny_attempt (nextOf_tuple_item hit hl hx fun h' a b => wpAny_pure (hQ h' a b)))
theorem orEnd_end {it l : Addr} {i : Nat} {items} {Q : Option Value → Shared → Prop} (hh : A.handled = none) (hit : s.heap.IsTupleIter it l i) (hl : s.heap.IsTuple l items) (hx : items[i]? = none)
    (hQ : ∀ h', Heap.ExtBut it s.heap h' → Q none { s with heap := h' }) : wpAny (model prog w) A (Builtin.SmallTypes.nextOrEnd (.ref it)) Q E s := by
  unfold Builtin.SmallTypes.nextOrEnd
  refine wpAny_bind (wpAny_attempt (nextOf_tuple_end hh hit hl hx fun h' e hb he => ?_))
  obtain ⟨o, ho, hc⟩ := he
  refine wpAny_bind (wpAny_isInstance (T := "StopIteration") (b := true) ⟨o, ho, hc⟩ isSubtype_stop ?_)
  exact wpAny_pure (hQ h' hb)
/-- the pair that a turn gives is new; all but the zip's own cells stays -/
structure TurnS (h h' : Heap) (z TI TO i1 i2 l1 l2 : Addr) (k : Nat) (x y : Value) : Prop where
  zip : ZipS h' z TI TO (rawInt h.objs.size)
  kept : IsPair h' TO x y
  one : h'.IsTupleIter i1 l1 (k + 1)
  two : h'.IsTupleIter i2 l2 (k + 1)
  made : IsPair h' h.objs.size x y
  size : h'.objs.size = h.objs.size + 1
  rest : ∀ c o, c ≠ z → c ≠ TO → c ≠ i1 → c ≠ i2 → h.get? c = some o → h'.get? c = some o
variable {z TI TO i1 i2 l1 l2 : Addr} {k : Nat} {xs ys : Array Value} {x y a b : Value}
theorem zipS_item {Q : Value → Shared → Prop} (D : ZipApart z TI TO i1 i2 l1 l2) (hz : ZipS s.heap z TI TO .none) (hTI : IsPair s.heap TI (.ref i1) (.ref i2)) (hTO : IsPair s.heap TO a b)
    (h1 : s.heap.IsTupleIter i1 l1 k) (h2 : s.heap.IsTupleIter i2 l2 k) (hl1 : s.heap.IsTuple l1 xs) (hl2 : s.heap.IsTuple l2 ys) (hx : xs[k]? = some x) (hy : ys[k]? = some y)
    (hQ : ∀ h', TurnS s.heap h' z TI TO i1 i2 l1 l2 k x y → Q (.ref s.heap.objs.size) { s with heap := h' }) :
    wpAny (model prog w) A (Builtin.«zip.__next__» ⟨[.ref z], []⟩) (fun fin s' => ∃ v, fin = .done (.ret v) ∧ Q v s') E s := by
  show wpAny _ _ (field (.ref z) 2 >>= _) _ _ _
  refine wpAny_bind (wpAny_field hz rfl (x := .bool true) rfl ?_)
  show wpAny _ _ (field (.ref z) 3 >>= _) _ _ _
  refine wpAny_bind (wpAny_field hz rfl (x := .ref TI) rfl ?_)
  refine wpAny_bind (wpAny_seqItems hTI rfl ?_)
  show wpAny _ _ (Builtin.SmallTypes.ownedTupleIsFree (.ref z) >>= _) _ _ _
  refine wpAny_bind ?_
  unfold Builtin.SmallTypes.ownedTupleIsFree
  refine wpAny_bind (wpAny_field hz rfl (x := .none) rfl (wpAny_pure ?_))
  simp only [if_true]
  refine wpAny_bind (wpAny_rule (wpAny_bind (wpAny_field hz rfl (x := .ref TO) rfl (wpAny_bind (wpAny_setField_rec hz (by simp) fun h₁ z1 b1 => ?_)))))
  replace z1 : ZipS h₁ z TI TO .ellipsis := z1
  refine wpAny_bind ?_
  simp only [List.zipIdx_cons, List.zipIdx_nil, List.forIn_cons, List.forIn_nil]
  -- the first draw
  refine wpAny_bind (wpAny_bind (wpAny_onRaise ?_))
  show wpAny _ _ (Builtin.SmallTypes.nextOrEnd (.ref i1)) _ _ _
  refine orEnd_item (h1.extBut b1.extBut D.i1z) (hl1.extBut b1.extBut D.l1z) hx fun h₂ it2 b2 => ?_
  have o2 : IsPair h₂ TO a b := (b2.2 _ D.TOi1).trans ((b1.2 _ D.TOz).trans hTO)
  refine wpAny_bind (wpAny_seqItems o2 rfl (wpAny_bind (wpAny_updateSeq_pair o2 fun h₃ o3 b3 => wpAny_bind (wpAny_letGo (wpAny_pure ?_)))))
  replace o3 : IsPair h₃ TO x b := o3
  -- the second draw
  refine wpAny_bind (wpAny_bind (wpAny_onRaise ?_))
  show wpAny _ _ (Builtin.SmallTypes.nextOrEnd (.ref i2)) _ _ _
  refine orEnd_item (((h2.extBut b1.extBut D.i2z).extBut b2.extBut D.i12.symm).extBut b3.extBut D.TOi2.symm)
    (((hl2.extBut b1.extBut D.l2z).extBut b2.extBut D.l2i1).extBut b3.extBut D.l2TO) hy fun h₄ it4 b4 => ?_
  have o4 : IsPair h₄ TO x b := (b4.2 _ D.TOi2).trans o3
  refine wpAny_bind (wpAny_seqItems o4 rfl (wpAny_bind (wpAny_updateSeq_pair o4 fun h₅ o5 b5 => wpAny_bind (wpAny_letGo (wpAny_pure (wpAny_pure ?_))))))
  replace o5 : IsPair h₅ TO x y := o5
  have far : ∀ c o, c ≠ z → c ≠ TO → c ≠ i1 → c ≠ i2 → s.heap.get? c = some o → h₅.get? c = some o := fun c o c1 c2 c3 c4 e =>
    (b5.2 _ c2).trans ((b4.2 _ c4).trans ((b3.2 _ c2).trans ((b2.2 _ c3).trans ((b1.2 _ c1).trans e))))
  have z5 : ZipS h₅ z TI TO .ellipsis := (b5.2 _ D.TOz.symm).trans ((b4.2 _ D.i2z.symm).trans ((b3.2 _ D.TOz.symm).trans ((b2.2 _ D.i1z.symm).trans z1)))
  have sz : h₅.objs.size = s.heap.objs.size := by rw [b5.1, b4.1, b3.1, b2.1, b1.1]
  have i5 : h₅.IsTupleIter i1 l1 (k + 1) := ((it2.extBut b3.extBut D.TOi1.symm).extBut b4.extBut D.i12).extBut b5.extBut D.TOi1.symm
  have j5 : h₅.IsTupleIter i2 l2 (k + 1) := it4.extBut b5.extBut D.TOi2.symm
  refine wpAny_bind (wpAny_seqItems o5 rfl (wpAny_bind (wpAny_newTuple ?_)))
  show wpAny _ _ (Builtin.SmallTypes.ownedTupleHandOut (.ref z) (.ref h₅.objs.size) >>= _) _ _ _
  refine wpAny_bind ?_
  unfold Builtin.SmallTypes.ownedTupleHandOut
  have zlt : z < h₅.objs.size := Heap.lt_size z5
  have z6 : ZipS (h₅.push { cls := .type "tuple", data := .seq #[x, y] }) z TI TO .ellipsis := Heap.get?_push_of_some _ z5
  refine wpAny_bind (wpAny_setField_rec z6 (by simp) fun h₇ z7 b7 => ?_)
  replace z7 : ZipS h₇ z TI TO (rawInt h₅.objs.size) := z7
  refine wpAny_setField_rec z7 (by simp) fun h₈ z8 b8 => ?_
  replace z8 : ZipS h₈ z TI TO (rawInt h₅.objs.size) := z8
  have up : ∀ c o, c ≠ z → h₅.get? c = some o → h₈.get? c = some o := fun c o c1 e => (b8.2 _ c1).trans ((b7.2 _ c1).trans (Heap.get?_push_of_some _ e))
  have m8 : IsPair h₈ h₅.objs.size x y := (b8.2 _ (Nat.ne_of_gt zlt)).trans ((b7.2 _ (Nat.ne_of_gt zlt)).trans (Heap.get?_push_size _ rfl))
  have s8 : h₈.objs.size = h₅.objs.size + 1 := by rw [b8.1, b7.1, Heap.size_push]
  rw [sz] at z8 m8 s8
  refine wpAny_pure ⟨_, rfl, ?_⟩
  show Q (.ref h₅.objs.size) _
  rw [sz]
  exact hQ h₈ ⟨z8, up _ _ D.TOz o5, i5.at fun o e => up _ o D.i1z e, j5.at fun o e => up _ o D.i2z e, m8, s8, fun c o c1 c2 c3 c4 e => up c o c1 (far c o c1 c2 c3 c4 e)⟩
theorem zipS_end {Q : Fin → Shared → Prop} (hh : A.handled = none) (D : ZipApart z TI TO i1 i2 l1 l2) (hz : ZipS s.heap z TI TO .none) (hTI : IsPair s.heap TI (.ref i1) (.ref i2)) (hTO : IsPair s.heap TO a b)
    (h1 : s.heap.IsTupleIter i1 l1 k) (h2 : s.heap.IsTupleIter i2 l2 k) (hl1 : s.heap.IsTuple l1 xs) (hl2 : s.heap.IsTuple l2 ys) (hx : xs[k]? = none) (hy : ys[k]? = none)
    (hE : ∀ h' e, (∀ c o, c ≠ z → c ≠ TO → c ≠ i1 → c ≠ i2 → s.heap.get? c = some o → h'.get? c = some o) → (∃ o, h'.get? e = some o ∧ o.cls = .type "StopIteration") → E (.ref e) { s with heap := h' }) :
    wpAny (model prog w) A (Builtin.«zip.__next__» ⟨[.ref z], []⟩) Q E s := by
  show wpAny _ _ (field (.ref z) 2 >>= _) _ _ _
  refine wpAny_bind (wpAny_field hz rfl (x := .bool true) rfl ?_)
  show wpAny _ _ (field (.ref z) 3 >>= _) _ _ _
  refine wpAny_bind (wpAny_field hz rfl (x := .ref TI) rfl ?_)
  refine wpAny_bind (wpAny_seqItems hTI rfl ?_)
  show wpAny _ _ (Builtin.SmallTypes.ownedTupleIsFree (.ref z) >>= _) _ _ _
  refine wpAny_bind ?_
  unfold Builtin.SmallTypes.ownedTupleIsFree
  refine wpAny_bind (wpAny_field hz rfl (x := .none) rfl (wpAny_pure ?_))
  simp only [if_true]
  refine wpAny_bind (wpAny_rule (wpAny_bind (wpAny_field hz rfl (x := .ref TO) rfl (wpAny_bind (wpAny_setField_rec hz (by simp) fun h₁ z1 b1 => ?_)))))
  replace z1 : ZipS h₁ z TI TO .ellipsis := z1
  refine wpAny_bind ?_
  simp only [List.zipIdx_cons, List.zipIdx_nil, List.forIn_cons, List.forIn_nil]
  refine wpAny_bind (wpAny_bind (wpAny_onRaise ?_))
  show wpAny _ _ (Builtin.SmallTypes.nextOrEnd (.ref i1)) _ _ _
  refine orEnd_end hh (h1.extBut b1.extBut D.i1z) (hl1.extBut b1.extBut D.l1z) hx fun h₂ b2 => ?_
  have z2 : ZipS h₂ z TI TO .ellipsis := b2 _ _ D.i1z.symm z1
  refine wpAny_bind (wpAny_setField_rec z2 (by simp) fun h₃ z3 b3 => ?_)
  have far : ∀ c o, c ≠ z → c ≠ TO → c ≠ i1 → c ≠ i2 → s.heap.get? c = some o → h₃.get? c = some o := fun c o c1 c2 c3 c4 e => (b3.2 _ c1).trans (b2 _ _ c3 ((b1.2 _ c1).trans e))
  refine wpAny_bind ?_
  refine wpAny_bind ?_
  simp only [List.drop_succ_cons, List.drop_zero, List.zipIdx_cons, List.zipIdx_nil, List.forIn_cons, List.forIn_nil]
  refine wpAny_bind (wpAny_bind ?_)
  have g2 : h₃.IsTupleIter i2 l2 k := h2.at fun o e => (b3.2 _ D.i2z).trans (b2 _ _ D.i12.symm ((b1.2 _ D.i2z).trans e))
  have t2 : h₃.IsTuple l2 ys := by
    obtain ⟨o, ho, hc, hd⟩ := hl2
    exact ⟨o, (b3.2 _ D.l2z).trans (b2 _ _ D.l2i1 ((b1.2 _ D.l2z).trans ho)), hc, hd⟩
  refine orEnd_end hh g2 t2 hy fun h₄ b4 => ?_
  rw [if_neg (by decide)]
  refine wpAny_pure (wpAny_pure ?_)
  refine wpAny_bind (wpAny_rule ?_)
  unfold Builtin.SmallTypes.stopIteration
  refine wpAny_bind ?_
  simp only [newExc, newTuple]
  refine wpAny_bind (wpAny_newObj_type ?_ (by size_fits))
  refine wpAny_bind (m := firstArgMember _ _) (wpAny_of_eq (a := Value.none) (by first | rfl | (simp only [firstArgMember]; rfl)) ?_)
  refine wpAny_newObj_type ?_ (by size_fits)
  simp only [raiseNew]
  refine wpAny_bind (wpAny_handled ?_)
  first | rw [show A.in1.handled = none from hh] | rw [hh]
  refine wpAny_bind (wpAny_pure (wpAny_throw ?_))
  exact hE _ _ (fun c o c1 c2 c3 c4 e => Heap.get?_push_of_some _ (Heap.get?_push_of_some _ (b4 _ _ c4 (far c o c1 c2 c3 c4 e)))) ⟨_, Heap.get?_push_size _ rfl, rfl⟩
theorem nextS_item {Q : Option Value → Shared → Prop} (D : ZipApart z TI TO i1 i2 l1 l2) (hz : ZipS s.heap z TI TO .none) (hTI : IsPair s.heap TI (.ref i1) (.ref i2)) (hTO : IsPair s.heap TO a b)
    (h1 : s.heap.IsTupleIter i1 l1 k) (h2 : s.heap.IsTupleIter i2 l2 k) (hl1 : s.heap.IsTuple l1 xs) (hl2 : s.heap.IsTuple l2 ys) (hx : xs[k]? = some x) (hy : ys[k]? = some y)
    (hQ : ∀ h', TurnS s.heap h' z TI TO i1 i2 l1 l2 k x y → Q (some (.ref s.heap.objs.size)) { s with heap := h' }) : wpAny (model prog w) A (pyNext (.ref z)) Q E s := by
  have hT : s.TypeIs (.ref z) "zip" := ⟨_, hz, rfl⟩
  unfold pyNext
  exact wpAny_bind (wpAny_attempt (wpAny_callSpecial?_slot (name := Str.ofString "__next__") hT F.slot_zip_next
    (wpAny_call_entry F.slot_zip_next hT F.entry_zip_next (zipS_item D hz hTI hTO h1 h2 hl1 hl2 hx hy fun h' t => wpAny_pure (hQ h' t)) (F.args_zip_next_1 _))))
theorem nextS_end {Q : Option Value → Shared → Prop} (hh : A.handled = none) (D : ZipApart z TI TO i1 i2 l1 l2) (hz : ZipS s.heap z TI TO .none) (hTI : IsPair s.heap TI (.ref i1) (.ref i2)) (hTO : IsPair s.heap TO a b)
    (h1 : s.heap.IsTupleIter i1 l1 k) (h2 : s.heap.IsTupleIter i2 l2 k) (hl1 : s.heap.IsTuple l1 xs) (hl2 : s.heap.IsTuple l2 ys) (hx : xs[k]? = none) (hy : ys[k]? = none)
    (hQ : ∀ h', (∀ c o, c ≠ z → c ≠ TO → c ≠ i1 → c ≠ i2 → s.heap.get? c = some o → h'.get? c = some o) → Q none { s with heap := h' }) : wpAny (model prog w) A (pyNext (.ref z)) Q E s := by
  have hT : s.TypeIs (.ref z) "zip" := ⟨_, hz, rfl⟩
  unfold pyNext
  refine wpAny_bind (wpAny_attempt (wpAny_callSpecial?_slot (name := Str.ofString "__next__") hT F.slot_zip_next
    (wpAny_call_entry F.slot_zip_next hT F.entry_zip_next (zipS_end hh D hz hTI hTO h1 h2 hl1 hl2 hx hy fun h' e hk he => ?_) (F.args_zip_next_1 _))))
  obtain ⟨o, ho, hc⟩ := he
  refine wpAny_bind (wpAny_isInstance (T := "StopIteration") (b := true) ⟨o, ho, hc⟩ isSubtype_stop ?_)
  exact wpAny_pure (hQ _ hk)
theorem letGoS {elts : List Expr} {x1} {pos : Pos} {T : Addr} {Q : Unit → Shared → Prop} (hz : ZipS s.heap z TI TO (rawInt T)) (hQ : ∀ h', ZipS h' z TI TO .none → Heap.SameBut z s.heap h' → Q () { s with heap := h' }) :
    wpAny (model prog w) A (letOwnedTupleGo (.Tuple elts x1 pos) (.ref z) (.ref T)) Q E s := by
  unfold letOwnedTupleGo
  refine wpAny_bind (wpAny_load hz ?_)
  show wpAny _ _ (if _ then _ else _) Q E s
  rw [if_pos (by simp)]
  refine wpAny_bind (wpAny_rule ?_)
  show wpAny _ _ (setField (.ref z) 0 .none) Q E s
  exact wpAny_setField_rec hz (by simp) fun h' hz' hs' => hQ h' hz' hs'
theorem iterS {f0 : Value} {Q : Value → Shared → Prop} (hz : ZipS s.heap z TI TO f0) (h : Q (.ref z) s) : wpAny (model prog w) A (pyIter (.ref z)) Q E s := by
  have hT : s.TypeIs (.ref z) "zip" := ⟨_, hz, rfl⟩
  refine wpAny_pyIter_slot hT F.slot_zip_iter (wpAny_call_entry F.slot_zip_iter hT F.entry_zip_iter ?_ (F.args_zip_iter_1 _))
  show wpAny _ _ (ret (.ref z)) _ _ s
  exact wpAny_pure ⟨_, rfl, "zip", _, hT, F.slot_zip_next.lookup, h⟩
theorem callWith_typeKw {M : Model} {pos : Pos} {T : String} {first : List Value} {args : List (Bool × Sem Value)} {kws : List (Option Str × Sem Value)} {Q : Value → Shared → Prop} (hplain : args.any (·.1) = false) (hkw : kws.any (·.1.isNone) = false)
    (h : wpAny M A (evalArgs (.type T) true args kws) (fun a s₁ => wpAny M A (call (.type T) (first ++ a.pos) a.kw) Q E s₁) E s) : wpAny M A (callWith pos (.type T) first args kws) Q E s := by
  unfold callWith
  refine wpAny_bind (wpAny_holding (wpAny_mono h (fun a s₁ h₁ => wpAny_bind (wpAny_standAt ?_)) fun _ _ x => x))
  simp only [hplain, hkw, Bool.or_false]
  refine wpAny_bind (wpAny_pure ?_)
  exact wpAny_bind (wpAny_mono h₁ (fun r s₂ hr => wpAny_bind (wpAny_holding (wpAny_point (wpAny_pure hr)))) fun _ _ x => x)
end
theorem typeCall_zipS (a b c : Value) : checkTypeCall "zip" ⟨[a, b], [(Str.ofString "strict", c)]⟩ = pure () := by kernel_rfl
theorem newCall_zipS (a b c : Value) : checkBuiltinCall "zip.__new__" ⟨[.type "zip", a, b], [(Str.ofString "strict", c)]⟩ = pure () := by kernel_rfl
theorem initArgs_zipS (o a b c : Value) : PySem.argsOk "object.__init__" ⟨[o, a, b], [(Str.ofString "strict", c)]⟩ := by unfold PySem.argsOk; kernel_rfl
abbrev zs1 (h : Heap) (l1 : Addr) : Heap := h.push { cls := .type "tuple_iterator", data := .fields #[.ref l1, .int 0 0] }
abbrev zs2 (h : Heap) (l1 l2 : Addr) : Heap := (zs1 h l1).push { cls := .type "tuple_iterator", data := .fields #[.ref l2, .int 0 0] }
abbrev zs3 (h : Heap) (l1 l2 : Addr) : Heap := (zs2 h l1 l2).push { cls := .type "tuple", data := .seq #[.ref h.objs.size, .ref (zs1 h l1).objs.size] }
abbrev zs4 (h : Heap) (l1 l2 : Addr) : Heap := (zs3 h l1 l2).push { cls := .type "tuple", data := .seq #[.none, .none] }
abbrev zs5 (h : Heap) (l1 l2 : Addr) : Heap := (zs4 h l1 l2).push { cls := .type "zip", data := .fields #[.none, .bool false, .bool true, .ref (zs2 h l1 l2).objs.size, .ref (zs3 h l1 l2).objs.size] }
theorem meets_zipS (l1 l2 : Addr) (xs ys : Array Value) :
    Meets (Builtin.«zip.__new__» ⟨[.type "zip", .ref l1, .ref l2], [(Str.ofString "strict", .bool true)]⟩) (fun _ R s => s.heap.IsTuple l1 xs ∧ s.heap.IsTuple l2 ys ∧
      R (.ok (.ret (.ref (zs4 s.heap l1 l2).objs.size))) { s with heap := zs5 s.heap l1 l2 }) :=
  .of_wp fun prog w A R s h => by
    obtain ⟨hp, g, d, tk, os⟩ := s; obtain ⟨hl1, hl2, h⟩ := h
    have hsub := sub_zip
    have hL1 : Heap.IsTuple (Shared.heap ⟨hp, g, d, tk, os⟩) l1 xs := hl1
    have hL2 : Heap.IsTuple (Shared.heap ⟨hp.push { cls := .type "tuple_iterator", data := .fields #[.ref l1, .int 0 0] }, g, d, tk, os⟩) l2 ys := Heap.IsTuple.push hl2 _
    have e2 : (Str.ofString "strict" != ("strict" : Str)) = false := by decide +kernel
    wp_walk using wpAny_pyIter_tuple hL1, wpAny_pyIter_tuple hL2
    exact ⟨_, rfl, h⟩
section
variable {prog : Program} {w : World} {A : Around} {E : Value → Shared → Prop} {s : Shared}
theorem call_zipS {l1 l2 : Addr} {xs ys : Array Value} {Q : Value → Shared → Prop} (hl1 : s.heap.IsTuple l1 xs) (hl2 : s.heap.IsTuple l2 ys)
    (h : ∀ h', ZipS h' (s.heap.objs.size + 4) (s.heap.objs.size + 2) (s.heap.objs.size + 3) .none → IsPair h' (s.heap.objs.size + 2) (.ref s.heap.objs.size) (.ref (s.heap.objs.size + 1)) →
      IsPair h' (s.heap.objs.size + 3) .none .none → h'.IsTupleIter s.heap.objs.size l1 0 → h'.IsTupleIter (s.heap.objs.size + 1) l2 0 →
      (∀ c o, s.heap.get? c = some o → h'.get? c = some o) → Q (.ref (s.heap.objs.size + 4)) { s with heap := h' }) :
    wpAny (model prog w) A (call (.type "zip") [.ref l1, .ref l2] [(Str.ofString "strict", .bool true)]) Q E s := by
  refine callType_newKw F.called_zip (by decide) (typeCall_zipS _ _ _) (newCall_zipS _ _ _) (fun obj => initArgs_zipS obj _ _ _) F.entry_zip_new (meets_zipS l1 l2 xs ys) ⟨hl1, hl2, ?_⟩
  have z1 : (zs1 s.heap l1).objs.size = s.heap.objs.size + 1 := Heap.size_push ..
  have z2 : (zs2 s.heap l1 l2).objs.size = s.heap.objs.size + 2 := by rw [Heap.size_push, z1]
  have z3 : (zs3 s.heap l1 l2).objs.size = s.heap.objs.size + 3 := by rw [Heap.size_push, z2]
  have z4 : (zs4 s.heap l1 l2).objs.size = s.heap.objs.size + 4 := by rw [Heap.size_push, z3]
  have p1 : ∀ {h : Heap} {o : Obj} {c : Addr} {u : Obj}, h.get? c = some u → (h.push o).get? c = some u := fun e => Heap.get?_push_of_some _ e
  have g5 : (zs5 s.heap l1 l2).get? (zs4 s.heap l1 l2).objs.size = some _ := Heap.get?_push_size _ rfl
  have g4 : (zs5 s.heap l1 l2).get? (zs3 s.heap l1 l2).objs.size = some _ := p1 (Heap.get?_push_size _ rfl)
  have g3 : (zs5 s.heap l1 l2).get? (zs2 s.heap l1 l2).objs.size = some _ := p1 (p1 (Heap.get?_push_size _ rfl))
  have g2 : (zs5 s.heap l1 l2).get? (zs1 s.heap l1).objs.size = some _ := p1 (p1 (p1 (Heap.get?_push_size _ rfl)))
  have g1 : (zs5 s.heap l1 l2).get? s.heap.objs.size = some _ := p1 (p1 (p1 (p1 (Heap.get?_push_size _ rfl))))
  show _ ∧ _
  rw [z2, z3, z4] at g5
  rw [z1, z2] at g3
  rw [z3] at g4
  rw [z1] at g2
  rw [z4]
  exact ⟨⟨_, g5, rfl⟩, h _ g5 g3 g4 ⟨_, g1, rfl, rfl⟩ ⟨_, g2, rfl, rfl⟩ fun c o x => p1 (p1 (p1 (p1 (p1 x))))⟩
end
section
open PySem.Spec PyProof.Rows L2
/-- as ItzT, ended where both tuples are -/
def ItzS (K : PySem.W.Frag) (a b : Addr) : It :=
  ⟨(ItzT K a b).go, (ItzT K a b).yld, fun i H => ∃ xs ys : List V, SqT K H a xs ∧ SqT K H b ys ∧ xs.length ≤ i ∧ ys.length ≤ i⟩
theorem turn_zipS {P : Program} {w : World} {K : PySem.W.Frag} {elts : List Expr} {kk : Nat} {tpos : Pos} {a b z TI TO i1 i2 : Addr} (D : ZipApart z TI TO i1 i2 a b) :
    Turn P w K (.Tuple elts kk tpos) (ItzS K a b) [z, TI, TO, i1, i2] z (fun i h => ZipS h z TI TO .none ∧ IsPair h TI (.ref i1) (.ref i2) ∧ (∃ x y, IsPair h TO x y) ∧ h.IsTupleIter i1 a i ∧ h.IsTupleIter i2 b i) where
  mem := by simp
  obj := fun i h st c hc => by
    obtain ⟨hz, hTI, ⟨x, y, hTO⟩, ⟨o1, e1, _, d1⟩, ⟨o2, e2, _, d2⟩⟩ := st
    simp only [List.mem_cons, List.not_mem_nil, or_false] at hc
    rcases hc with q | q | q | q | q
    · rw [q]; exact ⟨_, hz, fun v q => nomatch q⟩
    · rw [q]; exact ⟨_, hTI, fun v q => nomatch q⟩
    · rw [q]; exact ⟨_, hTO, fun v q => nomatch q⟩
    · rw [q]; exact ⟨o1, e1, fun v q => by rw [d1] at q; cases q⟩
    · rw [q]; exact ⟨o2, e2, fun v q => by rw [d2] at q; cases q⟩
  keep := fun i h h' st k => by
    obtain ⟨hz, hTI, ⟨x, y, hTO⟩, h1, h2⟩ := st
    exact ⟨k z (by simp) _ hz, k TI (by simp) _ hTI, ⟨x, y, k TO (by simp) _ hTO⟩, h1.at fun o q => k i1 (by simp) o q, h2.at fun o q => k i2 (by simp) o q⟩
  item := by
    intro X hP hw hK hc i pins s σ H E I hf st hg
    subst hP hw hK
    obtain ⟨hz, hTI, ⟨x0, y0, hTO⟩, h1, h2⟩ := st
    obtain ⟨xs, ys, x, y, hqx, hqy, hx, hy⟩ := hg
    obtain ⟨its, rv, p, _⟩ := I.tuple hqx
    obtain ⟨its2, rv2, p2, _⟩ := I.tuple hqy
    obtain ⟨u, hu, ru⟩ := rv.get hx
    obtain ⟨u2, hu2, ru2⟩ := rv2.get hy
    have zlt : z < s.heap.objs.size := Heap.lt_size hz
    refine nextS_item D hz hTI hTO h1 h2 p p2 (x := u) (y := u2) (by simpa using hu) (by simpa using hu2) fun h' t => ?_
    refine ⟨_, rfl, letGoS (s := { s with heap := h' }) t.zip fun h'' z'' sb => ?_⟩
    have made2 : h''.get? s.heap.objs.size = some { cls := .type "tuple", data := .seq #[u, u2] } := (sb.2 _ (Nat.ne_of_gt zlt)).trans t.made
    have new : ObjOk X.prog X.w (upd H s.heap.objs.size (.tup [x, y])) h'' s.heap.objs.size (.tup [x, y]) :=
      ⟨by show 2 ≤ sizeLine; decide, [u, u2], .cons ru (.cons ru2 .nil), ⟨_, made2, rfl, _, rfl⟩⟩
    have out : ∀ {c : Addr}, c ∉ [z, TI, TO, i1, i2] → c ≠ z ∧ c ≠ TO ∧ c ≠ i1 ∧ c ≠ i2 := fun {c} hb => by
      simp only [List.mem_cons, List.not_mem_nil, or_false, not_or] at hb
      exact ⟨hb.1, hb.2.2.1, hb.2.2.2.1, hb.2.2.2.2⟩
    have I1 : Inv X pins σ (upd H s.heap.objs.size (.tup [x, y])) { s with heap := h'' } :=
      I.turnedNew (t' := s.toks) (ch := [z, TI, TO, i1, i2]) (fun c o hb q => by
        obtain ⟨n1, n2, n3, n4⟩ := out hb
        exact (sb.2 c n1).trans (t.rest c o n1 n2 n3 n4 q)) hf (Nat.le_refl _) new
    refine ⟨.ref s.heap.objs.size, _, I1, rfl, ⟨_, x, y, rfl, I.hok.fresh (Nat.le_refl _), rfl, fun l hl => by rw [I.tuple_inj hl hqx]; exact hx, fun l hl => by rw [I.tuple_inj hl hqy]; exact hy⟩, ⟨z'', ?_, ⟨u, u2, ?_⟩, ?_, ?_⟩, fun c hcm => ?_⟩
    · exact (sb.2 _ D.TIz).trans (t.rest _ _ D.TIz D.TITO D.TIi1 D.TIi2 hTI)
    · exact (sb.2 _ D.TOz).trans t.kept
    · exact t.one.at fun o q => (sb.2 _ D.i1z).trans q
    · exact t.two.at fun o q => (sb.2 _ D.i2z).trans q
    · have hlt : c < s.heap.objs.size := by
        have hc' := hcm
        simp only [List.mem_cons, List.not_mem_nil, or_false] at hc'
        rcases hc' with q | q | q | q | q
        · rw [q]; exact zlt
        · rw [q]; exact Heap.lt_size hTI
        · rw [q]; exact Heap.lt_size hTO
        · rw [q]; obtain ⟨_, e1, _⟩ := h1; exact Heap.lt_size e1
        · rw [q]; obtain ⟨_, e2, _⟩ := h2; exact Heap.lt_size e2
      rw [upd_ne (Nat.ne_of_lt hlt)]
      exact (hf c hcm).1
  done := by
    intro X hP hw hK hc i pins s σ H E I hf st hg
    subst hP hw hK
    obtain ⟨hz, hTI, ⟨x0, y0, hTO⟩, h1, h2⟩ := st
    obtain ⟨xs, ys, hqx, hqy, hend1, hend2⟩ := hg
    obtain ⟨its, rv, p, _⟩ := I.tuple hqx
    obtain ⟨its2, rv2, p2, _⟩ := I.tuple hqy
    have e1 := rv.length
    have e2 := rv2.length
    refine nextS_end (I.ok.hd hc) D hz hTI hTO h1 h2 p p2 (by simp; omega) (by simp; omega) fun h' hk => ⟨rfl, I.turnedL (t' := s.toks) (ch := [z, TI, TO, i1, i2]) (fun c o hb q => ?_) hf⟩
    simp only [List.mem_cons, List.not_mem_nil, or_false, not_or] at hb
    exact hk c o hb.1 hb.2.2.1 hb.2.2.2.1 hb.2.2.2.2 q
  self := fun A i s Q E st h => iterS st.1 h
/-- zip(e, e2, strict=True) of two tuples of one length -/
def iZipS (K : PySem.W.Frag) (ta : TA) : TI := fun σ H R => ta σ H fun vs H1 => ∃ a b xs ys, vs = [.ref a, .ref b] ∧ SqT K H1 a xs ∧ SqT K H1 b ys ∧ R (ItzS K a b) H1
theorem evalArgs_kwE {M : Model} {A : Around} {E : Value → Shared → Prop} {s : Shared} {env : Env} {f : Value} {e : Expr} {rest : List Expr} {pos : Pos} {kws : List (Option Str × Sem Value)} {Q : Args → Shared → Prop}
    (he : backTo pos (starEach (e :: rest) env) = (false, eval e env) :: backTo pos (starEach rest env)) (hall : kws.all (·.1.isSome) = true)
    (h : wpAny M A (spliced (backTo pos (starEach (e :: rest) env))) (fun vs s₁ => wpAny M A (evalAll (kws.map (·.2))) (fun kvs s₂ => Q ⟨vs, (kws.filterMap (·.1)).zip kvs⟩ s₂) E s₁) E s) :
    wpAny M A (evalArgs f true (backTo pos (starEach (e :: rest) env)) kws) Q E s := by
  rw [he] at h ⊢
  exact evalArgs_kwB hall h
theorem pi_zipS {X : Cx} {e e2 eb : Expr} {ta : TA} {p pos tpos kp : Pos} {elts : List Expr} {kk : Nat} (hg : Gl X "zip") (hm : X.mg "zip" = none) (ha : PA X [e, e2] ta) (hk : PK X [⟨some "strict", eb, kp⟩] (tCons (fun _ H Q => Q (.bl true) H) tNil))
    (he : backTo pos (starEach [e, e2] X.env) = (false, eval e X.env) :: backTo pos (starEach [e2] X.env) := by rfl) (hpl : (backTo pos (starEach [e, e2] X.env)).any (·.1) = false := by rfl)
    (hall : (backToKw pos (keywordEach [⟨some "strict", eb, kp⟩] X.env)).all (·.1.isSome) = true := by rfl) (hkw : (backToKw pos (keywordEach [⟨some "strict", eb, kp⟩] X.env)).any (·.1.isNone) = false := by rfl)
    (hks : (backToKw pos (keywordEach [⟨some "strict", eb, kp⟩] X.env)).filterMap (·.1) = [("strict" : Str)] := by rfl) :
    PI X (.Tuple elts kk tpos) (.Call (.Name "zip" p) [e, e2] [⟨some "strict", eb, kp⟩] pos) (iZipS X.K ta) := by
  refine ⟨fun pins s σ H R I h => ?_⟩
  refine wpAny_Call_Name_kw (ld_blt I hg hm PyProof.Rows.boot_zip (callWith_typeKw hpl hkw ?_))
  refine evalArgs_kwE he hall (thn (ha.run pos pins s σ H _ I h) fun us s1 ⟨vs, H1, I1, r1, q1⟩ => thn (hk.run pos pins s1 σ H1 (fun zs H2 => zs = [.bl true] ∧ H2 = H1) I1 ⟨rfl, rfl⟩) fun ws s2 ⟨zs, H2, I2, r2, q2⟩ => ?_)
  obtain ⟨rfl, rfl⟩ := q2
  obtain ⟨a, b, xs, ys, rfl, hqx, hqy, q⟩ := q1
  rw [hks]
  cases r2 with
  | cons rb rr =>
    cases rr
    cases rb
    cases r1 with
    | cons r rr =>
      cases rr with
      | cons r' rr =>
        cases rr
        cases r
        cases r'
        obtain ⟨its, rv, p1, _⟩ := I2.tuple hqx
        obtain ⟨its2, rv2, p2, _⟩ := I2.tuple hqy
        obtain ⟨o1, ho1, _⟩ := id p1
        obtain ⟨o2, ho2, _⟩ := id p2
        refine call_zipS (show s2.heap.IsTuple a its.toArray from p1) (show s2.heap.IsTuple b its2.toArray from p2) fun h' hz hTI hTO h1 h2 hk => iterS hz ?_
        have I3 : Inv X pins σ H2 { s2 with heap := h' } := I2.kept (t' := s2.toks) hk
        refine ⟨s2.heap.objs.size + 4, [s2.heap.objs.size + 4, s2.heap.objs.size + 2, s2.heap.objs.size + 3, s2.heap.objs.size, s2.heap.objs.size + 1], _, _, H2, rfl, I3, turn_zipS (PySem.W.ktu_apart s2.heap.objs.size a b (Heap.lt_size ho1) (Heap.lt_size ho2)), ⟨hz, hTI, ⟨_, _, hTO⟩, h1, h2⟩, fun c hcm => ?_, q⟩
        have hle : s2.heap.objs.size ≤ c := by
          simp only [List.mem_cons, List.not_mem_nil, or_false] at hcm
          rcases hcm with z | z | z | z | z <;> rw [z] <;> first | exact Nat.le_add_right _ _ | exact Nat.le_refl _
        exact I2.fpOk hle (I2.hok.fresh hle)
variable {X : Cx} {e e2 eb : Expr} {ta : ATA} {p pos tpos kp : Pos} {elts : List Expr} {kk : Nat}
theorem items_zipS {C : Ct} {L Mo : List Addr} {H : Hp} {a b : Addr} {xs ys : List V} {ds es : List D} (h : SqT C.K (C.hd L Mo H) a xs) (hx : DqAll C.K (C.hd L Mo H) xs ds) (g : SqT C.K (C.hd L Mo H) b ys) (hy : DqAll C.K (C.hd L Mo H) ys es) (hl : ds.length = es.length) :
    ItemsOk C (ItzS C.K a b) L Mo H (zipD ds es) := fun C2 L1 Mo1 H1 m1 hK bb sm => by
  obtain ⟨i1, _⟩ := items_zipT h hx g hy C2 L1 Mo1 H1 m1 hK bb sm
  exact ⟨i1, xs, ys, same_tup hid_same (same_tup sm h), same_tup hid_same (same_tup sm g), by have := hx.len; rw [zipD_len]; omega, by have := hy.len; rw [zipD_len]; omega⟩
def aZipS (t : ATA) : AIt := fun a Q => t a fun avs m => match avs with
  | [.d (.tuple xs), .d (.tuple ys)] => xs.length = ys.length ∧ Q (zipD xs ys) m
  | _ => False
theorem qi_zipS {j : Nat} {tp : Pos} (hg : Gl X "zip") (hm : X.mg "zip" = none) (ha : QA X [e, e2] ta) (he : backTo pos (starEach [e, e2] X.env) = (false, eval e X.env) :: backTo pos (starEach [e2] X.env) := by rfl) (hpl : (backTo pos (starEach [e, e2] X.env)).any (·.1) = false := by rfl)
    (hall : (backToKw pos (keywordEach [⟨some "strict", .Constant (.bool true) j tp, kp⟩] X.env)).all (·.1.isSome) = true := by rfl) (hkw : (backToKw pos (keywordEach [⟨some "strict", .Constant (.bool true) j tp, kp⟩] X.env)).any (·.1.isNone) = false := by rfl)
    (hks : (backToKw pos (keywordEach [⟨some "strict", .Constant (.bool true) j tp, kp⟩] X.env)).filterMap (·.1) = [("strict" : Str)] := by rfl) :
    QI X (.Tuple elts kk tpos) (.Call (.Name "zip" p) [e, e2] [⟨some "strict", .Constant (.bool true) j tp, kp⟩] pos) (aZipS ta) := fun C hK =>
  PI.imp (pi_zipS hg hm (ha C hK) (pk_cons pe_bl pk_nil) he hpl hall hkw hks) fun σ H R' ⟨a, L, Mo, AQ, r, k, h⟩ => by
  refine ⟨a, L, Mo, _, r, fun xs m1 vs L1 Mo1 H1 h1 b1 v1 e1 => ?_, h⟩
  split at h1
  · obtain ⟨v, w, rfl, q, q'⟩ := av2 v1
    cases q with
    | tup c1 c2 =>
      cases q' with
      | tup c3 c4 => exact ⟨_, _, _, _, rfl, hK ▸ same_tup hid_same c1, hK ▸ same_tup hid_same c3, k _ _ _ _ _ _ h1.2 b1 e1 (hK ▸ items_zipS c1 c2 c3 c4 h1.1)⟩
  · exact h1.elim
end
theorem keysD3 {a b c : Int} : keysD [.int a, .int b, .int c] = some (key3 (a, b, c)) := rfl
end QL

namespace QL
open PySem RZ
open PySem.Sem (wp)
/-! ### zip of a list or tuple and a list or tuple -/
def AnyIt (b : Bool) (h : Heap) (it l : Addr) (i : Nat) : Prop := match b with
  | true => h.IsTupleIter it l i
  | false => h.IsListIter it l i
def AnySq (b : Bool) (h : Heap) (l : Addr) (xs : Array Value) : Prop := match b with
  | true => h.IsTuple l xs
  | false => h.IsList l xs
def anyN : Bool → String
  | true => "tuple_iterator"
  | false => "list_iterator"
theorem AnyIt.ext {b : Bool} {h h' : Heap} {it l c : Addr} {i : Nat} (k : AnyIt b h it l i) (e : Heap.ExtBut c h h') (n : it ≠ c) : AnyIt b h' it l i := by
  cases b
  · exact Heap.IsListIter.extBut k e n
  · exact Heap.IsTupleIter.extBut k e n
theorem AnySq.ext {b : Bool} {h h' : Heap} {l c : Addr} {xs : Array Value} (k : AnySq b h l xs) (e : Heap.ExtBut c h h') (n : l ≠ c) : AnySq b h' l xs := by
  cases b
  · exact Heap.IsList.extBut k e n
  · exact Heap.IsTuple.extBut k e n
theorem AnyIt.at {b : Bool} {h h' : Heap} {it l : Addr} {i : Nat} (k : AnyIt b h it l i) (e : ∀ o, h.get? it = some o → h'.get? it = some o) : AnyIt b h' it l i := by
  cases b
  · exact Heap.IsListIter.at k e
  · exact Heap.IsTupleIter.at k e
theorem AnyIt.has {b : Bool} {h : Heap} {it l : Addr} {i : Nat} (k : AnyIt b h it l i) : ∃ o, h.get? it = some o ∧ o.data = .fields #[.ref l, .int i 0] := by
  cases b
  · obtain ⟨o, ho, _, hd⟩ := k; exact ⟨o, ho, hd⟩
  · obtain ⟨o, ho, _, hd⟩ := k; exact ⟨o, ho, hd⟩
section
variable {prog : Program} {w : World} {A : Around} {E : Value → Shared → Prop} {s : Shared} {b b2 : Bool}
theorem any_item {it l : Addr} {i : Nat} {items : Array Value} {x : Value} {Q : Value → Shared → Prop} (hit : AnyIt b s.heap it l i) (hl : AnySq b s.heap l items) (hx : items[i]? = some x)
    (hQ : ∀ h', AnyIt b h' it l (i + 1) → Heap.SameBut it s.heap h' → Q x { s with heap := h' }) : wpAny (model prog w) A (Builtin.SmallTypes.nextOf (.ref it)) Q E s := by
  cases b
  · exact wpAny_nextOf_list_item hit hl hx hQ
  · exact nextOf_tuple_item hit hl hx hQ
theorem any_end {it l : Addr} {i : Nat} {items : Array Value} {Q : Value → Shared → Prop} (hh : A.handled = none) (hit : AnyIt b s.heap it l i) (hl : AnySq b s.heap l items) (hx : items[i]? = none)
    (hE : ∀ h' e, Heap.ExtBut it s.heap h' → (∃ o, h'.get? e = some o ∧ o.cls = .type "StopIteration") → E (.ref e) { s with heap := h' }) : wpAny (model prog w) A (Builtin.SmallTypes.nextOf (.ref it)) Q E s := by
  cases b
  · exact wpAny_nextOf_list_end hh hit hl hx hE
  · exact nextOf_tuple_end hh hit hl hx hE
variable {z TI TO i1 i2 l1 l2 : Addr} {k : Nat} {xs ys : Array Value} {x y u v : Value}
structure TurnM (b b2 : Bool) (h h' : Heap) (z TI TO i1 i2 l1 l2 : Addr) (k : Nat) (x y : Value) : Prop where
  zip : IsZip h' z TI TO (rawInt h.objs.size)
  kept : IsPair h' TO x y
  one : AnyIt b h' i1 l1 (k + 1)
  two : AnyIt b2 h' i2 l2 (k + 1)
  made : IsPair h' h.objs.size x y
  size : h'.objs.size = h.objs.size + 1
  rest : ∀ c o, c ≠ z → c ≠ TO → c ≠ i1 → c ≠ i2 → h.get? c = some o → h'.get? c = some o
theorem zipM_item {Q : Value → Shared → Prop} (D : ZipApart z TI TO i1 i2 l1 l2) (hz : IsZip s.heap z TI TO .none) (hTI : IsPair s.heap TI (.ref i1) (.ref i2)) (hTO : IsPair s.heap TO u v)
    (h1 : AnyIt b s.heap i1 l1 k) (h2 : AnyIt b2 s.heap i2 l2 k) (hl1 : AnySq b s.heap l1 xs) (hl2 : AnySq b2 s.heap l2 ys) (hx : xs[k]? = some x) (hy : ys[k]? = some y)
    (hQ : ∀ h', TurnM b b2 s.heap h' z TI TO i1 i2 l1 l2 k x y → Q (.ref s.heap.objs.size) { s with heap := h' }) :
    wpAny (model prog w) A (Builtin.«zip.__next__» ⟨[.ref z], []⟩) (fun fin s' => ∃ v, fin = .done (.ret v) ∧ Q v s') E s := by
  show wpAny _ _ (field (.ref z) 2 >>= _) _ _ _
  refine wpAny_bind (wpAny_field hz rfl (x := .bool false) rfl ?_)
  show wpAny _ _ (field (.ref z) 3 >>= _) _ _ _
  refine wpAny_bind (wpAny_field hz rfl (x := .ref TI) rfl ?_)
  refine wpAny_bind (wpAny_seqItems hTI rfl ?_)
  show wpAny _ _ (Builtin.SmallTypes.ownedTupleIsFree (.ref z) >>= _) _ _ _
  refine wpAny_bind ?_
  unfold Builtin.SmallTypes.ownedTupleIsFree
  refine wpAny_bind (wpAny_field hz rfl (x := .none) rfl (wpAny_pure ?_))
  simp only [if_true]
  refine wpAny_bind (wpAny_rule (wpAny_bind (wpAny_field hz rfl (x := .ref TO) rfl (wpAny_bind (wpAny_setField_rec hz (by simp) fun h₁ z1 b1 => ?_)))))
  replace z1 : IsZip h₁ z TI TO .ellipsis := z1
  refine wpAny_bind ?_
  simp only [List.zipIdx_cons, List.zipIdx_nil, List.forIn_cons, List.forIn_nil]
  refine wpAny_bind (wpAny_bind (wpAny_onRaise ?_))
  show wpAny _ _ (Builtin.SmallTypes.nextOf (.ref i1) >>= _) _ _ _
  refine wpAny_bind (any_item (h1.ext b1.extBut D.i1z) (hl1.ext b1.extBut D.l1z) hx fun h₂ it2 b2' => wpAny_pure ?_)
  have o2 : IsPair h₂ TO u v := (b2'.2 _ D.TOi1).trans ((b1.2 _ D.TOz).trans hTO)
  refine wpAny_bind (wpAny_seqItems o2 rfl (wpAny_bind (wpAny_updateSeq_pair o2 fun h₃ o3 b3 => wpAny_bind (wpAny_letGo (wpAny_pure ?_)))))
  replace o3 : IsPair h₃ TO x v := o3
  refine wpAny_bind (wpAny_bind (wpAny_onRaise ?_))
  show wpAny _ _ (Builtin.SmallTypes.nextOf (.ref i2) >>= _) _ _ _
  refine wpAny_bind (any_item (((h2.ext b1.extBut D.i2z).ext b2'.extBut D.i12.symm).ext b3.extBut D.TOi2.symm)
    (((hl2.ext b1.extBut D.l2z).ext b2'.extBut D.l2i1).ext b3.extBut D.l2TO) hy fun h₄ it4 b4 => wpAny_pure ?_)
  have o4 : IsPair h₄ TO x v := (b4.2 _ D.TOi2).trans o3
  refine wpAny_bind (wpAny_seqItems o4 rfl (wpAny_bind (wpAny_updateSeq_pair o4 fun h₅ o5 b5 => wpAny_bind (wpAny_letGo (wpAny_pure (wpAny_pure ?_))))))
  replace o5 : IsPair h₅ TO x y := o5
  have far : ∀ c o, c ≠ z → c ≠ TO → c ≠ i1 → c ≠ i2 → s.heap.get? c = some o → h₅.get? c = some o := fun c o c1 c2 c3 c4 e =>
    (b5.2 _ c2).trans ((b4.2 _ c4).trans ((b3.2 _ c2).trans ((b2'.2 _ c3).trans ((b1.2 _ c1).trans e))))
  have z5 : IsZip h₅ z TI TO .ellipsis := (b5.2 _ D.TOz.symm).trans ((b4.2 _ D.i2z.symm).trans ((b3.2 _ D.TOz.symm).trans ((b2'.2 _ D.i1z.symm).trans z1)))
  have sz : h₅.objs.size = s.heap.objs.size := by rw [b5.1, b4.1, b3.1, b2'.1, b1.1]
  have i5 : AnyIt b h₅ i1 l1 (k + 1) := ((it2.ext b3.extBut D.TOi1.symm).ext b4.extBut D.i12).ext b5.extBut D.TOi1.symm
  have j5 : AnyIt b2 h₅ i2 l2 (k + 1) := it4.ext b5.extBut D.TOi2.symm
  refine wpAny_bind (wpAny_seqItems o5 rfl (wpAny_bind (wpAny_newTuple ?_)))
  show wpAny _ _ (Builtin.SmallTypes.ownedTupleHandOut (.ref z) (.ref h₅.objs.size) >>= _) _ _ _
  refine wpAny_bind ?_
  unfold Builtin.SmallTypes.ownedTupleHandOut
  have zlt : z < h₅.objs.size := Heap.lt_size z5
  have z6 : IsZip (h₅.push { cls := .type "tuple", data := .seq #[x, y] }) z TI TO .ellipsis := Heap.get?_push_of_some _ z5
  refine wpAny_bind (wpAny_setField_rec z6 (by simp) fun h₇ z7 b7 => ?_)
  replace z7 : IsZip h₇ z TI TO (rawInt h₅.objs.size) := z7
  refine wpAny_setField_rec z7 (by simp) fun h₈ z8 b8 => ?_
  replace z8 : IsZip h₈ z TI TO (rawInt h₅.objs.size) := z8
  have up : ∀ c o, c ≠ z → h₅.get? c = some o → h₈.get? c = some o := fun c o c1 e => (b8.2 _ c1).trans ((b7.2 _ c1).trans (Heap.get?_push_of_some _ e))
  have m8 : IsPair h₈ h₅.objs.size x y := (b8.2 _ (Nat.ne_of_gt zlt)).trans ((b7.2 _ (Nat.ne_of_gt zlt)).trans (Heap.get?_push_size _ rfl))
  have s8 : h₈.objs.size = h₅.objs.size + 1 := by rw [b8.1, b7.1, Heap.size_push]
  rw [sz] at z8 m8 s8
  refine wpAny_pure ⟨_, rfl, ?_⟩
  show Q (.ref h₅.objs.size) _
  rw [sz]
  exact hQ h₈ ⟨z8, up _ _ D.TOz o5, i5.at fun o e => up _ o D.i1z e, j5.at fun o e => up _ o D.i2z e, m8, s8, fun c o c1 c2 c3 c4 e => up c o c1 (far c o c1 c2 c3 c4 e)⟩
theorem zipM_end {Q : Fin → Shared → Prop} (hh : A.handled = none) (D : ZipApart z TI TO i1 i2 l1 l2) (hz : IsZip s.heap z TI TO .none) (hTI : IsPair s.heap TI (.ref i1) (.ref i2)) (hTO : IsPair s.heap TO u v)
    (h1 : AnyIt b s.heap i1 l1 k) (h2 : AnyIt b2 s.heap i2 l2 k) (hl1 : AnySq b s.heap l1 xs) (hl2 : AnySq b2 s.heap l2 ys) (hend : xs[k]? = none ∨ ys[k]? = none)
    (hE : ∀ h' e, (∀ c o, c ≠ z → c ≠ TO → c ≠ i1 → c ≠ i2 → s.heap.get? c = some o → h'.get? c = some o) → (∃ o, h'.get? e = some o ∧ o.cls = .type "StopIteration") → E (.ref e) { s with heap := h' }) :
    wpAny (model prog w) A (Builtin.«zip.__next__» ⟨[.ref z], []⟩) Q E s := by
  show wpAny _ _ (field (.ref z) 2 >>= _) _ _ _
  refine wpAny_bind (wpAny_field hz rfl (x := .bool false) rfl ?_)
  show wpAny _ _ (field (.ref z) 3 >>= _) _ _ _
  refine wpAny_bind (wpAny_field hz rfl (x := .ref TI) rfl ?_)
  refine wpAny_bind (wpAny_seqItems hTI rfl ?_)
  show wpAny _ _ (Builtin.SmallTypes.ownedTupleIsFree (.ref z) >>= _) _ _ _
  refine wpAny_bind ?_
  unfold Builtin.SmallTypes.ownedTupleIsFree
  refine wpAny_bind (wpAny_field hz rfl (x := .none) rfl (wpAny_pure ?_))
  simp only [if_true]
  refine wpAny_bind (wpAny_rule (wpAny_bind (wpAny_field hz rfl (x := .ref TO) rfl (wpAny_bind (wpAny_setField_rec hz (by simp) fun h₁ z1 b1 => ?_)))))
  replace z1 : IsZip h₁ z TI TO .ellipsis := z1
  refine wpAny_bind ?_
  simp only [List.zipIdx_cons, List.zipIdx_nil, List.forIn_cons, List.forIn_nil]
  refine wpAny_bind (wpAny_bind (wpAny_onRaise ?_))
  show wpAny _ _ (Builtin.SmallTypes.nextOf (.ref i1) >>= _) _ _ _
  cases hx : xs[k]? with
  | none =>
    refine wpAny_bind (any_end hh (h1.ext b1.extBut D.i1z) (hl1.ext b1.extBut D.l1z) hx fun h₂ e b2' he => ?_)
    obtain ⟨oe, hoe, hce⟩ := he
    have z2 : IsZip h₂ z TI TO .ellipsis := b2' _ _ D.i1z.symm z1
    have ez : e ≠ z := fun q => by
      subst q
      have : oe = _ := Option.some.inj (hoe.symm.trans z2)
      subst this
      simp at hce
    exact wpAny_setField_rec z2 (by simp) fun h₃ _ b3 => hE h₃ e (fun c o c1 _ c3 _ q => (b3.2 _ c1).trans (b2' _ _ c3 ((b1.2 _ c1).trans q))) ⟨oe, (b3.2 _ ez).trans hoe, hce⟩
  | some x =>
    have hy : ys[k]? = none := hend.resolve_left (by rw [hx]; exact fun q => nomatch q)
    refine wpAny_bind (any_item (h1.ext b1.extBut D.i1z) (hl1.ext b1.extBut D.l1z) hx fun h₂ it2 b2' => wpAny_pure ?_)
    have o2 : IsPair h₂ TO u v := (b2'.2 _ D.TOi1).trans ((b1.2 _ D.TOz).trans hTO)
    refine wpAny_bind (wpAny_seqItems o2 rfl (wpAny_bind (wpAny_updateSeq_pair o2 fun h₃ o3 b3 => wpAny_bind (wpAny_letGo (wpAny_pure ?_)))))
    refine wpAny_bind (wpAny_bind (wpAny_onRaise ?_))
    show wpAny _ _ (Builtin.SmallTypes.nextOf (.ref i2) >>= _) _ _ _
    refine wpAny_bind (any_end hh (((h2.ext b1.extBut D.i2z).ext b2'.extBut D.i12.symm).ext b3.extBut D.TOi2.symm)
      (((hl2.ext b1.extBut D.l2z).ext b2'.extBut D.l2i1).ext b3.extBut D.l2TO) hy fun h₄ e b4 he => ?_)
    obtain ⟨oe, hoe, hce⟩ := he
    have z4 : IsZip h₄ z TI TO .ellipsis := b4 _ _ D.i2z.symm ((b3.2 _ D.TOz.symm).trans ((b2'.2 _ D.i1z.symm).trans z1))
    have ez : e ≠ z := fun q => by
      subst q
      have : oe = _ := Option.some.inj (hoe.symm.trans z4)
      subst this
      simp at hce
    exact wpAny_setField_rec z4 (by simp) fun h₅ _ b5 => hE h₅ e (fun c o c1 c2 c3 c4 q => (b5.2 _ c1).trans (b4 _ _ c4 ((b3.2 _ c2).trans ((b2'.2 _ c3).trans ((b1.2 _ c1).trans q))))) ⟨oe, (b5.2 _ ez).trans hoe, hce⟩
theorem nextM_item {Q : Option Value → Shared → Prop} (D : ZipApart z TI TO i1 i2 l1 l2) (hz : IsZip s.heap z TI TO .none) (hTI : IsPair s.heap TI (.ref i1) (.ref i2)) (hTO : IsPair s.heap TO u v)
    (h1 : AnyIt b s.heap i1 l1 k) (h2 : AnyIt b2 s.heap i2 l2 k) (hl1 : AnySq b s.heap l1 xs) (hl2 : AnySq b2 s.heap l2 ys) (hx : xs[k]? = some x) (hy : ys[k]? = some y)
    (hQ : ∀ h', TurnM b b2 s.heap h' z TI TO i1 i2 l1 l2 k x y → Q (some (.ref s.heap.objs.size)) { s with heap := h' }) : wpAny (model prog w) A (pyNext (.ref z)) Q E s := by
  have hT : s.TypeIs (.ref z) "zip" := ⟨_, hz, rfl⟩
  unfold pyNext
  exact wpAny_bind (wpAny_attempt (wpAny_callSpecial?_slot (name := Str.ofString "__next__") hT F.slot_zip_next
    (wpAny_call_entry F.slot_zip_next hT F.entry_zip_next (zipM_item D hz hTI hTO h1 h2 hl1 hl2 hx hy fun h' t => wpAny_pure (hQ h' t)) (F.args_zip_next_1 _))))
theorem nextM_end {Q : Option Value → Shared → Prop} (hh : A.handled = none) (D : ZipApart z TI TO i1 i2 l1 l2) (hz : IsZip s.heap z TI TO .none) (hTI : IsPair s.heap TI (.ref i1) (.ref i2)) (hTO : IsPair s.heap TO u v)
    (h1 : AnyIt b s.heap i1 l1 k) (h2 : AnyIt b2 s.heap i2 l2 k) (hl1 : AnySq b s.heap l1 xs) (hl2 : AnySq b2 s.heap l2 ys) (hend : xs[k]? = none ∨ ys[k]? = none)
    (hQ : ∀ h', (∀ c o, c ≠ z → c ≠ TO → c ≠ i1 → c ≠ i2 → s.heap.get? c = some o → h'.get? c = some o) → Q none { s with heap := h' }) : wpAny (model prog w) A (pyNext (.ref z)) Q E s := by
  have hT : s.TypeIs (.ref z) "zip" := ⟨_, hz, rfl⟩
  unfold pyNext
  refine wpAny_bind (wpAny_attempt (wpAny_callSpecial?_slot (name := Str.ofString "__next__") hT F.slot_zip_next
    (wpAny_call_entry F.slot_zip_next hT F.entry_zip_next (zipM_end hh D hz hTI hTO h1 h2 hl1 hl2 hend fun h' e hk he => ?_) (F.args_zip_next_1 _))))
  obtain ⟨o, ho, hc⟩ := he
  refine wpAny_bind (wpAny_isInstance (T := "StopIteration") (b := true) ⟨o, ho, hc⟩ isSubtype_stop ?_)
  exact wpAny_pure (hQ _ hk)
theorem any_iter {l : Addr} {items : Array Value} {Q : Value → Shared → Prop} (hl : AnySq b s.heap l items)
    (hQ : Q (.ref s.heap.objs.size) { s with heap := s.heap.push { cls := .type (anyN b), data := .fields #[.ref l, .int 0 0] } }) : wpAny (model prog w) A (pyIter (.ref l)) Q E s := by
  cases b
  · exact wpAny_pyIter_list hl hQ
  · exact wpAny_pyIter_tuple hl hQ
end
theorem AnySq.push {b : Bool} {h : Heap} {l : Addr} {xs : Array Value} (k : AnySq b h l xs) (o : Obj) : AnySq b (h.push o) l xs := by
  cases b
  · exact Heap.IsList.push k o
  · exact Heap.IsTuple.push k o
theorem AnyIt.new {b : Bool} {h : Heap} {it l : Addr} (k : h.get? it = some { cls := .type (anyN b), data := .fields #[.ref l, .int 0 0] }) : AnyIt b h it l 0 := by
  cases b
  · exact ⟨_, k, rfl, rfl⟩
  · exact ⟨_, k, rfl, rfl⟩
section
variable (b b2 : Bool)
abbrev zm1 (h : Heap) (l1 : Addr) : Heap := h.push { cls := .type (anyN b), data := .fields #[.ref l1, .int 0 0] }
abbrev zm2 (h : Heap) (l1 l2 : Addr) : Heap := (zm1 b h l1).push { cls := .type (anyN b2), data := .fields #[.ref l2, .int 0 0] }
abbrev zm3 (h : Heap) (l1 l2 : Addr) : Heap := (zm2 b b2 h l1 l2).push { cls := .type "tuple", data := .seq #[.ref h.objs.size, .ref (zm1 b h l1).objs.size] }
abbrev zm4 (h : Heap) (l1 l2 : Addr) : Heap := (zm3 b b2 h l1 l2).push { cls := .type "tuple", data := .seq #[.none, .none] }
abbrev zm5 (h : Heap) (l1 l2 : Addr) : Heap := (zm4 b b2 h l1 l2).push { cls := .type "zip", data := .fields #[.none, .bool false, .bool false, .ref (zm2 b b2 h l1 l2).objs.size, .ref (zm3 b b2 h l1 l2).objs.size] }
theorem meets_zipM (l1 l2 : Addr) (xs ys : Array Value) :
    Meets (Builtin.«zip.__new__» ⟨[.type "zip", .ref l1, .ref l2], []⟩) (fun _ R s => AnySq b s.heap l1 xs ∧ AnySq b2 s.heap l2 ys ∧
      R (.ok (.ret (.ref (zm4 b b2 s.heap l1 l2).objs.size))) { s with heap := zm5 b b2 s.heap l1 l2 }) :=
  .of_wp fun prog w A R s h => by
    obtain ⟨hp, g, d, tk, os⟩ := s; obtain ⟨hl1, hl2, h⟩ := h
    have hsub := sub_zip
    have hL1 : AnySq b (Shared.heap ⟨hp, g, d, tk, os⟩) l1 xs := hl1
    have hL2 : AnySq b2 (Shared.heap ⟨hp.push { cls := .type (anyN b), data := .fields #[.ref l1, .int 0 0] }, g, d, tk, os⟩) l2 ys := AnySq.push hl2 _
    wp_walk using any_iter hL1, any_iter hL2
    exact ⟨_, rfl, h⟩
end
section
variable {prog : Program} {w : World} {A : Around} {E : Value → Shared → Prop} {s : Shared} {b b2 : Bool}
theorem call_zipM {l1 l2 : Addr} {xs ys : Array Value} {Q : Value → Shared → Prop} (hl1 : AnySq b s.heap l1 xs) (hl2 : AnySq b2 s.heap l2 ys)
    (h : ∀ h', IsZip h' (s.heap.objs.size + 4) (s.heap.objs.size + 2) (s.heap.objs.size + 3) .none → IsPair h' (s.heap.objs.size + 2) (.ref s.heap.objs.size) (.ref (s.heap.objs.size + 1)) →
      IsPair h' (s.heap.objs.size + 3) .none .none → AnyIt b h' s.heap.objs.size l1 0 → AnyIt b2 h' (s.heap.objs.size + 1) l2 0 →
      (∀ c o, s.heap.get? c = some o → h'.get? c = some o) → Q (.ref (s.heap.objs.size + 4)) { s with heap := h' }) :
    wpAny (model prog w) A (call (.type "zip") [.ref l1, .ref l2]) Q E s := by
  refine callType_new F.called_zip (by decide) (F.typeCall_zip_2 _ _) (F.newCall_zip_2 _ _) (fun obj => F.args_object_init_3 obj _ _) F.entry_zip_new (meets_zipM b b2 l1 l2 xs ys) ⟨hl1, hl2, ?_⟩
  have z1 : (zm1 b s.heap l1).objs.size = s.heap.objs.size + 1 := Heap.size_push ..
  have z2 : (zm2 b b2 s.heap l1 l2).objs.size = s.heap.objs.size + 2 := by rw [Heap.size_push, z1]
  have z3 : (zm3 b b2 s.heap l1 l2).objs.size = s.heap.objs.size + 3 := by rw [Heap.size_push, z2]
  have z4 : (zm4 b b2 s.heap l1 l2).objs.size = s.heap.objs.size + 4 := by rw [Heap.size_push, z3]
  have p1 : ∀ {h : Heap} {o : Obj} {c : Addr} {u : Obj}, h.get? c = some u → (h.push o).get? c = some u := fun e => Heap.get?_push_of_some _ e
  have g5 : (zm5 b b2 s.heap l1 l2).get? (zm4 b b2 s.heap l1 l2).objs.size = some _ := Heap.get?_push_size _ rfl
  have g4 : (zm5 b b2 s.heap l1 l2).get? (zm3 b b2 s.heap l1 l2).objs.size = some _ := p1 (Heap.get?_push_size _ rfl)
  have g3 : (zm5 b b2 s.heap l1 l2).get? (zm2 b b2 s.heap l1 l2).objs.size = some _ := p1 (p1 (Heap.get?_push_size _ rfl))
  have g2 : (zm5 b b2 s.heap l1 l2).get? (zm1 b s.heap l1).objs.size = some _ := p1 (p1 (p1 (Heap.get?_push_size _ rfl)))
  have g1 : (zm5 b b2 s.heap l1 l2).get? s.heap.objs.size = some _ := p1 (p1 (p1 (p1 (Heap.get?_push_size _ rfl))))
  show _ ∧ _
  rw [z2, z3, z4] at g5
  rw [z1, z2] at g3
  rw [z3] at g4
  rw [z1] at g2
  rw [z4]
  exact ⟨⟨_, g5, rfl⟩, h _ g5 g3 g4 (AnyIt.new g1) (AnyIt.new g2) fun c o x => p1 (p1 (p1 (p1 (p1 x))))⟩
end
section
open PySem.Spec PyProof.Rows L2
def SqB (b : Bool) (K : PySem.W.Frag) (H : Hp) (a : Addr) (xs : List V) : Prop := match b with
  | true => SqT K H a xs
  | false => SqL K H a xs
def ItzM (b b2 : Bool) (K : PySem.W.Frag) (a c : Addr) : It :=
  ⟨fun i H => ∃ (xs ys : List V) (x y : V), SqB b K H a xs ∧ SqB b2 K H c ys ∧ xs[i]? = some x ∧ ys[i]? = some y,
    fun i H v H' => ∃ T x y, v = .ref T ∧ H T = none ∧ H' = upd H T (.tup [x, y]) ∧ (∀ xs, SqB b K H a xs → xs[i]? = some x) ∧ ∀ ys, SqB b2 K H c ys → ys[i]? = some y,
    fun i H => ∃ xs ys : List V, SqB b K H a xs ∧ SqB b2 K H c ys ∧ (xs.length ≤ i ∨ ys.length ≤ i)⟩
theorem inv_any {b : Bool} {X : Cx} {pins : PySem.W.Frag} {σ : L2.St} {H : Hp} {s : Shared} {a : Addr} {xs : List V} (I : Inv X pins σ H s) (h : SqB b X.K H a xs) : ∃ its : List Value, Vals xs its ∧ AnySq b s.heap a its.toArray ∧ ∃ o, s.heap.get? a = some o := by
  cases b
  · obtain ⟨its, rv, p, _⟩ := I.list h
    have q := p.isList
    obtain ⟨o, ho, _⟩ := id q
    exact ⟨its, rv, q, o, ho⟩
  · obtain ⟨its, rv, p, _⟩ := I.tuple h
    obtain ⟨o, ho, _⟩ := id p
    exact ⟨its, rv, p, o, ho⟩
theorem inj_any {b : Bool} {X : Cx} {pins : PySem.W.Frag} {σ : L2.St} {H : Hp} {s : Shared} {a : Addr} {xs ys : List V} (I : Inv X pins σ H s) (h : SqB b X.K H a xs) (g : SqB b X.K H a ys) : xs = ys := by
  cases b
  · exact I.list_inj h g
  · exact I.tuple_inj h g
theorem turn_zipM {b b2 : Bool} {P : Program} {w : World} {K : PySem.W.Frag} {elts : List Expr} {kk : Nat} {tpos : Pos} {a c z TI TO i1 i2 : Addr} (D : ZipApart z TI TO i1 i2 a c) :
    Turn P w K (.Tuple elts kk tpos) (ItzM b b2 K a c) [z, TI, TO, i1, i2] z (fun i h => IsZip h z TI TO .none ∧ IsPair h TI (.ref i1) (.ref i2) ∧ (∃ x y, IsPair h TO x y) ∧ AnyIt b h i1 a i ∧ AnyIt b2 h i2 c i) where
  mem := by simp
  obj := fun i h st d hc => by
    obtain ⟨hz, hTI, ⟨x, y, hTO⟩, h1, h2⟩ := st
    obtain ⟨o1, e1, d1⟩ := h1.has
    obtain ⟨o2, e2, d2⟩ := h2.has
    simp only [List.mem_cons, List.not_mem_nil, or_false] at hc
    rcases hc with q | q | q | q | q
    · rw [q]; exact ⟨_, hz, fun v q => nomatch q⟩
    · rw [q]; exact ⟨_, hTI, fun v q => nomatch q⟩
    · rw [q]; exact ⟨_, hTO, fun v q => nomatch q⟩
    · rw [q]; exact ⟨o1, e1, fun v q => by rw [d1] at q; cases q⟩
    · rw [q]; exact ⟨o2, e2, fun v q => by rw [d2] at q; cases q⟩
  keep := fun i h h' st k => by
    obtain ⟨hz, hTI, ⟨x, y, hTO⟩, h1, h2⟩ := st
    exact ⟨k z (by simp) _ hz, k TI (by simp) _ hTI, ⟨x, y, k TO (by simp) _ hTO⟩, h1.at fun o q => k i1 (by simp) o q, h2.at fun o q => k i2 (by simp) o q⟩
  item := by
    intro X hP hw hK hc i pins s σ H E I hf st hg
    subst hP hw hK
    obtain ⟨hz, hTI, ⟨x0, y0, hTO⟩, h1, h2⟩ := st
    obtain ⟨xs, ys, x, y, hqx, hqy, hx, hy⟩ := hg
    obtain ⟨its, rv, p, _⟩ := inv_any I hqx
    obtain ⟨its2, rv2, p2, _⟩ := inv_any I hqy
    obtain ⟨u, hu, ru⟩ := rv.get hx
    obtain ⟨u2, hu2, ru2⟩ := rv2.get hy
    have zlt : z < s.heap.objs.size := Heap.lt_size hz
    refine nextM_item D hz hTI hTO h1 h2 p p2 (x := u) (y := u2) (by simpa using hu) (by simpa using hu2) fun h' t => ?_
    refine ⟨_, rfl, wpAny_letOwnedTupleGo_zip (s := { s with heap := h' }) t.zip fun h'' z'' sb => ?_⟩
    have made2 : h''.get? s.heap.objs.size = some { cls := .type "tuple", data := .seq #[u, u2] } := (sb.2 _ (Nat.ne_of_gt zlt)).trans t.made
    have new : ObjOk X.prog X.w (upd H s.heap.objs.size (.tup [x, y])) h'' s.heap.objs.size (.tup [x, y]) :=
      ⟨by show 2 ≤ sizeLine; decide, [u, u2], .cons ru (.cons ru2 .nil), ⟨_, made2, rfl, _, rfl⟩⟩
    have out : ∀ {c : Addr}, c ∉ [z, TI, TO, i1, i2] → c ≠ z ∧ c ≠ TO ∧ c ≠ i1 ∧ c ≠ i2 := fun {c} hb => by
      simp only [List.mem_cons, List.not_mem_nil, or_false, not_or] at hb
      exact ⟨hb.1, hb.2.2.1, hb.2.2.2.1, hb.2.2.2.2⟩
    have I1 : Inv X pins σ (upd H s.heap.objs.size (.tup [x, y])) { s with heap := h'' } :=
      I.turnedNew (t' := s.toks) (ch := [z, TI, TO, i1, i2]) (fun c o hb q => by
        obtain ⟨n1, n2, n3, n4⟩ := out hb
        exact (sb.2 c n1).trans (t.rest c o n1 n2 n3 n4 q)) hf (Nat.le_refl _) new
    refine ⟨.ref s.heap.objs.size, _, I1, rfl, ⟨_, x, y, rfl, I.hok.fresh (Nat.le_refl _), rfl, fun l hl => by rw [inj_any I hl hqx]; exact hx, fun l hl => by rw [inj_any I hl hqy]; exact hy⟩, ⟨z'', ?_, ⟨u, u2, ?_⟩, ?_, ?_⟩, fun d hcm => ?_⟩
    · exact (sb.2 _ D.TIz).trans (t.rest _ _ D.TIz D.TITO D.TIi1 D.TIi2 hTI)
    · exact (sb.2 _ D.TOz).trans t.kept
    · exact t.one.at fun o q => (sb.2 _ D.i1z).trans q
    · exact t.two.at fun o q => (sb.2 _ D.i2z).trans q
    · have hlt : d < s.heap.objs.size := by
        have hc' := hcm
        obtain ⟨_, e1, _⟩ := h1.has
        obtain ⟨_, e2, _⟩ := h2.has
        simp only [List.mem_cons, List.not_mem_nil, or_false] at hc'
        rcases hc' with q | q | q | q | q
        · rw [q]; exact zlt
        · rw [q]; exact Heap.lt_size hTI
        · rw [q]; exact Heap.lt_size hTO
        · rw [q]; exact Heap.lt_size e1
        · rw [q]; exact Heap.lt_size e2
      rw [upd_ne (Nat.ne_of_lt hlt)]
      exact (hf d hcm).1
  done := by
    intro X hP hw hK hc i pins s σ H E I hf st hg
    subst hP hw hK
    obtain ⟨hz, hTI, ⟨x0, y0, hTO⟩, h1, h2⟩ := st
    obtain ⟨xs, ys, hqx, hqy, hend⟩ := hg
    obtain ⟨its, rv, p, _⟩ := inv_any I hqx
    obtain ⟨its2, rv2, p2, _⟩ := inv_any I hqy
    have e1 := rv.length
    have e2 := rv2.length
    have he : its.toArray[i]? = none ∨ its2.toArray[i]? = none := by
      rcases hend with q | q
      · exact .inl (by simp; omega)
      · exact .inr (by simp; omega)
    refine nextM_end (I.ok.hd hc) D hz hTI hTO h1 h2 p p2 he fun h' hk => ⟨rfl, I.turnedL (t' := s.toks) (ch := [z, TI, TO, i1, i2]) (fun c o hb q => ?_) hf⟩
    simp only [List.mem_cons, List.not_mem_nil, or_false, not_or] at hb
    exact hk c o hb.1 hb.2.2.1 hb.2.2.2.1 hb.2.2.2.2 q
  self := fun A i s Q E st h => wpAny_pyIter_zip st.1 h
def iZipM (K : PySem.W.Frag) (ta : TA) : TI := fun σ H R => ta σ H fun vs H1 => ∃ b b2 a c xs ys, vs = [.ref a, .ref c] ∧ SqB b K H1 a xs ∧ SqB b2 K H1 c ys ∧ R (ItzM b b2 K a c) H1
theorem pi_zipM {X : Cx} {e e2 : Expr} {ta : TA} {p pos tpos : Pos} {elts : List Expr} {kk : Nat} (hg : Gl X "zip") (hm : X.mg "zip" = none) (ha : PA X [e, e2] ta)
    (hs : starEach [e, e2] X.env = (false, eval e X.env) :: starEach [e2] X.env := by rfl) (hpl : (backTo pos (starEach [e2] X.env)).any (·.1) = false := by rfl) :
    PI X (.Tuple elts kk tpos) (.Call (.Name "zip" p) [e, e2] [] pos) (iZipM X.K ta) := by
  refine ⟨fun pins s σ H R I h => ?_⟩
  refine Call_ (ld_blt I hg hm PyProof.Rows.boot_zip (PyProof.Rows.callWith_type1 (thn (ha.run pos pins s σ H _ I h) fun us s1 ⟨vs, H1, I1, r1, q1⟩ => ?_) hs hpl))
  obtain ⟨b, b2, a, c, xs, ys, rfl, hqx, hqy, q⟩ := q1
  cases r1 with
  | cons r rr =>
    cases rr with
    | cons r' rr =>
      cases rr
      cases r
      cases r'
      obtain ⟨its, rv, p1, o1, ho1⟩ := inv_any I1 hqx
      obtain ⟨its2, rv2, p2, o2, ho2⟩ := inv_any I1 hqy
      refine call_zipM p1 p2 fun h' hz hTI hTO h1 h2 hk => wpAny_pyIter_zip hz ?_
      have I2 : Inv X pins σ H1 { s1 with heap := h' } := I1.kept (t' := s1.toks) hk
      refine ⟨s1.heap.objs.size + 4, [s1.heap.objs.size + 4, s1.heap.objs.size + 2, s1.heap.objs.size + 3, s1.heap.objs.size, s1.heap.objs.size + 1], _, _, H1, rfl, I2, turn_zipM (PySem.W.ktu_apart s1.heap.objs.size a c (Heap.lt_size ho1) (Heap.lt_size ho2)), ⟨hz, hTI, ⟨_, _, hTO⟩, h1, h2⟩, fun d hcm => ?_, q⟩
      have hle : s1.heap.objs.size ≤ d := by
        simp only [List.mem_cons, List.not_mem_nil, or_false] at hcm
        rcases hcm with z | z | z | z | z <;> rw [z] <;> first | exact Nat.le_add_right _ _ | exact Nat.le_refl _
      exact I1.fpOk hle (I1.hok.fresh hle)
def HdB (b : Bool) (C : Ct) (L Mo : List Addr) (H : Hp) (a : Addr) (xs : List V) : Prop := match b with
  | true => SqT C.K (C.hd L Mo H) a xs
  | false => C.hd L Mo H a = some (.lst xs)
theorem HdB.now {b : Bool} {C : Ct} {L Mo : List Addr} {H : Hp} {a : Addr} {xs : List V} (h : HdB b C L Mo H a xs) : SqB b C.K H a xs := by
  cases b
  · exact SqL.of (hid_some h).2
  · exact same_tup hid_same h
theorem HdB.sq {b : Bool} {C C2 : Ct} {L Mo L1 Mo1 : List Addr} {H H1 : Hp} {a : Addr} {xs : List V} (h : HdB b C L Mo H a xs) (sm : Same (C.hd L Mo H) (C2.hd L1 Mo1 H1)) : SqB b C.K H1 a xs := by
  cases b
  · exact SqL.of (hid_some (sm _ _ h)).2
  · exact same_tup hid_same (same_tup sm h)
theorem sqb_inj {b : Bool} {K : PySem.W.Frag} {H H1 : Hp} {a : Addr} {xs : List V} {i : Nat} {v w : V} (q : SqB b K H a xs) (h1 : xs[i]? = some v) (f : ∀ xs, SqB b K H a xs → xs[i]? = some w) : v = w := by
  have := f xs q
  rw [h1] at this
  exact Option.some.inj this
theorem items_zipM {b b2 : Bool} {C : Ct} {L Mo : List Addr} {H : Hp} {a c : Addr} {xs ys : List V} {ds es : List D} (h : HdB b C L Mo H a xs) (hx : DqAll C.K (C.hd L Mo H) xs ds) (g : HdB b2 C L Mo H c ys) (hy : DqAll C.K (C.hd L Mo H) ys es) :
    ItemsOk C (ItzM b b2 C.K a c) L Mo H (zipD ds es) := fun C2 L1 Mo1 H1 m1 hK bb sm => by
  have q := h.sq sm
  have q' := g.sq sm
  refine ⟨fun i d e => ?_, xs, ys, q, q', by rw [zipD_len, hx.len, hy.len]; omega⟩
  obtain ⟨x, y, e1, e2, rfl⟩ := zipD_at e
  obtain ⟨v, h1, h2⟩ := hx.at e1
  obtain ⟨w, h3, h4⟩ := hy.at e2
  refine ⟨⟨xs, ys, v, w, q, q', h1, h3⟩, fun z H2 ⟨T, v', w', e3, hT, e4, f1, f2⟩ => ?_⟩
  subst e3; subst e4
  have f1 := sqb_inj (H1 := H1) q h1 f1
  have f2 := sqb_inj (H1 := H1) q' h3 f2
  subst f1 f2
  refine ⟨bb.alloc hT, X2.alloc hT, .tup (SqT.of (hd_new bb hT)) (.cons (Dq.mono (hd_upd hT) _ _ (Dq.mono sm _ _ h2)) (.cons (Dq.mono (hd_upd hT) _ _ (Dq.mono sm _ _ h4)) .nil))⟩
def rowB : D → Option (Bool × List D)
  | .list xs => some (false, xs)
  | .tuple xs => some (true, xs)
  | _ => none
def aZipM (t : ATA) : AIt := fun a Q => t a fun avs m => match avs with
  | [.d (.tuple xs), .d (.list ys)] => Q (zipD xs ys) m
  | [.d (.list xs), .d (.tuple ys)] => Q (zipD xs ys) m
  | _ => False
variable {X : Cx} {e e2 : Expr} {ta : ATA} {p pos tpos : Pos} {elts : List Expr} {kk : Nat}
theorem qi_zipM (hg : Gl X "zip") (hm : X.mg "zip" = none) (ha : QA X [e, e2] ta) (hs : starEach [e, e2] X.env = (false, eval e X.env) :: starEach [e2] X.env := by rfl) (hpl : (backTo pos (starEach [e2] X.env)).any (·.1) = false := by rfl) :
    QI X (.Tuple elts kk tpos) (.Call (.Name "zip" p) [e, e2] [] pos) (aZipM ta) := fun C hK => PI.imp (pi_zipM hg hm (ha C hK) hs hpl) fun σ H R' ⟨a, L, Mo, AQ, r, k, h⟩ => by
  refine ⟨a, L, Mo, _, r, fun xs m1 vs L1 Mo1 H1 h1 b1 v1 e1 => ?_, h⟩
  split at h1
  · obtain ⟨v, w, rfl, q, q'⟩ := av2 v1
    cases q with
    | tup c1 c2 =>
      cases q' with
      | lst c3 c4 =>
        have k1 : HdB true C L1 Mo1 H1 _ _ := c1
        have k2 : HdB false C L1 Mo1 H1 _ _ := c3
        exact ⟨true, false, _, _, _, _, rfl, hK ▸ k1.now, hK ▸ k2.now, k _ _ _ _ _ _ h1 b1 e1 (hK ▸ items_zipM k1 c2 k2 c4)⟩
  · obtain ⟨v, w, rfl, q, q'⟩ := av2 v1
    cases q with
    | lst c1 c2 =>
      cases q' with
      | tup c3 c4 =>
        have k1 : HdB false C L1 Mo1 H1 _ _ := c1
        have k2 : HdB true C L1 Mo1 H1 _ _ := c3
        exact ⟨false, true, _, _, _, _, rfl, hK ▸ k1.now, hK ▸ k2.now, k _ _ _ _ _ _ h1 b1 e1 (hK ▸ items_zipM k1 c2 k2 c4)⟩
  · exact h1.elim
end
end QL

namespace QL
open PySem PySem.Spec PyProof.Rows L2
/-! QE: three names at once, what follows a statement kept apart, loops by an invariant -/
section
variable {X : Cx}
theorem av3 {C : Ct} {L Mo : List Addr} {H : Hp} {x y z : AV} {vs : List V} (h : AVRs C L Mo H [x, y, z] vs) : ∃ u v w, vs = [u, v, w] ∧ AVR C L Mo H x u ∧ AVR C L Mo H y v ∧ AVR C L Mo H z w := by
  cases h with
  | cons q t => cases t with
    | cons q2 t2 => cases t2 with
      | cons q3 t3 => cases t3; exact ⟨_, _, _, rfl, q, q2, q3⟩
def aPar3 (i j l : Nat) (ta : ATA) : ATS := fun D a => ta a fun xs m => match xs with
  | [x, y, z] => D.nx ⟨((a.g.set i (some x)).set j (some y)).set l (some z), m⟩
  | _ => False
theorem qs_par3 {i j l : Nat} {x y z : Str} {a b c : Expr} {ta : ATA} {px py pz pt pos : Pos} {kt k2 pt2} (hc : X.calm = true) (hN : X.N.Nodup) (hi : X.N[i]? = some x) (hj : X.N[j]? = some y) (hl : X.N[l]? = some z) (hij : i ≠ j) (hil : i ≠ l) (hjl : j ≠ l)
    (hx : X.env.scope.names.lookup x = some .local) (hy : X.env.scope.names.lookup y = some .local) (hz : X.env.scope.names.lookup z = some .local) (ha : QA X [a, b, c] ta)
    (hw : swappedStores [.Tuple [.Name x px, .Name y py, .Name z pz] kt pt] (.Tuple [a, b, c] k2 pt2) X.env = pure (some [x, y, z]))
    (hs : swapsWithSole [.Tuple [.Name x px, .Name y py, .Name z pz] kt pt] (.Tuple [a, b, c] k2 pt2) pos.line X.env = pure false := by rfl) :
    QS X (.Assign [.Tuple [.Name x px, .Name y py, .Name z pz] kt pt] (.Tuple [a, b, c] k2 pt2) pos) (aPar3 i j l ta) := fun C hK => PS.imp (ps_par3 hc hN hi hj hl hij hil hjl hx hy hz (ha C hK) hw hs) fun D σ H ⟨a, L, Mo, AD, r, b, h⟩ => by
  refine ⟨a, L, Mo, _, r, fun xs m1 vs L1 Mo1 H1 h1 b1 v1 e1 => ?_, h⟩
  split at h1
  · obtain ⟨u, v, w, rfl, q1, q2, q3⟩ := av3 v1
    exact ⟨u, v, w, rfl, b.nx _ _ _ _ _ h1 ((((r.next b1 e1).set i q1).set j q2).set l q3)⟩
  · exact h1.elim
end
theorem aPar3_ap (i j l : Nat) (ta : ATA) (D : AEnds) (a : AS) : aPar3 i j l ta D a = ta a fun xs m => match xs with
  | [x, y, z] => D.nx ⟨((a.g.set i (some x)).set j (some y)).set l (some z), m⟩
  | _ => False := rfl
/-- what follows a statement stays closed -/
theorem aSeq_abs {s t : ATS} {E : AEnds} {a : AS} (h : ∀ E' : AEnds, (∀ a, t E a → E'.nx a) → E'.rt = E.rt → s E' a) : aSeq s t E a := h _ (fun _ q => q) rfl
/-- .. also where it may be broken off -/
theorem aSeq_absB {s t : ATS} {E : AEnds} {a : AS} (h : ∀ E' : AEnds, (∀ a, t E a → E'.nx a) → E'.rt = E.rt → E'.bk = E.bk → E'.ct = E.ct → s E' a) : aSeq s t E a := h _ (fun _ q => q) rfl rfl rfl
/-- a loop by an invariant of what is left and of the state -/
theorem aForL_ind {n : Nat} {fs : List Nat} {g : ATG} {tb : ATS} (I : List D → AS → Prop) (R : AV → Mm → Prop) (hs : ∀ (E : AEnds) d r a, E.rt = R → I (d :: r) a → (∀ a2, I r (norm n fs a2) → E.nx a2) → (∀ a2, I [] (norm n fs a2) → E.bk a2) → (E.ct = E.nx) → g (.d d) a.m a.g fun g' => tb E ⟨g', a.m⟩) :
    ∀ (ds : List D) (E : AEnds) (a : AS), E.rt = R → (∀ a, I [] a → E.nx a) → I ds a → aForL n fs g tb E ds a
  | [], E, a, _, h0, h => h0 a h
  | d :: r, E, a, hr, h0, h => hs _ d r a hr h (fun a2 q => aForL_ind I R hs r E _ hr h0 q) (fun a2 q => h0 _ q) rfl
theorem zipD_cons (x y : D) (xs ys : List D) : zipD (x :: xs) (y :: ys) = .tuple [x, y] :: zipD xs ys := rfl
theorem zipD_nilL (ys : List D) : zipD [] ys = [] := rfl
theorem zipD_nilR (x : D) (xs : List D) : zipD (x :: xs) [] = [] := rfl
theorem rngD_zero (lo : Int) : rngD lo 0 = [] := rfl
theorem rngD_succ (lo : Int) (n : Nat) : rngD lo (n + 1) = .int lo :: rngD (lo + 1) n := by
  unfold rngD
  rw [List.range_succ_eq_map, List.map_cons, List.map_map]
  congr 1
  · simp
  · refine List.map_congr_left fun k _ => ?_
    simp only [Function.comp_apply, Nat.succ_eq_add_one, Int.natCast_add]
    congr 1
    omega
end QL

namespace QL
open PySem PySem.Spec PyProof.Rows L2
local macro_rules | `(tactic| walk_at "qs") => `(tactic| (try simp -implicitDefEqProofs only [aSeq_ap, aNext_ap, aSet_ap, aRet_ap, aRetN_ap, aDrop_ap, aIfS_ap, aPar_ap, aPar3_ap, aAsg_ap, aFor_ap, aVar, aC, aBin, aUn, aNeg, aTest, aChain, aNot, aNotV, aAnd, aOr, aAndV, aOrV, aIf, aTru, aNil, aCons, aTup, aLst, aLstM, aCall, aFn, aLc, aYes,
  aAdd, aSub, aMul, aMod, aFdiv, aPow, aLt, aLe, aGt, aGe, aEq, aNe, aIx, intsR, intsR0, isB, datas, datA, lstA, tupA, seqA, truA, bLen, bInt, bAbs, bMax, bMin, bTuple, bList, bListM, bSum, bRepr, aItS, aItT, aItL, aRng1, aRng2, aSrcF, aSrcC, aSrcPut, aSrcNew, aRev, aRevM, aMt, aMt0, mApp, mPop, mPopC, mExt, bDict, bSortD,
  Option.isSome_some, Option.isSome_none, aTy, tyA, bIsi, bAll, bAny, bSorted, bMaxL, bMinL, bStr, noneA, aIsN, aNotN, aIsB, aNotB, aBits, aRep, aLput, aRevT, aKin, aKix, lputK, aLput2, mIndex, aNorm, aChain3, aCatM, intsL, bGcd, aRepL, aFdivN, aZipS, aZipM, aDixT, bSortT, dtA, keysD3,
  aZip, aEnum, aDget, aDput, aDix, aDin, aDnin, aDnewK, aDnewT, aInT, aNinT, aInL, aNinL, bTupleK, aTupK, isDictA, lookA, dkA, dtA, keyA,
  atD_0, atD_1, atD_2, atD_3, atD_4, atD_5, atD_6, atD_7, atD_8, atD_9, atD_10, atD_11, atD_12,
  aGName, aGNil, aGCons, aGTup, aGLst, isSrc, SF.get, SF.put, argsOk, awipe, norm, clr, fzV, fzS, slotA, aSlice, aNoPart, aPart, aAugI, aBreak_ap, aCont_ap, endsA_nx, endsA_rt_d, endsA_rt_src,
  List.map_cons, List.map_nil, List.length_cons, List.length_nil, List.cons_append, List.nil_append, List.getElem?_cons_zero, List.getElem?_cons_succ, List.set_cons_zero, List.set_cons_succ, List.foldr_cons, List.foldr_nil, List.take_zero, List.take_nil, List.take_succ_cons, Nat.zero_add, if_true, if_false, Bool.false_eq_true, Bool.not_true, Bool.not_false, decide_true, decide_false, List.getElem?_nil, Nat.reduceLeDiff, Nat.reduceAdd, Nat.reduceLT, true_and, and_true, decide_eq_true_eq, Bool.not_eq_true', decide_eq_false_iff_not]))
local macro_rules | `(tactic| walk_at "mul") => `(tactic| first | exact MulOk.l (by omega) (by omega) | exact MulOk.r (by omega) (by omega) | (exact Or.inl ⟨by omega, by omega⟩) | omega | (exact Rg.of (by omega) (by omega)))
local macro_rules | `(tactic| walk_at "muls") => `(tactic| repeat (refine And.intro (by walk_at "mul") ?_))
/-! ### isinstance of data -/
theorem isi_none_int : isiT (tyD (.none)) "int" = false := by decide
theorem isi_none_bool : isiT (tyD (.none)) "bool" = false := by decide
theorem isi_none_str : isiT (tyD (.none)) "str" = false := by decide
theorem isi_none_list : isiT (tyD (.none)) "list" = false := by decide
theorem isi_none_tuple : isiT (tyD (.none)) "tuple" = false := by decide
theorem isi_none_dict : isiT (tyD (.none)) "dict" = false := by decide
theorem isi_bool_int (b : Bool) : isiT (tyD (.bool b)) "int" = true := by show isiT "bool" "int" = true; decide
theorem isi_bool_bool (b : Bool) : isiT (tyD (.bool b)) "bool" = true := by show isiT "bool" "bool" = true; decide
theorem isi_bool_str (b : Bool) : isiT (tyD (.bool b)) "str" = false := by show isiT "bool" "str" = false; decide
theorem isi_bool_list (b : Bool) : isiT (tyD (.bool b)) "list" = false := by show isiT "bool" "list" = false; decide
theorem isi_bool_tuple (b : Bool) : isiT (tyD (.bool b)) "tuple" = false := by show isiT "bool" "tuple" = false; decide
theorem isi_bool_dict (b : Bool) : isiT (tyD (.bool b)) "dict" = false := by show isiT "bool" "dict" = false; decide
theorem isi_int_int (i : Int) : isiT (tyD (.int i)) "int" = true := by show isiT "int" "int" = true; decide
theorem isi_int_bool (i : Int) : isiT (tyD (.int i)) "bool" = false := by show isiT "int" "bool" = false; decide
theorem isi_int_str (i : Int) : isiT (tyD (.int i)) "str" = false := by show isiT "int" "str" = false; decide
theorem isi_int_list (i : Int) : isiT (tyD (.int i)) "list" = false := by show isiT "int" "list" = false; decide
theorem isi_int_tuple (i : Int) : isiT (tyD (.int i)) "tuple" = false := by show isiT "int" "tuple" = false; decide
theorem isi_int_dict (i : Int) : isiT (tyD (.int i)) "dict" = false := by show isiT "int" "dict" = false; decide
theorem isi_str_int (x : Str) : isiT (tyD (.str x)) "int" = false := by show isiT "str" "int" = false; decide
theorem isi_str_bool (x : Str) : isiT (tyD (.str x)) "bool" = false := by show isiT "str" "bool" = false; decide
theorem isi_str_str (x : Str) : isiT (tyD (.str x)) "str" = true := by show isiT "str" "str" = true; decide
theorem isi_str_list (x : Str) : isiT (tyD (.str x)) "list" = false := by show isiT "str" "list" = false; decide
theorem isi_str_tuple (x : Str) : isiT (tyD (.str x)) "tuple" = false := by show isiT "str" "tuple" = false; decide
theorem isi_str_dict (x : Str) : isiT (tyD (.str x)) "dict" = false := by show isiT "str" "dict" = false; decide
theorem isi_list_int (l : List D) : isiT (tyD (.list l)) "int" = false := by show isiT "list" "int" = false; decide
theorem isi_list_bool (l : List D) : isiT (tyD (.list l)) "bool" = false := by show isiT "list" "bool" = false; decide
theorem isi_list_str (l : List D) : isiT (tyD (.list l)) "str" = false := by show isiT "list" "str" = false; decide
theorem isi_list_list (l : List D) : isiT (tyD (.list l)) "list" = true := by show isiT "list" "list" = true; decide
theorem isi_list_tuple (l : List D) : isiT (tyD (.list l)) "tuple" = false := by show isiT "list" "tuple" = false; decide
theorem isi_list_dict (l : List D) : isiT (tyD (.list l)) "dict" = false := by show isiT "list" "dict" = false; decide
theorem isi_tuple_int (l : List D) : isiT (tyD (.tuple l)) "int" = false := by show isiT "tuple" "int" = false; decide
theorem isi_tuple_bool (l : List D) : isiT (tyD (.tuple l)) "bool" = false := by show isiT "tuple" "bool" = false; decide
theorem isi_tuple_str (l : List D) : isiT (tyD (.tuple l)) "str" = false := by show isiT "tuple" "str" = false; decide
theorem isi_tuple_list (l : List D) : isiT (tyD (.tuple l)) "list" = false := by show isiT "tuple" "list" = false; decide
theorem isi_tuple_tuple (l : List D) : isiT (tyD (.tuple l)) "tuple" = true := by show isiT "tuple" "tuple" = true; decide
theorem isi_tuple_dict (l : List D) : isiT (tyD (.tuple l)) "dict" = false := by show isiT "tuple" "dict" = false; decide
theorem isi_dict_int (l : List (D × D)) : isiT (tyD (.dict l)) "int" = false := by show isiT "dict" "int" = false; decide
theorem isi_dict_bool (l : List (D × D)) : isiT (tyD (.dict l)) "bool" = false := by show isiT "dict" "bool" = false; decide
theorem isi_dict_str (l : List (D × D)) : isiT (tyD (.dict l)) "str" = false := by show isiT "dict" "str" = false; decide
theorem isi_dict_list (l : List (D × D)) : isiT (tyD (.dict l)) "list" = false := by show isiT "dict" "list" = false; decide
theorem isi_dict_tuple (l : List (D × D)) : isiT (tyD (.dict l)) "tuple" = false := by show isiT "dict" "tuple" = false; decide
theorem isi_dict_dict (l : List (D × D)) : isiT (tyD (.dict l)) "dict" = true := by show isiT "dict" "dict" = true; decide
local macro_rules | `(tactic| walk_at "isi") => `(tactic| simp only [isi_none_int, isi_none_bool, isi_none_str, isi_none_list, isi_none_tuple, isi_none_dict, isi_bool_int, isi_bool_bool, isi_bool_str, isi_bool_list, isi_bool_tuple, isi_bool_dict, isi_int_int, isi_int_bool, isi_int_str, isi_int_list, isi_int_tuple, isi_int_dict, isi_str_int, isi_str_bool, isi_str_str, isi_str_list, isi_str_tuple, isi_str_dict, isi_list_int, isi_list_bool, isi_list_str, isi_list_list, isi_list_tuple, isi_list_dict, isi_tuple_int, isi_tuple_bool, isi_tuple_str, isi_tuple_list, isi_tuple_tuple, isi_tuple_dict, isi_dict_int, isi_dict_bool, isi_dict_str, isi_dict_list, isi_dict_tuple, isi_dict_dict, if_true, if_false, Bool.false_eq_true, Bool.not_true, Bool.not_false, Bool.true_eq_false])
/-! ### tables of four numbers -/
abbrev T3 := Int × Int × Int
abbrev T4 := Int × Int × Int × Int
def triD (t : T3) : D := .tuple [.int t.1, .int t.2.1, .int t.2.2]
def tbD (t : T4) : D := .tuple [.int t.1, .int t.2.1, .int t.2.2.1, .int t.2.2.2]
def kT3 (t : T3) : Int := t.1 * t.1 + t.2.1 * t.2.1 + t.2.2 * t.2.2 - t.1 * t.2.1 * t.2.2 - 2
def mulT (t u : T4) : T4 := (t.1 * u.1 + t.2.1 * u.2.2.1, t.1 * u.2.1 + t.2.1 * u.2.2.2, t.2.2.1 * u.1 + t.2.2.2 * u.2.2.1, t.2.2.1 * u.2.1 + t.2.2.2 * u.2.2.2)
def invT (t : T4) : T4 := (t.2.2.2, -t.2.1, -t.2.2.1, t.1)
def trT (t : T4) : Int := t.1 + t.2.2.2
def detT (t : T4) : Int := t.1 * t.2.2.2 - t.2.1 * t.2.2.1
def trM (t u : T4) : T3 := (trT t, trT u, trT (mulT t u))
theorem Bd.add' {a b : Nat} {i j : Int} (h : Bd a i) (g : Bd b j) : Bd (max a b + 1) (i + j) := (h.le (Nat.le_max_left a b)).add (g.le (Nat.le_max_right a b))
theorem Bd.sub' {a b : Nat} {i j : Int} (h : Bd a i) (g : Bd b j) : Bd (max a b + 1) (i - j) := (h.le (Nat.le_max_left a b)).sub (g.le (Nat.le_max_right a b))
theorem Bd.lit {i : Int} (h : i.natAbs < 2 ^ 8 := by decide) : Bd 8 i := h
local macro_rules | `(tactic| walk_at "bd") => `(tactic| first | assumption | exact Bd.mul (by walk_at "bd") (by walk_at "bd") | exact Bd.add' (by walk_at "bd") (by walk_at "bd") | exact Bd.sub' (by walk_at "bd") (by walk_at "bd") | exact Bd.neg (by walk_at "bd") | exact Bd.lit)
local macro_rules | `(tactic| walk_at "mo") => `(tactic| exact MulOk.bd (by walk_at "bd") (by walk_at "bd") (by decide))
local macro_rules | `(tactic| walk_at "mos") => `(tactic| repeat (refine And.intro (by walk_at "mo") ?_))
def Bt (k : Nat) (t : T4) : Prop := Bd k t.1 ∧ Bd k t.2.1 ∧ Bd k t.2.2.1 ∧ Bd k t.2.2.2
theorem Bt.le {a b : Nat} {t : T4} (h : Bt a t) (hab : a ≤ b) : Bt b t := ⟨h.1.le hab, h.2.1.le hab, h.2.2.1.le hab, h.2.2.2.le hab⟩
theorem Bt.mul {a b : Nat} {t u : T4} (h : Bt a t) (g : Bt b u) : Bt (a + b + 1) (mulT t u) :=
  ⟨(h.1.mul g.1).add (h.2.1.mul g.2.2.1), (h.1.mul g.2.1).add (h.2.1.mul g.2.2.2), (h.2.2.1.mul g.1).add (h.2.2.2.mul g.2.2.1), (h.2.2.1.mul g.2.1).add (h.2.2.2.mul g.2.2.2)⟩
theorem Bt.inv {a : Nat} {t : T4} (h : Bt a t) : Bt a (invT t) := ⟨h.2.2.2, h.2.1.neg, h.2.2.1.neg, h.1⟩
/-- a table times a table -/
def fn_tt : AFn := fun avs s Q => ∃ t u : T4, avs = [.d (tbD t), .d (tbD u)] ∧ Bt 1000 t ∧ Bt 1000 u ∧ Q (.d (tbD (mulT t u))) s
def fn_inv : AFn := fun avs s Q => ∃ t : T4, avs = [.d (tbD t)] ∧ Q (.d (tbD (invT t))) s
theorem rng_2 : rngD 0 (Int.toNat 2) = [PyData.int 0, .int 1] := rfl
theorem b1000_1 : Bd 1000 1 := Bd.le (a := 8) (Bd.lit (i := 1)) (by decide)
theorem b1000_0 : Bd 1000 0 := Bd.le (a := 8) (Bd.lit (i := 0)) (by decide)
def ltI (t u : T4) (l : Int) : T4 := if (if l < 0 then -l else l) = 1 then t else u
def LtrT (l : Int) : Prop := l = 1 ∨ l = -1 ∨ l = 2 ∨ l = -2
/-- a letter's table, a word's table -/
def ltS (t u : T4) (l : Int) : T4 := if l > 0 then ltI t u l else invT (ltI t u l)
def wrdI (t u : T4) (w : List Int) : T4 := w.foldl (fun m l => mulT m (ltS t u l)) (1, 0, 0, 1)
theorem bt_ltS {b : Nat} {t u : T4} (ht : Bt b t) (hu : Bt b u) (l : Int) : Bt b (ltS t u l) := by
  have : Bt b (ltI t u l) := by
    unfold ltI
    by_cases c : (if l < 0 then -l else l) = 1
    · rw [if_pos c]; exact ht
    · rw [if_neg c]; exact hu
  unfold ltS
  split
  · exact this
  · exact this.inv
theorem bt_one : Bt 1 (1, 0, 0, 1) := ⟨by unfold Bd; decide, by unfold Bd; decide, by unfold Bd; decide, by unfold Bd; decide⟩
def wD (w : List Int) : D := .tuple (w.map .int)
/-! ### polynomials: terms of three powers and a number -/
abbrev Tm := T3 × Int
abbrev Po := List Tm
def tmD (t : Tm) : D := .tuple [trD t.1, .int t.2]
def poD (p : Po) : D := .tuple (p.map tmD)
def dicD (l : Po) : List (List Key × D) := l.map fun t => (key3 t.1, .int t.2)
theorem key3_inj {a b : T3} (h : key3 a = key3 b) : a = b := by
  obtain ⟨a1, a2, a3⟩ := a; obtain ⟨b1, b2, b3⟩ := b
  simp only [key3, List.cons.injEq, Sum.inl.injEq, and_true] at h
  obtain ⟨rfl, rfl, rfl⟩ := h
  rfl
def getT : Po → T3 → Int
  | [], _ => 0
  | (t, n) :: r, k => if t = k then n else getT r k
def hasT : Po → T3 → Bool
  | [], _ => false
  | (t, _) :: r, k => if t = k then true else hasT r k
def putT (l : Po) (k : T3) (n : Int) : Po := if hasT l k then l.map (fun t => if t.1 = k then (t.1, n) else t) else l ++ [(k, n)]
theorem dic_any (l : Po) (k : T3) : ((dicD l).any fun kv => decide (kv.1 = key3 k)) = hasT l k := by
  induction l with
  | nil => rfl
  | cons t r ih =>
    obtain ⟨t, n⟩ := t
    show (decide (key3 t = key3 k) || _) = _
    unfold hasT
    by_cases c : t = k
    · subst c; simp
    · have : ¬ key3 t = key3 k := fun h => c (key3_inj h)
      rw [if_neg c, ← ih]
      simp only [this, decide_false, Bool.false_or]
      rfl
theorem putD_dic (l : Po) (k : T3) (n : Int) : putD (dicD l) (key3 k) (.int n) = dicD (putT l k n) := by
  unfold putD putT
  rw [dic_any]
  cases hasT l k
  · simp [dicD]
  · simp only [if_true]
    unfold dicD
    rw [List.map_map, List.map_map]
    refine List.map_congr_left fun t _ => ?_
    obtain ⟨t, m⟩ := t
    show (if key3 t = key3 k then (key3 t, PyData.int n) else (key3 t, .int m)) = (key3 (if t = k then (t, n) else (t, m)).1, PyData.int (if t = k then (t, n) else (t, m)).2)
    by_cases c : t = k
    · subst c; simp
    · have : ¬ key3 t = key3 k := fun h => c (key3_inj h)
      rw [if_neg this, if_neg c]
theorem valD_dic (l : Po) (k : T3) : valD (dicD l) (key3 k) = if hasT l k then some (.int (getT l k)) else none := by
  induction l with
  | nil => rfl
  | cons t r ih =>
    obtain ⟨t, n⟩ := t
    unfold hasT getT
    by_cases c : t = k
    · subst c
      unfold valD dicD
      simp
    · have h : ¬ key3 t = key3 k := fun h => c (key3_inj h)
      rw [if_neg c, if_neg c, ← ih]
      unfold valD dicD
      rw [List.map_cons, List.find?_cons_of_neg (by simpa using h)]
theorem getT_no {l : Po} {k : T3} (h : hasT l k = false) : getT l k = 0 := by
  induction l with
  | nil => rfl
  | cons t r ih =>
    obtain ⟨t, n⟩ := t
    unfold hasT at h
    unfold getT
    split at h
    · cases h
    · rename_i c
      rw [if_neg c]
      exact ih h
theorem keysD_t (t : T3) : keysD [.int t.1, .int t.2.1, .int t.2.2] = some (key3 t) := rfl
theorem fst_dic (l : Po) : (dicD l).map (·.1) = (l.map (·.1)).map key3 := by
  unfold dicD
  rw [List.map_map, List.map_map]; rfl
/-- sorting, by insertion -/
def insT (x : T3) : List T3 → List T3
  | [] => [x]
  | y :: r => if lexT y x then y :: insT x r else x :: y :: r
def srtT : List T3 → List T3
  | [] => []
  | x :: r => insT x (srtT r)
theorem insT_perm (x : T3) : ∀ l, (insT x l).Perm (x :: l)
  | [] => .refl _
  | y :: r => by
    unfold insT
    split
    · exact ((insT_perm x r).cons y).trans (.swap x y r)
    · exact .refl _
theorem lexT_tr {a b c : T3} (h1 : lexT b a = false) (h2 : lexT c b = false) : lexT c a = false := (swo_lexT id).tr a b c h1 h2
theorem insT_srt (x : T3) : ∀ l : List T3, l.Pairwise (fun a b => lexT b a = false) → (insT x l).Pairwise fun a b => lexT b a = false
  | [], _ => List.pairwise_singleton _ _
  | y :: r, h => by
    have h1 := List.pairwise_cons.mp h
    unfold insT
    split
    · rename_i c
      refine List.pairwise_cons.mpr ⟨fun z hz => ?_, insT_srt x r h1.2⟩
      rcases List.mem_cons.mp ((insT_perm x r).mem_iff.mp hz) with rfl | hz
      · exact (swo_lexT id).asym y z c
      · exact h1.1 z hz
    · rename_i c
      have c : lexT y x = false := by simpa using c
      refine List.pairwise_cons.mpr ⟨fun z hz => ?_, h⟩
      rcases List.mem_cons.mp hz with rfl | hz
      · exact c
      · exact lexT_tr c (h1.1 z hz)
theorem srtT_ok : ∀ l, SrtT (srtT l) l
  | [] => ⟨.refl _, .nil⟩
  | x :: r => ⟨(insT_perm x _).trans ((srtT_ok r).1.cons x), insT_srt x _ (srtT_ok r).2⟩
theorem lexT_eq {a b : T3} (h1 : lexT a b = false) (h2 : lexT b a = false) : a = b := by
  have e1 := lexT_no.mp h1
  have e2 := lexT_no.mp h2
  obtain ⟨a1, a2, a3⟩ := a; obtain ⟨b1, b2, b3⟩ := b
  simp only [] at e1 e2
  refine Prod.ext ?_ (Prod.ext ?_ ?_) <;> simp only [] <;> omega
theorem srtT_uniq {l l' r : List T3} (h : SrtT l r) (g : SrtT l' r) : l = l' :=
  List.Perm.eq_of_pairwise (fun x y _ _ h1 h2 => lexT_eq h2 h1) h.2 g.2 (h.1.trans g.1.symm)
def canon (l : Po) : Po := ((srtT (l.map (·.1))).filter fun k => decide (getT l k ≠ 0)).map fun k => (k, getT l k)
theorem hasT_mem {l : Po} {k : T3} (h : k ∈ l.map (·.1)) : hasT l k = true := by
  induction l with
  | nil => cases h
  | cons t r ih =>
    obtain ⟨t, n⟩ := t
    unfold hasT
    split
    · rfl
    · rename_i c
      rcases List.mem_cons.mp h with e | h
      · exact absurd e.symm c
      · exact ih h
def addT (l : Po) (k : T3) (n : Int) : Po := putT l k (getT l k + n)
/-- the powers of a product -/
def shT (a b : T3) : T3 := (b.1 + a.1, b.2.1 + a.2.1, b.2.2 + a.2.2)
def mulOne (l : Po) (t : Tm) (p : Po) : Po := p.foldl (fun l o => addT l (shT t.1 o.1) (t.2 * o.2)) l
def mulAll (l : Po) (q p : Po) : Po := q.foldl (fun l t => mulOne l t p) l
def sumL (l : Po) (ps : List (Po × Po)) : Po := ps.foldl (fun l pr => mulAll l pr.1 pr.2) l
/-- a sum of products, as told -/
def sumP (ps : List (Po × Po)) : Po := canon (sumL [] ps)
def ppD (pr : Po × Po) : D := .tuple [poD pr.1, poD pr.2]
theorem putT_len (l : Po) (k : T3) (n : Int) : (putT l k n).length ≤ l.length + 1 := by
  unfold putT
  split
  · rw [List.length_map]; omega
  · rw [List.length_append]; simp
theorem mulOne_len (t : Tm) : ∀ (p l : Po), (mulOne l t p).length ≤ l.length + p.length
  | [], l => Nat.le_refl _
  | o :: r, l => by
    have h := mulOne_len t r (addT l (shT t.1 o.1) (t.2 * o.2))
    have h2 := putT_len l (shT t.1 o.1) (getT l (shT t.1 o.1) + t.2 * o.2)
    show (mulOne (addT l (shT t.1 o.1) (t.2 * o.2)) t r).length ≤ l.length + (r.length + 1)
    unfold addT at h ⊢
    omega
theorem mulAll_len (p : Po) : ∀ (q l : Po), (mulAll l q p).length ≤ l.length + q.length * p.length
  | [], l => by show l.length ≤ _; omega
  | t :: r, l => by
    have h := mulAll_len p r (mulOne l t p)
    have h2 := mulOne_len t p l
    show (mulAll (mulOne l t p) r p).length ≤ l.length + (r.length + 1) * p.length
    rw [Nat.add_mul]
    omega
def muchP (ps : List (Po × Po)) : Nat := (ps.map fun pr => pr.1.length * pr.2.length).sum
theorem sumL_len : ∀ (ps : List (Po × Po)) (l : Po), (sumL l ps).length ≤ l.length + muchP ps
  | [], l => Nat.le_refl _
  | pr :: r, l => by
    have h := sumL_len r (mulAll l pr.1 pr.2)
    have h2 := mulAll_len pr.2 pr.1 l
    show (sumL (mulAll l pr.1 pr.2) r).length ≤ l.length + muchP (pr :: r)
    unfold muchP at h ⊢
    rw [List.map_cons, List.sum_cons]
    omega
/-- a number that a product may have -/
def B64 (n : Int) : Prop := -18446744073709551616 < n ∧ n < 18446744073709551616
def Sml (p : Po) : Prop := ∀ t ∈ p, B64 t.2
/-- the greatest of 0 and some numbers -/
def mxL (l : List Int) : Int := l.foldr (fun a b => if a ≤ b then b else a) 0
theorem mxL_ge : ∀ {l : List Int}, 0 ≤ mxL l ∧ ∀ a ∈ l, a ≤ mxL l
  | [] => ⟨Int.le_refl _, by simp⟩
  | b :: r => by
    have ⟨h1, h2⟩ := @mxL_ge r
    show 0 ≤ (if b ≤ mxL r then mxL r else b) ∧ ∀ a ∈ b :: r, a ≤ (if b ≤ mxL r then mxL r else b)
    refine ⟨by split <;> omega, fun a ha => ?_⟩
    rcases List.mem_cons.mp ha with rfl | ha
    · split <;> omega
    · have := h2 a ha
      split <;> omega
theorem mxL_mem : ∀ (l : List Int), mxL l ∈ 0 :: l
  | [] => List.mem_cons_self
  | b :: r => by
    have h := mxL_mem r
    show (if b ≤ mxL r then mxL r else b) ∈ 0 :: b :: r
    split
    · rcases List.mem_cons.mp h with h | h
      · rw [h]; exact List.mem_cons_self
      · exact List.mem_cons_of_mem _ (List.mem_cons_of_mem _ h)
    · exact List.mem_cons_of_mem _ List.mem_cons_self
theorem mxL_eq {l : List Int} {k : Int} (h1 : k ∈ 0 :: l) (h2 : ∀ y ∈ 0 :: l, y ≤ k) : k = mxL l := by
  refine Int.le_antisymm ?_ (h2 _ (mxL_mem l))
  rcases List.mem_cons.mp h1 with rfl | h
  · exact mxL_ge.1
  · exact mxL_ge.2 k h
def degP (p : Po) : T3 := (mxL (p.map fun t => t.1.1), mxL (p.map fun t => t.1.2.1), mxL (p.map fun t => t.1.2.2))
def tmV (x y z : Int) (t : Tm) : Int := t.2 * x ^ t.1.1.toNat * y ^ t.1.2.1.toNat * z ^ t.1.2.2.toNat
def valP (p : Po) (x y z : Int) : Int := (p.map (tmV x y z)).sum
/-- powers within bounds, numbers within bounds -/
def PoOk (d : Nat) (p : Po) : Prop := ∀ t ∈ p, (0 ≤ t.1.1 ∧ t.1.1 ≤ d) ∧ (0 ≤ t.1.2.1 ∧ t.1.2.1 ≤ d) ∧ (0 ≤ t.1.2.2 ∧ t.1.2.2 ≤ d) ∧ B64 t.2
def N_poly_told : List Str := ["terms", "found", "powers"]
def lt_poly_told_1 : ATT := (aTest (aBin aNe (aDixT (aVar 0) (aVar 2)) (aC (.int 0))))
def le_poly_told_2 : ATE := (aTup (aCons (aVar 2) (aCons (aDixT (aVar 0) (aVar 2)) aNil)))
def t_poly_told : ATS := (aSeq (aSet 1 (aCall bTuple (aCons (aLc (aItL (aCall bSortT (aCons (aVar 0) aNil))) (aGName 2) lt_poly_told_1 le_poly_told_2 [2]) aNil)))
    (aSeq (aIfS (aTest (aBin aGt (aCall bLen (aCons (aVar 1) aNil)) (aC (.int 4000)))) aNever aNext)
    (aRet (aVar 1))))
def fn_poly_told : AFn := fun avs s Q => ∃ l : Po, avs = [.dt (dicD l)] ∧ l.length ≤ 1000000 ∧ (canon l).length ≤ 4000 ∧ Q (.d (poD (canon l))) s
theorem h_poly_told : ∀ avs s AQ, fn_poly_told avs s AQ → t_poly_told (endsA AQ) ⟨startA N_poly_told avs, ⟨s, []⟩⟩ := by
  rintro _ s AQ ⟨l, rfl, hl, hc, hq⟩
  show t_poly_told (endsA AQ) ⟨[some (.dt (dicD l)), none, none], ⟨s, []⟩⟩
  have st : ∀ (t : T3) (K : Option D → Mm → Prop), t ∈ l.map (·.1) → K (if decide (getT l t ≠ 0) = true then some (tmD (t, getT l t)) else none) ⟨s, []⟩ → stepC (aGName 2) lt_poly_told_1 le_poly_told_2 [some (.dt (dicD l)), none, none] (trD t) ⟨s, []⟩ K := by
    intro t K ht hK
    unfold stepC lt_poly_told_1 le_poly_told_2 trD
    walk_at "qs"
    rw [show ((t.1, t.2.1, t.2.2) : T3) = t from rfl, valD_dic, hasT_mem ht]
    simp only [if_true]
    by_cases c : getT l t = 0
    · simp only [c, ne_eq, not_true_eq_false, if_false, decide_false, Bool.false_eq_true] at hK ⊢
      exact hK
    · simp only [c, ne_eq, not_false_eq_true, if_true, decide_true] at hK ⊢
      exact hK
  unfold t_poly_told
  walk_at "qs"
  refine ⟨l.map (·.1), fst_dic l, fun ts' hts => ?_⟩
  have e : ts' = srtT (l.map (·.1)) := srtT_uniq hts (srtT_ok _)
  subst e
  refine ⟨by rw [List.length_map, (srtT_ok _).1.length_eq, List.length_map]; exact hl, aLcL_map trD (fun t => decide (getT l t ≠ 0)) (fun t => tmD (t, getT l t)) (fun t ht K hK => st t K ((srtT_ok _).1.mem_iff.mp ht) hK) ?_⟩
  have e : List.map (fun t => tmD (t, getT l t)) (List.filter (fun t => decide (getT l t ≠ 0)) (srtT (List.map (fun x => x.fst) l))) = (canon l).map tmD := by unfold canon; rw [List.map_map]; rfl
  rw [e, List.length_map]
  have : ¬ (4000 : Int) < ((canon l).length : Nat) := by omega
  simp only [this, if_false]
  exact hq
def N_poly_taken : List Str := ["one", "number", "powers", "late"]
def le_poly_taken_1 : ATE := (aTup (aCons (aVar 2) (aCons (aBin aMul (aVar 1) (aVar 3)) aNil)))
def t_poly_taken : ATS := (aRet (aIf (aTest (aBin aNe (aVar 1) (aC (.int 0)))) (aCall bTuple (aCons (aLc (aItT (aVar 0)) (aGTup 2 (aGCons (aGName 2) (aGCons (aGName 3) aGNil))) aYes le_poly_taken_1 [2, 3]) aNil)) (aC (.tuple []))))
def tkP (p : Po) (n : Int) : Po := if n = 0 then [] else p.map fun t => (t.1, n * t.2)
def fn_poly_taken : AFn := fun avs s Q => ∃ (p : Po) (n : Int), avs = [.d (poD p), .d (.int n)] ∧ p.length ≤ 1000000 ∧ B64 n ∧ Q (.d (poD (tkP p n))) s
theorem h_poly_taken : ∀ avs s AQ, fn_poly_taken avs s AQ → t_poly_taken (endsA AQ) ⟨startA N_poly_taken avs, ⟨s, []⟩⟩ := by
  rintro _ s AQ ⟨p, n, rfl, hl, hn, hq⟩
  show t_poly_taken (endsA AQ) ⟨[some (.d (poD p)), some (.d (.int n)), none, none], ⟨s, []⟩⟩
  unfold t_poly_taken
  rw [show poD p = .tuple (p.map tmD) from rfl]
  unfold tkP at hq
  by_cases c : n = 0
  · subst c
    walk_at "qs"
    exact hq
  · walk_at "qs"
    rw [if_neg c] at hq
    rw [if_pos c]
    refine ⟨by rw [List.length_map]; exact hl, aLcL_all tmD (fun t => tmD (t.1, n * t.2)) (fun t ht K hK => ?_) ?_⟩
    · obtain ⟨⟨a, b, c⟩, m⟩ := t
      unfold stepC le_poly_taken_1 tmD trD
      walk_at "qs"
      exact ⟨MulOk.l hn.1 hn.2, hK⟩
    · unfold poD at hq
      rw [List.map_map] at hq
      exact hq
def N_sum_of_products : List Str := ["pairs", "terms", "short", "one", "i", "j", "k", "number", "first", "second", "third", "late", "powers"]
def lb_sum_of_products_1 : ATS := (aSeq (aSet 12 (aTupK (aCons (aBin aAdd (aVar 8) (aVar 4)) (aCons (aBin aAdd (aVar 9) (aVar 5)) (aCons (aBin aAdd (aVar 10) (aVar 6)) aNil)))))
    (aDput (aVar 1) (aVar 12) (aBin aAdd (aDget (aVar 1) (aVar 12) (aC (.int 0))) (aBin aMul (aVar 7) (aVar 11)))))
def lb_sum_of_products_2 : ATS := (aFor [8, 9, 10, 11, 12] (aItT (aVar 3)) (aGTup 2 (aGCons (aGTup 3 (aGCons (aGName 8) (aGCons (aGName 9) (aGCons (aGName 10) aGNil)))) (aGCons (aGName 11) aGNil))) lb_sum_of_products_1)
def lb_sum_of_products_3 : ATS := (aFor [4, 5, 6, 7, 8, 9, 10, 11, 12] (aItT (aVar 2)) (aGTup 2 (aGCons (aGTup 3 (aGCons (aGName 4) (aGCons (aGName 5) (aGCons (aGName 6) aGNil)))) (aGCons (aGName 7) aGNil))) lb_sum_of_products_2)
def t_sum_of_products : ATS := (aSeq (aSet 1 aDnewT)
    (aSeq (aFor [2, 3, 4, 5, 6, 7, 8, 9, 10, 11, 12] (aItL (aVar 0)) (aGTup 2 (aGCons (aGName 2) (aGCons (aGName 3) aGNil))) lb_sum_of_products_3)
    (aNorm 0 [] (aRet (aFn 1 fn_poly_told (aCons (aVar 1) aNil))))))
def fn_sum_of_products : AFn := fun avs s Q => ∃ ps : List (Po × Po), avs = [.d (.list (ps.map ppD))] ∧ (∀ pr ∈ ps, Sml pr.1) ∧ muchP ps ≤ 1000000 ∧ (sumP ps).length ≤ 4000 ∧ Q (.d (poD (sumP ps))) s
theorem sop1 (E : AEnds) (x0 x2 x3 : D) (i j k n : Int) (hn : B64 n) (s : Option Src) : ∀ (p l : Po), l.length + p.length ≤ 1000000 → E.nx ⟨[some (.d x0), some (.o 0), some (.d x2), some (.d x3), some (.d (.int i)), some (.d (.int j)), some (.d (.int k)), some (.d (.int n)), none, none, none, none, none], ⟨s, [.td (dicD (mulOne l ((i, j, k), n) p))]⟩⟩ →
    aForL 1 [8, 9, 10, 11, 12] (aGTup 2 (aGCons (aGTup 3 (aGCons (aGName 8) (aGCons (aGName 9) (aGCons (aGName 10) aGNil)))) (aGCons (aGName 11) aGNil))) lb_sum_of_products_1 E (p.map tmD) ⟨[some (.d x0), some (.o 0), some (.d x2), some (.d x3), some (.d (.int i)), some (.d (.int j)), some (.d (.int k)), some (.d (.int n)), none, none, none, none, none], ⟨s, [.td (dicD l)]⟩⟩ := by
  intro p
  induction p with
  | nil => intro l _ h; exact h
  | cons o r ih =>
    obtain ⟨⟨a, b, c⟩, m⟩ := o
    intro l hl h
    rw [List.map_cons]
    unfold aForL lb_sum_of_products_1
    rw [show tmD ((a, b, c), m) = .tuple [.tuple [.int a, .int b, .int c], .int m] from rfl]
    walk_at "qs"
    rw [show ((a + i, b + j, c + k) : T3) = shT (i, j, k) (a, b, c) from rfl, valD_dic]
    refine ⟨rfl, ?_⟩
    have hm : MulOk n m := MulOk.l hn.1 hn.2
    have hd : (dicD l).length ≤ 1000000 := by unfold dicD; rw [List.length_map]; simp only [List.length_cons] at hl; omega
    have nx := ih (addT l (shT (i, j, k) (a, b, c)) (n * m)) (by
      have := putT_len l (shT (i, j, k) (a, b, c)) (getT l (shT (i, j, k) (a, b, c)) + n * m)
      unfold addT
      simp only [List.length_cons] at hl; omega) h
    cases e : hasT l (shT (i, j, k) (a, b, c)) with
    | true =>
      simp only [if_true]
      refine ⟨hm, hd, ?_⟩
      rw [putD_dic]
      exact nx
    | false =>
      simp only [Bool.false_eq_true, if_false]
      refine ⟨hm, hd, ?_⟩
      rw [putD_dic]
      unfold addT at nx
      rw [getT_no e] at nx
      exact nx
theorem sop2 (E : AEnds) (x0 x2 : D) (p : Po) (s : Option Src) : ∀ (q l : Po), Sml q → l.length + q.length * p.length ≤ 1000000 → E.nx ⟨[some (.d x0), some (.o 0), some (.d x2), some (.d (poD p)), none, none, none, none, none, none, none, none, none], ⟨s, [.td (dicD (mulAll l q p))]⟩⟩ →
    aForL 1 [4, 5, 6, 7, 8, 9, 10, 11, 12] (aGTup 2 (aGCons (aGTup 3 (aGCons (aGName 4) (aGCons (aGName 5) (aGCons (aGName 6) aGNil)))) (aGCons (aGName 7) aGNil))) lb_sum_of_products_2 E (q.map tmD) ⟨[some (.d x0), some (.o 0), some (.d x2), some (.d (poD p)), none, none, none, none, none, none, none, none, none], ⟨s, [.td (dicD l)]⟩⟩ := by
  intro q
  induction q with
  | nil => intro l _ _ h; exact h
  | cons o r ih =>
    obtain ⟨⟨a, b, c⟩, m⟩ := o
    intro l hq hl h
    rw [List.map_cons]
    unfold aForL lb_sum_of_products_2
    rw [show tmD ((a, b, c), m) = .tuple [.tuple [.int a, .int b, .int c], .int m] from rfl]
    rw [show poD p = .tuple (p.map tmD) from rfl] at h ih ⊢
    have hlen := mulOne_len ((a, b, c), m) p l
    have hl' : l.length + (r.length + 1) * p.length ≤ 1000000 := hl
    rw [Nat.add_mul] at hl'
    walk_at "qs"
    refine sop1 _ x0 x2 _ a b c m (hq _ List.mem_cons_self) s p l (by omega) ?_
    exact ih (mulOne l ((a, b, c), m) p) (fun t ht => hq t (List.mem_cons_of_mem _ ht)) (by omega) h
theorem sop3 (E : AEnds) (x0 : D) (s : Option Src) : ∀ (ps : List (Po × Po)) (l : Po), (∀ pr ∈ ps, Sml pr.1) → l.length + muchP ps ≤ 1000000 → E.nx ⟨[some (.d x0), some (.o 0), none, none, none, none, none, none, none, none, none, none, none], ⟨s, [.td (dicD (sumL l ps))]⟩⟩ →
    aForL 1 [2, 3, 4, 5, 6, 7, 8, 9, 10, 11, 12] (aGTup 2 (aGCons (aGName 2) (aGCons (aGName 3) aGNil))) lb_sum_of_products_3 E (ps.map ppD) ⟨[some (.d x0), some (.o 0), none, none, none, none, none, none, none, none, none, none, none], ⟨s, [.td (dicD l)]⟩⟩ := by
  intro ps
  induction ps with
  | nil => intro l _ _ h; exact h
  | cons o r ih =>
    obtain ⟨q, p⟩ := o
    intro l hq hl h
    rw [List.map_cons]
    unfold aForL lb_sum_of_products_3
    rw [show ppD (q, p) = .tuple [poD q, poD p] from rfl]
    have hlen := mulAll_len p q l
    have hl' : l.length + (q.length * p.length + muchP r) ≤ 1000000 := by
      have e : muchP ((q, p) :: r) = q.length * p.length + muchP r := by unfold muchP; rw [List.map_cons, List.sum_cons]
      omega
    rw [show poD q = .tuple (q.map tmD) from rfl]
    walk_at "qs"
    refine sop2 _ x0 _ p s q l (hq _ List.mem_cons_self) (by omega) ?_
    exact ih (mulAll l q p) (fun t ht => hq t (List.mem_cons_of_mem _ ht)) (by omega) h
theorem h_sum_of_products : ∀ avs s AQ, fn_sum_of_products avs s AQ → t_sum_of_products (endsA AQ) ⟨startA N_sum_of_products avs, ⟨s, []⟩⟩ := by
  rintro _ s AQ ⟨ps, rfl, hs, hl, hc, hq⟩
  show t_sum_of_products (endsA AQ) ⟨[some (.d (.list (ps.map ppD))), none, none, none, none, none, none, none, none, none, none, none, none], ⟨s, []⟩⟩
  unfold t_sum_of_products
  walk_at "qs"
  refine sop3 _ _ s ps [] hs (by simpa using hl) ?_
  walk_at "qs"
  have hlen := sumL_len ps []
  refine ⟨_, rfl, by simp only [List.length_nil] at hlen; omega, hc, hq⟩
def N_table_times : List Str := ["one", "other", "a", "b", "c", "d", "e", "f", "g", "h"]
def t_table_times : ATS := (aSeq (aAsg (aVar 0) (aGTup 4 (aGCons (aGName 2) (aGCons (aGName 3) (aGCons (aGName 4) (aGCons (aGName 5) aGNil))))))
    (aSeq (aAsg (aVar 1) (aGTup 4 (aGCons (aGName 6) (aGCons (aGName 7) (aGCons (aGName 8) (aGCons (aGName 9) aGNil))))))
    (aRet (aTup (aCons (aBin aAdd (aBin aMul (aVar 2) (aVar 6)) (aBin aMul (aVar 3) (aVar 8))) (aCons (aBin aAdd (aBin aMul (aVar 2) (aVar 7)) (aBin aMul (aVar 3) (aVar 9))) (aCons (aBin aAdd (aBin aMul (aVar 4) (aVar 6)) (aBin aMul (aVar 5) (aVar 8))) (aCons (aBin aAdd (aBin aMul (aVar 4) (aVar 7)) (aBin aMul (aVar 5) (aVar 9))) aNil))))))))
def fn_table_times : AFn := fn_tt
theorem h_table_times : ∀ avs s AQ, fn_table_times avs s AQ → t_table_times (endsA AQ) ⟨startA N_table_times avs, ⟨s, []⟩⟩ := by
  rintro _ s AQ ⟨⟨p, q, r, v⟩, ⟨e, f, g, h⟩, rfl, ⟨h1, h2, h3, h4⟩, ⟨g1, g2, g3, g4⟩, hq⟩
  show t_table_times (endsA AQ) ⟨[some (.d (.tuple [.int p, .int q, .int r, .int v])), some (.d (.tuple [.int e, .int f, .int g, .int h])), none, none, none, none, none, none, none, none], ⟨s, []⟩⟩
  unfold t_table_times
  walk_at "qs"
  walk_at "mos"
  exact hq
def N_table_undone : List Str := ["one"]
def t_table_undone : ATS := (aRet (aTup (aCons (aBin aIx (aVar 0) (aC (.int 3))) (aCons (aUn aNeg (aBin aIx (aVar 0) (aC (.int 1)))) (aCons (aUn aNeg (aBin aIx (aVar 0) (aC (.int 2)))) (aCons (aBin aIx (aVar 0) (aC (.int 0))) aNil))))))
def fn_table_undone : AFn := fn_inv
theorem h_table_undone : ∀ avs s AQ, fn_table_undone avs s AQ → t_table_undone (endsA AQ) ⟨startA N_table_undone avs, ⟨s, []⟩⟩ := by
  rintro _ s AQ ⟨⟨p, q, r, v⟩, rfl, hq⟩
  show t_table_undone (endsA AQ) ⟨[some (.d (.tuple [.int p, .int q, .int r, .int v]))], ⟨s, []⟩⟩
  unfold t_table_undone
  walk_at "qs"
  exact hq
def N_trace_of_pairtables : List Str := ["one"]
def t_trace_of_pairtables : ATS := (aRet (aBin aAdd (aBin aIx (aVar 0) (aC (.int 0))) (aBin aIx (aVar 0) (aC (.int 3)))))
def fn_trace_of_pairtables : AFn := fun avs s Q => ∃ t : T4, avs = [.d (tbD t)] ∧ Q (.d (.int (trT t))) s
theorem h_trace_of_pairtables : ∀ avs s AQ, fn_trace_of_pairtables avs s AQ → t_trace_of_pairtables (endsA AQ) ⟨startA N_trace_of_pairtables avs, ⟨s, []⟩⟩ := by
  rintro _ s AQ ⟨⟨p, q, r, v⟩, rfl, hq⟩
  show t_trace_of_pairtables (endsA AQ) ⟨[some (.d (.tuple [.int p, .int q, .int r, .int v]))], ⟨s, []⟩⟩
  unfold t_trace_of_pairtables
  walk_at "qs"
  exact hq
def N_traced : List Str := ["pair"]
def t_traced : ATS := (aRet (aTup (aCons (aFn 1 fn_trace_of_pairtables (aCons (aBin aIx (aVar 0) (aC (.int 0))) aNil)) (aCons (aFn 1 fn_trace_of_pairtables (aCons (aBin aIx (aVar 0) (aC (.int 1))) aNil)) (aCons (aFn 1 fn_trace_of_pairtables (aCons (aFn 2 fn_table_times (aCons (aBin aIx (aVar 0) (aC (.int 0))) (aCons (aBin aIx (aVar 0) (aC (.int 1))) aNil))) aNil)) aNil)))))
def fn_traced : AFn := fun avs s Q => ∃ t u : T4, avs = [.d (.tuple [tbD t, tbD u])] ∧ Bt 1000 t ∧ Bt 1000 u ∧ Q (.d (triD (trM t u))) s
theorem h_traced : ∀ avs s AQ, fn_traced avs s AQ → t_traced (endsA AQ) ⟨startA N_traced avs, ⟨s, []⟩⟩ := by
  rintro _ s AQ ⟨t, u, rfl, h1, h2, hq⟩
  show t_traced (endsA AQ) ⟨[some (.d (.tuple [tbD t, tbD u]))], ⟨s, []⟩⟩
  unfold t_traced
  walk_at "qs"
  refine ⟨t, rfl, u, rfl, t, u, rfl, h1, h2, ?_⟩
  refine ⟨rfl, _, rfl, ?_⟩
  exact ⟨by simp, hq⟩
def N_k_of : List Str := ["triple", "x", "y", "z"]
def t_k_of : ATS := (aSeq (aAsg (aVar 0) (aGTup 3 (aGCons (aGName 1) (aGCons (aGName 2) (aGCons (aGName 3) aGNil)))))
    (aRet (aBin aSub (aBin aSub (aBin aAdd (aBin aAdd (aBin aMul (aVar 1) (aVar 1)) (aBin aMul (aVar 2) (aVar 2))) (aBin aMul (aVar 3) (aVar 3))) (aBin aMul (aBin aMul (aVar 1) (aVar 2)) (aVar 3))) (aC (.int 2)))))
def Bt3 (k : Nat) (t : T3) : Prop := Bd k t.1 ∧ Bd k t.2.1 ∧ Bd k t.2.2
theorem Bt3.of {k : Nat} {t u : T4} (h : Bt k t) (g : Bt k u) : Bt3 (k + k + 2) (trM t u) :=
  ⟨(h.1.add h.2.2.2).le (by omega), (g.1.add g.2.2.2).le (by omega), ((h.mul g).1.add (h.mul g).2.2.2).le (by omega)⟩
theorem Bt3.le {a b : Nat} {t : T3} (h : Bt3 a t) (hab : a ≤ b) : Bt3 b t := ⟨h.1.le hab, h.2.1.le hab, h.2.2.le hab⟩
def fn_k3 : AFn := fun avs s Q => ∃ t : T3, avs = [.d (triD t)] ∧ Bt3 3000 t ∧ Q (.d (.int (kT3 t))) s
def fn_k_of : AFn := fn_k3
theorem h_k_of : ∀ avs s AQ, fn_k_of avs s AQ → t_k_of (endsA AQ) ⟨startA N_k_of avs, ⟨s, []⟩⟩ := by
  rintro _ s AQ ⟨⟨a, b, c⟩, rfl, ⟨h1, h2, h3⟩, hq⟩
  show t_k_of (endsA AQ) ⟨[some (.d (.tuple [.int a, .int b, .int c])), none, none, none], ⟨s, []⟩⟩
  unfold t_k_of
  walk_at "qs"
  walk_at "mos"
  exact hq
def N__law_times : List Str := ["one", "other", "p", "q", "r", "s", "e", "f", "g", "h"]
def t__law_times : ATS := (aSeq (aAsg (aVar 0) (aGTup 4 (aGCons (aGName 2) (aGCons (aGName 3) (aGCons (aGName 4) (aGCons (aGName 5) aGNil))))))
    (aSeq (aAsg (aVar 1) (aGTup 4 (aGCons (aGName 6) (aGCons (aGName 7) (aGCons (aGName 8) (aGCons (aGName 9) aGNil))))))
    (aRet (aTup (aCons (aBin aAdd (aBin aMul (aVar 2) (aVar 6)) (aBin aMul (aVar 3) (aVar 8))) (aCons (aBin aAdd (aBin aMul (aVar 2) (aVar 7)) (aBin aMul (aVar 3) (aVar 9))) (aCons (aBin aAdd (aBin aMul (aVar 4) (aVar 6)) (aBin aMul (aVar 5) (aVar 8))) (aCons (aBin aAdd (aBin aMul (aVar 4) (aVar 7)) (aBin aMul (aVar 5) (aVar 9))) aNil))))))))
def fn__law_times : AFn := fn_tt
theorem h__law_times : ∀ avs s AQ, fn__law_times avs s AQ → t__law_times (endsA AQ) ⟨startA N__law_times avs, ⟨s, []⟩⟩ := by
  rintro _ s AQ ⟨⟨p, q, r, v⟩, ⟨e, f, g, h⟩, rfl, ⟨h1, h2, h3, h4⟩, ⟨g1, g2, g3, g4⟩, hq⟩
  show t__law_times (endsA AQ) ⟨[some (.d (.tuple [.int p, .int q, .int r, .int v])), some (.d (.tuple [.int e, .int f, .int g, .int h])), none, none, none, none, none, none, none, none], ⟨s, []⟩⟩
  unfold t__law_times
  walk_at "qs"
  walk_at "mos"
  exact hq
def N__law_table_undone : List Str := ["one"]
def t__law_table_undone : ATS := (aRet (aTup (aCons (aBin aIx (aVar 0) (aC (.int 3))) (aCons (aBin aSub (aC (.int 0)) (aBin aIx (aVar 0) (aC (.int 1)))) (aCons (aBin aSub (aC (.int 0)) (aBin aIx (aVar 0) (aC (.int 2)))) (aCons (aBin aIx (aVar 0) (aC (.int 0))) aNil))))))
def fn__law_table_undone : AFn := fn_inv
theorem h__law_table_undone : ∀ avs s AQ, fn__law_table_undone avs s AQ → t__law_table_undone (endsA AQ) ⟨startA N__law_table_undone avs, ⟨s, []⟩⟩ := by
  rintro _ s AQ ⟨⟨p, q, r, v⟩, rfl, hq⟩
  show t__law_table_undone (endsA AQ) ⟨[some (.d (.tuple [.int p, .int q, .int r, .int v]))], ⟨s, []⟩⟩
  unfold t__law_table_undone
  walk_at "qs"
  have e : ∀ i : Int, 0 - i = -i := fun i => by omega
  rw [e, e]
  exact hq
def N__law_triple : List Str := ["pair", "both", "one"]
def le__law_triple_1 : ATE := (aBin aAdd (aBin aIx (aVar 2) (aC (.int 0))) (aBin aIx (aVar 2) (aC (.int 3))))
def t__law_triple : ATS := (aSeq (aSet 1 (aFn 2 fn__law_times (aCons (aBin aIx (aVar 0) (aC (.int 0))) (aCons (aBin aIx (aVar 0) (aC (.int 1))) aNil))))
    (aRet (aCall bTuple (aCons (aLc (aItT (aTup (aCons (aBin aIx (aVar 0) (aC (.int 0))) (aCons (aBin aIx (aVar 0) (aC (.int 1))) (aCons (aVar 1) aNil))))) (aGName 2) aYes le__law_triple_1 [2]) aNil))))
def fn__law_triple : AFn := fun avs s Q => ∃ t u : T4, avs = [.d (.tuple [tbD t, tbD u])] ∧ Bt 1000 t ∧ Bt 1000 u ∧ Q (.d (triD (trM t u))) s
theorem h__law_triple : ∀ avs s AQ, fn__law_triple avs s AQ → t__law_triple (endsA AQ) ⟨startA N__law_triple avs, ⟨s, []⟩⟩ := by
  rintro _ s AQ ⟨t, u, rfl, h1, h2, hq⟩
  show t__law_triple (endsA AQ) ⟨[some (.d (.tuple [tbD t, tbD u])), none, none], ⟨s, []⟩⟩
  have st : ∀ (x y : D) (m : T4) (K : Option D → Mm → Prop), K (some (.int (trT m))) ⟨s, []⟩ → stepC (aGName 2) aYes le__law_triple_1 [some (.d x), some (.d y), none] (tbD m) ⟨s, []⟩ K := by
    intro x y m K hK
    unfold stepC le__law_triple_1
    rw [show tbD m = .tuple [.int m.1, .int m.2.1, .int m.2.2.1, .int m.2.2.2] from rfl]
    walk_at "qs"
    exact hK
  unfold t__law_triple
  walk_at "qs"
  refine ⟨t, u, rfl, h1, h2, ?_⟩
  walk_at "qs"
  refine aLcL_step (st _ _ t _ ?_)
  refine aLcL_step (st _ _ u _ ?_)
  refine aLcL_step (st _ _ (mulT t u) _ ?_)
  unfold aLcL
  exact hq
def N_poly_degrees : List Str := ["one", "k", "powers", "number"]
def le_poly_degrees_1 : ATE := (aBin aIx (aVar 2) (aVar 1))
def le_poly_degrees_2 : ATE := (aCall bMaxL (aCons (aBin aAdd (aLst (aCons (aC (.int 0)) aNil)) (aLc (aItT (aVar 0)) (aGTup 2 (aGCons (aGName 2) (aGCons (aGName 3) aGNil))) aYes le_poly_degrees_1 [2, 3])) aNil))
def t_poly_degrees : ATS := (aRet (aCall bTuple (aCons (aLc (aRng1 (aCons (aC (.int 3)) aNil)) (aGName 1) aYes le_poly_degrees_2 [1]) aNil)))
def fn_poly_degrees : AFn := fun avs s Q => ∃ p : Po, avs = [.d (poD p)] ∧ p.length ≤ 1000000 ∧ Q (.d (trD (degP p))) s
theorem deg_step (p : Po) (kk : Int) (f : T3 → Int) (hf : ∀ t : T3, atD [.int t.1, .int t.2.1, .int t.2.2] kk = some (.int (f t))) (hl : p.length ≤ 1000000) (s : Option Src) (K : Option D → Mm → Prop) (hK : K (some (.int (mxL (p.map fun t => f t.1)))) ⟨s, []⟩) :
    stepC (aGName 1) aYes le_poly_degrees_2 [some (.d (poD p)), none, none, none] (.int kk) ⟨s, []⟩ K := by
  unfold stepC le_poly_degrees_2
  rw [show poD p = .tuple (p.map tmD) from rfl]
  walk_at "qs"
  rw [List.length_map]
  refine ⟨hl, aLcL_all tmD (fun t => .int (f t.1)) (fun t ht K hK => ?_) ?_⟩
  · unfold stepC le_poly_degrees_1
    rw [show tmD t = .tuple [.tuple [.int t.1.1, .int t.1.2.1, .int t.1.2.2], .int t.2] from rfl]
    walk_at "qs"
    rw [hf t.1]
    exact hK
  · walk_at "qs"
    have e : intsD (.int 0 :: p.map fun t => .int (f t.1)) = some (0 :: p.map fun t => f t.1) := by
      have := intsD_map (0 :: p.map fun t => f t.1)
      rw [List.map_cons, List.map_map] at this
      exact this
    rw [e]
    simp only [List.length_map]
    refine ⟨by rw [sizeLine_eq]; omega, by simp, fun k h1 h2 => ?_⟩
    rw [mxL_eq h1 h2]
    exact hK
theorem rng_3 : rngD 0 (Int.toNat 3) = [PyData.int 0, .int 1, .int 2] := rfl
theorem h_poly_degrees : ∀ avs s AQ, fn_poly_degrees avs s AQ → t_poly_degrees (endsA AQ) ⟨startA N_poly_degrees avs, ⟨s, []⟩⟩ := by
  rintro _ s AQ ⟨p, rfl, hl, hq⟩
  show t_poly_degrees (endsA AQ) ⟨[some (.d (poD p)), none, none, none], ⟨s, []⟩⟩
  unfold t_poly_degrees
  walk_at "qs"
  rw [rng_3]
  refine ⟨Rg.of (by omega) (by omega), by decide, ?_⟩
  refine aLcL_step (deg_step p 0 (fun t => t.1) (fun t => rfl) hl s _ ?_)
  refine aLcL_step (deg_step p 1 (fun t => t.2.1) (fun t => rfl) hl s _ ?_)
  refine aLcL_step (deg_step p 2 (fun t => t.2.2) (fun t => rfl) hl s _ ?_)
  unfold aLcL
  exact hq
def N_number_powers : List Str := ["number", "most", "found", "lap"]
def lb_number_powers_1 : ATS := (aDrop (aMt mApp (aVar 2) (aCons (aBin aMul (aBin aIx (aVar 2) (aUn aNeg (aC (.int 1)))) (aVar 0)) aNil)))
def t_number_powers : ATS := (aSeq (aSet 2 (aLstM (aCons (aC (.int 1)) aNil)))
    (aSeq (aFor [3] (aRng1 (aCons (aVar 1) aNil)) (aGName 3) lb_number_powers_1)
    (aRet (aVar 2))))
def pwD (n : Int) (k : Nat) : List D := (List.range (k + 1)).map fun j => .int (n ^ j)
theorem pwD_succ (n : Int) (k : Nat) : pwD n (k + 1) = pwD n k ++ [.int (n ^ k * n)] := by
  unfold pwD
  rw [List.range_succ, List.map_append, List.map_cons, List.map_nil, Int.pow_succ]
theorem pwD_len (n : Int) (k : Nat) : (pwD n k).length = k + 1 := by simp [pwD]
theorem pwD_get (n : Int) (k j : Nat) (h : j ≤ k) : (pwD n k)[j]? = some (.int (n ^ j)) := by
  unfold pwD
  rw [List.getElem?_map, List.getElem?_range (by omega)]
  rfl
theorem pwD_last (n : Int) (k : Nat) : atD (pwD n k) (-1) = some (.int (n ^ k)) := by
  unfold atD
  rw [if_neg (by decide), if_pos (by rw [pwD_len]; omega), pwD_len, show ((-1 : Int) + ((k + 1 : Nat) : Int)).toNat = k by omega]
  exact pwD_get n k k (Nat.le_refl _)
theorem pwD_at (n : Int) (k : Nat) (j : Int) (h0 : 0 ≤ j) (h : j ≤ k) : atD (pwD n k) j = some (.int (n ^ j.toNat)) := by
  unfold atD
  rw [if_pos h0]
  exact pwD_get n k _ (by omega)
theorem Bd.pow {e : Nat} {n : Int} (h : Bd e n) (he : 0 < e) : ∀ k : Nat, Bd (e * k + 1) (n ^ k)
  | 0 => by rw [Int.pow_zero]; unfold Bd; simp
  | k + 1 => by
    rw [Int.pow_succ, show e * (k + 1) + 1 = (e * k + 1) + e by rw [Nat.mul_succ]; omega]
    exact (Bd.pow h he k).mul h
def fn_number_powers : AFn := fun avs s Q => ∃ (n : Int) (m e : Nat), avs = [.d (.int n), .d (.int (m : Int))] ∧ 0 < e ∧ Bd e n ∧ m ≤ 2000 ∧ e * (m + 1) + 1 < 1000000 ∧ Q (.d (.list (pwD n m))) s
theorem np_loop (E : AEnds) (n : Int) (x1 : D) (m e : Nat) (he : 0 < e) (hb : Bd e n) (hm : m ≤ 2000) (hs : e * (m + 1) + 1 < 1000000) (s : Option Src) (h : E.nx ⟨[some (.d (.int n)), some (.d x1), some (.o 0), none], ⟨s, [.l (pwD n m)]⟩⟩) :
    ∀ (ds : List D) (k : Nat), k + ds.length = m → aForL 1 [3] (aGName 3) lb_number_powers_1 E ds ⟨[some (.d (.int n)), some (.d x1), some (.o 0), none], ⟨s, [.l (pwD n k)]⟩⟩ := by
  intro ds
  induction ds with
  | nil => intro k hk; have : k = m := by simpa using hk
           subst this; exact h
  | cons d r ih =>
    intro k hk
    have hk' : k + 1 + r.length = m := by simp only [List.length_cons] at hk; omega
    unfold aForL lb_number_powers_1
    walk_at "qs"
    rw [pwD_last]
    simp only []
    have hlim : e * k + 1 + e < 1000000 := by
      have : e * (k + 1) ≤ e * (m + 1) := Nat.mul_le_mul_left _ (by omega)
      rw [Nat.mul_succ] at this
      omega
    refine ⟨MulOk.bd (hb.pow he k) hb hlim, by rw [pwD_len]; omega, ?_⟩
    rw [← pwD_succ]
    exact ih (k + 1) hk'
theorem h_number_powers : ∀ avs s AQ, fn_number_powers avs s AQ → t_number_powers (endsA AQ) ⟨startA N_number_powers avs, ⟨s, []⟩⟩ := by
  rintro _ s AQ ⟨n, m, e, rfl, he, hb, hm, hs, hq⟩
  show t_number_powers (endsA AQ) ⟨[some (.d (.int n)), some (.d (.int m)), none, none], ⟨s, []⟩⟩
  unfold t_number_powers
  walk_at "qs"
  refine ⟨Rg.of (by omega) (by omega), ?_⟩
  rw [show [PyData.int 1] = pwD n 0 by show _ = [PyData.int (n ^ 0)]; rw [Int.pow_zero]]
  refine np_loop _ n _ m e he hb hm hs s ?_ _ 0 ?_
  · walk_at "qs"
    exact hq
  · rw [rngD_len]; omega
def N_poly_value : List Str := ["one", "triple", "rows", "number", "most", "i", "j", "k"]
def le_poly_value_1 : ATE := (aFn 2 fn_number_powers (aCons (aVar 3) (aCons (aVar 4) aNil)))
def le_poly_value_2 : ATE := (aBin aMul (aBin aMul (aBin aMul (aVar 3) (aBin aIx (aBin aIx (aVar 2) (aC (.int 0))) (aVar 5))) (aBin aIx (aBin aIx (aVar 2) (aC (.int 1))) (aVar 6))) (aBin aIx (aBin aIx (aVar 2) (aC (.int 2))) (aVar 7)))
def t_poly_value : ATS := (aSeq (aSet 2 (aLc (aZipS (aCons (aVar 1) (aCons (aFn 1 fn_poly_degrees (aCons (aVar 0) aNil)) aNil))) (aGTup 2 (aGCons (aGName 3) (aGCons (aGName 4) aGNil))) aYes le_poly_value_1 [3, 4]))
    (aRet (aCall bSum (aCons (aLc (aItT (aVar 0)) (aGTup 2 (aGCons (aGTup 3 (aGCons (aGName 5) (aGCons (aGName 6) (aGCons (aGName 7) aGNil)))) (aGCons (aGName 3) aGNil))) aYes le_poly_value_2 [3, 5, 6, 7]) aNil))))
def fn_poly_value : AFn := fun avs s Q => ∃ (p : Po) (x y z : Int) (d e : Nat), avs = [.d (poD p), .d (.tuple [.int x, .int y, .int z])] ∧ p.length ≤ 1000000 ∧ PoOk d p ∧ 0 < e ∧ Bd e x ∧ Bd e y ∧ Bd e z ∧ d ≤ 2000 ∧ 3 * (e * (d + 1) + 1) + 64 < 1000000 ∧ Q (.d (.int (valP p x y z))) s
theorem mxL_le {l : List Int} {d : Int} (h0 : 0 ≤ d) (h : ∀ a ∈ l, a ≤ d) : mxL l ≤ d := by
  rcases List.mem_cons.mp (mxL_mem l) with e | e
  · rw [e]; exact h0
  · exact h _ e
theorem pv_at (n : Int) (l : List Int) (i d e : Nat) (j : Int) (hl : ∀ a ∈ l, a ≤ (d : Int)) (h0 : 0 ≤ j) (hj : j ∈ l) : atD (pwD n (mxL l).toNat) j = some (.int (n ^ j.toNat)) := by
  have h1 := mxL_ge.2 j hj
  exact pwD_at n _ j h0 (by omega)
theorem h_poly_value : ∀ avs s AQ, fn_poly_value avs s AQ → t_poly_value (endsA AQ) ⟨startA N_poly_value avs, ⟨s, []⟩⟩ := by
  rintro _ s AQ ⟨p, x, y, z, d, e, rfl, hl, hp, he, hx, hy, hz, hd, hs, hq⟩
  show t_poly_value (endsA AQ) ⟨[some (.d (poD p)), some (.d (.tuple [.int x, .int y, .int z])), none, none, none, none, none, none], ⟨s, []⟩⟩
  have b1 : ∀ a ∈ p.map (fun t => t.1.1), a ≤ (d : Int) := fun a ha => by
    obtain ⟨t, ht, rfl⟩ := List.mem_map.mp ha
    exact (hp t ht).1.2
  have b2 : ∀ a ∈ p.map (fun t => t.1.2.1), a ≤ (d : Int) := fun a ha => by
    obtain ⟨t, ht, rfl⟩ := List.mem_map.mp ha
    exact (hp t ht).2.1.2
  have b3 : ∀ a ∈ p.map (fun t => t.1.2.2), a ≤ (d : Int) := fun a ha => by
    obtain ⟨t, ht, rfl⟩ := List.mem_map.mp ha
    exact (hp t ht).2.2.1.2
  have hpo : ∀ (n : Int) (k : Int), Bd e n → 0 ≤ k → k ≤ d → Bd (e * (d + 1) + 1) (n ^ k.toNat) := fun n k hn h0 hk => by
    have h := hn.pow he k.toNat
    have : e * k.toNat ≤ e * (d + 1) := Nat.mul_le_mul_left _ (by omega)
    exact h.le (by omega)
  have st : ∀ (n m : Int) (K : Option D → Mm → Prop), Bd e n → 0 ≤ m → m ≤ d → K (some (.list (pwD n m.toNat))) ⟨s, []⟩ → stepC (aGTup 2 (aGCons (aGName 3) (aGCons (aGName 4) aGNil))) aYes le_poly_value_1 [some (.d (poD p)), some (.d (.tuple [.int x, .int y, .int z])), none, none, none, none, none, none] (.tuple [.int n, .int m]) ⟨s, []⟩ K := by
    intro n m K hn h0 hm hK
    unfold stepC le_poly_value_1
    walk_at "qs"
    obtain ⟨k, rfl⟩ : ∃ k : Nat, m = k := ⟨m.toNat, by omega⟩
    have : e * (k + 1) ≤ e * (d + 1) := Nat.mul_le_mul_left _ (by omega)
    exact ⟨n, k, e, rfl, he, hn, by omega, by omega, hK⟩
  unfold t_poly_value
  walk_at "qs"
  refine ⟨p, rfl, hl, ?_⟩
  unfold trD degP
  walk_at "qs"
  rw [show zipD [PyData.int x, .int y, .int z] [PyData.int (mxL (p.map fun t => t.1.1)), .int (mxL (p.map fun t => t.1.2.1)), .int (mxL (p.map fun t => t.1.2.2))] = [.tuple [.int x, .int (mxL (p.map fun t => t.1.1))], .tuple [.int y, .int (mxL (p.map fun t => t.1.2.1))], .tuple [.int z, .int (mxL (p.map fun t => t.1.2.2))]] from rfl]
  refine ⟨by simp, ?_⟩
  refine aLcL_step (st _ _ _ hx mxL_ge.1 (mxL_le (by omega) b1) ?_)
  refine aLcL_step (st _ _ _ hy mxL_ge.1 (mxL_le (by omega) b2) ?_)
  refine aLcL_step (st _ _ _ hz mxL_ge.1 (mxL_le (by omega) b3) ?_)
  unfold aLcL
  rw [show poD p = .tuple (p.map tmD) from rfl]
  walk_at "qs"
  rw [List.length_map]
  refine ⟨hl, aLcL_all tmD (fun t => .int (tmV x y z t)) (fun t ht K hK => ?_) ?_⟩
  · obtain ⟨h1, h2, h3, h4⟩ := hp t ht
    unfold stepC le_poly_value_2
    rw [show tmD t = .tuple [.tuple [.int t.1.1, .int t.1.2.1, .int t.1.2.2], .int t.2] from rfl]
    walk_at "qs"
    rw [pv_at x _ 0 d e _ b1 h1.1 (List.mem_map.mpr ⟨t, ht, rfl⟩)]
    walk_at "qs"
    rw [pv_at y _ 0 d e _ b2 h2.1 (List.mem_map.mpr ⟨t, ht, rfl⟩)]
    walk_at "qs"
    rw [pv_at z _ 0 d e _ b3 h3.1 (List.mem_map.mpr ⟨t, ht, rfl⟩)]
    walk_at "qs"
    have e1 := hpo x _ hx h1.1 h1.2
    have e2 := hpo y _ hy h2.1 h2.2
    have e3 := hpo z _ hz h3.1 h3.2
    have e4 := Bd.of64 h4.1 h4.2
    exact ⟨MulOk.bd e4 e1 (by omega), MulOk.bd (e4.mul e1) e2 (by omega), MulOk.bd ((e4.mul e1).mul e2) e3 (by omega), hK⟩
  · walk_at "qs"
    rw [show (p.map fun t => PyData.int (tmV x y z t)) = (p.map (tmV x y z)).map PyData.int by rw [List.map_map]; rfl, intsD_map]
    exact hq
def N_four_by_one : List Str := ["four", "p0", "p1", "p2", "p3", "first"]
def t_four_by_one : ATS := (aSeq (aAsg (aVar 0) (aGTup 4 (aGCons (aGName 1) (aGCons (aGName 2) (aGCons (aGName 3) (aGCons (aGName 4) aGNil))))))
    (aSeq (aSet 5 (aLst (aCons (aTup (aCons (aC (.tuple [.tuple [.tuple [.int 0, .int 0, .int 0], .int (-1)]])) (aCons (aVar 2) aNil))) (aCons (aTup (aCons (aC (.tuple [.tuple [.tuple [.int 0, .int 0, .int 1], .int 1], .tuple [.tuple [.int 1, .int 1, .int 0], .int (-1)]])) (aCons (aVar 3) aNil))) (aCons (aTup (aCons (aC (.tuple [.tuple [.tuple [.int 0, .int 1, .int 0], .int (-1)]])) (aCons (aVar 4) aNil))) aNil)))))
    (aRet (aLst (aCons (aVar 5) (aCons (aLst (aCons (aTup (aCons (aC (.tuple [.tuple [.tuple [.int 0, .int 0, .int 0], .int 1]])) (aCons (aVar 1) aNil))) (aCons (aTup (aCons (aC (.tuple [.tuple [.tuple [.int 1, .int 0, .int 0], .int 1]])) (aCons (aVar 2) aNil))) (aCons (aTup (aCons (aC (.tuple [.tuple [.tuple [.int 0, .int 1, .int 0], .int 1]])) (aCons (aVar 3) aNil))) (aCons (aTup (aCons (aC (.tuple [.tuple [.tuple [.int 0, .int 0, .int 1], .int 1]])) (aCons (aVar 4) aNil))) aNil))))) (aCons (aLst (aCons (aTup (aCons (aC (.tuple [.tuple [.tuple [.int 1, .int 0, .int 0], .int 1]])) (aCons (aVar 3) aNil))) (aCons (aTup (aCons (aC (.tuple [.tuple [.tuple [.int 0, .int 0, .int 0], .int 1]])) (aCons (aVar 4) aNil))) aNil))) (aCons (aLst (aCons (aTup (aCons (aC (.tuple [.tuple [.tuple [.int 0, .int 0, .int 0], .int (-1)]])) (aCons (aVar 3) aNil))) aNil)) aNil))))))))
/-- four polynomials -/
abbrev P4 := Po × Po × Po × Po
def p4D (f : P4) : D := .tuple [poD f.1, poD f.2.1, poD f.2.2.1, poD f.2.2.2]
def psD (l : List (Po × Po)) : D := .list (l.map ppD)
def pO : Po := [((0, 0, 0), 1)]
def pX : Po := [((1, 0, 0), 1)]
def pY : Po := [((0, 1, 0), 1)]
def pZ : Po := [((0, 0, 1), 1)]
def pLO : Po := [((0, 0, 0), -1)]
def pLY : Po := [((0, 1, 0), -1)]
def pLeft : Po := [((0, 0, 1), 1), ((1, 1, 0), -1)]
def byOne (f : P4) : List (List (Po × Po)) := [[(pLO, f.2.1), (pLeft, f.2.2.1), (pLY, f.2.2.2)], [(pO, f.1), (pX, f.2.1), (pY, f.2.2.1), (pZ, f.2.2.2)], [(pX, f.2.2.1), (pO, f.2.2.2)], [(pLO, f.2.2.1)]]
def byOther (f : P4) : List (List (Po × Po)) := [[(pLO, f.2.2.1)], [(pLO, f.2.2.2)], [(pO, f.1), (pY, f.2.2.1)], [(pO, f.2.1), (pY, f.2.2.2)]]
def plD (l : List (List (Po × Po))) : D := .list (l.map psD)
def fn_four_by_one : AFn := fun avs s Q => ∃ f : P4, avs = [.d (p4D f)] ∧ Q (.d (plD (byOne f))) s
theorem h_four_by_one : ∀ avs s AQ, fn_four_by_one avs s AQ → t_four_by_one (endsA AQ) ⟨startA N_four_by_one avs, ⟨s, []⟩⟩ := by
  rintro _ s AQ ⟨⟨a, b, c, d⟩, rfl, hq⟩
  show t_four_by_one (endsA AQ) ⟨[some (.d (.tuple [poD a, poD b, poD c, poD d])), none, none, none, none, none], ⟨s, []⟩⟩
  unfold t_four_by_one
  generalize ha : poD a = da at *
  generalize hb : poD b = db at *
  generalize hc : poD c = dc at *
  generalize hd : poD d = dd at *
  walk_at "qs"
  subst ha hb hc hd
  exact hq
def N_four_by_other : List Str := ["four", "p0", "p1", "p2", "p3"]
def t_four_by_other : ATS := (aSeq (aAsg (aVar 0) (aGTup 4 (aGCons (aGName 1) (aGCons (aGName 2) (aGCons (aGName 3) (aGCons (aGName 4) aGNil))))))
    (aRet (aLst (aCons (aLst (aCons (aTup (aCons (aC (.tuple [.tuple [.tuple [.int 0, .int 0, .int 0], .int (-1)]])) (aCons (aVar 3) aNil))) aNil)) (aCons (aLst (aCons (aTup (aCons (aC (.tuple [.tuple [.tuple [.int 0, .int 0, .int 0], .int (-1)]])) (aCons (aVar 4) aNil))) aNil)) (aCons (aLst (aCons (aTup (aCons (aC (.tuple [.tuple [.tuple [.int 0, .int 0, .int 0], .int 1]])) (aCons (aVar 1) aNil))) (aCons (aTup (aCons (aC (.tuple [.tuple [.tuple [.int 0, .int 1, .int 0], .int 1]])) (aCons (aVar 3) aNil))) aNil))) (aCons (aLst (aCons (aTup (aCons (aC (.tuple [.tuple [.tuple [.int 0, .int 0, .int 0], .int 1]])) (aCons (aVar 2) aNil))) (aCons (aTup (aCons (aC (.tuple [.tuple [.tuple [.int 0, .int 1, .int 0], .int 1]])) (aCons (aVar 4) aNil))) aNil))) aNil)))))))
def fn_four_by_other : AFn := fun avs s Q => ∃ f : P4, avs = [.d (p4D f)] ∧ Q (.d (plD (byOther f))) s
theorem h_four_by_other : ∀ avs s AQ, fn_four_by_other avs s AQ → t_four_by_other (endsA AQ) ⟨startA N_four_by_other avs, ⟨s, []⟩⟩ := by
  rintro _ s AQ ⟨⟨a, b, c, d⟩, rfl, hq⟩
  show t_four_by_other (endsA AQ) ⟨[some (.d (.tuple [poD a, poD b, poD c, poD d])), none, none, none, none], ⟨s, []⟩⟩
  unfold t_four_by_other
  generalize ha : poD a = da at *
  generalize hb : poD b = db at *
  generalize hc : poD c = dc at *
  generalize hd : poD d = dd at *
  walk_at "qs"
  subst ha hb hc hd
  exact hq
def N_less_all : List Str := ["pairs", "short", "one"]
def le_less_all_1 : ATE := (aTup (aCons (aFn 2 fn_poly_taken (aCons (aVar 1) (aCons (aUn aNeg (aC (.int 1))) aNil))) (aCons (aVar 2) aNil)))
def t_less_all : ATS := (aRet (aLc (aItL (aVar 0)) (aGTup 2 (aGCons (aGName 1) (aGCons (aGName 2) aGNil))) aYes le_less_all_1 [1, 2]))
def lessL (l : List (Po × Po)) : List (Po × Po) := l.map fun pr => (tkP pr.1 (-1), pr.2)
def fn_less_all : AFn := fun avs s Q => ∃ l : List (Po × Po), avs = [.d (psD l)] ∧ l.length ≤ 1000 ∧ (∀ pr ∈ l, pr.1.length ≤ 1000000) ∧ Q (.d (psD (lessL l))) s
theorem h_less_all : ∀ avs s AQ, fn_less_all avs s AQ → t_less_all (endsA AQ) ⟨startA N_less_all avs, ⟨s, []⟩⟩ := by
  rintro _ s AQ ⟨l, rfl, hl, hp, hq⟩
  show t_less_all (endsA AQ) ⟨[some (.d (.list (l.map ppD))), none, none], ⟨s, []⟩⟩
  unfold t_less_all
  walk_at "qs"
  rw [List.length_map]
  refine ⟨by omega, aLcL_all ppD (fun pr => ppD (tkP pr.1 (-1), pr.2)) (fun pr hpr K hK => ?_) ?_⟩
  · unfold stepC le_less_all_1
    rw [show ppD pr = .tuple [poD pr.1, poD pr.2] from rfl]
    generalize hd : poD pr.2 = dd at *
    walk_at "qs"
    refine ⟨pr.1, -1, rfl, hp pr hpr, ⟨by decide, by decide⟩, ?_⟩
    subst hd
    exact ⟨by simp, hK⟩
  · unfold psD lessL at hq
    rw [List.map_map] at hq
    exact hq
def N_four_letter : List Str := ["four", "letter", "places", "unit", "k", "pairs"]
def le_four_letter_1 : ATE := (aBin aAdd (aFn 1 fn_less_all (aCons (aVar 5) aNil)) (aLst (aCons (aTup (aCons (aVar 3) (aCons (aBin aIx (aVar 0) (aVar 4)) aNil))) aNil)))
def le_four_letter_2 : ATE := (aFn 1 fn_sum_of_products (aCons (aVar 5) aNil))
def rs_four_letter_3 : ATS := (aRet (aCall bTuple (aCons (aLc (aItL (aVar 2)) (aGName 5) aYes le_four_letter_2 [5]) aNil)))
def t_four_letter : ATS := (aSeq (aSet 2 (aIf (aTest (aBin aEq (aCall bAbs (aCons (aVar 1) aNil)) (aC (.int 1)))) (aFn 1 fn_four_by_one (aCons (aVar 0) aNil)) (aFn 1 fn_four_by_other (aCons (aVar 0) aNil))))
    (aSeq (aIfS (aTest (aBin aLt (aVar 1) (aC (.int 0)))) (aSeq (aSet 3 (aIf (aTest (aBin aEq (aVar 1) (aUn aNeg (aC (.int 1))))) (aC (.tuple [.tuple [.tuple [.int 1, .int 0, .int 0], .int 1]])) (aC (.tuple [.tuple [.tuple [.int 0, .int 1, .int 0], .int 1]]))))
    (aSet 2 (aLc (aEnum (aCons (aVar 2) aNil)) (aGTup 2 (aGCons (aGName 4) (aGCons (aGName 5) aGNil))) aYes le_four_letter_1 [4, 5]))) aNext)
    rs_four_letter_3))
def fL (f : P4) : List Po := [f.1, f.2.1, f.2.2.1, f.2.2.2]
def placesP (f : P4) (l : Int) : List (List (Po × Po)) :=
  if l < 0 then ((if l = -1 then byOne f else byOther f).zipWith (fun ps g => lessL ps ++ [(if l = -1 then pX else pY, g)]) (fL f)) else (if l = 1 then byOne f else byOther f)
def p4L : List Po → P4
  | [a, b, c, d] => (a, b, c, d)
  | _ => ([], [], [], [])
/-- a letter behind a word -/
def letP (f : P4) (l : Int) : P4 := p4L ((placesP f l).map sumP)
def Ltr (l : Int) : Prop := l = 1 ∨ l = -1 ∨ l = 2 ∨ l = -2
def P4Ok (f : P4) : Prop := f.1.length ≤ 4000 ∧ f.2.1.length ≤ 4000 ∧ f.2.2.1.length ≤ 4000 ∧ f.2.2.2.length ≤ 4000
def fn_four_letter : AFn := fun avs s Q => ∃ (f : P4) (l : Int), avs = [.d (p4D f), .d (.int l)] ∧ Ltr l ∧ P4Ok f ∧ P4Ok (letP f l) ∧ Q (.d (p4D (letP f l))) s
/-- a place that may be told -/
def PlOk (ps : List (Po × Po)) : Prop := (∀ pr ∈ ps, Sml pr.1) ∧ muchP ps ≤ 1000000 ∧ (sumP ps).length ≤ 4000
theorem fl_last (AQ : AV → Option Src → Prop) (s : Option Src) (x0 x1 : D) (x3 x4 : Option AV) (a b c d : List (Po × Po)) (ha : PlOk a) (hb : PlOk b) (hc : PlOk c) (hd : PlOk d) (hq : AQ (.d (p4D (sumP a, sumP b, sumP c, sumP d))) s) :
    rs_four_letter_3 (endsA AQ) ⟨[some (.d x0), some (.d x1), some (.d (plD [a, b, c, d])), x3, x4, none], ⟨s, []⟩⟩ := by
  have st : ∀ (ps : List (Po × Po)) (K : Option D → Mm → Prop), PlOk ps → K (some (poD (sumP ps))) ⟨s, []⟩ → stepC (aGName 5) aYes le_four_letter_2 [some (.d x0), some (.d x1), some (.d (plD [a, b, c, d])), x3, x4, none] (psD ps) ⟨s, []⟩ K := by
    intro ps K h hK
    unfold stepC le_four_letter_2
    walk_at "qs"
    exact ⟨ps, rfl, h.1, h.2.1, h.2.2, hK⟩
  unfold rs_four_letter_3
  rw [show plD [a, b, c, d] = .list [psD a, psD b, psD c, psD d] from rfl] at st ⊢
  walk_at "qs"
  refine aLcL_step (st a _ ha ?_)
  refine aLcL_step (st b _ hb ?_)
  refine aLcL_step (st c _ hc ?_)
  refine aLcL_step (st d _ hd ?_)
  unfold aLcL
  exact hq
theorem sml_unit {k : T3} {n : Int} (h : B64 n) : Sml [(k, n)] := fun t ht => by
  rw [List.mem_singleton.mp ht]
  exact h
theorem pl_ok1 {u g : Po} {l : Int} (hu : u.length ≤ 100) (hs : Sml u) (hg : g.length ≤ 4000) (h : (sumP [(u, g)]).length ≤ 4000) : PlOk [(u, g)] :=
  ⟨fun pr hpr => by rw [List.mem_singleton.mp hpr]; exact hs, by
    have : u.length * g.length ≤ 100 * 4000 := Nat.mul_le_mul hu hg
    simp only [muchP, List.map_cons, List.map_nil, List.sum_cons, List.sum_nil]; omega, h⟩
/-- units and polynomials -/
def UOk (pr : Po × Po) : Prop := pr.1.length ≤ 10 ∧ Sml pr.1 ∧ pr.2.length ≤ 4000
theorem much_le : ∀ {ps : List (Po × Po)}, (∀ pr ∈ ps, UOk pr) → muchP ps ≤ ps.length * 40000
  | [], _ => Nat.zero_le _
  | pr :: r, h => by
    have h1 := h pr List.mem_cons_self
    have h2 := much_le (fun q hq => h q (List.mem_cons_of_mem _ hq))
    have h3 : pr.1.length * pr.2.length ≤ 10 * 4000 := Nat.mul_le_mul h1.1 h1.2.2
    show pr.1.length * pr.2.length + muchP r ≤ (r.length + 1) * 40000
    omega
theorem pl_ok {ps : List (Po × Po)} (h : ∀ pr ∈ ps, UOk pr) (hl : ps.length ≤ 20) (hs : (sumP ps).length ≤ 4000) : PlOk ps :=
  ⟨fun pr hpr => (h pr hpr).2.1, by have := much_le h; omega, hs⟩
theorem b64_1 : B64 1 := ⟨by decide, by decide⟩
theorem b64_m1 : B64 (-1) := ⟨by decide, by decide⟩
theorem uok_1 {k : T3} {n : Int} {g : Po} (h : B64 n) (hg : g.length ≤ 4000) : UOk ([(k, n)], g) := ⟨by simp, sml_unit h, hg⟩
theorem uok_left {g : Po} (hg : g.length ≤ 4000) : UOk (pLeft, g) := ⟨by simp [pLeft], fun t ht => by
  rcases List.mem_cons.mp ht with rfl | ht
  · exact b64_1
  · rw [List.mem_singleton.mp ht]; exact b64_m1, hg⟩
theorem uok_less {pr : Po × Po} (h : UOk pr) (h1 : ∀ t ∈ pr.1, t.2 = 1 ∨ t.2 = -1) : UOk (tkP pr.1 (-1), pr.2) := by
  refine ⟨by unfold tkP; rw [if_neg (by decide), List.length_map]; exact h.1, fun t ht => ?_, h.2.2⟩
  unfold tkP at ht
  rw [if_neg (by decide)] at ht
  obtain ⟨u, hu, rfl⟩ := List.mem_map.mp ht
  rcases h1 u hu with e | e <;> simp only [e] <;> first | exact b64_m1 | exact b64_1
theorem by_ok {f : P4} (hf : P4Ok f) (l : Int) : ∀ ps ∈ placesP f l, (∀ pr ∈ ps, UOk pr) ∧ ps.length ≤ 20 := by
  obtain ⟨a, b, c, d⟩ := f
  obtain ⟨h1, h2, h3, h4⟩ := hf
  simp only [] at h1 h2 h3 h4
  have e1 : tkP pLO (-1) = [((0, 0, 0), 1)] := by decide
  have e2 : tkP pLeft (-1) = [((0, 0, 1), -1), ((1, 1, 0), 1)] := by decide
  have e3 : tkP pLY (-1) = [((0, 1, 0), 1)] := by decide
  have e4 : tkP pO (-1) = [((0, 0, 0), -1)] := by decide
  have e5 : tkP pX (-1) = [((1, 0, 0), -1)] := by decide
  have e6 : tkP pY (-1) = [((0, 1, 0), -1)] := by decide
  have e7 : tkP pZ (-1) = [((0, 0, 1), -1)] := by decide
  have ul : ∀ g : Po, g.length ≤ 4000 → UOk ([((0, 0, 1), -1), ((1, 1, 0), 1)], g) := fun g hg => ⟨by simp, fun t ht => by
    rcases List.mem_cons.mp ht with rfl | ht
    · exact b64_m1
    · rw [List.mem_singleton.mp ht]; exact b64_1, hg⟩
  intro ps hps
  unfold placesP at hps
  split at hps
  · split at hps <;> simp only [byOne, byOther, fL, lessL, List.zipWith, List.map_cons, List.map_nil, List.cons_append, List.nil_append, e1, e2, e3, e4, e5, e6, e7, List.mem_cons, List.not_mem_nil, or_false] at hps <;> rcases hps with rfl | rfl | rfl | rfl <;>
      (refine ⟨fun pr hpr => ?_, by simp⟩) <;> simp only [List.mem_cons, List.not_mem_nil, or_false] at hpr <;> (rcases hpr with rfl | rfl | rfl | rfl | rfl) <;> first | (exact ul _ (by assumption)) | (refine uok_1 ?_ (by assumption); first | exact b64_1 | exact b64_m1)
  · split at hps <;> simp only [byOne, byOther, List.mem_cons, List.not_mem_nil, or_false] at hps <;> rcases hps with rfl | rfl | rfl | rfl <;>
      (refine ⟨fun pr hpr => ?_, by simp⟩) <;> simp only [List.mem_cons, List.not_mem_nil, or_false] at hpr <;> (rcases hpr with rfl | rfl | rfl | rfl | rfl) <;> first | (exact uok_left (by assumption)) | (refine uok_1 ?_ (by assumption); first | exact b64_1 | exact b64_m1)
theorem h_four_letter : ∀ avs s AQ, fn_four_letter avs s AQ → t_four_letter (endsA AQ) ⟨startA N_four_letter avs, ⟨s, []⟩⟩ := by
  rintro _ s AQ ⟨f, l, rfl, hl, hf, hr, hq⟩
  show t_four_letter (endsA AQ) ⟨[some (.d (p4D f)), some (.d (.int l)), none, none, none, none], ⟨s, []⟩⟩
  have fin : ∀ (x3 x4 : Option AV) (a b c d : List (Po × Po)), placesP f l = [a, b, c, d] → rs_four_letter_3 (endsA AQ) ⟨[some (.d (p4D f)), some (.d (.int l)), some (.d (plD [a, b, c, d])), x3, x4, none], ⟨s, []⟩⟩ := by
    intro x3 x4 a b c d e
    have e2 : letP f l = (sumP a, sumP b, sumP c, sumP d) := by unfold letP; rw [e]; rfl
    rw [e2] at hr hq
    have ok := by_ok hf l
    rw [e] at ok
    simp only [List.mem_cons, List.not_mem_nil, or_false, forall_eq_or_imp, forall_eq] at ok
    obtain ⟨⟨a1, a2⟩, ⟨b1, b2⟩, ⟨c1, c2⟩, ⟨d1, d2⟩⟩ := ok
    exact fl_last AQ s _ _ x3 x4 a b c d (pl_ok a1 a2 hr.1) (pl_ok b1 b2 hr.2.1) (pl_ok c1 c2 hr.2.2.1) (pl_ok d1 d2 hr.2.2.2) hq
  unfold t_four_letter
  have ab : ∀ pr : Po × Po, UOk pr → pr.1.length ≤ 1000000 := fun pr h => by have := h.1; omega
  obtain ⟨f0, f1, f2, f3⟩ := f
  have st : ∀ (k : Int) (g u : Po) (ps : List (Po × Po)) (X : D) (K : Option D → Mm → Prop), atD [poD f0, poD f1, poD f2, poD f3] k = some (poD g) → ps.length ≤ 10 → (∀ pr ∈ ps, pr.1.length ≤ 1000000) → K (some (psD (lessL ps ++ [(u, g)]))) ⟨s, []⟩ →
      stepC (aGTup 2 (aGCons (aGName 4) (aGCons (aGName 5) aGNil))) aYes le_four_letter_1 [some (.d (p4D (f0, f1, f2, f3))), some (.d (.int l)), some (.d X), some (.d (poD u)), none, none] (.tuple [.int k, psD ps]) ⟨s, []⟩ K := by
    intro k g u ps X K hk hl hp hK
    unfold stepC le_four_letter_1
    rw [show p4D (f0, f1, f2, f3) = .tuple [poD f0, poD f1, poD f2, poD f3] from rfl]
    walk_at "qs"
    refine ⟨ps, rfl, by omega, hp, ?_⟩
    show (match atD [poD f0, poD f1, poD f2, poD f3] k with
      | some d => ((lessL ps).map ppD).length + [PyData.tuple [poD u, d]].length ≤ sizeLine ∧ K (some (PyData.list ((lessL ps).map ppD ++ [PyData.tuple [poD u, d]]))) { s := s, o := [] }
      | none => False)
    rw [hk]
    refine ⟨by rw [sizeLine_eq]; simp [lessL]; omega, ?_⟩
    have e : (lessL ps).map ppD ++ [PyData.tuple [poD u, poD g]] = (lessL ps ++ [(u, g)]).map ppD := by rw [List.map_append]; rfl
    rw [e]
    exact hK
  have uo : ∀ ps ∈ byOne (f0, f1, f2, f3) ++ byOther (f0, f1, f2, f3), ps.length ≤ 10 ∧ ∀ pr ∈ ps, pr.1.length ≤ 1000000 := by
    intro ps hps
    simp only [byOne, byOther, List.cons_append, List.nil_append, List.mem_cons, List.not_mem_nil, or_false] at hps
    rcases hps with rfl | rfl | rfl | rfl | rfl | rfl | rfl | rfl <;> (refine ⟨by simp, fun pr hpr => ?_⟩) <;> simp only [List.mem_cons, List.not_mem_nil, or_false] at hpr <;> (rcases hpr with rfl | rfl | rfl | rfl | rfl) <;> simp [pLO, pLeft, pLY, pO, pX, pY, pZ]
  have neg : ∀ (u : Po) (a b c d : List (Po × Po)), (∀ ps ∈ [a, b, c, d], ps ∈ byOne (f0, f1, f2, f3) ++ byOther (f0, f1, f2, f3)) → placesP (f0, f1, f2, f3) l = [lessL a ++ [(u, f0)], lessL b ++ [(u, f1)], lessL c ++ [(u, f2)], lessL d ++ [(u, f3)]] →
      aLcL (aGTup 2 (aGCons (aGName 4) (aGCons (aGName 5) aGNil))) aYes le_four_letter_1 [some (.d (p4D (f0, f1, f2, f3))), some (.d (.int l)), some (.d (plD [a, b, c, d])), some (.d (poD u)), none, none] (enumD [psD a, psD b, psD c, psD d]) [] ⟨s, []⟩ fun acc m' => rs_four_letter_3 (endsA AQ) ⟨[some (.d (p4D (f0, f1, f2, f3))), some (.d (.int l)), some (.d (.list acc)), some (.d (poD u)), none, none], m'⟩ := by
    intro u a b c d hm hp
    rw [show enumD [psD a, psD b, psD c, psD d] = [.tuple [.int 0, psD a], .tuple [.int 1, psD b], .tuple [.int 2, psD c], .tuple [.int 3, psD d]] from rfl]
    have ha := uo a (hm a (by simp))
    have hb := uo b (hm b (by simp))
    have hc := uo c (hm c (by simp))
    have hd := uo d (hm d (by simp))
    refine aLcL_step (st 0 f0 u a _ _ rfl ha.1 ha.2 ?_)
    refine aLcL_step (st 1 f1 u b _ _ rfl hb.1 hb.2 ?_)
    refine aLcL_step (st 2 f2 u c _ _ rfl hc.1 hc.2 ?_)
    refine aLcL_step (st 3 f3 u d _ _ rfl hd.1 hd.2 ?_)
    unfold aLcL
    exact fin _ _ _ _ _ _ hp
  rcases hl with rfl | rfl | rfl | rfl
  · walk_at "qs"
    exact ⟨_, rfl, fin _ _ _ _ _ _ rfl⟩
  · walk_at "qs"
    rw [if_pos (by decide)]
    refine ⟨_, rfl, ?_⟩
    refine (if_pos (show (-1 : Int) < 0 by decide)).mpr ?_
    exact ⟨(show 4 ≤ 1000000 by decide), neg pX _ _ _ _ (by intro ps h; exact List.mem_append_left _ h) rfl⟩
  · walk_at "qs"
    exact ⟨_, rfl, fin _ _ _ _ _ _ rfl⟩
  · walk_at "qs"
    rw [if_neg (by decide)]
    refine ⟨_, rfl, ?_⟩
    refine (if_pos (show (-2 : Int) < 0 by decide)).mpr ?_
    exact ⟨(show 4 ≤ 1000000 by decide), neg pY _ _ _ _ (by intro ps h; exact List.mem_append_right _ h) rfl⟩
def N_four_told : List Str := ["word", "found", "letter"]
def lb_four_told_1 : ATS := (aSet 1 (aFn 2 fn_four_letter (aCons (aVar 1) (aCons (aVar 2) aNil))))
def t_four_told : ATS := (aSeq (aSet 1 (aC (.tuple [.tuple [.tuple [.tuple [.int 0, .int 0, .int 0], .int 1]], .tuple [], .tuple [], .tuple []])))
    (aSeq (aFor [2] (aItT (aVar 0)) (aGName 2) lb_four_told_1)
    (aRet (aVar 1))))
def begP : P4 := (pO, [], [], [])
/-- the four polynomials of a word -/
def fourP (w : List Int) : P4 := w.foldl letP begP
def fn_four_told : AFn := fun avs s Q => ∃ w : List Int, avs = [.d (wD w)] ∧ (∀ l ∈ w, Ltr l) ∧ (∀ k, P4Ok (fourP (w.take k))) ∧ Q (.d (p4D (fourP w))) s
theorem ft_loop (E : AEnds) (w : List Int) (X : D) (s : Option Src) (hl : ∀ l ∈ w, Ltr l) (hk : ∀ k, P4Ok (fourP (w.take k))) (h : E.nx ⟨[some (.d X), some (.d (p4D (fourP w))), none], ⟨s, []⟩⟩) :
    ∀ (r : List Int) (k : Nat), w.drop k = r → aForL 0 [2] (aGName 2) lb_four_told_1 E (r.map .int) ⟨[some (.d X), some (.d (p4D (fourP (w.take k)))), none], ⟨s, []⟩⟩ := by
  intro r
  induction r with
  | nil =>
    intro k hr
    have : w.length ≤ k := List.drop_eq_nil_iff.mp hr
    rw [List.take_of_length_le this]
    exact h
  | cons l r ih =>
    intro k hr
    have hkl : k < w.length := by
      apply Classical.byContradiction
      intro c
      rw [List.drop_of_length_le (by omega)] at hr
      cases hr
    have e1 : w.drop k = w[k] :: w.drop (k + 1) := List.drop_eq_getElem_cons hkl
    rw [e1] at hr
    injection hr with hr1 hr2
    have e2 : fourP (w.take (k + 1)) = letP (fourP (w.take k)) l := by
      rw [List.take_succ_eq_append_getElem hkl, hr1]
      unfold fourP
      rw [List.foldl_append]
      rfl
    have nx := ih (k + 1) hr2
    have ok := hk (k + 1)
    rw [e2] at nx ok
    rw [List.map_cons]
    unfold aForL lb_four_told_1
    walk_at "qs"
    exact ⟨_, l, rfl, hl l (hr1 ▸ List.getElem_mem hkl), hk k, ok, nx⟩
theorem h_four_told : ∀ avs s AQ, fn_four_told avs s AQ → t_four_told (endsA AQ) ⟨startA N_four_told avs, ⟨s, []⟩⟩ := by
  rintro _ s AQ ⟨w, rfl, hl, hk, hq⟩
  show t_four_told (endsA AQ) ⟨[some (.d (.tuple (w.map .int))), none, none], ⟨s, []⟩⟩
  unfold t_four_told
  walk_at "qs"
  refine ft_loop _ w _ s hl hk ?_ w 0 rfl
  walk_at "qs"
  exact hq
def N_four_value : List Str := ["four", "triple", "one"]
def le_four_value_1 : ATE := (aFn 2 fn_poly_value (aCons (aVar 2) (aCons (aVar 1) aNil)))
def t_four_value : ATS := (aRet (aCall bTuple (aCons (aLc (aItT (aVar 0)) (aGName 2) aYes le_four_value_1 [2]) aNil)))
/-- four polynomials' values -/
def val4 (f : P4) (x y z : Int) : T4 := (valP f.1 x y z, valP f.2.1 x y z, valP f.2.2.1 x y z, valP f.2.2.2 x y z)
def fn_four_value : AFn := fun avs s Q => ∃ (f : P4) (x y z : Int) (d e : Nat), avs = [.d (p4D f), .d (.tuple [.int x, .int y, .int z])] ∧ P4Ok f ∧ (∀ p ∈ fL f, PoOk d p) ∧ 0 < e ∧ Bd e x ∧ Bd e y ∧ Bd e z ∧ d ≤ 2000 ∧ 3 * (e * (d + 1) + 1) + 64 < 1000000 ∧ Q (.d (tbD (val4 f x y z))) s
theorem h_four_value : ∀ avs s AQ, fn_four_value avs s AQ → t_four_value (endsA AQ) ⟨startA N_four_value avs, ⟨s, []⟩⟩ := by
  rintro _ s AQ ⟨⟨a, b, c, e4⟩, x, y, z, d, e, rfl, ⟨h1, h2, h3, h4⟩, hp, he, hx, hy, hz, hd, hs, hq⟩
  show t_four_value (endsA AQ) ⟨[some (.d (.tuple [poD a, poD b, poD c, poD e4])), some (.d (.tuple [.int x, .int y, .int z])), none], ⟨s, []⟩⟩
  simp only [] at h1 h2 h3 h4
  have st : ∀ (p : Po) (K : Option D → Mm → Prop), p.length ≤ 4000 → p ∈ fL (a, b, c, e4) → K (some (.int (valP p x y z))) ⟨s, []⟩ → stepC (aGName 2) aYes le_four_value_1 [some (.d (.tuple [poD a, poD b, poD c, poD e4])), some (.d (.tuple [.int x, .int y, .int z])), none] (poD p) ⟨s, []⟩ K := by
    intro p K hl hm hK
    unfold stepC le_four_value_1
    walk_at "qs"
    exact ⟨p, x, y, z, d, e, rfl, by omega, hp p hm, he, hx, hy, hz, hd, hs, hK⟩
  unfold t_four_value
  walk_at "qs"
  refine aLcL_step (st a _ h1 (by simp [fL]) ?_)
  refine aLcL_step (st b _ h2 (by simp [fL]) ?_)
  refine aLcL_step (st c _ h3 (by simp [fL]) ?_)
  refine aLcL_step (st e4 _ h4 (by simp [fL]) ?_)
  unfold aLcL
  exact hq
/-! ### values of sums of products -/
def lin (φ : T3 → Int) (p : Po) : Int := (p.map fun t => t.2 * φ t.1).sum
def Nd (l : Po) : Prop := (l.map (·.1)).Nodup
theorem lin_nil (φ : T3 → Int) : lin φ [] = 0 := rfl
theorem lin_cons (φ : T3 → Int) (t : Tm) (p : Po) : lin φ (t :: p) = t.2 * φ t.1 + lin φ p := by unfold lin; rw [List.map_cons, List.sum_cons]
theorem lin_app (φ : T3 → Int) (p q : Po) : lin φ (p ++ q) = lin φ p + lin φ q := by unfold lin; rw [List.map_append, List.sum_append_int]
theorem hasT_iff {l : Po} {k : T3} : hasT l k = true ↔ k ∈ l.map (·.1) := by
  refine ⟨fun h => ?_, hasT_mem⟩
  induction l with
  | nil => cases h
  | cons t r ih =>
    obtain ⟨t, n⟩ := t
    unfold hasT at h
    rw [List.map_cons]
    split at h
    · rename_i c; rw [← c]; exact List.mem_cons_self
    · exact List.mem_cons_of_mem _ (ih h)
def setT (l : Po) (k : T3) (n : Int) : Po := l.map fun t => if t.1 = k then (t.1, n) else t
theorem setT_keys (l : Po) (k : T3) (n : Int) : (setT l k n).map (·.1) = l.map (·.1) := by
  unfold setT
  rw [List.map_map]
  refine List.map_congr_left fun t _ => ?_
  show (if t.1 = k then (t.1, n) else t).1 = t.1
  split <;> rfl
theorem setT_no {l : Po} {k : T3} (n : Int) (h : ¬ k ∈ l.map (·.1)) : setT l k n = l := by
  unfold setT
  refine (List.map_congr_left fun t ht => ?_).trans (List.map_id l)
  show (if t.1 = k then (t.1, n) else t) = t
  rw [if_neg]
  intro e
  exact h (List.mem_map.mpr ⟨t, ht, e⟩)
theorem lin_set (φ : T3 → Int) (k : T3) (n : Int) : ∀ {l : Po}, Nd l → hasT l k = true → lin φ (setT l k n) = lin φ l + (n - getT l k) * φ k
  | [], _, h => by cases h
  | (t, m) :: r, hn, h => by
    have hn' : t ∉ r.map (·.1) ∧ (r.map (·.1)).Nodup := List.nodup_cons.mp hn
    have e1 : setT ((t, m) :: r) k n = (if t = k then (t, n) else (t, m)) :: setT r k n := rfl
    rw [e1, lin_cons, lin_cons]
    unfold hasT at h
    unfold getT
    by_cases c : t = k
    · subst c
      rw [setT_no n hn'.1]
      simp only [if_true]
      grind
    · simp only [c, if_false] at h ⊢
      rw [lin_set φ k n hn'.2 h]
      omega
theorem put_eq (l : Po) (k : T3) (n : Int) : putT l k n = if hasT l k then setT l k n else l ++ [(k, n)] := rfl
theorem lin_add (φ : T3 → Int) {l : Po} (k : T3) (n : Int) (h : Nd l) : lin φ (addT l k n) = lin φ l + n * φ k := by
  unfold addT
  rw [put_eq]
  cases e : hasT l k
  · rw [if_neg (by decide), lin_app, lin_cons, lin_nil, getT_no e]
    simp
  · rw [if_pos rfl, lin_set φ k _ h e]
    congr 2; omega
theorem nd_add {l : Po} (k : T3) (n : Int) (h : Nd l) : Nd (addT l k n) := by
  unfold addT
  rw [put_eq]
  cases e : hasT l k
  · rw [if_neg (by decide)]
    unfold Nd
    rw [List.map_append]
    refine List.nodup_append.mpr ⟨h, by simp, fun a ha b hb => ?_⟩
    have : b = k := by simpa using hb
    subst this
    intro e2
    subst e2
    rw [hasT_mem ha] at e
    cases e
  · rw [if_pos rfl]
    unfold Nd
    rw [setT_keys]
    exact h
/-- what the powers of a product are worth -/
def Mon (φ : T3 → Int) (q p : Po) : Prop := ∀ a ∈ q, ∀ b ∈ p, φ (shT a.1 b.1) = φ a.1 * φ b.1
theorem mulOne_ok (φ : T3 → Int) (t : Tm) : ∀ (p l : Po), Nd l → (∀ b ∈ p, φ (shT t.1 b.1) = φ t.1 * φ b.1) → Nd (mulOne l t p) ∧ lin φ (mulOne l t p) = lin φ l + t.2 * φ t.1 * lin φ p
  | [], l, h, _ => ⟨h, by show lin φ l = _; rw [lin_nil]; simp⟩
  | o :: r, l, h, hm => by
    have ⟨h1, h2⟩ := mulOne_ok φ t r (addT l (shT t.1 o.1) (t.2 * o.2)) (nd_add _ _ h) fun b hb => hm b (List.mem_cons_of_mem _ hb)
    refine ⟨h1, ?_⟩
    show lin φ (mulOne (addT l (shT t.1 o.1) (t.2 * o.2)) t r) = _
    rw [h2, lin_add φ _ _ h, lin_cons, hm o List.mem_cons_self]
    grind
theorem mulAll_ok (φ : T3 → Int) (p : Po) : ∀ (q l : Po), Nd l → Mon φ q p → Nd (mulAll l q p) ∧ lin φ (mulAll l q p) = lin φ l + lin φ q * lin φ p
  | [], l, h, _ => ⟨h, by show lin φ l = _; rw [lin_nil]; simp⟩
  | t :: r, l, h, hm => by
    have ⟨h1, h2⟩ := mulOne_ok φ t p l h fun b hb => hm t List.mem_cons_self b hb
    have ⟨h3, h4⟩ := mulAll_ok φ p r (mulOne l t p) h1 fun a ha => hm a (List.mem_cons_of_mem _ ha)
    refine ⟨h3, ?_⟩
    show lin φ (mulAll (mulOne l t p) r p) = _
    rw [h4, h2, lin_cons]
    grind
def linS (φ : T3 → Int) (ps : List (Po × Po)) : Int := (ps.map fun pr => lin φ pr.1 * lin φ pr.2).sum
theorem sumL_ok (φ : T3 → Int) : ∀ (ps : List (Po × Po)) (l : Po), Nd l → (∀ pr ∈ ps, Mon φ pr.1 pr.2) → Nd (sumL l ps) ∧ lin φ (sumL l ps) = lin φ l + linS φ ps
  | [], l, h, _ => ⟨h, by show lin φ l = _; unfold linS; simp⟩
  | pr :: r, l, h, hm => by
    have ⟨h1, h2⟩ := mulAll_ok φ pr.2 pr.1 l h (hm pr List.mem_cons_self)
    have ⟨h3, h4⟩ := sumL_ok φ r (mulAll l pr.1 pr.2) h1 fun a ha => hm a (List.mem_cons_of_mem _ ha)
    refine ⟨h3, ?_⟩
    show lin φ (sumL (mulAll l pr.1 pr.2) r) = _
    rw [h4, h2]
    unfold linS
    rw [List.map_cons, List.sum_cons]
    omega
theorem sum_filter0 {α : Type} (f : α → Int) (c : α → Bool) : ∀ l : List α, (∀ a ∈ l, c a = false → f a = 0) → ((l.filter c).map f).sum = (l.map f).sum
  | [], _ => rfl
  | a :: r, h => by
    have ih := sum_filter0 f c r fun b hb => h b (List.mem_cons_of_mem _ hb)
    rw [List.map_cons, List.sum_cons]
    cases e : c a
    · rw [List.filter_cons_of_neg (by rw [e]; decide), ih, h a List.mem_cons_self e]; omega
    · rw [List.filter_cons_of_pos e, List.map_cons, List.sum_cons, ih]
theorem sum_perm {l l' : List Int} (h : l.Perm l') : l.sum = l'.sum := by
  induction h with
  | nil => rfl
  | cons x _ ih => rw [List.sum_cons, List.sum_cons, ih]
  | swap x y l => simp only [List.sum_cons]; omega
  | trans _ _ h1 h2 => exact h1.trans h2
theorem getT_mem : ∀ {l : Po}, Nd l → ∀ t ∈ l, getT l t.1 = t.2
  | [], _, _, h => by cases h
  | (u, m) :: r, hn, t, ht => by
    have hn' : u ∉ r.map (·.1) ∧ (r.map (·.1)).Nodup := List.nodup_cons.mp hn
    unfold getT
    rcases List.mem_cons.mp ht with rfl | ht
    · simp
    · have : u ≠ t.1 := fun e => hn'.1 (List.mem_map.mpr ⟨t, ht, e.symm⟩)
      rw [if_neg this]
      exact getT_mem hn'.2 t ht
theorem lin_canon (φ : T3 → Int) {l : Po} (h : Nd l) : lin φ (canon l) = lin φ l := by
  unfold canon lin
  rw [List.map_map]
  show (List.map (fun k => getT l k * φ k) _).sum = _
  rw [sum_filter0 (fun k => getT l k * φ k) _ _ fun k _ hk => by
    have : getT l k = 0 := by simpa using hk
    rw [this]; simp]
  rw [sum_perm ((srtT_ok (l.map (·.1))).1.map _), List.map_map]
  congr 1
  refine List.map_congr_left fun t ht => ?_
  show getT l t.1 * φ t.1 = _
  rw [getT_mem h t ht]
theorem nd_nil : Nd [] := List.nodup_nil
theorem lin_sum (φ : T3 → Int) {ps : List (Po × Po)} (h : ∀ pr ∈ ps, Mon φ pr.1 pr.2) : lin φ (sumP ps) = linS φ ps := by
  have ⟨h1, h2⟩ := sumL_ok φ ps [] nd_nil h
  unfold sumP
  rw [lin_canon φ h1, h2, lin_nil]
  omega
/-- powers' worth at a triple -/
def mono (x y z : Int) (k : T3) : Int := x ^ k.1.toNat * (y ^ k.2.1.toNat * z ^ k.2.2.toNat)
theorem valP_lin (p : Po) (x y z : Int) : valP p x y z = lin (mono x y z) p := by
  unfold valP lin
  congr 1
  refine List.map_congr_left fun t _ => ?_
  unfold tmV mono
  rw [Int.mul_assoc, Int.mul_assoc]
def Ps (p : Po) : Prop := ∀ t ∈ p, 0 ≤ t.1.1 ∧ 0 ≤ t.1.2.1 ∧ 0 ≤ t.1.2.2
theorem mono_sh {a b : T3} (ha : 0 ≤ a.1 ∧ 0 ≤ a.2.1 ∧ 0 ≤ a.2.2) (hb : 0 ≤ b.1 ∧ 0 ≤ b.2.1 ∧ 0 ≤ b.2.2) (x y z : Int) : mono x y z (shT a b) = mono x y z a * mono x y z b := by
  have e1 : (b.1 + a.1).toNat = b.1.toNat + a.1.toNat := by omega
  have e2 : (b.2.1 + a.2.1).toNat = b.2.1.toNat + a.2.1.toNat := by omega
  have e3 : (b.2.2 + a.2.2).toNat = b.2.2.toNat + a.2.2.toNat := by omega
  unfold mono shT
  simp only [e1, e2, e3, Int.pow_add]
  grind
theorem val_sum {ps : List (Po × Po)} (h : ∀ pr ∈ ps, Ps pr.1 ∧ Ps pr.2) (x y z : Int) : valP (sumP ps) x y z = (ps.map fun pr => valP pr.1 x y z * valP pr.2 x y z).sum := by
  rw [valP_lin, lin_sum]
  · unfold linS
    congr 1
    refine List.map_congr_left fun pr _ => ?_
    rw [valP_lin, valP_lin]
  · exact fun pr hpr a ha b hb => mono_sh ((h pr hpr).1 a ha) ((h pr hpr).2 b hb) x y z
/-! .. powers of a sum of products -/
def AllK (P : T3 → Prop) (p : Po) : Prop := ∀ t ∈ p, P t.1
theorem all_add {P : T3 → Prop} {l : Po} {k : T3} (n : Int) (h : AllK P l) (hk : P k) : AllK P (addT l k n) := by
  unfold addT
  rw [put_eq]
  split
  · intro t ht
    obtain ⟨u, hu, rfl⟩ := List.mem_map.mp ht
    show P (if u.1 = k then (u.1, getT l k + n) else u).1
    split
    · exact h u hu
    · exact h u hu
  · intro t ht
    rcases List.mem_append.mp ht with ht | ht
    · exact h t ht
    · rw [List.mem_singleton.mp ht]; exact hk
theorem all_one {P : T3 → Prop} (t : Tm) : ∀ (p l : Po), AllK P l → (∀ o ∈ p, P (shT t.1 o.1)) → AllK P (mulOne l t p)
  | [], _, h, _ => h
  | o :: r, l, h, hs => all_one t r _ (all_add _ h (hs o List.mem_cons_self)) fun o' ho => hs o' (List.mem_cons_of_mem _ ho)
theorem all_all {P : T3 → Prop} (p : Po) : ∀ (q l : Po), AllK P l → (∀ t ∈ q, ∀ o ∈ p, P (shT t.1 o.1)) → AllK P (mulAll l q p)
  | [], _, h, _ => h
  | t :: r, l, h, hs => all_all p r _ (all_one t p l h (hs t List.mem_cons_self)) fun t' ht => hs t' (List.mem_cons_of_mem _ ht)
theorem all_sumL {P : T3 → Prop} : ∀ (ps : List (Po × Po)) (l : Po), AllK P l → (∀ pr ∈ ps, ∀ t ∈ pr.1, ∀ o ∈ pr.2, P (shT t.1 o.1)) → AllK P (sumL l ps)
  | [], _, h, _ => h
  | pr :: r, l, h, hs => all_sumL r _ (all_all pr.2 pr.1 l h (hs pr List.mem_cons_self)) fun q hq => hs q (List.mem_cons_of_mem _ hq)
theorem all_canon {P : T3 → Prop} {l : Po} (h : AllK P l) : AllK P (canon l) := by
  intro t ht
  unfold canon at ht
  obtain ⟨k, hk, rfl⟩ := List.mem_map.mp ht
  have := (srtT_ok _).1.mem_iff.mp (List.mem_filter.mp hk).1
  obtain ⟨u, hu, rfl⟩ := List.mem_map.mp this
  exact h u hu
theorem all_sum {P : T3 → Prop} {ps : List (Po × Po)} (h : ∀ pr ∈ ps, ∀ t ∈ pr.1, ∀ o ∈ pr.2, P (shT t.1 o.1)) : AllK P (sumP ps) := all_canon (all_sumL ps [] (fun _ h => nomatch h) h)
theorem canon_nd {l : Po} (h : Nd l) : Nd (canon l) := by
  unfold Nd canon
  rw [List.map_map]
  show (List.map (fun k => k) _).Nodup
  rw [List.map_id']
  exact (((srtT_ok _).1.nodup_iff).mpr h).filter _
/-! ### a word's four polynomials at a pair -/
def letV (v : T4) (l x y z : Int) : T4 :=
  if l = 1 then (-v.2.1 + (z - x * y) * v.2.2.1 - y * v.2.2.2, v.1 + x * v.2.1 + y * v.2.2.1 + z * v.2.2.2, x * v.2.2.1 + v.2.2.2, -v.2.2.1)
  else if l = 2 then (-v.2.2.1, -v.2.2.2, v.1 + y * v.2.2.1, v.2.1 + y * v.2.2.2)
  else if l = -1 then (x * v.1 - (-v.2.1 + (z - x * y) * v.2.2.1 - y * v.2.2.2), x * v.2.1 - (v.1 + x * v.2.1 + y * v.2.2.1 + z * v.2.2.2), x * v.2.2.1 - (x * v.2.2.1 + v.2.2.2), x * v.2.2.2 + v.2.2.1)
  else (y * v.1 + v.2.2.1, y * v.2.1 + v.2.2.2, y * v.2.2.1 - (v.1 + y * v.2.2.1), y * v.2.2.2 - (v.2.1 + y * v.2.2.2))
def P4s (f : P4) : Prop := Ps f.1 ∧ Ps f.2.1 ∧ Ps f.2.2.1 ∧ Ps f.2.2.2
theorem ps_sum {ps : List (Po × Po)} (h : ∀ pr ∈ ps, Ps pr.1 ∧ Ps pr.2) : Ps (sumP ps) :=
  all_sum (P := fun k => 0 ≤ k.1 ∧ 0 ≤ k.2.1 ∧ 0 ≤ k.2.2) fun pr hpr t ht o ho => by
    have h1 := (h pr hpr).1 t ht
    have h2 := (h pr hpr).2 o ho
    unfold shT
    simp only []
    omega
theorem ps_unit : Ps pO ∧ Ps pX ∧ Ps pY ∧ Ps pZ ∧ Ps pLO ∧ Ps pLY ∧ Ps pLeft := by
  unfold Ps; decide
theorem ps_tk {p : Po} {n : Int} (h : Ps p) : Ps (tkP p n) := by
  unfold tkP
  split
  · exact fun _ h => nomatch h
  · intro t ht
    obtain ⟨u, hu, rfl⟩ := List.mem_map.mp ht
    exact h u hu
theorem val_tk (p : Po) (n x y z : Int) : valP (tkP p n) x y z = n * valP p x y z := by
  unfold tkP
  split
  · rename_i h; subst h; show (0 : Int) = _; simp
  · rw [valP_lin, valP_lin]
    unfold lin
    rw [List.map_map]
    induction p with
    | nil => simp
    | cons t r ih =>
      rw [List.map_cons, List.map_cons, List.sum_cons, List.sum_cons, ih]
      show n * t.2 * _ + _ = _
      rw [Int.mul_add, Int.mul_assoc]
theorem val_units (x y z : Int) : valP pO x y z = 1 ∧ valP pX x y z = x ∧ valP pY x y z = y ∧ valP pZ x y z = z ∧ valP pLO x y z = -1 ∧ valP pLY x y z = -y ∧ valP pLeft x y z = z - x * y := by
  have p1 : ∀ n : Int, n ^ Int.toNat 1 = n := fun n => by show n ^ (0 + 1) = n; rw [Int.pow_succ, Int.pow_zero, Int.one_mul]
  have p0 : ∀ n : Int, n ^ Int.toNat 0 = 1 := fun n => Int.pow_zero n
  simp only [valP, pO, pX, pY, pZ, pLO, pLY, pLeft, List.map_cons, List.map_nil, List.sum_cons, List.sum_nil, tmV, p1, p0]
  refine ⟨?_, ?_, ?_, ?_, ?_, ?_, ?_⟩ <;> grind
theorem places_ps {f : P4} (hf : P4s f) (l : Int) : ∀ ps ∈ placesP f l, ∀ pr ∈ ps, Ps pr.1 ∧ Ps pr.2 := by
  obtain ⟨a, b, c, d⟩ := f
  obtain ⟨h1, h2, h3, h4⟩ := hf
  simp only [] at h1 h2 h3 h4
  obtain ⟨u1, u2, u3, u4, u5, u6, u7⟩ := ps_unit
  intro ps hps
  unfold placesP at hps
  split at hps
  · have hu : Ps (if l = -1 then pX else pY) := by split <;> assumption
    generalize (if l = -1 then pX else pY) = u at *
    split at hps <;> simp only [byOne, byOther, fL, lessL, List.zipWith, List.map_cons, List.map_nil, List.cons_append, List.nil_append, List.mem_cons, List.not_mem_nil, or_false] at hps <;> rcases hps with rfl | rfl | rfl | rfl <;>
      intro pr hpr <;> simp only [List.mem_cons, List.not_mem_nil, or_false] at hpr <;> (rcases hpr with rfl | rfl | rfl | rfl | rfl) <;> (refine ⟨?_, ?_⟩) <;> first | assumption | (simp only []; refine ps_tk ?_; assumption)
  · split at hps <;> simp only [byOne, byOther, List.mem_cons, List.not_mem_nil, or_false] at hps <;> rcases hps with rfl | rfl | rfl | rfl <;>
      intro pr hpr <;> simp only [List.mem_cons, List.not_mem_nil, or_false] at hpr <;> (rcases hpr with rfl | rfl | rfl | rfl | rfl) <;> (refine ⟨?_, ?_⟩) <;> assumption
theorem letP_ps {f : P4} (hf : P4s f) {l : Int} (hl : Ltr l) : P4s (letP f l) := by
  have h := places_ps hf l
  have e : ∃ a b c d, placesP f l = [a, b, c, d] := by rcases hl with rfl | rfl | rfl | rfl <;> exact ⟨_, _, _, _, rfl⟩
  obtain ⟨a, b, c, d, e⟩ := e
  unfold letP
  rw [e] at h ⊢
  exact ⟨ps_sum (h a (by simp)), ps_sum (h b (by simp)), ps_sum (h c (by simp)), ps_sum (h d (by simp))⟩
theorem letP_val {f : P4} (hf : P4s f) {l : Int} (hl : Ltr l) (x y z : Int) : val4 (letP f l) x y z = letV (val4 f x y z) l x y z := by
  have h := places_ps hf l
  obtain ⟨a, b, c, d⟩ := f
  obtain ⟨v1, v2, v3, v4, v5, v6, v7⟩ := val_units x y z
  have tk := fun p => val_tk p (-1) x y z
  rcases hl with rfl | rfl | rfl | rfl
  · have e : placesP (a, b, c, d) 1 = [[(pLO, b), (pLeft, c), (pLY, d)], [(pO, a), (pX, b), (pY, c), (pZ, d)], [(pX, c), (pO, d)], [(pLO, c)]] := rfl
    unfold letP
    rw [e] at h ⊢
    simp only [List.map_cons, List.map_nil, p4L, val4, letV, if_true]
    rw [val_sum (h _ (by simp)), val_sum (h _ (by simp)), val_sum (h _ (by simp)), val_sum (h _ (by simp))]
    simp only [List.map_cons, List.map_nil, List.sum_cons, List.sum_nil, v1, v2, v3, v4, v5, v6, v7]
    refine Prod.ext ?_ (Prod.ext ?_ (Prod.ext ?_ ?_)) <;> simp only [] <;> grind
  · have e : placesP (a, b, c, d) (-1) = [[(tkP pLO (-1), b), (tkP pLeft (-1), c), (tkP pLY (-1), d), (pX, a)], [(tkP pO (-1), a), (tkP pX (-1), b), (tkP pY (-1), c), (tkP pZ (-1), d), (pX, b)], [(tkP pX (-1), c), (tkP pO (-1), d), (pX, c)], [(tkP pLO (-1), c), (pX, d)]] := rfl
    unfold letP
    rw [e] at h ⊢
    simp only [List.map_cons, List.map_nil, p4L, val4, letV, show ¬ (-1 : Int) = 1 by decide, show ¬ (-1 : Int) = 2 by decide, if_false, if_true]
    rw [val_sum (h _ (by simp)), val_sum (h _ (by simp)), val_sum (h _ (by simp)), val_sum (h _ (by simp))]
    simp only [List.map_cons, List.map_nil, List.sum_cons, List.sum_nil, tk, v1, v2, v3, v4, v5, v6, v7]
    refine Prod.ext ?_ (Prod.ext ?_ (Prod.ext ?_ ?_)) <;> simp only [] <;> grind
  · have e : placesP (a, b, c, d) 2 = [[(pLO, c)], [(pLO, d)], [(pO, a), (pY, c)], [(pO, b), (pY, d)]] := rfl
    unfold letP
    rw [e] at h ⊢
    simp only [List.map_cons, List.map_nil, p4L, val4, letV, show ¬ (2 : Int) = 1 by decide, if_false, if_true]
    rw [val_sum (h _ (by simp)), val_sum (h _ (by simp)), val_sum (h _ (by simp)), val_sum (h _ (by simp))]
    simp only [List.map_cons, List.map_nil, List.sum_cons, List.sum_nil, v1, v2, v3, v4, v5, v6, v7]
    refine Prod.ext ?_ (Prod.ext ?_ (Prod.ext ?_ ?_)) <;> simp only [] <;> grind
  · have e : placesP (a, b, c, d) (-2) = [[(tkP pLO (-1), c), (pY, a)], [(tkP pLO (-1), d), (pY, b)], [(tkP pO (-1), a), (tkP pY (-1), c), (pY, c)], [(tkP pO (-1), b), (tkP pY (-1), d), (pY, d)]] := rfl
    unfold letP
    rw [e] at h ⊢
    simp only [List.map_cons, List.map_nil, p4L, val4, letV, show ¬ (-2 : Int) = 1 by decide, show ¬ (-2 : Int) = 2 by decide, show ¬ (-2 : Int) = -1 by decide, if_false]
    rw [val_sum (h _ (by simp)), val_sum (h _ (by simp)), val_sum (h _ (by simp)), val_sum (h _ (by simp))]
    simp only [List.map_cons, List.map_nil, List.sum_cons, List.sum_nil, tk, v1, v2, v3, v4, v5, v6, v7]
    refine Prod.ext ?_ (Prod.ext ?_ (Prod.ext ?_ ?_)) <;> simp only [] <;> grind
/-- one, the two tables and their product, so often each -/
def comb (v t u : T4) : T4 := (v.1 + v.2.1 * t.1 + v.2.2.1 * u.1 + v.2.2.2 * (mulT t u).1, v.2.1 * t.2.1 + v.2.2.1 * u.2.1 + v.2.2.2 * (mulT t u).2.1, v.2.1 * t.2.2.1 + v.2.2.1 * u.2.2.1 + v.2.2.2 * (mulT t u).2.2.1, v.1 + v.2.1 * t.2.2.2 + v.2.2.1 * u.2.2.2 + v.2.2.2 * (mulT t u).2.2.2)
def ltT (t u : T4) (l : Int) : T4 := if l > 0 then (if l = 1 then t else u) else invT (if l = -1 then t else u)
theorem comb_lt (v : T4) {t u : T4} (h1 : detT t = 1) (h2 : detT u = 1) {l : Int} (hl : Ltr l) : comb (letV v l (trM t u).1 (trM t u).2.1 (trM t u).2.2) t u = mulT (comb v t u) (ltT t u l) := by
  obtain ⟨p, q, r, s⟩ := t; obtain ⟨e, f, g, h⟩ := u; obtain ⟨a, b, c, d⟩ := v
  simp only [detT] at h1 h2
  rcases hl with rfl | rfl | rfl | rfl <;> simp only [letV, ltT, comb, trM, trT, mulT, invT, show ¬ (-1 : Int) = 1 by decide, show ¬ (-1 : Int) = 2 by decide, show ¬ (2 : Int) = 1 by decide, show ¬ (-2 : Int) = 1 by decide, show ¬ (-2 : Int) = 2 by decide, show ¬ (-2 : Int) = -1 by decide, show ¬ (-1 : Int) > 0 by decide, show ¬ (-2 : Int) > 0 by decide, show (1 : Int) > 0 by decide, show (2 : Int) > 0 by decide, if_false, if_true] <;> refine Prod.ext ?_ (Prod.ext ?_ (Prod.ext ?_ ?_)) <;> simp only [] <;> grind
/-- a word's table at a pair -/
def wrdT (t u : T4) (w : List Int) : T4 := w.foldl (fun m l => mulT m (ltT t u l)) (1, 0, 0, 1)
theorem beg_ps : P4s begP := ⟨ps_unit.1, (fun _ h => nomatch h), (fun _ h => nomatch h), (fun _ h => nomatch h)⟩
theorem four_ok {t u : T4} (h1 : detT t = 1) (h2 : detT u = 1) : ∀ (w : List Int) (f : P4), (∀ l ∈ w, Ltr l) → P4s f → P4s (w.foldl letP f) ∧ comb (val4 (w.foldl letP f) (trM t u).1 (trM t u).2.1 (trM t u).2.2) t u = w.foldl (fun m l => mulT m (ltT t u l)) (comb (val4 f (trM t u).1 (trM t u).2.1 (trM t u).2.2) t u)
  | [], f, _, hf => ⟨hf, rfl⟩
  | l :: r, f, hw, hf => by
    have hl := hw l List.mem_cons_self
    have ⟨a, b⟩ := four_ok h1 h2 r (letP f l) (fun m hm => hw m (List.mem_cons_of_mem _ hm)) (letP_ps hf hl)
    refine ⟨a, ?_⟩
    rw [List.foldl_cons, List.foldl_cons, b, letP_val hf hl, comb_lt _ h1 h2 hl]
/-- what the four polynomials tell -/
theorem four_tells {t u : T4} (h1 : detT t = 1) (h2 : detT u = 1) {w : List Int} (hw : ∀ l ∈ w, Ltr l) : P4s (fourP w) ∧ comb (val4 (fourP w) (trM t u).1 (trM t u).2.1 (trM t u).2.2) t u = wrdT t u w := by
  have ⟨a, b⟩ := four_ok h1 h2 w begP hw beg_ps
  refine ⟨a, b.trans ?_⟩
  have e : val4 begP (trM t u).1 (trM t u).2.1 (trM t u).2.2 = (1, 0, 0, 0) := by
    unfold val4 begP
    simp only [(val_units _ _ _).1]
    rfl
  rw [e]
  unfold wrdT comb
  simp
theorem ltT_eq (t u : T4) {l : Int} (h : Ltr l) : ltT t u l = ltS t u l := by
  rcases h with rfl | rfl | rfl | rfl <;> rfl
theorem wrd_eq (t u : T4) : ∀ {w : List Int}, (∀ l ∈ w, Ltr l) → ∀ m, w.foldl (fun m l => mulT m (ltT t u l)) m = w.foldl (fun m l => mulT m (ltS t u l)) m
  | [], _, _ => rfl
  | l :: r, h, m => by
    rw [List.foldl_cons, List.foldl_cons, ltT_eq t u (h l List.mem_cons_self)]
    exact wrd_eq t u (fun k hk => h k (List.mem_cons_of_mem _ hk)) _
theorem four_tells' {t u : T4} (h1 : detT t = 1) (h2 : detT u = 1) {w : List Int} (hw : ∀ l ∈ w, Ltr l) : P4s (fourP w) ∧ comb (val4 (fourP w) (trM t u).1 (trM t u).2.1 (trM t u).2.2) t u = wrdI t u w := by
  have ⟨a, b⟩ := four_tells h1 h2 hw
  exact ⟨a, b.trans (wrd_eq t u hw _)⟩
def N_trace_of_traces : List Str := ["four"]
def t_trace_of_traces : ATS := (aRet (aFn 1 fn_sum_of_products (aCons (aLst (aCons (aTup (aCons (aC (.tuple [.tuple [.tuple [.int 0, .int 0, .int 0], .int 2]])) (aCons (aBin aIx (aVar 0) (aC (.int 0))) aNil))) (aCons (aTup (aCons (aC (.tuple [.tuple [.tuple [.int 1, .int 0, .int 0], .int 1]])) (aCons (aBin aIx (aVar 0) (aC (.int 1))) aNil))) (aCons (aTup (aCons (aC (.tuple [.tuple [.tuple [.int 0, .int 1, .int 0], .int 1]])) (aCons (aBin aIx (aVar 0) (aC (.int 2))) aNil))) (aCons (aTup (aCons (aC (.tuple [.tuple [.tuple [.int 0, .int 0, .int 1], .int 1]])) (aCons (aBin aIx (aVar 0) (aC (.int 3))) aNil))) aNil))))) aNil)))
def pTwo : Po := [((0, 0, 0), 2)]
/-- the trace's polynomial -/
def trcP (f : P4) : Po := sumP [(pTwo, f.1), (pX, f.2.1), (pY, f.2.2.1), (pZ, f.2.2.2)]
def fn_trace_of_traces : AFn := fun avs s Q => ∃ f : P4, avs = [.d (p4D f)] ∧ P4Ok f ∧ (trcP f).length ≤ 4000 ∧ Q (.d (poD (trcP f))) s
theorem h_trace_of_traces : ∀ avs s AQ, fn_trace_of_traces avs s AQ → t_trace_of_traces (endsA AQ) ⟨startA N_trace_of_traces avs, ⟨s, []⟩⟩ := by
  rintro _ s AQ ⟨⟨a, b, c, d⟩, rfl, ⟨h1, h2, h3, h4⟩, hl, hq⟩
  show t_trace_of_traces (endsA AQ) ⟨[some (.d (.tuple [poD a, poD b, poD c, poD d]))], ⟨s, []⟩⟩
  unfold t_trace_of_traces
  have pl : PlOk [(pTwo, a), (pX, b), (pY, c), (pZ, d)] := pl_ok (fun pr hpr => by
    simp only [List.mem_cons, List.not_mem_nil, or_false] at hpr
    rcases hpr with rfl | rfl | rfl | rfl
    · exact uok_1 ⟨by decide, by decide⟩ h1
    · exact uok_1 b64_1 h2
    · exact uok_1 b64_1 h3
    · exact uok_1 b64_1 h4) (by simp) hl
  have e : PyData.list [.tuple [.tuple [.tuple [.tuple [.int 0, .int 0, .int 0], .int 2]], poD a], .tuple [.tuple [.tuple [.tuple [.int 1, .int 0, .int 0], .int 1]], poD b], .tuple [.tuple [.tuple [.tuple [.int 0, .int 1, .int 0], .int 1]], poD c], .tuple [.tuple [.tuple [.tuple [.int 0, .int 0, .int 1], .int 1]], poD d]] = psD [(pTwo, a), (pX, b), (pY, c), (pZ, d)] := rfl
  generalize poD a = da at *
  generalize poD b = db at *
  generalize poD c = dc at *
  generalize poD d = dd at *
  walk_at "qs"
  rw [e]
  exact ⟨_, rfl, pl.1, pl.2.1, hl, hq⟩
def N_trace_told : List Str := ["word"]
def t_trace_told : ATS := (aRet (aFn 1 fn_trace_of_traces (aCons (aFn 1 fn_four_told (aCons (aVar 0) aNil)) aNil)))
def fn_trace_told : AFn := fun avs s Q => ∃ w : List Int, avs = [.d (wD w)] ∧ (∀ l ∈ w, Ltr l) ∧ (∀ k, P4Ok (fourP (w.take k))) ∧ (trcP (fourP w)).length ≤ 4000 ∧ Q (.d (poD (trcP (fourP w)))) s
theorem h_trace_told : ∀ avs s AQ, fn_trace_told avs s AQ → t_trace_told (endsA AQ) ⟨startA N_trace_told avs, ⟨s, []⟩⟩ := by
  rintro _ s AQ ⟨w, rfl, hw, hk, hl, hq⟩
  show t_trace_told (endsA AQ) ⟨[some (.d (wD w))], ⟨s, []⟩⟩
  unfold t_trace_told
  walk_at "qs"
  refine ⟨w, rfl, hw, hk, ?_⟩
  have h := hk w.length
  rw [List.take_length] at h
  exact ⟨rfl, fourP w, rfl, h, hl, hq⟩
def N_not_long : List Str := ["table", "number"]
def le_not_long_1 : ATE := (aCall bLen (aCons (aCall bStr (aCons (aCall bAbs (aCons (aVar 1) aNil)) aNil)) aNil))
def t_not_long : ATS := (aSeq (aIfS (aTest (aBin aGt (aCall bMaxL (aCons (aLc (aItT (aVar 0)) (aGName 1) aYes le_not_long_1 [1]) aNil)) (aC (.int 300)))) aNever aNext)
    (aRet (aVar 0)))
def fn_not_long : AFn := fun avs s Q => ∃ t : T4, avs = [.d (tbD t)] ∧ Bt 900 t ∧ Q (.d (tbD t)) s
theorem pow_900 : 2 ^ 900 < 10 ^ 299 := by decide +kernel
theorem len_300 {i : Int} (h : Bd 900 i) : (Str.ofString (toString (if i < 0 then -i else i))).length ≤ 300 := by
  rw [PySem.ofString_length]
  refine int_text_length_le10 (k := 299) (by decide) ?_
  unfold Bd at h
  have e : (if i < 0 then -i else i).natAbs = i.natAbs := by split <;> omega
  rw [e]
  exact Nat.lt_trans h pow_900
theorem h_not_long : ∀ avs s AQ, fn_not_long avs s AQ → t_not_long (endsA AQ) ⟨startA N_not_long avs, ⟨s, []⟩⟩ := by
  rintro _ s AQ ⟨⟨p, q, r, v⟩, rfl, ⟨h1, h2, h3, h4⟩, hq⟩
  show t_not_long (endsA AQ) ⟨[some (.d (.tuple [.int p, .int q, .int r, .int v])), none], ⟨s, []⟩⟩
  have st : ∀ (i : Int) (K : Option D → Mm → Prop), Bd 900 i → (∀ n : Int, n ≤ 300 → K (some (.int n)) ⟨s, []⟩) → stepC (aGName 1) aYes le_not_long_1 [some (.d (.tuple [.int p, .int q, .int r, .int v])), none] (.int i) ⟨s, []⟩ K := by
    intro i K hi hK
    unfold stepC le_not_long_1
    walk_at "qs"
    have hl := len_300 hi
    have hb : (if i < 0 then -i else i).natAbs.log2 < 1920 := by
      have e : (if i < 0 then -i else i).natAbs = i.natAbs := by split <;> omega
      rw [e]
      exact hi.log_lt (by decide)
    exact ⟨hb, Nat.le_trans hl (by rw [sizeLine_eq]; decide), hK _ (by exact Int.ofNat_le.mpr hl)⟩
  unfold t_not_long
  walk_at "qs"
  refine aLcL_step (st p _ h1 fun n1 g1 => ?_)
  refine aLcL_step (st q _ h2 fun n2 g2 => ?_)
  refine aLcL_step (st r _ h3 fun n3 g3 => ?_)
  refine aLcL_step (st v _ h4 fun n4 g4 => ?_)
  unfold aLcL
  walk_at "qs"
  rw [show intsD [PyData.int n1, .int n2, .int n3, .int n4] = some [n1, n2, n3, n4] from rfl]
  refine ⟨by simp, fun k hk _ => ?_⟩
  have : ¬ 300 < k := by
    simp only [List.mem_cons, List.not_mem_nil, or_false] at hk
    omega
  rw [if_neg this]
  exact hq
def N_letter_table : List Str := ["pair", "letter", "table"]
def t_letter_table : ATS := (aSeq (aSet 2 (aBin aIx (aVar 0) (aBin aSub (aCall bAbs (aCons (aVar 1) aNil)) (aC (.int 1)))))
    (aRet (aIf (aTest (aBin aGt (aVar 1) (aC (.int 0)))) (aVar 2) (aFn 1 fn_table_undone (aCons (aVar 2) aNil)))))
def fn_letter_table : AFn := fun avs s Q => ∃ (t u : T4) (l : Int), avs = [.d (.tuple [tbD t, tbD u]), .d (.int l)] ∧ LtrT l ∧ Q (.d (tbD (if l > 0 then ltI t u l else invT (ltI t u l)))) s
theorem h_letter_table : ∀ avs s AQ, fn_letter_table avs s AQ → t_letter_table (endsA AQ) ⟨startA N_letter_table avs, ⟨s, []⟩⟩ := by
  rintro _ s AQ ⟨t, u, l, rfl, hl, hq⟩
  show t_letter_table (endsA AQ) ⟨[some (.d (.tuple [tbD t, tbD u])), some (.d (.int l)), none], ⟨s, []⟩⟩
  unfold t_letter_table
  rcases hl with rfl | rfl | rfl | rfl
  · walk_at "qs"
    exact hq
  · walk_at "qs"
    exact ⟨_, rfl, hq⟩
  · walk_at "qs"
    exact hq
  · walk_at "qs"
    exact ⟨_, rfl, hq⟩
def N_word_table : List Str := ["pair", "word", "found", "letter"]
def lb_word_table_1 : ATS := (aSet 2 (aFn 1 fn_not_long (aCons (aFn 2 fn_table_times (aCons (aVar 2) (aCons (aFn 2 fn_letter_table (aCons (aVar 0) (aCons (aVar 3) aNil))) aNil))) aNil)))
def t_word_table : ATS := (aSeq (aSet 2 (aC (.tuple [.int 1, .int 0, .int 0, .int 1])))
    (aSeq (aFor [3] (aItT (aVar 1)) (aGName 3) lb_word_table_1)
    (aRet (aVar 2))))
def fn_word_table : AFn := fun avs s Q => ∃ (t u : T4) (w : List Int) (b : Nat), avs = [.d (.tuple [tbD t, tbD u]), .d (wD w)] ∧ (∀ l ∈ w, LtrT l) ∧ Bt b t ∧ Bt b u ∧ 0 < b ∧ (b + 1) * (w.length + 1) ≤ 900 ∧ Q (.d (tbD (wrdI t u w))) s
theorem wt_loop (E : AEnds) (t u : T4) (X : D) (b n : Nat) (ht : Bt b t) (hu : Bt b u) (hn : n ≤ 900) (s : Option Src) : ∀ (w : List Int) (m : T4) (k : Nat), (∀ l ∈ w, LtrT l) → Bt k m → k + (b + 1) * w.length ≤ n → b ≤ n →
    E.nx ⟨[some (.d (.tuple [tbD t, tbD u])), some (.d X), some (.d (tbD (w.foldl (fun m l => mulT m (ltS t u l)) m))), none], ⟨s, []⟩⟩ →
    aForL 0 [3] (aGName 3) lb_word_table_1 E (w.map .int) ⟨[some (.d (.tuple [tbD t, tbD u])), some (.d X), some (.d (tbD m)), none], ⟨s, []⟩⟩ := by
  intro w
  induction w with
  | nil => intro m k _ _ _ _ h; exact h
  | cons l r ih =>
    intro m k hw hm hk hb h
    have hB : Bt (k + (b + 1)) (mulT m (ltS t u l)) := (hm.mul (bt_ltS ht hu l)).le (by omega)
    rw [List.length_cons, Nat.mul_succ] at hk
    have nx := ih (mulT m (ltS t u l)) (k + (b + 1)) (fun l hl => hw l (List.mem_cons_of_mem _ hl)) hB (by omega) hb h
    have hl := hw l List.mem_cons_self
    rw [List.map_cons]
    unfold aForL lb_word_table_1
    walk_at "qs"
    refine ⟨t, u, l, rfl, hl, ?_⟩
    refine ⟨rfl, m, ltS t u l, rfl, hm.le (by omega), (bt_ltS ht hu l).le (by omega), ?_⟩
    exact ⟨rfl, _, rfl, hB.le (by omega), nx⟩
theorem h_word_table : ∀ avs s AQ, fn_word_table avs s AQ → t_word_table (endsA AQ) ⟨startA N_word_table avs, ⟨s, []⟩⟩ := by
  rintro _ s AQ ⟨t, u, w, b, rfl, hw, ht, hu, h0, hb, hq⟩
  show t_word_table (endsA AQ) ⟨[some (.d (.tuple [tbD t, tbD u])), some (.d (.tuple (w.map .int))), none, none], ⟨s, []⟩⟩
  unfold t_word_table
  walk_at "qs"
  rw [Nat.mul_succ] at hb
  refine wt_loop _ t u _ b 900 ht hu (Nat.le_refl _) s w (1, 0, 0, 1) 1 hw bt_one (by omega) (by omega) ?_
  walk_at "qs"
  exact hq
def N__law_table_of : List Str := ["pair", "word", "found", "letter", "late"]
def lb__law_table_of_1 : ATS := (aSeq (aSet 4 (aBin aIx (aVar 0) (aBin aSub (aCall bAbs (aCons (aVar 3) aNil)) (aC (.int 1)))))
    (aSet 2 (aFn 2 fn__law_times (aCons (aVar 2) (aCons (aIf (aTest (aBin aGt (aVar 3) (aC (.int 0)))) (aVar 4) (aFn 1 fn__law_table_undone (aCons (aVar 4) aNil))) aNil)))))
def t__law_table_of : ATS := (aSeq (aSet 2 (aTup (aCons (aC (.int 1)) (aCons (aC (.int 0)) (aCons (aC (.int 0)) (aCons (aC (.int 1)) aNil))))))
    (aSeq (aFor [3, 4] (aItT (aVar 1)) (aGName 3) lb__law_table_of_1)
    (aRet (aVar 2))))
def fn__law_table_of : AFn := fun avs s Q => ∃ (t u : T4) (w : List Int) (b : Nat), avs = [.d (.tuple [tbD t, tbD u]), .d (wD w)] ∧ (∀ l ∈ w, LtrT l) ∧ Bt b t ∧ Bt b u ∧ 0 < b ∧ (b + 1) * (w.length + 1) ≤ 900 ∧ Q (.d (tbD (wrdI t u w))) s
theorem tof_loop (E : AEnds) (t u : T4) (X : D) (b n : Nat) (ht : Bt b t) (hu : Bt b u) (hn : n ≤ 900) (s : Option Src) : ∀ (w : List Int) (m : T4) (k : Nat), (∀ l ∈ w, LtrT l) → Bt k m → k + (b + 1) * w.length ≤ n → b ≤ n →
    E.nx ⟨[some (.d (.tuple [tbD t, tbD u])), some (.d X), some (.d (tbD (w.foldl (fun m l => mulT m (ltS t u l)) m))), none, none], ⟨s, []⟩⟩ →
    aForL 0 [3, 4] (aGName 3) lb__law_table_of_1 E (w.map .int) ⟨[some (.d (.tuple [tbD t, tbD u])), some (.d X), some (.d (tbD m)), none, none], ⟨s, []⟩⟩ := by
  intro w
  induction w with
  | nil => intro m k _ _ _ _ h; exact h
  | cons l r ih =>
    intro m k hw hm hk hb h
    have nx := ih (mulT m (ltS t u l)) (k + (b + 1)) (fun l hl => hw l (List.mem_cons_of_mem _ hl)) ((hm.mul (bt_ltS ht hu l)).le (by omega)) (by rw [List.length_cons, Nat.mul_succ] at hk; omega) hb h
    have hmB : Bt 1000 m := hm.le (by omega)
    have hl := hw l List.mem_cons_self
    rw [List.map_cons]
    unfold aForL lb__law_table_of_1
    rcases hl with rfl | rfl | rfl | rfl
    · walk_at "qs"
      exact ⟨m, t, rfl, hmB, ht.le (by omega), nx⟩
    · walk_at "qs"
      exact ⟨t, rfl, rfl, m, invT t, rfl, hmB, ht.inv.le (by omega), nx⟩
    · walk_at "qs"
      exact ⟨m, u, rfl, hmB, hu.le (by omega), nx⟩
    · walk_at "qs"
      exact ⟨u, rfl, rfl, m, invT u, rfl, hmB, hu.inv.le (by omega), nx⟩
theorem h__law_table_of : ∀ avs s AQ, fn__law_table_of avs s AQ → t__law_table_of (endsA AQ) ⟨startA N__law_table_of avs, ⟨s, []⟩⟩ := by
  rintro _ s AQ ⟨t, u, w, b, rfl, hw, ht, hu, h0, hb, hq⟩
  show t__law_table_of (endsA AQ) ⟨[some (.d (.tuple [tbD t, tbD u])), some (.d (.tuple (w.map .int))), none, none, none], ⟨s, []⟩⟩
  unfold t__law_table_of
  walk_at "qs"
  rw [Nat.mul_succ] at hb
  refine tof_loop _ t u _ b 900 ht hu (Nat.le_refl _) s w (1, 0, 0, 1) 1 hw bt_one (by omega) (by omega) ?_
  walk_at "qs"
  exact hq
def N__law_pick : List Str := ["source", "many", "left", "mixed"]
def lc__law_pick_1 : ATT := (aAnd (aTest (aBin aGt (aVar 1) (aC (.int 1)))) (aAnd (aTest (aBin aLt (aSrcF .left (aVar 0)) (aC (.int 2)))) (aTest (aBin aGt (aCall bLen (aCons (aSrcC (aVar 0)) aNil)) (aC (.int 0))))))
def lb__law_pick_2 : ATS := (aSrcPut .left (aVar 0) (aMt0 mPopC (aSrcC (aVar 0))))
def t__law_pick : ATS := (aSeq (aWhile [] lc__law_pick_1 lb__law_pick_2)
    (aSeq (aSet 2 (aSrcF .left (aVar 0)))
    (aSeq (aIfS (aOr (aTest (aBin aLt (aVar 1) (aC (.int 2)))) (aTest (aBin aGt (aVar 2) (aC (.int 1))))) (aSeq (aSrcPut .left (aVar 0) (aBin aFdiv (aVar 2) (aCall bMax (aCons (aC (.int 1)) (aCons (aVar 1) aNil)))))
    (aRet (aBin aMod (aCall bInt (aCons (aVar 2) aNil)) (aCall bMax (aCons (aC (.int 1)) (aCons (aVar 1) aNil)))))) aNext)
    (aSeq (aSrcPut .turn (aVar 0) (aBin aAdd (aSrcF .turn (aVar 0)) (aC (.int 1))))
    (aSeq (aSet 3 (aBin aMod (aCall bInt (aCons (aBin aAdd (aSrcF .mixed (aVar 0)) (aBin aMul (aSrcF .turn (aVar 0)) (aC (.int 104729)))) aNil)) (aC (.int 998244353))))
    (aSeq (aSet 3 (aBin aMod (aCall bInt (aCons (aBin aAdd (aBin aMul (aVar 3) (aVar 3)) (aBin aMul (aSrcF .turn (aVar 0)) (aC (.int 17)))) aNil)) (aC (.int 2147483647))))
    (aSeq (aSrcPut .mixed (aVar 0) (aVar 3))
    (aRet (aBin aMod (aCall bInt (aCons (aBin aFdiv (aVar 3) (aC (.int 16))) aNil)) (aVar 1))))))))))
/-- a drawn number -/
def fn__law_pick : AFn := fun avs s Q => ∃ (S : Src) (n : Int), avs = [.src, .d (.int n)] ∧ s = some S ∧ n < 1073741824 ∧ ∀ (r : Int) S', 0 ≤ r → r < max 1 n → Q (.d (.int r)) (some S')
theorem h__law_pick : ∀ avs s AQ, fn__law_pick avs s AQ → t__law_pick (endsA AQ) ⟨startA N__law_pick avs, ⟨s, []⟩⟩ := by
  rintro _ _ AQ ⟨S, n, rfl, rfl, hn, hq⟩
  show t__law_pick (endsA AQ) ⟨[some .src, some (.d (.int n)), none, none], ⟨some S, []⟩⟩
  unfold t__law_pick
  walk_at "qs"
  refine ⟨fun a => ∃ S' : Src, a = ⟨[some .src, some (.d (.int n)), none, none], ⟨some S', []⟩⟩, fun a => match a.m.s with | some S' => S'.cells.length | none => 0, ⟨S, rfl⟩, ?_⟩
  rintro _ ⟨S, rfl⟩
  have hmax : (if n > 1 then n else 1) = max 1 n := by omega
  -- what follows the loop
  have tail : ∀ S : Src, aSeq (aSet 2 (aSrcF .left (aVar 0)))
    (aSeq (aIfS (aOr (aTest (aBin aLt (aVar 1) (aC (.int 2)))) (aTest (aBin aGt (aVar 2) (aC (.int 1))))) (aSeq (aSrcPut .left (aVar 0) (aBin aFdiv (aVar 2) (aCall bMax (aCons (aC (.int 1)) (aCons (aVar 1) aNil)))))
    (aRet (aBin aMod (aCall bInt (aCons (aVar 2) aNil)) (aCall bMax (aCons (aC (.int 1)) (aCons (aVar 1) aNil)))))) aNext)
    (aSeq (aSrcPut .turn (aVar 0) (aBin aAdd (aSrcF .turn (aVar 0)) (aC (.int 1))))
    (aSeq (aSet 3 (aBin aMod (aCall bInt (aCons (aBin aAdd (aSrcF .mixed (aVar 0)) (aBin aMul (aSrcF .turn (aVar 0)) (aC (.int 104729)))) aNil)) (aC (.int 998244353))))
    (aSeq (aSet 3 (aBin aMod (aCall bInt (aCons (aBin aAdd (aBin aMul (aVar 3) (aVar 3)) (aBin aMul (aSrcF .turn (aVar 0)) (aC (.int 17)))) aNil)) (aC (.int 2147483647))))
    (aSeq (aSrcPut .mixed (aVar 0) (aVar 3))
    (aRet (aBin aMod (aCall bInt (aCons (aBin aFdiv (aVar 3) (aC (.int 16))) aNil)) (aVar 1)))))))) (endsA AQ) ⟨[some .src, some (.d (.int n)), none, none], ⟨some S, []⟩⟩ := by
    intro S
    have fin1 : ∀ S', (0 < (if n > 1 then n else 1)) ∧ AQ (.d (.int (S.left % (if n > 1 then n else 1)))) (some S') := fun S' => by
      rw [hmax]
      exact ⟨by omega, hq _ _ (Int.emod_nonneg _ (by omega)) (Int.emod_lt_of_pos _ (by omega))⟩
    have dv : DivOk S.left (if n > 1 then n else 1) := .inl ⟨by rw [hmax]; omega, by rw [hmax]; omega⟩
    walk_at "qs"
    by_cases c1 : n < 2
    · simp only [c1, decide_true, if_true]
      walk_at "qs"
      exact ⟨dv, fin1 _⟩
    · simp only [c1, decide_false, Bool.false_eq_true, if_false]
      walk_at "qs"
      by_cases c2 : 1 < S.left
      · simp only [c2, decide_true, if_true]
        walk_at "qs"
        exact ⟨dv, fin1 _⟩
      · simp only [c2, decide_false, Bool.false_eq_true, if_false]
        walk_at "qs"
        refine ⟨.inl (.inr (by decide)), by decide, ?_⟩
        walk_at "qs"
        have h1 := Int.emod_nonneg (S.mixed + (S.turn + 1) * 104729) (show (998244353 : Int) ≠ 0 by decide)
        have h2 := Int.emod_lt_of_pos (S.mixed + (S.turn + 1) * 104729) (show (0 : Int) < 998244353 by decide)
        refine ⟨.inl (.inl ⟨by omega, by omega⟩), .inl (.inr (by decide)), by decide, ?_⟩
        walk_at "qs"
        refine ⟨.inl ⟨by decide, by decide⟩, by omega, hq _ _ (Int.emod_nonneg _ (by omega)) ?_⟩
        have := Int.emod_lt_of_pos (((S.mixed + (S.turn + 1) * 104729) % 998244353 * ((S.mixed + (S.turn + 1) * 104729) % 998244353) + (S.turn + 1) * 17) % 2147483647 / 16) (show (0 : Int) < n by omega)
        omega
  unfold lc__law_pick_1 lb__law_pick_2
  walk_at "qs"
  by_cases c1 : 1 < n
  · simp only [c1, decide_true, if_true]
    walk_at "qs"
    by_cases c2 : S.left < 2
    · simp only [c2, decide_true, if_true]
      walk_at "qs"
      by_cases c3 : (0 : Int) < ((S.cells.map PyData.int).length : Nat)
      · simp only [c3, decide_true, if_true]
        walk_at "qs"
        rw [List.length_map] at c3
        cases e : S.cells.getLast? with
        | none =>
          rw [List.getLast?_eq_none_iff] at e
          rw [e] at c3
          simp at c3
        | some i =>
          walk_at "qs"
          refine ⟨⟨_, rfl⟩, ?_⟩
          show S.cells.dropLast.length < S.cells.length
          rw [List.length_dropLast]; omega
      · simp only [c3, decide_false, Bool.false_eq_true, if_false]
        walk_at "qs"
        (have tl := tail S; revert tl; walk_at "qs"; intro tl; simp only [c1, decide_true, decide_false, Bool.false_eq_true, if_true, if_false] at tl ⊢; exact tl)
    · simp only [c2, decide_false, Bool.false_eq_true, if_false]
      walk_at "qs"
      (have tl := tail S; revert tl; walk_at "qs"; intro tl; simp only [c1, decide_true, decide_false, Bool.false_eq_true, if_true, if_false] at tl ⊢; exact tl)
  · simp only [c1, decide_false, Bool.false_eq_true, if_false]
    walk_at "qs"
    (have tl := tail S; revert tl; walk_at "qs"; intro tl; simp only [c1, decide_true, decide_false, Bool.false_eq_true, if_true, if_false] at tl ⊢; exact tl)
def N__law_of : List Str := ["source", "some"]
def t__law_of : ATS := (aRet (aBin aIx (aVar 1) (aFn 2 fn__law_pick (aCons (aVar 0) (aCons (aCall bLen (aCons (aVar 1) aNil)) aNil)))))
/-- a drawn member -/
def fn__law_of : AFn := fun avs s Q => ∃ (S : Src) (ds : List D), avs = [.src, .d (.list ds)] ∧ s = some S ∧ 0 < ds.length ∧ ds.length < 1073741824 ∧ ∀ d ∈ ds, ∀ S', Q (.d d) (some S')
theorem h__law_of : ∀ avs s AQ, fn__law_of avs s AQ → t__law_of (endsA AQ) ⟨startA N__law_of avs, ⟨s, []⟩⟩ := by
  rintro _ _ AQ ⟨S, ds, rfl, rfl, h0, hn, hq⟩
  show t__law_of (endsA AQ) ⟨[some .src, some (.d (.list ds))], ⟨some S, []⟩⟩
  unfold t__law_of
  walk_at "qs"
  refine ⟨S, _, rfl, rfl, by omega, fun r S' h1 h2 => ?_⟩
  walk_at "qs"
  have hr : r.toNat < ds.length := by omega
  have e : atD ds r = some ds[r.toNat] := by
    unfold atD
    rw [if_pos h1, List.getElem?_eq_getElem hr]
  rw [e]
  exact hq _ (List.getElem_mem hr) S'
def N__law_source : List Str := ["script", "mixed", "cell"]
def lb__law_source_1 : ATS := (aSet 1 (aBin aMod (aCall bInt (aCons (aBin aAdd (aBin aAdd (aBin aMul (aVar 1) (aC (.int 69069))) (aBin aMul (aVar 2) (aC (.int 31)))) (aC (.int 5))) aNil)) (aC (.int 2147483629))))
def le__law_source_2 : ATE := (aCall bAbs (aCons (aVar 2) aNil))
def t__law_source : ATS := (aSeq (aSet 1 (aC (.int 11)))
    (aSeq (aFor [2] (aItS (aVar 0)) (aGName 2) lb__law_source_1)
    (aRet (aSrcNew (aRevM (aLc (aItS (aVar 0)) (aGName 2) aYes le__law_source_2 [2])) (aC (.int 1)) (aVar 1) (aC (.int 0))))))
/-- a source is made of the script: which one is left open -/
def fn__law_source : AFn := fun avs s Q => ∃ ns : List Int, avs = [.scr ns] ∧ s = none ∧ ns.length ≤ 63 ∧ ∀ S', Q .src (some S')
theorem source_loop (E : AEnds) (ns0 : List Int) : ∀ (ns : List Int) (mi : Int), (∀ mi, E.nx ⟨[some (.scr ns0), some (.d (.int mi)), none], ⟨none, []⟩⟩) →
    aForL 0 [2] (aGName 2) lb__law_source_1 E (ns.map PyData.int) ⟨[some (.scr ns0), some (.d (.int mi)), none], ⟨none, []⟩⟩
  | [], mi, h => h mi
  | n :: ns, mi, h => by
    unfold aForL
    rw [List.map_cons]
    unfold lb__law_source_1
    walk_at "qs"
    refine ⟨.inl (.inr (by decide)), .inl (.inr (by decide)), by decide, ?_⟩
    walk_at "qs"
    exact source_loop E ns0 ns _ h
theorem filterMap_some' {α β : Type} (f : α → β) (l : List α) : l.filterMap (fun x => some (f x)) = l.map f := by
  induction l with
  | nil => rfl
  | cons a l ih => simp [ih]
theorem h__law_source : ∀ avs s AQ, fn__law_source avs s AQ → t__law_source (endsA AQ) ⟨startA N__law_source avs, ⟨s, []⟩⟩ := by
  rintro _ _ AQ ⟨ns, rfl, rfl, hn, hq⟩
  show t__law_source (endsA AQ) ⟨[some (.scr ns), none, none], ⟨none, []⟩⟩
  unfold t__law_source
  walk_at "qs"
  refine source_loop _ ns ns 11 fun mi => ?_
  walk_at "qs"
  refine ⟨by rw [List.length_map]; omega, aLcL_pure (fun d => match d with | .int i => some (.int (if i < 0 then -i else i)) | _ => none) (fun d hd K hK => ?_) ?_⟩
  · obtain ⟨i, _, rfl⟩ := List.mem_map.mp hd
    unfold stepC le__law_source_2
    walk_at "qs"
    exact hK
  · walk_at "qs"
    refine ⟨(ns.map fun i => if i < 0 then -i else i).reverse, ?_, hq _⟩
    rw [List.filterMap_map]
    have e : ((fun d : D => match d with | .int i => some (PyData.int (if i < 0 then -i else i)) | _ => none) ∘ PyData.int) = fun i => some (PyData.int (if i < 0 then -i else i)) := rfl
    rw [e, filterMap_some', List.map_reverse, List.map_map]
    rfl
def N__law_shears : List Str := ["source", "most", "found", "lap", "n", "one"]
def lb__law_shears_1 : ATS := (aSeq (aSet 4 (aFn 2 fn__law_of (aCons (aVar 0) (aCons (aLst (aCons (aC (.int 1)) (aCons (aUn aNeg (aC (.int 1))) (aCons (aC (.int 2)) (aCons (aUn aNeg (aC (.int 2))) (aCons (aC (.int 3)) aNil)))))) aNil))))
    (aSet 2 (aFn 2 fn__law_times (aCons (aVar 2) (aCons (aIf (aTest (aBin aEq (aFn 2 fn__law_pick (aCons (aVar 0) (aCons (aC (.int 2)) aNil))) (aC (.int 0)))) (aTup (aCons (aC (.int 1)) (aCons (aVar 4) (aCons (aC (.int 0)) (aCons (aC (.int 1)) aNil))))) (aTup (aCons (aC (.int 1)) (aCons (aC (.int 0)) (aCons (aVar 4) (aCons (aC (.int 1)) aNil)))))) aNil)))))
def le__law_shears_2 : ATE := (aBin aSub (aC (.int 0)) (aVar 5))
def t__law_shears : ATS := (aSeq (aSet 2 (aTup (aCons (aC (.int 1)) (aCons (aC (.int 0)) (aCons (aC (.int 0)) (aCons (aC (.int 1)) aNil))))))
    (aSeq (aFor [3, 4] (aRng1 (aCons (aFn 2 fn__law_pick (aCons (aVar 0) (aCons (aBin aAdd (aVar 1) (aC (.int 1))) aNil))) aNil)) (aGName 3) lb__law_shears_1)
    (aRet (aIf (aTest (aBin aGt (aFn 2 fn__law_pick (aCons (aVar 0) (aCons (aC (.int 5)) aNil))) (aC (.int 0)))) (aVar 2) (aCall bTuple (aCons (aLc (aItT (aVar 2)) (aGName 5) aYes le__law_shears_2 [5]) aNil))))))
def negT (t : T4) : T4 := (-t.1, -t.2.1, -t.2.2.1, -t.2.2.2)
theorem neg_det (t : T4) : detT (negT t) = detT t := by
  obtain ⟨a, b, c, d⟩ := t
  simp only [negT, detT]; grind
theorem Bt.negT {k : Nat} {t : T4} (h : Bt k t) : Bt k (negT t) := ⟨h.1.neg, h.2.1.neg, h.2.2.1.neg, h.2.2.2.neg⟩
theorem shear_det (t : T4) (b : Int) : detT (mulT t (1, b, 0, 1)) = detT t ∧ detT (mulT t (1, 0, b, 1)) = detT t := by
  obtain ⟨p, q, r, s⟩ := t
  simp only [detT, mulT]
  constructor <;> grind
def Sm3 (b : Int) : Prop := -3 ≤ b ∧ b ≤ 3
theorem shear_bd {k : Nat} {t : T4} (h : Bt k t) {b : Int} (hb : Sm3 b) : Bt (k + 3) (mulT t (1, b, 0, 1)) ∧ Bt (k + 3) (mulT t (1, 0, b, 1)) := by
  have two : (2 : Nat) ^ (k + 3) = 8 * 2 ^ k := by rw [Nat.pow_add]; omega
  obtain ⟨p, q, r, s⟩ := t
  obtain ⟨h1, h2, h3, h4⟩ := h
  obtain ⟨hb1, hb2⟩ := hb
  unfold Bd at h1 h2 h3 h4
  simp only [] at h1 h2 h3 h4
  have : b = -3 ∨ b = -2 ∨ b = -1 ∨ b = 0 ∨ b = 1 ∨ b = 2 ∨ b = 3 := by omega
  constructor <;> (refine ⟨?_, ?_, ?_, ?_⟩ <;> unfold Bd <;> simp only [mulT] <;> rw [two] <;> rcases this with rfl | rfl | rfl | rfl | rfl | rfl | rfl <;> omega)
def fn__law_shears : AFn := fun avs s Q => ∃ (S : Src) (n : Nat), avs = [.src, .d (.int (n : Int))] ∧ s = some S ∧ n ≤ 20 ∧ ∀ (t : T4) (S' : Src), detT t = 1 → Bt (1 + 3 * n) t → Q (.d (tbD t)) (some S')
theorem shears_loop (E : AEnds) (x1 : D) (n : Nat) (hn0 : n ≤ 100) (h : ∀ (t : T4) (S' : Src), detT t = 1 → Bt n t → E.nx ⟨[some .src, some (.d x1), some (.d (tbD t)), none, none, none], ⟨some S', []⟩⟩) : ∀ (ds : List D) (t : T4) (S : Src) (k : Nat), detT t = 1 → Bt k t → k + 3 * ds.length ≤ n →
    aForL 0 [3, 4] (aGName 3) lb__law_shears_1 E ds ⟨[some .src, some (.d x1), some (.d (tbD t)), none, none, none], ⟨some S, []⟩⟩ := by
  intro ds
  induction ds with
  | nil => intro t S k ht hk hn; exact h t S ht (hk.le (by simp at hn; omega))
  | cons d ds ih =>
    intro t S k ht hk hn
    have hk0 : k ≤ n := by omega
    unfold aForL
    unfold lb__law_shears_1
    walk_at "qs"
    refine ⟨S, _, rfl, rfl, by decide, by decide, fun d hd S1 => ?_⟩
    obtain ⟨b, rfl, hb⟩ : ∃ b : Int, d = .int b ∧ Sm3 b := by
      simp only [List.mem_cons, List.not_mem_nil, or_false] at hd
      rcases hd with rfl | rfl | rfl | rfl | rfl <;> exact ⟨_, rfl, ⟨by decide, by decide⟩⟩
    walk_at "qs"
    refine ⟨S1, 2, rfl, rfl, by decide, fun r S2 r1 r2 => ?_⟩
    obtain ⟨d1, d2⟩ := shear_det t b
    obtain ⟨b1, b2⟩ := shear_bd hk hb
    have hb' : Bd 3 b := by unfold Bd; unfold Sm3 at hb; omega
    have hlen : k + 3 + 3 * ds.length ≤ n := by simp only [List.length_cons] at hn; omega
    by_cases c : r = 0
    · simp only [c, decide_true, if_true]
      walk_at "qs"
      refine ⟨t, (1, b, 0, 1), rfl, hk.le (by omega), ⟨b1000_1, hb'.le (by decide), b1000_0, b1000_1⟩, ?_⟩
      exact ih _ S2 (k + 3) (d1.trans ht) b1 hlen
    · simp only [c, decide_false, Bool.false_eq_true, if_false]
      walk_at "qs"
      refine ⟨t, (1, 0, b, 1), rfl, hk.le (by omega), ⟨b1000_1, b1000_0, hb'.le (by decide), b1000_1⟩, ?_⟩
      exact ih _ S2 (k + 3) (d2.trans ht) b2 hlen
theorem h__law_shears : ∀ avs s AQ, fn__law_shears avs s AQ → t__law_shears (endsA AQ) ⟨startA N__law_shears avs, ⟨s, []⟩⟩ := by
  rintro _ _ AQ ⟨S, n, rfl, rfl, hn, hq⟩
  show t__law_shears (endsA AQ) ⟨[some .src, some (.d (.int n)), none, none, none, none], ⟨some S, []⟩⟩
  unfold t__law_shears
  walk_at "qs"
  refine ⟨S, n + 1, rfl, rfl, by omega, fun r S1 r1 r2 => ?_⟩
  walk_at "qs"
  refine ⟨Rg.of (by omega) (by omega), ?_⟩
  refine shears_loop _ _ (1 + 3 * n) (by omega) (fun t S' h1 h2 => ?_) _ (1, 0, 0, 1) S1 1 rfl ⟨by unfold Bd; decide, by unfold Bd; decide, by unfold Bd; decide, by unfold Bd; decide⟩ (by rw [rngD_len]; omega)
  walk_at "qs"
  refine ⟨S', 5, rfl, rfl, by decide, fun r S2 r1 r2 => ?_⟩
  walk_at "qs"
  by_cases c : 0 < r
  · rw [if_pos c]
    exact hq t S2 h1 h2
  · rw [if_neg c]
    have st : ∀ (i : Int) (K : Option D → Mm → Prop), K (some (.int (-i))) ⟨some S2, []⟩ → stepC (aGName 5) aYes le__law_shears_2 [some .src, some (.d (.int n)), some (.d (tbD t)), none, none, none] (.int i) ⟨some S2, []⟩ K := by
      intro i K hK
      unfold stepC le__law_shears_2
      walk_at "qs"
      rw [Int.zero_sub]
      exact hK
    rw [show tbD t = .tuple [.int t.1, .int t.2.1, .int t.2.2.1, .int t.2.2.2] from rfl] at st ⊢
    walk_at "qs"
    refine aLcL_step (st _ _ ?_)
    refine aLcL_step (st _ _ ?_)
    refine aLcL_step (st _ _ ?_)
    refine aLcL_step (st _ _ ?_)
    unfold aLcL
    exact hq (negT t) S2 ((neg_det t).trans h1) h2.negT
def keptT (t : T4) (c : Int × Int) : Bool := decide ((t.1 * c.1 + t.2.1 * c.2) * c.2 = (t.2.2.1 * c.1 + t.2.2.2 * c.2) * c.1)
def clD (c : Int × Int) : D := .tuple [.int c.1, .int c.2]
def ledT (l t : T4) : T4 := mulT (mulT l t) (invT l)
theorem bd0 (k : Nat) : Bd k 0 := by unfold Bd; exact Nat.two_pow_pos k
def Sg (e : Int) : Prop := e = 1 ∨ e = -1
theorem inv_det (t : T4) : detT (invT t) = detT t := by
  obtain ⟨a, b, c, d⟩ := t
  simp only [invT, detT]; grind
theorem led_det {l t : T4} (hl : detT l = 1) : detT (ledT l t) = detT t := by
  have hm : ∀ t u : T4, detT (mulT t u) = detT t * detT u := by
    intro t u
    obtain ⟨p, q, r, s⟩ := t; obtain ⟨e, f, g, h⟩ := u
    simp only [detT, mulT]; grind
  unfold ledT
  rw [hm, hm, inv_det, hl]; omega
def N_least_row : List Str := ["row", "part", "number", "first"]
def lb_least_row_1 : ATS := (aSet 1 (aCall bGcd (aCons (aVar 1) (aCons (aCall bAbs (aCons (aVar 2) aNil)) aNil))))
def lt_least_row_2 : ATT := (aTest (aBin aNe (aVar 2) (aC (.int 0))))
def le_least_row_3 : ATE := (aVar 2)
def le_least_row_4 : ATE := (aBin aFdivN (aVar 2) (aVar 1))
def t_least_row : ATS := (aSeq (aSet 1 (aC (.int 0)))
    (aSeq (aFor [2] (aItT (aVar 0)) (aGName 2) lb_least_row_1)
    (aSeq (aSet 3 (aLc (aItT (aVar 0)) (aGName 2) lt_least_row_2 le_least_row_3 [2]))
    (aSeq (aIfS (aTest (aBin aEq (aVar 3) (aLst aNil))) (aRet (aCall bList (aCons (aVar 0) aNil))) aNext)
    (aSeq (aSet 1 (aIf (aTest (aBin aGt (aBin aIx (aVar 3) (aC (.int 0))) (aC (.int 0)))) (aVar 1) (aUn aNeg (aVar 1))))
    (aRet (aLc (aItT (aVar 0)) (aGName 2) aYes le_least_row_4 [2])))))))
/-- the least column of a column: without a common part, its first number that isn't 0 above 0 -/
def nrmD (x y : Int) : Int := if (if x ≠ 0 then x else y) > 0 then ((Nat.gcd x.natAbs y.natAbs : Nat) : Int) else -((Nat.gcd x.natAbs y.natAbs : Nat) : Int)
def nrm (c : Int × Int) : Int × Int := (c.1.fdiv (nrmD c.1 c.2), c.2.fdiv (nrmD c.1 c.2))
theorem gcd_pos {x y : Int} (h : ¬(x = 0 ∧ y = 0)) : 0 < Nat.gcd x.natAbs y.natAbs := by
  rcases Nat.eq_zero_or_pos (Nat.gcd x.natAbs y.natAbs) with g | g
  · have := Nat.gcd_eq_zero_iff.mp g
    omega
  · exact g
theorem nrmD_ne {x y : Int} (h : ¬(x = 0 ∧ y = 0)) : nrmD x y ≠ 0 := by
  have := gcd_pos h
  unfold nrmD
  by_cases hc : (if x ≠ 0 then x else y) > 0
  · rw [if_pos hc]; omega
  · rw [if_neg hc]; omega
theorem nrmD_bd {k : Nat} {x y : Int} (h : ¬(x = 0 ∧ y = 0)) (h1 : Bd k x) (h2 : Bd k y) : Bd k (nrmD x y) := by
  have hg : Nat.gcd x.natAbs y.natAbs < 2 ^ k := by
    unfold Bd at h1 h2
    by_cases hx : x = 0
    · have := Nat.gcd_le_right x.natAbs (n := y.natAbs) (by omega)
      omega
    · have := Nat.gcd_le_left y.natAbs (m := x.natAbs) (by omega)
      omega
  unfold nrmD Bd
  generalize (if x ≠ 0 then x else y) = z
  split <;> omega
def fn_least_row : AFn := fun avs s Q => ∃ x y : Int, avs = [.d (.tuple [.int x, .int y])] ∧ ¬(x = 0 ∧ y = 0) ∧ (Bd 2000 x ∧ Bd 2000 y) ∧ Q (.d (.list [.int (nrm (x, y)).1, .int (nrm (x, y)).2])) s
theorem abs_i (i : Int) : (if i < 0 then -i else i) = ((i.natAbs : Nat) : Int) := by split <;> omega
theorem gcd_loop (E : AEnds) (x y : Int) (s : Option Src) (h : E.nx ⟨[some (.d (.tuple [.int x, .int y])), some (.d (.int ((Nat.gcd x.natAbs y.natAbs : Nat) : Int))), none, none], ⟨s, []⟩⟩) :
    aForL 0 [2] (aGName 2) lb_least_row_1 E [.int x, .int y] ⟨[some (.d (.tuple [.int x, .int y])), some (.d (.int 0)), none, none], ⟨s, []⟩⟩ := by
  unfold aForL lb_least_row_1
  walk_at "qs"
  unfold aForL
  walk_at "qs"
  unfold aForL
  have e : gcdI (gcdI 0 (if x < 0 then -x else x)) (if y < 0 then -y else y) = ((Nat.gcd x.natAbs y.natAbs : Nat) : Int) := by
    rw [abs_i, abs_i, gcdI_eq, gcdI_eq]
    simp
  rw [e]
  exact h
theorem row_first (x y : Int) (s : Option Src) (K : List D → Mm → Prop) (v : D) (hxy : ¬(x = 0 ∧ y = 0)) (h : ∀ r : List Int, r.length < 5 → K (.int (if x ≠ 0 then x else y) :: r.map .int) ⟨s, []⟩) :
    aLcL (aGName 2) lt_least_row_2 le_least_row_3 [some (.d (.tuple [.int x, .int y])), some (.d v), none, none] [.int x, .int y] [] ⟨s, []⟩ K := by
  have st : ∀ (i : Int) (K : Option D → Mm → Prop), K (if i ≠ 0 then some (.int i) else none) ⟨s, []⟩ → stepC (aGName 2) lt_least_row_2 le_least_row_3 [some (.d (.tuple [.int x, .int y])), some (.d v), none, none] (.int i) ⟨s, []⟩ K := by
    intro i K hK
    unfold stepC lt_least_row_2 le_least_row_3
    walk_at "qs"
    by_cases c : i = 0
    · simp only [c, ne_eq, not_true_eq_false, if_false] at hK ⊢
      exact hK
    · simp only [c, ne_eq, not_false_eq_true, if_true] at hK ⊢
      exact hK
  refine aLcL_step (st x _ ?_)
  by_cases c : x = 0
  · have hy : y ≠ 0 := fun h => hxy ⟨c, h⟩
    simp only [c, ne_eq, not_true_eq_false, if_false] at h ⊢
    refine aLcL_step ?_
    subst c
    refine st y _ ?_
    rw [if_pos hy]
    unfold aLcL
    exact h [] (by decide)
  · simp only [c, ne_eq, not_false_eq_true, if_true] at h ⊢
    refine aLcL_step (st y _ ?_)
    by_cases c2 : y = 0
    · simp only [c2, ne_eq, not_true_eq_false, if_false]
      unfold aLcL
      exact h [] (by decide)
    · simp only [c2, ne_eq, not_false_eq_true, if_true]
      unfold aLcL
      exact h [y] (by simp)
theorem row_last (x y : Int) (s : Option Src) (K : List D → Mm → Prop) (n : Int) (w : D) (hn : ∀ i, DivN i n) (h : K [.int (x.fdiv n), .int (y.fdiv n)] ⟨s, []⟩) :
    aLcL (aGName 2) aYes le_least_row_4 [some (.d (.tuple [.int x, .int y])), some (.d (.int n)), none, some (.d w)] [.int x, .int y] [] ⟨s, []⟩ K := by
  have st : ∀ (i : Int) (K : Option D → Mm → Prop), K (some (.int (i.fdiv n))) ⟨s, []⟩ → stepC (aGName 2) aYes le_least_row_4 [some (.d (.tuple [.int x, .int y])), some (.d (.int n)), none, some (.d w)] (.int i) ⟨s, []⟩ K := by
    intro i K hK
    unfold stepC le_least_row_4
    walk_at "qs"
    exact ⟨hn i, hK⟩
  refine aLcL_step (st x _ ?_)
  refine aLcL_step (st y _ ?_)
  unfold aLcL
  exact h
theorem h_least_row : ∀ avs s AQ, fn_least_row avs s AQ → t_least_row (endsA AQ) ⟨startA N_least_row avs, ⟨s, []⟩⟩ := by
  rintro _ s AQ ⟨x, y, rfl, hxy, ⟨hb1, hb2⟩, hq⟩
  show t_least_row (endsA AQ) ⟨[some (.d (.tuple [.int x, .int y])), none, none, none], ⟨s, []⟩⟩
  unfold t_least_row
  walk_at "qs"
  refine gcd_loop _ x y s ?_
  have hg := nrmD_ne hxy
  have hn : nrmD x y = if (if x ≠ 0 then x else y) > 0 then ((Nat.gcd x.natAbs y.natAbs : Nat) : Int) else -((Nat.gcd x.natAbs y.natAbs : Nat) : Int) := rfl
  generalize ((Nat.gcd x.natAbs y.natAbs : Nat) : Int) = g at *
  walk_at "qs"
  refine row_first x y s _ _ hxy (fun r hr => ?_)
  generalize (if x ≠ 0 then x else y) = z at *
  walk_at "qs"
  have sh : ∀ l : List Int, l.length < 5 → SeqAt.shaped (.list (.int z :: l.map .int)) = true := by
    intro l hl
    match l with
    | [] => rfl
    | [_] => rfl
    | [_, _] => rfl
    | [_, _, _] => rfl
    | [_, _, _, _] => rfl
  have hnb := nrmD_bd hxy hb1 hb2
  refine ⟨sh r hr, rfl, ?_⟩
  rw [if_neg (by rw [show (PyData.list (PyData.int z :: List.map PyData.int r)).eqv (PyData.list []) = false from rfl]; decide)]
  have hq' : AQ (AV.d (PyData.list [PyData.int (x.fdiv (nrmD x y)), PyData.int (y.fdiv (nrmD x y))])) s := hq
  by_cases hz : 0 < z
  · rw [if_pos hz]
    rw [hn, if_pos hz] at hg hq' hnb
    exact row_last x y s _ g _ (fun _ => ⟨hg, hnb.log_lt (by decide)⟩) hq'
  · rw [if_neg hz]
    rw [hn, if_neg hz] at hg hq' hnb
    exact row_last x y s _ (-g) _ (fun _ => ⟨hg, hnb.log_lt (by decide)⟩) hq'
def N_kept_column : List Str := ["table", "p", "q", "r", "s", "half", "column"]
def t_kept_column : ATS := (aSeq (aAsg (aVar 0) (aGTup 4 (aGCons (aGName 1) (aGCons (aGName 2) (aGCons (aGName 3) (aGCons (aGName 4) aGNil))))))
    (aSeq (aSet 5 (aBin aFdiv (aBin aAdd (aVar 1) (aVar 4)) (aC (.int 2))))
    (aSeq (aSet 6 (aIf (aOr (aTest (aBin aNe (aVar 2) (aC (.int 0)))) (aTest (aBin aNe (aVar 5) (aVar 1)))) (aTup (aCons (aVar 2) (aCons (aBin aSub (aVar 5) (aVar 1)) aNil))) (aTup (aCons (aBin aSub (aVar 5) (aVar 4)) (aCons (aVar 3) aNil)))))
    (aRet (aCall bTuple (aCons (aFn 1 fn_least_row (aCons (aVar 6) aNil)) aNil))))))
/-- the column, not brought to least form, that a table of the trace 2 e keeps -/
def rawC (e : Int) (t : T4) : Int × Int := if t.2.1 ≠ 0 ∨ e ≠ t.1 then (t.2.1, e - t.1) else (e - t.2.2.2, t.2.2.1)
def colC (t : T4) : Int × Int := nrm (rawC ((t.1 + t.2.2.2).fdiv 2) t)
def fn_kept_column : AFn := fun avs s Q => ∃ t : T4, avs = [.d (tbD t)] ∧ Bt 1000 t ∧ ¬((rawC ((t.1 + t.2.2.2).fdiv 2) t).1 = 0 ∧ (rawC ((t.1 + t.2.2.2).fdiv 2) t).2 = 0) ∧ Q (.d (clD (colC t))) s
theorem h_kept_column : ∀ avs s AQ, fn_kept_column avs s AQ → t_kept_column (endsA AQ) ⟨startA N_kept_column avs, ⟨s, []⟩⟩ := by
  rintro _ s AQ ⟨⟨p, q, r, v⟩, rfl, ⟨h1, h2, h3, h4⟩, h0, hq⟩
  show t_kept_column (endsA AQ) ⟨[some (.d (.tuple [.int p, .int q, .int r, .int v])), none, none, none, none, none, none], ⟨s, []⟩⟩
  have ef : (p + v).fdiv 2 = (p + v) / 2 := Int.fdiv_eq_ediv_of_nonneg _ (by decide)
  have hb : Bd 1001 ((p + v) / 2) := by
    have := h1.add h4
    unfold Bd at *
    simp only [] at this
    omega
  unfold colC at hq
  unfold rawC at h0 hq
  simp only [ef] at h0 hq
  unfold t_kept_column
  walk_at "qs"
  refine ⟨.inl ⟨by decide, by decide⟩, ?_⟩
  generalize (p + v) / 2 = e at *
  by_cases c : q = 0
  · by_cases c2 : e = p
    · have hc : ¬(q ≠ 0 ∨ e ≠ p) := by omega
      rw [if_neg hc] at h0 hq
      rw [if_neg (by simpa using c), if_neg (by simpa using c2)]
      exact ⟨_, _, rfl, h0, ⟨(hb.sub' h4).le (by decide), h3.le (by decide)⟩, hq⟩
    · have hc : q ≠ 0 ∨ e ≠ p := by omega
      rw [if_pos hc] at h0 hq
      rw [if_neg (by simpa using c), if_pos c2]
      exact ⟨_, _, rfl, h0, ⟨h2.le (by decide), (hb.sub' h1).le (by decide)⟩, hq⟩
  · have hc : q ≠ 0 ∨ e ≠ p := by omega
    rw [if_pos hc] at h0 hq
    rw [if_pos c]
    exact ⟨_, _, rfl, h0, ⟨h2.le (by decide), (hb.sub' h1).le (by decide)⟩, hq⟩
/-! ### tables of determinant 1: lines in common -/
theorem det_mul (t u : T4) : detT (mulT t u) = detT t * detT u := by
  obtain ⟨p, q, r, s⟩ := t; obtain ⟨e, f, g, h⟩ := u
  simp only [detT, mulT]; grind
theorem k_comm (t u : T4) (h1 : detT t = 1) (h2 : detT u = 1) : trT (mulT (mulT t u) (invT (mulT u t))) = kT3 (trM t u) := by
  obtain ⟨p, q, r, s⟩ := t; obtain ⟨e, f, g, h⟩ := u
  simp only [detT] at h1 h2
  simp only [kT3, trM, mulT, trT, invT]; grind
theorem k_det (p q r s e f g h : Int) (h1 : p * s - q * r = 1) (h2 : e * h - f * g = 1) :
    kT3 (trM (p, q, r, s) (e, f, g, h)) - 2 = (q * g - r * f) * (q * g - r * f) + ((p - s) * f - (e - h) * q) * ((e - h) * r - (p - s) * g) := by
  simp only [kT3, trM, mulT, trT]
  grind
/-- the number that tells whether a column is kept: 0 -/
def wT (t : T4) (u v : Int) : Int := t.2.1 * v * v + (t.1 - t.2.2.2) * (u * v) - t.2.2.1 * u * u
theorem kept_iff (t : T4) (u v : Int) : keptT t (u, v) = true ↔ wT t u v = 0 := by
  obtain ⟨p, q, r, s⟩ := t
  simp only [keptT, wT, decide_eq_true_eq]
  constructor <;> intro h <;> grind

theorem mz {a b : Int} (h : a * b = 0) (hb : b ≠ 0) : a = 0 := (Int.mul_eq_zero.mp h).resolve_right hb
theorem mz' {a b : Int} (h : a * b = 0) (hb : a ≠ 0) : b = 0 := (Int.mul_eq_zero.mp h).resolve_left hb
theorem res_zero (a b c a' b' c' x y : Int) (hx : ¬(x = 0 ∧ y = 0)) (k1 : b * y * y + a * (x * y) - c * x * x = 0) (k2 : b' * y * y + a' * (x * y) - c' * x * x = 0) :
    (b * c' - c * b') * (b * c' - c * b') + (a * b' - a' * b) * (a' * c - a * c') = 0 := by
  have e1 : x * ((a * b' - a' * b) * y + (b * c' - c * b') * x) = 0 := by grind
  have e2 : y * ((b * c' - c * b') * y - (a' * c - a * c') * x) = 0 := by grind
  rcases Int.mul_eq_zero.mp e1 with h1 | h1
  · subst h1
    have hy : y ≠ 0 := fun h => hx ⟨rfl, h⟩
    have b0 : b = 0 := by
      have : b * (y * y) = 0 := by grind
      exact mz this (fun h => hy ((Int.mul_eq_zero.mp h).elim id id))
    have b1 : b' = 0 := by
      have : b' * (y * y) = 0 := by grind
      exact mz this (fun h => hy ((Int.mul_eq_zero.mp h).elim id id))
    subst b0 b1; grind
  · rcases Int.mul_eq_zero.mp e2 with h2 | h2
    · subst h2
      have hy : x ≠ 0 := fun h => hx ⟨h, rfl⟩
      have b0 : c = 0 := by
        have : c * (x * x) = 0 := by grind
        exact mz this (fun h => hy ((Int.mul_eq_zero.mp h).elim id id))
      have b1 : c' = 0 := by
        have : c' * (x * x) = 0 := by grind
        exact mz this (fun h => hy ((Int.mul_eq_zero.mp h).elim id id))
      subst b0 b1; grind
    · generalize hL : a * b' - a' * b = L at h1 ⊢
      generalize hM : b * c' - c * b' = M at h1 h2 ⊢
      generalize hN : a' * c - a * c' = N at h2 ⊢
      clear k1 k2 e1 e2 hL hM hN
      by_cases h0 : x = 0
      · subst h0
        have hy : y ≠ 0 := fun h => hx ⟨rfl, h⟩
        have l0 : L = 0 := by
          have : L * y = 0 := by grind
          exact mz this hy
        have m0 : M = 0 := by
          have : M * y = 0 := by grind
          exact mz this hy
        subst l0 m0; simp
      · have : x * (M * M + L * N) = 0 := by
          have a1 : M * x = - (L * y) := by omega
          have a2 : N * x = M * y := by omega
          have : x * (M * M + L * N) = M * (M * x) + L * (N * x) := by grind
          rw [this, a1, a2]; grind
        exact mz' this h0
/-- both keep a column that is not 0: k is 2 -/
theorem kept_k {t u : T4} (h1 : detT t = 1) (h2 : detT u = 1) {x y : Int} (hx : ¬(x = 0 ∧ y = 0)) (k1 : wT t x y = 0) (k2 : wT u x y = 0) : kT3 (trM t u) = 2 := by
  obtain ⟨p, q, r, s⟩ := t; obtain ⟨e, f, g, h⟩ := u
  simp only [wT] at k1 k2
  simp only [detT] at h1 h2
  have hd := k_det p q r s e f g h h1 h2
  have hr := res_zero (p - s) q r (e - h) f g x y hx k1 k2
  omega
/-- the column of a table of the trace 2 or -2 -/
theorem one_col {p q r s : Int} {e : Int} (he : e = 1 ∨ e = -1) (hd : p * s - q * r = 1) (ht : p + s = 2 * e) : (p - e) * (p - e) = -(q * r) ∧ s - e = -(p - e) := by
  have : s = 2 * e - p := by omega
  subst this
  rcases he with rfl | rfl
  · constructor
    · grind
    · omega
  · constructor
    · grind
    · omega
theorem sq_zero {x : Int} (h : x * x = 0) : x = 0 := (Int.mul_eq_zero.mp h).elim id id
theorem sq_of_sq {n L Z : Int} (hL : L ≠ 0) (h : n * (L * L) = Z * Z) : ∃ w, n = w * w := by
  have h1 : L.natAbs * L.natAbs ∣ Z.natAbs * Z.natAbs := by
    rw [← Int.natAbs_mul, ← Int.natAbs_mul, ← h, Int.natAbs_mul]
    exact Int.natAbs_mul L L ▸ (by rw [Int.natAbs_mul n]; exact Nat.dvd_mul_left _ _)
  have h2 : L.natAbs ∣ Z.natAbs := by
    have : L.natAbs ^ 2 ∣ Z.natAbs ^ 2 := by rw [Nat.pow_two, Nat.pow_two]; exact h1
    exact (Nat.pow_dvd_pow_iff (by decide)).mp this
  obtain ⟨w, hw⟩ := Int.natAbs_dvd_natAbs.mp h2
  refine ⟨w, ?_⟩
  subst hw
  have : (n - w * w) * (L * L) = 0 := by grind
  have := mz this (fun h => hL (sq_zero h))
  omega
theorem disc_sq {t w : Int} (h : t * t - 4 = w * w) : t * t - 4 = 0 := by
  have h1 : t.natAbs * t.natAbs = w.natAbs * w.natAbs + 4 := by
    have a1 : ((t.natAbs * t.natAbs : Nat) : Int) = t * t := Int.natAbs_mul_self
    have a2 : ((w.natAbs * w.natAbs : Nat) : Int) = w * w := Int.natAbs_mul_self
    omega
  have h2 : w.natAbs < t.natAbs := by
    rcases Nat.lt_or_ge w.natAbs t.natAbs with h | h
    · exact h
    · have := Nat.mul_le_mul h h; omega
  obtain ⟨k, hk⟩ : ∃ k, t.natAbs = w.natAbs + 1 + k := ⟨t.natAbs - w.natAbs - 1, by omega⟩
  rw [hk] at h1
  have h3 : w.natAbs * (2 * k + 2) + (k + 1) * (k + 1) = 4 := by grind
  have h4 : k ≤ 1 := by
    rcases Nat.lt_or_ge k 2 with h | h
    · omega
    · have : 3 * 3 ≤ (k + 1) * (k + 1) := Nat.mul_le_mul (by omega) (by omega)
      omega
  have hw0 : w.natAbs = 0 := by
    rcases (by omega : k = 0 ∨ k = 1) with rfl | rfl <;> omega
  have : w = 0 := by omega
  subst this; omega
/-- of k 2, and a table of another trace than 2 and -2: both exchange -/
theorem root_comm {t u : T4} (h1 : detT t = 1) (h2 : detT u = 1) (hk : kT3 (trM t u) = 2) (hn : trT t * trT t - 4 ≠ 0) : mulT t u = mulT u t := by
  obtain ⟨p, q, r, s⟩ := t; obtain ⟨e, f, g, h⟩ := u
  simp only [detT] at h1 h2
  simp only [trT] at hn
  have hd := k_det p q r s e f g h h1 h2
  rw [hk] at hd
  have ht : (p - s) * (q * g - r * f) + q * ((e - h) * r - (p - s) * g) + r * ((p - s) * f - (e - h) * q) = 0 := by grind
  have hdisc : (p + s) * (p + s) - 4 = (p - s) * (p - s) + 4 * (q * r) := by grind
  rw [hdisc] at hn
  have key : q * g - r * f = 0 ∧ (p - s) * f - (e - h) * q = 0 ∧ (e - h) * r - (p - s) * g = 0 := by
    generalize hM : q * g - r * f = M at *
    generalize hL : (p - s) * f - (e - h) * q = L at *
    generalize hN : (e - h) * r - (p - s) * g = N at *
    have hsq : ∀ Z n : Int, n ≠ 0 → ((p - s) * (p - s) + 4 * (q * r)) * (n * n) = Z * Z → False := by
      intro Z n h0 h
      obtain ⟨w, hw⟩ := sq_of_sq h0 h
      exact hn (by have := disc_sq (t := p + s) (w := w) (by omega); omega)
    clear hM hL hN hdisc hk h1 h2
    have l0 : L = 0 := Classical.byContradiction fun h0 => hsq (2 * q * M - (p - s) * L) L h0 (by grind)
    have n0 : N = 0 := Classical.byContradiction fun h0 => hsq (2 * r * M - (p - s) * N) N h0 (by grind)
    subst l0 n0
    exact ⟨sq_zero (by omega), rfl, rfl⟩
  obtain ⟨m0, l0, n0⟩ := key
  simp only [mulT]
  refine Prod.ext ?_ (Prod.ext ?_ (Prod.ext ?_ ?_)) <;> simp only [] <;> grind
def isE (t : T4) : Bool := decide (t = (1, 0, 0, 1) ∨ t = (-1, 0, 0, -1))
theorem raw_ne {t : T4} {e : Int} (he : e = 1 ∨ e = -1) (h1 : detT t = 1) (ht : trT t = 2 * e) (hE : isE t = false) : ¬((rawC e t).1 = 0 ∧ (rawC e t).2 = 0) := by
  obtain ⟨p, q, r, s⟩ := t
  simp only [rawC]
  simp only [trT] at ht
  simp only [isE, decide_eq_false_iff_not] at hE
  split
  · rintro ⟨h, h'⟩; omega
  · rintro ⟨h, h'⟩
    simp only [] at h h'
    apply hE
    rcases he with rfl | rfl
    · left; simp only [Prod.mk.injEq]; omega
    · right; simp only [Prod.mk.injEq]; omega
theorem raw_kept {t : T4} {e : Int} (he : e = 1 ∨ e = -1) (h1 : detT t = 1) (ht : trT t = 2 * e) : wT t (rawC e t).1 (rawC e t).2 = 0 := by
  obtain ⟨p, q, r, s⟩ := t
  simp only [detT] at h1
  simp only [trT] at ht
  obtain ⟨o1, o2⟩ := one_col he h1 ht
  simp only [rawC]
  split
  · simp only [wT]; grind
  · rename_i hc
    have : q = 0 := by omega
    have : p = e := by omega
    simp only [wT]
    grind
theorem raw_other {t u : T4} {e : Int} (he : e = 1 ∨ e = -1) (h1 : detT t = 1) (h2 : detT u = 1) (hk : kT3 (trM t u) = 2) (ht : trT t = 2 * e) : wT u (rawC e t).1 (rawC e t).2 = 0 := by
  obtain ⟨p, q, r, s⟩ := t; obtain ⟨e', f, g, h⟩ := u
  simp only [detT] at h1 h2
  simp only [trT] at ht
  have hd := k_det p q r s e' f g h h1 h2
  rw [hk] at hd
  obtain ⟨o1, o2⟩ := one_col he h1 ht
  have e1 : (f * r + (e' - h) * (p - e) + g * q) * (f * r + (e' - h) * (p - e) + g * q) = 0 := by
    clear hk h1 h2
    have o3 : p - s = 2 * (p - e) := by omega
    rw [o3] at hd
    generalize p - e = a at *
    generalize e' - h = d at *
    clear o2 o3 ht
    grind
  have e2 := sq_zero e1
  clear e1 hk hd h2
  simp only [rawC]
  split
  · simp only [wT]; grind
  · rename_i hc
    have : q = 0 := by omega
    have : p = e := by omega
    simp only [wT]
    grind
theorem raw_only {t : T4} {e : Int} (he : e = 1 ∨ e = -1) (h1 : detT t = 1) (ht : trT t = 2 * e) (hE : isE t = false) {x y : Int} (hw : wT t x y = 0) : (rawC e t).1 * y = (rawC e t).2 * x := by
  have hne := raw_ne he h1 ht hE
  obtain ⟨p, q, r, s⟩ := t
  simp only [detT] at h1
  simp only [trT] at ht
  obtain ⟨o1, o2⟩ := one_col he h1 ht
  simp only [rawC] at hne ⊢
  simp only [wT] at hw
  split
  · rename_i hc
    rw [if_pos hc] at hne
    simp only [] at hne ⊢
    by_cases hq : q = 0
    · subst hq
      have : (p - e) * (p - e) = 0 := by omega
      have := sq_zero this
      omega
    · have e1 : (q * y + (p - e) * x) * (q * y + (p - e) * x) = 0 := by
        clear h1 hc hne
        have : p - s = 2 * (p - e) := by omega
        rw [this] at hw
        generalize p - e = a at *
        grind
      have := sq_zero e1
      grind
  · rename_i hc
    rw [if_neg hc] at hne
    simp only [] at hne ⊢
    have hq : q = 0 := by omega
    have hp : p = e := by omega
    have hs : s = e := by omega
    subst hq hp hs
    have : r ≠ 0 := by omega
    have : r * (x * x) = 0 := by grind
    have := sq_zero (mz' this ‹_›)
    subst this
    simp
theorem nrm_mul {x y : Int} (h : ¬(x = 0 ∧ y = 0)) : x = nrmD x y * (nrm (x, y)).1 ∧ y = nrmD x y * (nrm (x, y)).2 := by
  have h0 := nrmD_ne h
  have d : ∀ z : Int, ((Nat.gcd x.natAbs y.natAbs : Nat) : Int) ∣ z → nrmD x y * z.fdiv (nrmD x y) = z := by
    intro z hz
    have : nrmD x y ∣ z := by
      unfold nrmD
      by_cases hc : (if x ≠ 0 then x else y) > 0
      · rw [if_pos hc]; exact hz
      · rw [if_neg hc]; exact Int.neg_dvd.mpr hz
    exact Int.mul_fdiv_cancel' this
  exact ⟨(d x (Int.ofNat_dvd_left.mpr (Nat.gcd_dvd_left _ _))).symm, (d y (Int.ofNat_dvd_left.mpr (Nat.gcd_dvd_right _ _))).symm⟩
theorem nrmD_neg {x y : Int} (h : ¬(x = 0 ∧ y = 0)) : nrmD (-x) (-y) = - nrmD x y := by
  unfold nrmD
  rw [Int.natAbs_neg, Int.natAbs_neg]
  by_cases hx : x = 0
  · subst hx
    simp only [Int.neg_zero, ne_eq, not_true_eq_false, if_false]
    split <;> split <;> omega
  · have hx' : ¬ -x = 0 := by omega
    simp only [ne_eq, hx, hx', not_false_eq_true, if_true]
    split <;> split <;> omega
theorem nrm_neg (x y : Int) (h : ¬(x = 0 ∧ y = 0)) : nrm (-x, -y) = nrm (x, y) := by
  unfold nrm
  simp only [nrmD_neg h, Int.neg_fdiv_neg]
theorem nrm_w {t : T4} {c : Int × Int} (h : ¬(c.1 = 0 ∧ c.2 = 0)) (hw : wT t c.1 c.2 = 0) : wT t (nrm c).1 (nrm c).2 = 0 := by
  obtain ⟨x, y⟩ := c
  obtain ⟨e1, e2⟩ := nrm_mul h
  have h0 := nrmD_ne h
  generalize nrmD x y = n at *
  generalize nrm (x, y) = c at *
  obtain ⟨u, v⟩ := c
  simp only [wT] at hw ⊢
  simp only [] at e1 e2
  subst e1 e2
  have : (t.2.1 * v * v + (t.1 - t.2.2.2) * (u * v) - t.2.2.1 * u * u) * (n * n) = 0 := by grind
  exact mz this (fun h => h0 (sq_zero h))
theorem nrm_only {c : Int × Int} (h : ¬(c.1 = 0 ∧ c.2 = 0)) {x y : Int} (he : c.1 * y = c.2 * x) : (nrm c).1 * y = (nrm c).2 * x := by
  obtain ⟨u, v⟩ := c
  obtain ⟨e1, e2⟩ := nrm_mul h
  have h0 := nrmD_ne h
  simp only [] at he e1 e2 h0
  generalize nrm (u, v) = c at *
  obtain ⟨u', v'⟩ := c
  simp only [] at e1 e2 ⊢
  generalize nrmD u v = n at *
  have : n * (u' * y - v' * x) = 0 := by subst e1 e2; clear h; grind
  have := mz' this h0
  omega
def rawL (e : Int) (t : T4) : Int × Int := if (t.1 - e, t.2.1) ≠ ((0, 0) : Int × Int) then (0 - t.2.1, t.1 - e) else (0 - (t.2.2.2 - e), t.2.2.1)
def sgT (t : T4) : Int := if t.1 + t.2.2.2 > 0 then 1 else -1
def colL (t : T4) : Int × Int := nrm (rawL (sgT t) t)
theorem tr_two {t : T4} (h : trT t * trT t - 4 = 0) : trT t = 2 * sgT t ∧ (t.1 + t.2.2.2).fdiv 2 = sgT t ∧ (sgT t = 1 ∨ sgT t = -1) := by
  obtain ⟨p, q, r, s⟩ := t
  simp only [trT, sgT] at *
  have : (p + s - 2) * (p + s + 2) = 0 := by grind
  rcases Int.mul_eq_zero.mp this with h | h
  · have : p + s = 2 := by omega
    rw [this]; decide
  · have : p + s = -2 := by omega
    rw [this]; decide
theorem col_eq {t : T4} (h1 : detT t = 1) (h : trT t * trT t - 4 = 0) (hE : isE t = false) : colC t = colL t := by
  obtain ⟨a, b, c⟩ := tr_two h
  have hne := raw_ne c h1 a hE
  unfold colC colL
  rw [b]
  generalize sgT t = e at *
  obtain ⟨p, q, r, s⟩ := t
  simp only [rawC, rawL] at hne ⊢
  by_cases hc : q ≠ 0 ∨ e ≠ p
  · have hc' : ¬ ((p - e, q) = ((0, 0) : Int × Int)) := by simp only [Prod.mk.injEq]; omega
    rw [if_pos hc] at hne
    rw [if_pos hc, if_pos hc']
    simp only [] at hne
    have := nrm_neg q (e - p) hne
    rw [← this]
    congr 2 <;> omega
  · have hc' : ((p - e, q) = ((0, 0) : Int × Int)) := by simp only [Prod.mk.injEq]; omega
    rw [if_neg hc, if_neg (by simpa using hc')]
    congr 2; omega
/-- what is told of the lines in common -/
inductive Told where
  | none | every | one (c : Int × Int) | root (n : Int)
def lineOf (col : T4 → Int × Int) (t : T4) : Told := if trT t * trT t - 4 = 0 then .one (col t) else .root (trT t * trT t - 4)
def LTg (col : T4 → Int × Int) (t u : T4) : Told := if kT3 (trM t u) ≠ 2 then .none else if isE t = false then lineOf col t else if isE u = false then lineOf col u else .every
theorem LT_eq {t u : T4} (h1 : detT t = 1) (h2 : detT u = 1) : LTg colC t u = LTg colL t u := by
  unfold LTg
  split
  · rfl
  · split
    · rename_i hE
      unfold lineOf
      split
      · rw [col_eq h1 ‹_› hE]
      · rfl
    · split
      · rename_i hE
        unfold lineOf
        split
        · rw [col_eq h2 ‹_› hE]
        · rfl
      · rfl
theorem k_swap (t u : T4) : kT3 (trM u t) = kT3 (trM t u) := by
  obtain ⟨p, q, r, s⟩ := t; obtain ⟨e, f, g, h⟩ := u
  simp only [kT3, trM, trT, mulT]; grind
/-- both keep the told column -/
theorem col_kept {t u : T4} (h1 : detT t = 1) (h2 : detT u = 1) (hk : kT3 (trM t u) = 2) (h : trT t * trT t - 4 = 0) (hE : isE t = false) : wT t (colC t).1 (colC t).2 = 0 ∧ wT u (colC t).1 (colC t).2 = 0 := by
  obtain ⟨a, b, c⟩ := tr_two h
  unfold colC
  rw [b]
  have hne := raw_ne c h1 a hE
  exact ⟨nrm_w hne (raw_kept c h1 a), nrm_w hne (raw_other c h1 h2 hk a)⟩
theorem col_only {t : T4} (h1 : detT t = 1) (h : trT t * trT t - 4 = 0) (hE : isE t = false) {x y : Int} (hw : wT t x y = 0) : (colC t).1 * y = (colC t).2 * x := by
  obtain ⟨a, b, c⟩ := tr_two h
  unfold colC
  rw [b]
  exact nrm_only (raw_ne c h1 a hE) (raw_only c h1 a hE hw)
theorem LT_one {t u : T4} (h1 : detT t = 1) (h2 : detT u = 1) {c : Int × Int} (h : LTg colC t u = .one c) : (wT t c.1 c.2 = 0 ∧ wT u c.1 c.2 = 0) ∧ ∀ x y, wT t x y = 0 → wT u x y = 0 → c.1 * y = c.2 * x := by
  unfold LTg at h
  split at h
  · exact nomatch h
  · rename_i hk
    have hk : kT3 (trM t u) = 2 := by omega
    split at h
    · rename_i hE
      unfold lineOf at h
      split at h
      · cases h
        exact ⟨col_kept h1 h2 hk ‹_› hE, fun x y w _ => col_only h1 ‹_› hE w⟩
      · exact nomatch h
    · split at h
      · rename_i hE
        unfold lineOf at h
        split at h
        · cases h
          exact ⟨(col_kept h2 h1 ((k_swap t u).trans hk) ‹_› hE).symm, fun x y _ w => col_only h2 ‹_› hE w⟩
        · exact nomatch h
      · exact nomatch h
theorem LT_root {t u : T4} (h1 : detT t = 1) (h2 : detT u = 1) {n : Int} (h : LTg colC t u = .root n) : mulT t u = mulT u t := by
  unfold LTg at h
  split at h
  · exact nomatch h
  · rename_i hk
    have hk : kT3 (trM t u) = 2 := by omega
    split at h
    · unfold lineOf at h
      split at h
      · exact nomatch h
      · exact root_comm h1 h2 hk ‹_›
    · split at h
      · unfold lineOf at h
        split at h
        · exact nomatch h
        · exact (root_comm h2 h1 ((k_swap t u).trans hk) ‹_›).symm
      · exact nomatch h
theorem LT_none {t u : T4} (h1 : detT t = 1) (h2 : detT u = 1) (h : LTg colC t u = .none) {x y : Int} (hx : ¬(x = 0 ∧ y = 0)) (w1 : wT t x y = 0) (w2 : wT u x y = 0) : False := by
  have := kept_k h1 h2 hx w1 w2
  unfold LTg at h
  rw [if_neg (by omega)] at h
  split at h
  · unfold lineOf at h; split at h <;> exact nomatch h
  · split at h
    · unfold lineOf at h; split at h <;> exact nomatch h
    · exact nomatch h
/-! ### led pairs -/
theorem led_tr {l : T4} (hl : detT l = 1) (t : T4) : trT (ledT l t) = trT t := by
  obtain ⟨p, q, r, s⟩ := t; obtain ⟨e, f, g, h⟩ := l
  simp only [detT] at hl
  simp only [ledT, mulT, invT, trT]; grind
theorem mul_ass (a b c : T4) : mulT (mulT a b) c = mulT a (mulT b c) := by
  obtain ⟨p, q, r, s⟩ := a; obtain ⟨e, f, g, h⟩ := b; obtain ⟨i, j, k, l⟩ := c
  simp only [mulT]
  refine Prod.ext ?_ (Prod.ext ?_ (Prod.ext ?_ ?_)) <;> simp only [] <;> grind
theorem inv_mul {l : T4} (hl : detT l = 1) : mulT (invT l) l = (1, 0, 0, 1) := by
  obtain ⟨e, f, g, h⟩ := l
  simp only [detT] at hl
  simp only [mulT, invT]
  refine Prod.ext ?_ (Prod.ext ?_ (Prod.ext ?_ ?_)) <;> simp only [] <;> grind
theorem mul_inv {l : T4} (hl : detT l = 1) : mulT l (invT l) = (1, 0, 0, 1) := by
  obtain ⟨e, f, g, h⟩ := l
  simp only [detT] at hl
  simp only [mulT, invT]
  refine Prod.ext ?_ (Prod.ext ?_ (Prod.ext ?_ ?_)) <;> simp only [] <;> grind
theorem mul_one' (a : T4) : mulT a (1, 0, 0, 1) = a := by
  obtain ⟨p, q, r, s⟩ := a
  simp only [mulT]
  refine Prod.ext ?_ (Prod.ext ?_ (Prod.ext ?_ ?_)) <;> simp only [] <;> omega
theorem one_mul' (a : T4) : mulT (1, 0, 0, 1) a = a := by
  obtain ⟨p, q, r, s⟩ := a
  simp only [mulT]
  refine Prod.ext ?_ (Prod.ext ?_ (Prod.ext ?_ ?_)) <;> simp only [] <;> omega
theorem led_mul {l : T4} (hl : detT l = 1) (t u : T4) : mulT (ledT l t) (ledT l u) = ledT l (mulT t u) := by
  unfold ledT
  rw [mul_ass (mulT l t) (invT l), ← mul_ass (invT l) (mulT l u), ← mul_ass (invT l) l u, inv_mul hl, one_mul', ← mul_ass (mulT l t) u, mul_ass l t u]
theorem led_k {l : T4} (hl : detT l = 1) (t u : T4) : trM (ledT l t) (ledT l u) = trM t u := by
  unfold trM
  rw [led_mul hl, led_tr hl, led_tr hl, led_tr hl]
theorem led_back {l : T4} (hl : detT l = 1) (t : T4) : mulT (mulT (invT l) (ledT l t)) l = t := by
  unfold ledT
  rw [mul_ass l t, ← mul_ass (invT l) l, inv_mul hl, one_mul', mul_ass t, inv_mul hl, mul_one']
theorem led_isE {l : T4} (hl : detT l = 1) (t : T4) : isE (ledT l t) = isE t := by
  have sc : ∀ (e : Int) (m : T4), mulT (mulT m (e, 0, 0, e)) (invT m) = (e * detT m, 0, 0, e * detT m) := by
    rintro e ⟨a, b, c, d⟩
    simp only [mulT, invT, detT]
    refine Prod.ext ?_ (Prod.ext ?_ (Prod.ext ?_ ?_)) <;> simp only [] <;> grind
  have sc2 : ∀ (e : Int), mulT (mulT (invT l) (e, 0, 0, e)) l = (e, 0, 0, e) := by
    intro e
    have hi : detT (invT l) = 1 := by
      obtain ⟨a, b, c, d⟩ := l
      simp only [detT] at hl
      simp only [invT, detT]; grind
    have hii : invT (invT l) = l := by
      obtain ⟨a, b, c, d⟩ := l
      simp only [invT, Int.neg_neg]
    have := sc e (invT l)
    rw [hi, hii, Int.mul_one] at this
    exact this
  have hb := led_back hl t
  have h1 : ∀ e : Int, ledT l t = (e, 0, 0, e) ↔ t = (e, 0, 0, e) := by
    intro e
    constructor
    · intro h
      rw [h, sc2] at hb
      exact hb.symm
    · rintro rfl
      unfold ledT
      rw [sc, hl, Int.mul_one]
  have e1 := h1 1
  have e2 := h1 (-1)
  unfold isE
  simp only [e1, e2]
theorem LT_led {l : T4} (hl : detT l = 1) (t u : T4) : (LTg colC t u = .none → LTg colC (ledT l t) (ledT l u) = .none) ∧ (LTg colC t u = .every → LTg colC (ledT l t) (ledT l u) = .every) ∧ (∀ c, LTg colC t u = .one c → ∃ c', LTg colC (ledT l t) (ledT l u) = .one c') ∧ (∀ n, LTg colC t u = .root n → LTg colC (ledT l t) (ledT l u) = .root n) := by
  unfold LTg
  rw [led_k hl, led_isE hl, led_isE hl]
  unfold lineOf
  rw [led_tr hl, led_tr hl]
  refine ⟨?_, ?_, ?_, ?_⟩
  · split
    · exact fun h => h
    · split
      · split <;> exact fun h => nomatch h
      · split
        · split <;> exact fun h => nomatch h
        · exact fun h => h
  · split
    · exact fun h => h
    · split
      · split <;> exact fun h => nomatch h
      · split
        · split <;> exact fun h => nomatch h
        · exact fun h => h
  · intro c
    split
    · exact fun h => nomatch h
    · split
      · split
        · exact fun h => ⟨_, rfl⟩
        · exact fun h => nomatch h
      · split
        · split
          · exact fun h => ⟨_, rfl⟩
          · exact fun h => nomatch h
        · exact fun h => nomatch h
  · intro c
    split
    · exact fun h => nomatch h
    · split
      · split
        · exact fun h => nomatch h
        · exact fun h => h
      · split
        · split
          · exact fun h => nomatch h
          · exact fun h => h
        · exact fun h => nomatch h
def N_line_told : List Str := ["pair", "some", "square", "table"]
def lt_line_told_1 : ATT := (aTest (aBin aNinT (aVar 3) (aC (.tuple [.tuple [.int 1, .int 0, .int 0, .int 1], .tuple [.int (-1), .int 0, .int 0, .int (-1)]]))))
def le_line_told_2 : ATE := (aVar 3)
def t_line_told : ATS := (aSeq (aIfS (aTest (aBin aNe (aFn 1 fn_k_of (aCons (aFn 1 fn_traced (aCons (aVar 0) aNil)) aNil)) (aC (.int 2)))) (aRet (aTup (aCons (aC (.str "none")) aNil))) aNext)
    (aSeq (aSet 1 (aLc (aItT (aVar 0)) (aGName 3) lt_line_told_1 le_line_told_2 [3]))
    (aSeq (aIfS (aTest (aBin aEq (aVar 1) (aLst aNil))) (aRet (aTup (aCons (aC (.str "every")) aNil))) aNext)
    (aSeq (aSet 2 (aBin aSub (aBin aMul (aFn 1 fn_trace_of_pairtables (aCons (aBin aIx (aVar 1) (aC (.int 0))) aNil)) (aFn 1 fn_trace_of_pairtables (aCons (aBin aIx (aVar 1) (aC (.int 0))) aNil))) (aC (.int 4))))
    (aRet (aIf (aTest (aBin aEq (aVar 2) (aC (.int 0)))) (aTup (aCons (aC (.str "one")) (aCons (aFn 1 fn_kept_column (aCons (aBin aIx (aVar 1) (aC (.int 0))) aNil)) aNil))) (aTup (aCons (aC (.str "root")) (aCons (aVar 2) aNil)))))))))
def toldD : Told → D
  | .none => .tuple [.str "none"]
  | .every => .tuple [.str "every"]
  | .one c => .tuple [.str "one", clD c]
  | .root n => .tuple [.str "root", .int n]
theorem eqv_i (i j : Int) : PyData.eqv (.int i) (.int j) = decide (i = j) := by simp [PyData.eqv, Bool.beq_eq_decide_eq]
theorem eqv_tb (t u : T4) : PyData.eqv (tbD t) (tbD u) = decide (t = u) := by
  obtain ⟨a, b, c, d⟩ := t; obtain ⟨e, f, g, h⟩ := u
  simp only [tbD, PyData.eqv, PyData.eqvAll, Bool.beq_eq_decide_eq, Prod.mk.injEq]
  by_cases h1 : a = e <;> by_cases h2 : b = f <;> by_cases h3 : c = g <;> by_cases h4 : d = h <;> simp [h1, h2, h3, h4]
theorem each_any (t : T4) : ([tbD (1, 0, 0, 1), tbD (-1, 0, 0, -1)].any fun z => PyData.eqv z (tbD t)) = isE t := by
  simp only [List.any_cons, List.any_nil, eqv_tb, isE, Bool.or_false]
  by_cases h1 : t = (1, 0, 0, 1)
  · subst h1; decide
  · by_cases h2 : t = (-1, 0, 0, -1)
    · subst h2; decide
    · have h1' : ¬ ((1, 0, 0, 1) : T4) = t := fun h => h1 h.symm
      have h2' : ¬ ((-1, 0, 0, -1) : T4) = t := fun h => h2 h.symm
      simp only [h1, h2, h1', h2', decide_false, or_self, Bool.or_self]
theorem shaped_tb (t : T4) : SeqAt.shaped (tbD t) = true := rfl
/-- the tables of a pair that are not 1 and not -1 -/
theorem some_cases (t u : T4) (K : List D → Prop) (h : K ((if isE t = true then [] else [tbD t]) ++ (if isE u = true then [] else [tbD u]))) :
    (isE t = false → isE u = false → K [tbD t, tbD u]) ∧ (isE t = false → isE u = true → K [tbD t]) ∧ (isE t = true → isE u = false → K [tbD u]) ∧ (isE t = true → isE u = true → K []) := by
  refine ⟨fun a b => ?_, fun a b => ?_, fun a b => ?_, fun a b => ?_⟩ <;> simpa [a, b] using h
theorem raw_ok {t : T4} (h1 : detT t = 1) (hE : isE t = false) (h : trT t * trT t - 4 = 0) : ¬((rawC ((t.1 + t.2.2.2).fdiv 2) t).1 = 0 ∧ (rawC ((t.1 + t.2.2.2).fdiv 2) t).2 = 0) := by
  obtain ⟨a, b, c⟩ := tr_two h
  rw [b]
  exact raw_ne c h1 a hE
def fn_line_told : AFn := fun avs s Q => ∃ t u : T4, avs = [.d (.tuple [tbD t, tbD u])] ∧ (Bt 500 t ∧ Bt 500 u) ∧ (detT t = 1 ∧ detT u = 1) ∧ Q (.d (toldD (LTg colC t u))) s
theorem line_st (x : D) (t : T4) (s : Option Src) (K : Option D → Mm → Prop) (h : K (if isE t = true then none else some (tbD t)) ⟨s, []⟩) : stepC (aGName 3) lt_line_told_1 le_line_told_2 [some (.d x), none, none, none] (tbD t) ⟨s, []⟩ K := by
  unfold stepC lt_line_told_1 le_line_told_2
  walk_at "qs"
  refine ⟨rfl, rfl, ?_⟩
  rw [show ([PyData.tuple [PyData.int 1, PyData.int 0, PyData.int 0, PyData.int 1], PyData.tuple [PyData.int (-1), PyData.int 0, PyData.int 0, PyData.int (-1)]].any fun z => PyData.eqv z (tbD t)) = isE t from each_any t]
  cases c : isE t
  · rw [c] at h; exact h
  · rw [c] at h; exact h
theorem h_line_told : ∀ avs s AQ, fn_line_told avs s AQ → t_line_told (endsA AQ) ⟨startA N_line_told avs, ⟨s, []⟩⟩ := by
  rintro _ s AQ ⟨t, u, rfl, ⟨b1, b2⟩, ⟨d1, d2⟩, hq⟩
  show t_line_told (endsA AQ) ⟨[some (.d (.tuple [tbD t, tbD u])), none, none, none], ⟨s, []⟩⟩
  unfold t_line_told
  rw [aSeq_ap, aIfS_ap]
  walk_at "qs"
  refine ⟨t, u, rfl, b1.le (by decide), b2.le (by decide), ?_⟩
  refine ⟨rfl, _, rfl, (Bt3.of b1 b2).le (by decide), ?_⟩
  unfold LTg at hq
  by_cases ck : kT3 (trM t u) = 2
  · have ck' : ¬ kT3 (trM t u) ≠ 2 := by omega
    rw [if_neg ck'] at hq
    simp only [ck, not_true_eq_false, if_false, decide_true, Bool.not_true, Bool.false_eq_true]
    refine aLcL_step (line_st _ t s _ ?_)
    cases et : isE t
    · rw [et] at hq
      rw [if_neg (by decide)]
      refine aLcL_step (line_st _ u s _ ?_)
      cases eu : isE u
      · rw [if_neg (by decide)]
        unfold aLcL
        refine ⟨rfl, rfl, ?_⟩
        rw [if_neg (by rw [show (PyData.list ([] ++ [tbD t] ++ [tbD u])).eqv (PyData.list []) = false from rfl]; decide)]
        have b1' : Bd 501 (trT t) := b1.1.add b1.2.2.2
        refine ⟨t, rfl, ?_⟩
        refine ⟨t, rfl, ?_⟩
        refine ⟨MulOk.bd b1' b1' (by decide), ?_⟩
        have hq : AQ (AV.d (toldD (lineOf colC t))) s := hq
        unfold lineOf at hq
        by_cases c : trT t * trT t - 4 = 0
        · rw [if_pos c] at hq
          rw [if_pos c]
          refine ⟨t, rfl, b1.le (by decide), raw_ok d1 et c, ?_⟩
          exact ⟨by simp, hq⟩
        · rw [if_neg c] at hq
          rw [if_neg c]
          exact hq
      · rw [if_pos rfl]
        unfold aLcL
        refine ⟨rfl, rfl, ?_⟩
        rw [if_neg (by rw [show (PyData.list ([] ++ [tbD t])).eqv (PyData.list []) = false from rfl]; decide)]
        have b1' : Bd 501 (trT t) := b1.1.add b1.2.2.2
        refine ⟨t, rfl, ?_⟩
        refine ⟨t, rfl, ?_⟩
        refine ⟨MulOk.bd b1' b1' (by decide), ?_⟩
        have hq : AQ (AV.d (toldD (lineOf colC t))) s := hq
        unfold lineOf at hq
        by_cases c : trT t * trT t - 4 = 0
        · rw [if_pos c] at hq
          rw [if_pos c]
          refine ⟨t, rfl, b1.le (by decide), raw_ok d1 et c, ?_⟩
          exact ⟨by simp, hq⟩
        · rw [if_neg c] at hq
          rw [if_neg c]
          exact hq
    · rw [et] at hq
      rw [if_neg (by decide)] at hq
      rw [if_pos rfl]
      refine aLcL_step (line_st _ u s _ ?_)
      cases eu : isE u
      · rw [eu] at hq
        rw [if_neg (by decide)]
        unfold aLcL
        refine ⟨rfl, rfl, ?_⟩
        rw [if_neg (by rw [show (PyData.list ([] ++ [tbD u])).eqv (PyData.list []) = false from rfl]; decide)]
        have b1' : Bd 501 (trT u) := b2.1.add b2.2.2.2
        refine ⟨u, rfl, ?_⟩
        refine ⟨u, rfl, ?_⟩
        refine ⟨MulOk.bd b1' b1' (by decide), ?_⟩
        have hq : AQ (AV.d (toldD (lineOf colC u))) s := hq
        unfold lineOf at hq
        by_cases c : trT u * trT u - 4 = 0
        · rw [if_pos c] at hq
          rw [if_pos c]
          refine ⟨u, rfl, b2.le (by decide), raw_ok d2 eu c, ?_⟩
          exact ⟨by simp, hq⟩
        · rw [if_neg c] at hq
          rw [if_neg c]
          exact hq
      · rw [eu, if_neg (by decide)] at hq
        rw [if_pos rfl]
        unfold aLcL
        refine ⟨rfl, rfl, ?_⟩
        rw [if_pos (by decide)]
        exact hq
  · rw [if_pos ck] at hq
    simp only [ck, decide_false, Bool.not_false, if_true, not_false_eq_true]
    exact hq
def N__law_pair : List Str := ["source", "way", "one", "other", "by", "back", "sign", "some", "many", "found", "lap", "late"]
def le__law_pair_1 : ATE := (aFn 2 fn__law_times (aCons (aFn 2 fn__law_times (aCons (aVar 4) (aCons (aVar 11) aNil))) (aCons (aVar 5) aNil)))
def lb__law_pair_2 : ATS := (aSet 9 (aFn 2 fn__law_times (aCons (aVar 9) (aCons (aIf (aTest (aBin aGt (aVar 8) (aC (.int 0)))) (aVar 2) (aFn 1 fn__law_table_undone (aCons (aVar 2) aNil))) aNil))))
def t__law_pair : ATS := (aSeq (aPar3 1 2 3 (aCons (aFn 2 fn__law_pick (aCons (aVar 0) (aCons (aC (.int 6)) aNil))) (aCons (aFn 2 fn__law_shears (aCons (aVar 0) (aCons (aC (.int 4)) aNil))) (aCons (aFn 2 fn__law_shears (aCons (aVar 0) (aCons (aC (.int 4)) aNil))) aNil))))
    (aSeq (aIfS (aTest (aBin aLt (aVar 1) (aC (.int 2)))) (aRet (aTup (aCons (aVar 2) (aCons (aVar 3) aNil)))) aNext)
    (aSeq (aAsg (aTup (aCons (aVar 3) (aCons (aFn 1 fn__law_table_undone (aCons (aVar 3) aNil)) aNil))) (aGTup 2 (aGCons (aGName 4) (aGCons (aGName 5) aGNil))))
    (aSeq (aSet 6 (aFn 2 fn__law_of (aCons (aVar 0) (aCons (aLst (aCons (aC (.int 1)) (aCons (aC (.int 1)) (aCons (aUn aNeg (aC (.int 1))) aNil)))) aNil))))
    (aSeq (aIfS (aTest (aBin aEq (aVar 1) (aC (.int 2)))) (aSeq (aSet 7 (aLst (aCons (aTup (aCons (aC (.int 1)) (aCons (aBin aSub (aFn 2 fn__law_pick (aCons (aVar 0) (aCons (aC (.int 9)) aNil))) (aC (.int 4))) (aCons (aC (.int 0)) (aCons (aC (.int 1)) aNil))))) (aCons (aTup (aCons (aVar 6) (aCons (aBin aSub (aFn 2 fn__law_pick (aCons (aVar 0) (aCons (aC (.int 9)) aNil))) (aC (.int 4))) (aCons (aC (.int 0)) (aCons (aVar 6) aNil))))) aNil))))
    (aRet (aCall bTuple (aCons (aLc (aItL (aVar 7)) (aGName 11) aYes le__law_pair_1 [11]) aNil)))) aNext)
    (aSeq (aIfS (aTest (aBin aEq (aVar 1) (aC (.int 3)))) (aSeq (aSet 8 (aBin aSub (aFn 2 fn__law_pick (aCons (aVar 0) (aCons (aC (.int 4)) aNil))) (aC (.int 1))))
    (aSeq (aSet 9 (aTup (aCons (aC (.int 1)) (aCons (aC (.int 0)) (aCons (aC (.int 0)) (aCons (aC (.int 1)) aNil))))))
    (aSeq (aFor [10] (aRng1 (aCons (aCall bAbs (aCons (aVar 8) aNil)) aNil)) (aGName 10) lb__law_pair_2)
    (aRet (aIf (aTest (aBin aEq (aFn 2 fn__law_pick (aCons (aVar 0) (aCons (aC (.int 2)) aNil))) (aC (.int 0)))) (aTup (aCons (aVar 2) (aCons (aVar 9) aNil))) (aTup (aCons (aVar 9) (aCons (aVar 2) aNil)))))))) aNext)
    (aSeq (aIfS (aTest (aBin aEq (aVar 1) (aC (.int 4)))) (aRet (aTup (aCons (aTup (aCons (aVar 6) (aCons (aC (.int 0)) (aCons (aC (.int 0)) (aCons (aVar 6) aNil))))) (aCons (aFn 2 fn__law_of (aCons (aVar 0) (aCons (aLst (aCons (aTup (aCons (aC (.int 1)) (aCons (aC (.int 0)) (aCons (aC (.int 0)) (aCons (aC (.int 1)) aNil))))) (aCons (aTup (aCons (aUn aNeg (aC (.int 1))) (aCons (aC (.int 0)) (aCons (aC (.int 0)) (aCons (aUn aNeg (aC (.int 1))) aNil))))) (aCons (aVar 2) aNil)))) aNil))) aNil)))) aNext)
    (aRet (aTup (aCons (aVar 2) (aCons (aFn 2 fn__law_times (aCons (aFn 2 fn__law_times (aCons (aVar 4) (aCons (aVar 2) aNil))) (aCons (aVar 5) aNil))) aNil)))))))))))
def fn__law_pair : AFn := fun avs s Q => ∃ S : Src, avs = [.src] ∧ s = some S ∧ ∀ (t u : T4) (S' : Src), detT t = 1 → detT u = 1 → Bt 60 t → Bt 60 u → Q (.d (.tuple [tbD t, tbD u])) (some S')
theorem pair_in (E : AEnds) (x1 x3 x4 x5 x6 : D) (e : Int) (y : T4) (hy : detT y = 1) (hby : Bt 13 y) (s : Option Src) (n : Nat)
    (h : ∀ (t : T4), detT t = 1 → Bt n t → E.nx ⟨[some .src, some (.d x1), some (.d (tbD y)), some (.d x3), some (.d x4), some (.d x5), some (.d x6), none, some (.d (.int e)), some (.d (tbD t)), none, none], ⟨s, []⟩⟩) :
    ∀ (ds : List D) (t : T4) (k : Nat), detT t = 1 → Bt k t → k + 14 * ds.length = n → n ≤ 900 → aForL 0 [10] (aGName 10) lb__law_pair_2 E ds ⟨[some .src, some (.d x1), some (.d (tbD y)), some (.d x3), some (.d x4), some (.d x5), some (.d x6), none, some (.d (.int e)), some (.d (tbD t)), none, none], ⟨s, []⟩⟩ := by
  intro ds
  induction ds with
  | nil => intro t k ht hk hn _; exact h t ht (hk.le (by simp at hn; omega))
  | cons d ds ih =>
    intro t k ht hk hn hn9
    unfold aForL
    unfold lb__law_pair_2
    have hlen : k + 14 + 14 * ds.length = n := by simp only [List.length_cons] at hn; omega
    walk_at "qs"
    by_cases c : 0 < e
    · rw [if_pos c]
      refine ⟨t, y, rfl, hk.le (by omega), hby.le (by decide), ?_⟩
      exact ih (mulT t y) (k + 14) (by rw [det_mul, ht, hy]; rfl) ((hk.mul hby).le (by omega)) hlen hn9
    · rw [if_neg c]
      refine ⟨y, rfl, rfl, t, invT y, rfl, hk.le (by omega), hby.inv.le (by decide), ?_⟩
      exact ih (mulT t (invT y)) (k + 14) (by rw [det_mul, ht, inv_det, hy]; rfl) ((hk.mul hby.inv).le (by omega)) hlen hn9
theorem h__law_pair : ∀ avs s AQ, fn__law_pair avs s AQ → t__law_pair (endsA AQ) ⟨startA N__law_pair avs, ⟨s, []⟩⟩ := by
  rintro _ _ AQ ⟨S, rfl, rfl, hq⟩
  show t__law_pair (endsA AQ) ⟨[some .src, none, none, none, none, none, none, none, none, none, none, none], ⟨some S, []⟩⟩
  unfold t__law_pair
  walk_at "qs"
  refine ⟨S, 6, rfl, rfl, by decide, fun w S1 w1 w2 => ?_⟩
  refine ⟨S1, 4, rfl, rfl, by decide, fun y S2 hy hyb => ?_⟩
  refine ⟨S2, 4, rfl, rfl, by decide, fun l S3 hl hlb => ?_⟩
  have hyb : Bt 13 y := hyb
  have hlb : Bt 13 l := hlb
  walk_at "qs"
  by_cases c : w < 2
  · rw [if_pos c]
    exact hq y l S3 hy hl (hyb.le (by decide)) (hlb.le (by decide))
  · rw [if_neg c]
    refine ⟨l, rfl, ?_⟩
    walk_at "qs"
    refine ⟨S3, _, rfl, rfl, by decide, by decide, fun d hd S4 => ?_⟩
    obtain ⟨e, rfl, he⟩ : ∃ e : Int, d = .int e ∧ Sg e := by
      simp only [List.mem_cons, List.not_mem_nil, or_false] at hd
      rcases hd with rfl | rfl | rfl
      · exact ⟨_, rfl, .inl rfl⟩
      · exact ⟨_, rfl, .inl rfl⟩
      · exact ⟨_, rfl, .inr rfl⟩
    have hbe : Bd 1 e := by unfold Bd; rcases he with rfl | rfl <;> decide
    walk_at "qs"
    by_cases c2 : w = 2
    · rw [if_pos c2]
      refine ⟨S4, 9, rfl, rfl, by decide, fun r5 S5 r51 r52 => ?_⟩
      walk_at "qs"
      refine ⟨S5, 9, rfl, rfl, by decide, fun r6 S6 r61 r62 => ?_⟩
      walk_at "qs"
      have st : ∀ (X : D) (m : T4) (K : Option D → Mm → Prop), Bt 4 m → K (some (tbD (ledT l m))) ⟨some S6, []⟩ → stepC (aGName 11) aYes le__law_pair_1 [some .src, some (.d (.int w)), some (.d (tbD y)), some (.d (tbD l)), some (.d (tbD l)), some (.d (tbD (invT l))), some (.d (.int e)), some (.d X), none, none, none, none] (tbD m) ⟨some S6, []⟩ K := by
        intro X m K hm hK
        unfold stepC le__law_pair_1
        walk_at "qs"
        refine ⟨l, m, rfl, hlb.le (by decide), hm.le (by decide), ?_⟩
        exact ⟨rfl, mulT l m, invT l, rfl, (hlb.mul hm).le (by decide), hlb.inv.le (by decide), hK⟩
      have b5 : Bd 4 (r5 - 4) := by unfold Bd; omega
      have b6 : Bd 4 (r6 - 4) := by unfold Bd; omega
      have m5 : Bt 4 (1, r5 - 4, 0, 1) := ⟨bt_one.1.le (by decide), b5, bd0 _, bt_one.1.le (by decide)⟩
      have m6 : Bt 4 (e, r6 - 4, 0, e) := ⟨hbe.le (by decide), b6, bd0 _, hbe.le (by decide)⟩
      refine aLcL_step (st _ (1, r5 - 4, 0, 1) _ m5 ?_)
      refine aLcL_step (st _ (e, r6 - 4, 0, e) _ m6 ?_)
      unfold aLcL
      refine hq (ledT l (1, r5 - 4, 0, 1)) (ledT l (e, r6 - 4, 0, e)) S6 ?_ ?_ (((hlb.mul m5).mul hlb.inv).le (by decide)) (((hlb.mul m6).mul hlb.inv).le (by decide))
      · rw [led_det hl]; simp [detT]
      · rw [led_det hl]; rcases he with rfl | rfl <;> simp [detT]
    · rw [if_neg c2]
      by_cases c3 : w = 3
      · rw [if_pos c3]
        refine ⟨S4, 4, rfl, rfl, by decide, fun r5 S5 r51 r52 => ?_⟩
        walk_at "qs"
        refine ⟨Rg.of (by split <;> omega) (by split <;> omega), ?_⟩
        have hlen : (rngD 0 (if r5 - 1 < 0 then -(r5 - 1) else r5 - 1).toNat).length ≤ 2 := by rw [rngD_len]; split <;> omega
        refine pair_in _ _ _ _ _ _ (r5 - 1) y hy hyb _ 30 (fun t ht hb => ?_) _ (1, 0, 0, 1) (30 - 14 * (rngD 0 (if r5 - 1 < 0 then -(r5 - 1) else r5 - 1).toNat).length) rfl ⟨by unfold Bd; exact Nat.one_lt_two_pow (by omega), bd0 _, bd0 _, by unfold Bd; exact Nat.one_lt_two_pow (by omega)⟩ (by omega) (by decide)
        walk_at "qs"
        refine ⟨S5, 2, rfl, rfl, by decide, fun r6 S6 r61 r62 => ?_⟩
        walk_at "qs"
        by_cases c5 : r6 = 0
        · rw [if_pos c5]
          exact hq y t S6 hy ht (hyb.le (by decide)) (hb.le (by decide))
        · rw [if_neg c5]
          exact hq t y S6 ht hy (hb.le (by decide)) (hyb.le (by decide))
      · rw [if_neg c3]
        by_cases c4 : w = 4
        · rw [if_pos c4]
          refine ⟨S4, _, rfl, rfl, by simp, by simp, fun d hd S5 => ?_⟩
          have he1 : detT (e, 0, 0, e) = 1 := by rcases he with rfl | rfl <;> decide
          have hbe1 : Bt 60 (e, 0, 0, e) := ⟨hbe.le (by decide), bd0 _, bd0 _, hbe.le (by decide)⟩
          simp only [List.mem_cons, List.not_mem_nil, or_false] at hd
          rcases hd with rfl | rfl | rfl
          · exact ⟨by simp, hq (e, 0, 0, e) (1, 0, 0, 1) S5 he1 rfl hbe1 (bt_one.le (by decide))⟩
          · exact ⟨by simp, hq (e, 0, 0, e) (-1, 0, 0, -1) S5 he1 rfl hbe1 (bt_one.negT.le (by decide))⟩
          · exact ⟨by simp, hq (e, 0, 0, e) y S5 he1 hy hbe1 (hyb.le (by decide))⟩
        · rw [if_neg c4]
          refine ⟨l, y, rfl, hlb.le (by decide), hyb.le (by decide), ?_⟩
          refine ⟨rfl, mulT l y, invT l, rfl, (hlb.mul hyb).le (by decide), hlb.inv.le (by decide), ?_⟩
          exact ⟨by simp, hq y (ledT l y) S4 hy ((led_det hl).trans hy) (hyb.le (by decide)) (((hlb.mul hyb).mul hlb.inv).le (by decide))⟩
theorem nrm_bd {k : Nat} {c : Int × Int} (h : ¬(c.1 = 0 ∧ c.2 = 0)) (h1 : Bd k c.1) (h2 : Bd k c.2) : Bd k (nrm c).1 ∧ Bd k (nrm c).2 := by
  obtain ⟨x, y⟩ := c
  obtain ⟨e1, e2⟩ := nrm_mul h
  have h0 := nrmD_ne h
  simp only [] at h0 e1 e2 h1 h2
  have key : ∀ a b : Int, a = nrmD x y * b → Bd k a → Bd k b := by
    intro a b e hb
    unfold Bd at *
    have : b.natAbs ≤ a.natAbs := by
      rw [e, Int.natAbs_mul]
      exact Nat.le_mul_of_pos_left _ (by omega)
    omega
  exact ⟨key _ _ e1 h1, key _ _ e2 h2⟩
theorem col_bd {t : T4} (hb : Bt 60 t) (h1 : detT t = 1) (hE : isE t = false) (h : trT t * trT t - 4 = 0) : Bd 100 (colC t).1 ∧ Bd 100 (colC t).2 := by
  obtain ⟨a, b, c⟩ := tr_two h
  have hne := raw_ok h1 hE h
  unfold colC
  refine nrm_bd hne ?_ ?_ <;> rw [b]
  · have he : Bd 8 (sgT t) := by rcases c with c | c <;> rw [c] <;> exact Bd.lit
    unfold rawC
    split
    · exact hb.2.1.le (by decide)
    · exact (he.sub' hb.2.2.2).le (by decide)
  · have he : Bd 8 (sgT t) := by rcases c with c | c <;> rw [c] <;> exact Bd.lit
    unfold rawC
    split
    · exact (he.sub' hb.1).le (by decide)
    · exact hb.2.2.1.le (by decide)
def TBd : Told → Prop
  | .one c => Bd 200 c.1 ∧ Bd 200 c.2
  | .root n => Bd 200 n
  | _ => True
theorem LT_bd {t u : T4} (bt : Bt 60 t) (bu : Bt 60 u) (h1 : detT t = 1) (h2 : detT u = 1) : TBd (LTg colC t u) := by
  have one : ∀ v : T4, Bt 60 v → detT v = 1 → isE v = false → TBd (lineOf colC v) := by
    intro v hb hd hE
    unfold lineOf
    split
    · exact ⟨(col_bd hb hd hE ‹_›).1.le (by decide), (col_bd hb hd hE ‹_›).2.le (by decide)⟩
    · have b1 : Bd 61 (trT v) := hb.1.add hb.2.2.2
      exact ((b1.mul b1).sub' (Bd.lit (i := 4))).le (by decide)
  unfold LTg
  split
  · trivial
  · split
    · exact one t bt h1 ‹_›
    · split
      · exact one u bu h2 ‹_›
      · trivial
theorem ints_i {k : Nat} {i : Int} (h : Bd k i) (hk : k < 1900) : IntsB (.int i) := h.log_lt hk
theorem rep_told {T : Told} (h : TBd T) : RepOk (toldD T) := by
  refine RepOk.of ?_ ?_ ?_
  · cases T with
    | none => simp only [toldD, IntsB, IntsBs]; decide
    | every => simp only [toldD, IntsB, IntsBs]; decide
    | one c =>
      have h1 : IntsB (.int c.1) := ints_i h.1 (by decide)
      have h2 : IntsB (.int c.2) := ints_i h.2 (by decide)
      simp only [IntsB] at h1 h2
      simp only [toldD, clD, IntsB, IntsBs, and_true]
      exact ⟨by decide, h1, h2⟩
    | root n =>
      have h1 : IntsB (.int n) := ints_i h (by decide)
      simp only [IntsB] at h1
      simp only [toldD, IntsB, IntsBs, and_true]
      exact ⟨by decide, h1⟩
  · cases T <;> simp [toldD, clD, PyData.depth, PyData.depthAll]
  · cases T <;> simp [toldD, clD, PyData.bulk, PyData.bulkAll] <;> decide
theorem rep_tri {t : T3} (h : Bt3 1000 t) : RepOk (triD t) := by
  refine RepOk.of ?_ ?_ ?_
  · have h1 : IntsB (.int t.1) := ints_i h.1 (by decide)
    have h2 : IntsB (.int t.2.1) := ints_i h.2.1 (by decide)
    have h3 : IntsB (.int t.2.2) := ints_i h.2.2 (by decide)
    simp only [IntsB] at h1 h2 h3
    simp only [triD, IntsB, IntsBs, and_true]
    exact ⟨h1, h2, h3⟩
  · simp [triD, PyData.depth, PyData.depthAll]
  · simp [triD, PyData.bulk, PyData.bulkAll]
theorem s_n_r : ((("none" : Str) = "root") : Prop) = False := eq_false (by decide)
theorem s_e_r : ((("every" : Str) = "root") : Prop) = False := eq_false (by decide)
theorem s_o_r : ((("one" : Str) = "root") : Prop) = False := eq_false (by decide)
theorem s_o_o : ((("one" : Str) = "one") : Prop) = True := eq_true rfl
theorem s_r_r : ((("root" : Str) = "root") : Prop) = True := eq_true rfl
theorem s_n_o : ((("none" : Str) = "one") : Prop) = False := eq_false (by decide)
theorem s_e_o : ((("every" : Str) = "one") : Prop) = False := eq_false (by decide)
theorem s_r_o : ((("root" : Str) = "one") : Prop) = False := eq_false (by decide)
theorem shaped_told (T : Told) : SeqAt.shaped (toldD T) = true := by
  cases T <;> simp [toldD, clD, SeqAt.shaped, PyData.canLay0, PyData.canLayAll0, PyData.depth, PyData.depthAll] <;> decide +kernel
theorem pos_of_mul {a b : Int} (ha : 0 < a) (h : 0 < a * b) : 0 < b := by
  apply Classical.byContradiction
  intro c
  have : a * b ≤ 0 := Int.mul_nonpos_of_nonneg_of_nonpos (by omega) (by omega)
  omega
/-! the least column: no common part, its first number above 0 -/
theorem nrmD_abs {x y : Int} : (nrmD x y).natAbs = Nat.gcd x.natAbs y.natAbs := by
  unfold nrmD
  generalize (if x ≠ 0 then x else y) = z
  split <;> omega
theorem nrm_gcd {x y : Int} (h : ¬(x = 0 ∧ y = 0)) : Nat.gcd (nrm (x, y)).1.natAbs (nrm (x, y)).2.natAbs = 1 := by
  obtain ⟨e1, e2⟩ := nrm_mul h
  have hp := gcd_pos h
  have ha := @nrmD_abs x y
  generalize nrm (x, y) = c at *
  obtain ⟨u, v⟩ := c
  simp only [] at e1 e2 ⊢
  generalize nrmD x y = n at *
  have e3 : x.natAbs = n.natAbs * u.natAbs := by rw [e1, Int.natAbs_mul]
  have e4 : y.natAbs = n.natAbs * v.natAbs := by rw [e2, Int.natAbs_mul]
  rw [e3, e4, Nat.gcd_mul_left] at ha hp
  have hn : 0 < n.natAbs := Nat.pos_of_ne_zero fun h => by rw [h] at hp; simp at hp
  have : n.natAbs * Nat.gcd u.natAbs v.natAbs = n.natAbs * 1 := by omega
  exact Nat.eq_of_mul_eq_mul_left hn this
theorem nrm_sign {x y : Int} (h : ¬(x = 0 ∧ y = 0)) : (nrm (x, y)).1 > 0 ∨ ((nrm (x, y)).1 = 0 ∧ (nrm (x, y)).2 > 0) := by
  obtain ⟨e1, e2⟩ := nrm_mul h
  have h0 := nrmD_ne h
  have hs : (if x ≠ 0 then x else y) > 0 ↔ nrmD x y > 0 := by
    have hp := gcd_pos h
    unfold nrmD
    constructor
    · intro c; rw [if_pos c]; omega
    · intro c
      apply Classical.byContradiction
      intro c2
      rw [if_neg c2] at c
      omega
  generalize nrm (x, y) = c at *
  obtain ⟨u, v⟩ := c
  simp only [] at e1 e2 ⊢
  generalize nrmD x y = n at *
  by_cases hx : x = 0
  · subst hx
    simp only [ne_eq, not_true_eq_false, if_false] at hs
    have hu : u = 0 := by
      rcases Int.mul_eq_zero.mp e1.symm with h | h
      · exact absurd h h0
      · exact h
    have hy : y ≠ 0 := fun h' => h ⟨rfl, h'⟩
    refine .inr ⟨hu, ?_⟩
    by_cases hn : n > 0
    · have := hs.mpr hn
      rw [e2] at this
      exact pos_of_mul hn this
    · have hn' : 0 < -n := by omega
      have hy' : 0 < -n * -v ∨ True := .inr trivial
      have h3 : ¬ y > 0 := fun c => hn (hs.mp c)
      have : 0 < -n * v := by rw [Int.neg_mul, ← e2]; omega
      exact pos_of_mul hn' this
  · simp only [ne_eq, hx, not_false_eq_true, if_true] at hs
    left
    by_cases hn : n > 0
    · have := hs.mpr hn
      rw [e1] at this
      exact pos_of_mul hn this
    · have hn' : 0 < -n := by omega
      have h3 : ¬ x > 0 := fun c => hn (hs.mp c)
      have : 0 < -n * u := by rw [Int.neg_mul, ← e1]; omega
      exact pos_of_mul hn' this
theorem col_least {t : T4} (h1 : detT t = 1) (hE : isE t = false) (h : trT t * trT t - 4 = 0) : Nat.gcd (colC t).1.natAbs (colC t).2.natAbs = 1 ∧ ((colC t).1 > 0 ∨ ((colC t).1 = 0 ∧ (colC t).2 > 0)) := by
  have hne := raw_ok h1 hE h
  unfold colC
  exact ⟨nrm_gcd hne, nrm_sign hne⟩
theorem tr_two_iff {n : Int} : n * n - 4 = 0 ↔ n = 2 ∨ n = -2 := by
  constructor
  · intro h
    have : (n - 2) * (n + 2) = 0 := by grind
    rcases Int.mul_eq_zero.mp this with h | h <;> omega
  · rintro (rfl | rfl) <;> decide
def N__law_part : List Str := ["a", "b"]
def lc__law_part_1 : ATT := (aTest (aBin aGt (aVar 1) (aC (.int 0))))
def lb__law_part_2 : ATS := (aPar 0 1 (aCons (aVar 1) (aCons (aBin aMod (aCall bInt (aCons (aVar 0) aNil)) (aVar 1)) aNil)))
def t__law_part : ATS := (aSeq (aPar 0 1 (aCons (aCall bAbs (aCons (aVar 0) aNil)) (aCons (aCall bAbs (aCons (aVar 1) aNil)) aNil)))
    (aSeq (aWhile [] lc__law_part_1 lb__law_part_2)
    (aRet (aVar 0))))
def fn__law_part : AFn := fun avs s Q => ∃ a b : Int, avs = [.d (.int a), .d (.int b)] ∧ Q (.d (.int ((Nat.gcd a.natAbs b.natAbs : Nat) : Int))) s
theorem h__law_part : ∀ avs s AQ, fn__law_part avs s AQ → t__law_part (endsA AQ) ⟨startA N__law_part avs, ⟨s, []⟩⟩ := by
  rintro _ s AQ ⟨a, b, rfl, hq⟩
  show t__law_part (endsA AQ) ⟨[some (.d (.int a)), some (.d (.int b))], ⟨s, []⟩⟩
  unfold t__law_part
  walk_at "qs"
  rw [aWhile_ap]
  refine ⟨fun x => ∃ i j : Nat, x = ⟨[some (.d (.int (i : Int))), some (.d (.int (j : Int)))], ⟨s, []⟩⟩ ∧ Nat.gcd i j = Nat.gcd a.natAbs b.natAbs, fun x => match x.g with | [_, some (.d (.int j))] => j.toNat | _ => 0, ⟨a.natAbs, b.natAbs, ?_, rfl⟩, ?_⟩
  · rw [abs_i, abs_i]; rfl
  · rintro _ ⟨i, j, rfl, hg⟩
    unfold lc__law_part_1 lb__law_part_2
    walk_at "qs"
    by_cases c : 0 < (j : Int)
    · simp only [c, decide_true, if_true]
      walk_at "qs"
      refine ⟨⟨j, i % j, ?_, ?_⟩, ?_⟩
      · rfl
      · rw [← hg]
        rw [Nat.gcd_comm i j, Nat.gcd_rec j i, Nat.gcd_comm]
      · have := Int.emod_lt_of_pos (i : Int) c
        have := Int.emod_nonneg (i : Int) (b := (j : Int)) (by omega)
        show ((i : Int) % (j : Int)).toNat < (j : Int).toNat
        omega
    · simp only [c, decide_false, Bool.false_eq_true, if_false]
      walk_at "qs"
      have hj : j = 0 := by omega
      subst hj
      rw [Nat.gcd_zero_right] at hg
      rw [hg]
      exact hq
def N__law_keeps : List Str := ["table", "column", "u", "v"]
def t__law_keeps : ATS := (aSeq (aAsg (aVar 1) (aGTup 2 (aGCons (aGName 2) (aGCons (aGName 3) aGNil))))
    (aRet (aBin aEq (aBin aMul (aBin aAdd (aBin aMul (aBin aIx (aVar 0) (aC (.int 0))) (aVar 2)) (aBin aMul (aBin aIx (aVar 0) (aC (.int 1))) (aVar 3))) (aVar 3)) (aBin aMul (aBin aAdd (aBin aMul (aBin aIx (aVar 0) (aC (.int 2))) (aVar 2)) (aBin aMul (aBin aIx (aVar 0) (aC (.int 3))) (aVar 3))) (aVar 2)))))
def fn__law_keeps : AFn := fun avs s Q => ∃ (t : T4) (c : Int × Int), avs = [.d (tbD t), .d (clD c)] ∧ Bt 1000 t ∧ (Bd 2000 c.1 ∧ Bd 2000 c.2) ∧ Q (.d (.bool (keptT t c))) s
theorem h__law_keeps : ∀ avs s AQ, fn__law_keeps avs s AQ → t__law_keeps (endsA AQ) ⟨startA N__law_keeps avs, ⟨s, []⟩⟩ := by
  rintro _ s AQ ⟨⟨p, q, r, v⟩, ⟨x, y⟩, rfl, ⟨h1, h2, h3, h4⟩, ⟨g1, g2⟩, hq⟩
  show t__law_keeps (endsA AQ) ⟨[some (.d (.tuple [.int p, .int q, .int r, .int v])), some (.d (.tuple [.int x, .int y])), none, none], ⟨s, []⟩⟩
  simp only [] at h1 h2 h3 h4 g1 g2
  unfold t__law_keeps
  walk_at "qs"
  have a1 := h1.mul g1
  have a2 := h2.mul g2
  have a3 := h3.mul g1
  have a4 := h4.mul g2
  exact ⟨MulOk.bd h1 g1 (by decide), MulOk.bd h2 g2 (by decide), MulOk.bd (a1.add a2) g2 (by decide), MulOk.bd h3 g1 (by decide), MulOk.bd h4 g2 (by decide), MulOk.bd (a3.add a4) g1 (by decide), hq⟩
def N__law_line_right : List Str := ["pair", "told", "k", "nothing", "some", "trace", "u", "v", "is_least", "is_kept", "table"]
def lt__law_line_right_1 : ATT := (aTest (aBin aNinT (aVar 10) (aVar 3)))
def le__law_line_right_2 : ATE := (aVar 10)
def rs__law_line_right_3 : ATS := (aSeq (aAsg (aBin aIx (aVar 1) (aC (.int 1))) (aGTup 2 (aGCons (aGName 6) (aGCons (aGName 7) aGNil))))
    (aSeq (aSet 8 (aAndV (aBin aEq (aFn 2 fn__law_part (aCons (aVar 6) (aCons (aVar 7) aNil))) (aC (.int 1))) (aOrV (aBin aGt (aVar 6) (aC (.int 0))) (aAndV (aBin aEq (aVar 6) (aC (.int 0))) (aBin aGt (aVar 7) (aC (.int 0)))))))
    (aRet (aAndV (aVar 8) (aAndV (aFn 2 fn__law_keeps (aCons (aBin aIx (aVar 0) (aC (.int 0))) (aCons (aBin aIx (aVar 1) (aC (.int 1))) aNil))) (aFn 2 fn__law_keeps (aCons (aBin aIx (aVar 0) (aC (.int 1))) (aCons (aBin aIx (aVar 1) (aC (.int 1))) aNil))))))))
def rs__law_line_right_4 : ATS := (aSeq (aSet 9 (aBin aEq (aFn 2 fn__law_times (aCons (aBin aIx (aVar 0) (aC (.int 0))) (aCons (aBin aIx (aVar 0) (aC (.int 1))) aNil))) (aFn 2 fn__law_times (aCons (aBin aIx (aVar 0) (aC (.int 1))) (aCons (aBin aIx (aVar 0) (aC (.int 0))) aNil)))))
    (aRet (aAndV (aBin aEq (aCall bRepr (aCons (aVar 1) aNil)) (aCall bRepr (aCons (aTup (aCons (aC (.str "root")) (aCons (aBin aSub (aBin aMul (aVar 5) (aVar 5)) (aC (.int 4))) aNil))) aNil))) (aVar 9))))
def rs__law_line_right_5 : ATS := (aSeq (aSet 5 (aBin aAdd (aBin aIx (aBin aIx (aVar 4) (aC (.int 0))) (aC (.int 0))) (aBin aIx (aBin aIx (aVar 4) (aC (.int 0))) (aC (.int 3)))))
    (aSeq (aIfS (aTest (aBin aInT (aVar 5) (aTup (aCons (aC (.int 2)) (aCons (aUn aNeg (aC (.int 2))) aNil))))) (aSeq (aIfS (aOr (aTest (aBin aNe (aBin aIx (aVar 1) (aC (.int 0))) (aC (.str "one")))) (aOr (aTest (aBin aNe (aCall bLen (aCons (aVar 1) aNil)) (aC (.int 2)))) (aOr (aNot (aTru (aCall bIsi (aCons (aBin aIx (aVar 1) (aC (.int 1))) (aCons (aTy "tuple") aNil))))) (aTest (aBin aNe (aCall bLen (aCons (aBin aIx (aVar 1) (aC (.int 1))) aNil)) (aC (.int 2))))))) (aRet (aC (.bool false))) aNext)
    rs__law_line_right_3) aNext)
    rs__law_line_right_4))
def rs__law_line_right_6 : ATS := (aSeq (aSet 4 (aLc (aItT (aVar 0)) (aGName 10) lt__law_line_right_1 le__law_line_right_2 [10]))
    (aSeq (aIfS (aTest (aBin aEq (aVar 4) (aLst aNil))) (aRet (aBin aEq (aVar 1) (aTup (aCons (aC (.str "every")) aNil)))) aNext)
    rs__law_line_right_5))
def t__law_line_right : ATS := (aSeq (aSet 3 (aTup (aCons (aTup (aCons (aC (.int 1)) (aCons (aC (.int 0)) (aCons (aC (.int 0)) (aCons (aC (.int 1)) aNil))))) (aCons (aTup (aCons (aUn aNeg (aC (.int 1))) (aCons (aC (.int 0)) (aCons (aC (.int 0)) (aCons (aUn aNeg (aC (.int 1))) aNil))))) aNil))))
    (aSeq (aIfS (aTest (aBin aNe (aVar 2) (aC (.int 2)))) (aRet (aBin aEq (aVar 1) (aTup (aCons (aC (.str "none")) aNil)))) aNext)
    rs__law_line_right_6))
def rD (n : Int) : D := .tuple [.str "root", .int n]
theorem line_st2 (x0 x1 x2 : D) (t : T4) (s : Option Src) (K : Option D → Mm → Prop) (h : K (if isE t = true then none else some (tbD t)) ⟨s, []⟩) : stepC (aGName 10) lt__law_line_right_1 le__law_line_right_2 [some (.d x0), some (.d x1), some (.d x2), some (.d (.tuple [.tuple [.int 1, .int 0, .int 0, .int 1], .tuple [.int (-1), .int 0, .int 0, .int (-1)]])), none, none, none, none, none, none, none] (tbD t) ⟨s, []⟩ K := by
  unfold stepC lt__law_line_right_1 le__law_line_right_2
  walk_at "qs"
  refine ⟨rfl, rfl, ?_⟩
  rw [show ([PyData.tuple [PyData.int 1, PyData.int 0, PyData.int 0, PyData.int 1], PyData.tuple [PyData.int (-1), PyData.int 0, PyData.int 0, PyData.int (-1)]].any fun z => PyData.eqv z (tbD t)) = isE t from each_any t]
  cases c : isE t
  · rw [c] at h; exact h
  · rw [c] at h; exact h
def fn__law_line_right : AFn := fun avs s Q => ∃ t u : T4, avs = [.d (.tuple [tbD t, tbD u]), .d (toldD (LTg colC t u)), .d (.int (kT3 (trM t u)))] ∧ (Bt 60 t ∧ Bt 60 u) ∧ (detT t = 1 ∧ detT u = 1) ∧ Q (.d (.bool true)) s
/-- what is asked of what is told where some table does something -/
def RightOk (t u m : T4) (T : Told) : Prop := T = lineOf colC m ∧ (trT m * trT m - 4 = 0 → (Nat.gcd (colC m).1.natAbs (colC m).2.natAbs = 1 ∧ ((colC m).1 > 0 ∨ ((colC m).1 = 0 ∧ (colC m).2 > 0))) ∧ keptT t (colC m) = true ∧ keptT u (colC m) = true) ∧ (¬ trT m * trT m - 4 = 0 → mulT t u = mulT u t)
theorem right5 (AQ : AV → Option Src → Prop) (s : Option Src) (t u m : T4) (T : Told) (x2 x3 : D) (r : List D) (bt : Bt 60 t) (bu : Bt 60 u) (bT : TBd T) (bm : Bt 60 m) (ok : RightOk t u m T) (hq : AQ (.d (.bool true)) s) :
    rs__law_line_right_5 (endsA AQ) ⟨[some (.d (.tuple [tbD t, tbD u])), some (.d (toldD T)), some (.d x2), some (.d x3), some (.d (.list (tbD m :: r))), none, none, none, none, none, none], ⟨s, []⟩⟩ := by
  obtain ⟨rfl, h1, h2⟩ := ok
  have e : ([PyData.int 2, PyData.int (-2)].any fun z => PyData.eqv z (.int (m.1 + m.2.2.2))) = decide (trT m * trT m - 4 = 0) := by
    simp only [List.any_cons, List.any_nil, eqv_i, Bool.or_false]
    rw [Bool.eq_iff_iff]
    simp only [Bool.or_eq_true, decide_eq_true_eq, tr_two_iff]
    unfold trT
    omega
  rw [show tbD m = .tuple [.int m.1, .int m.2.1, .int m.2.2.1, .int m.2.2.2] from rfl]
  unfold lineOf at bT ⊢
  by_cases c : trT m * trT m - 4 = 0
  · obtain ⟨⟨g1, g2⟩, k1, k2⟩ := h1 c
    rw [if_pos c] at bT ⊢
    generalize colC m = cc at *
    obtain ⟨v, w⟩ := cc
    rw [show toldD (.one (v, w)) = .tuple [.str "one", .tuple [.int v, .int w]] from rfl]
    unfold rs__law_line_right_5 rs__law_line_right_3
    rw [aSeq_ap]
    walk_at "qs"
    refine ⟨rfl, rfl, ?_⟩
    rw [e]
    simp only [c, decide_true, if_true, s_o_o, not_true_eq_false, if_false]
    walk_at "qs"
    refine ⟨by decide, ?_⟩
    rw [if_neg (by simp [tyD, isiT])]
    refine ⟨v, w, rfl, ?_⟩
    simp only [] at g1 g2 k1 k2
    rw [g1]
    have b2 : Bd 2000 v ∧ Bd 2000 w := ⟨bT.1.le (by decide), bT.2.le (by decide)⟩
    walk_at "qs"
    rw [if_pos (show ((1 : Nat) : Int) = 1 from rfl)]
    rcases g2 with g | ⟨g, g'⟩
    · rw [if_pos g]
      refine ⟨t, (v, w), rfl, bt.le (by decide), b2, ?_⟩
      rw [k1]
      refine (if_pos rfl).mpr ?_
      refine ⟨u, (v, w), rfl, bu.le (by decide), b2, ?_⟩
      rw [k2]
      exact hq
    · rw [if_neg (by omega), if_pos g, if_pos g']
      refine ⟨t, (v, w), rfl, bt.le (by decide), b2, ?_⟩
      rw [k1]
      refine (if_pos rfl).mpr ?_
      refine ⟨u, (v, w), rfl, bu.le (by decide), b2, ?_⟩
      rw [k2]
      exact hq
  · rw [if_neg c] at bT ⊢
    rw [show toldD (.root (trT m * trT m - 4)) = rD (trT m * trT m - 4) from rfl]
    have hr : RepOk (rD (trT m * trT m - 4)) := rep_told (T := .root (trT m * trT m - 4)) bT
    unfold rs__law_line_right_5 rs__law_line_right_4
    rw [aSeq_ap]
    walk_at "qs"
    refine ⟨rfl, rfl, ?_⟩
    rw [e]
    simp only [c, decide_false, Bool.false_eq_true, if_false]
    refine ⟨t, u, rfl, bt.le (by decide), bu.le (by decide), ?_⟩
    refine ⟨u, t, rfl, bu.le (by decide), bt.le (by decide), ?_⟩
    rw [h2 c]
    have b1 : Bd 61 (m.1 + m.2.2.2) := bm.1.add bm.2.2.2
    refine ⟨shaped_tb _, shaped_tb _, hr, MulOk.bd b1 b1 (by decide), hr, ?_⟩
    refine (if_pos rfl).mpr ?_
    rw [eqv_tb, decide_eq_true rfl]
    exact hq
theorem right_of {t u m : T4} (h1 : detT t = 1) (h2 : detT u = 1) (hk : kT3 (trM t u) = 2) (hm : m = t ∨ m = u) (hE : isE m = false) : RightOk t u m (lineOf colC m) := by
  refine ⟨rfl, fun c => ?_, fun c => ?_⟩
  · rcases hm with rfl | rfl
    · obtain ⟨w1, w2⟩ := col_kept h1 h2 hk c hE
      exact ⟨col_least h1 hE c, (kept_iff _ _ _).mpr w1, (kept_iff _ _ _).mpr w2⟩
    · obtain ⟨w1, w2⟩ := col_kept h2 h1 ((k_swap t m).trans hk) c hE
      exact ⟨col_least h2 hE c, (kept_iff _ _ _).mpr w2, (kept_iff _ _ _).mpr w1⟩
  · rcases hm with rfl | rfl
    · exact root_comm h1 h2 hk c
    · exact (root_comm h2 h1 ((k_swap t m).trans hk) c).symm
theorem h__law_line_right : ∀ avs s AQ, fn__law_line_right avs s AQ → t__law_line_right (endsA AQ) ⟨startA N__law_line_right avs, ⟨s, []⟩⟩ := by
  rintro _ s AQ ⟨t, u, rfl, ⟨bt, bu⟩, ⟨h1, h2⟩, hq⟩
  have bT := LT_bd bt bu h1 h2
  show t__law_line_right (endsA AQ) ⟨[some (.d (.tuple [tbD t, tbD u])), some (.d (toldD (LTg colC t u))), some (.d (.int (kT3 (trM t u)))), none, none, none, none, none, none, none, none], ⟨s, []⟩⟩
  unfold t__law_line_right
  unfold LTg at bT ⊢
  by_cases ck : kT3 (trM t u) = 2
  · rw [if_neg (by omega)] at bT ⊢
    rw [ck]
    have r5 : ∀ (m : T4) (r : List D), (m = t ∨ m = u) → Bt 60 m → TBd (lineOf colC m) → isE m = false → rs__law_line_right_5 (endsA AQ) ⟨[some (.d (.tuple [tbD t, tbD u])), some (.d (toldD (lineOf colC m))), some (.d (.int 2)), some (.d (.tuple [.tuple [.int 1, .int 0, .int 0, .int 1], .tuple [.int (-1), .int 0, .int 0, .int (-1)]])), some (.d (.list (tbD m :: r))), none, none, none, none, none, none], ⟨s, []⟩⟩ := fun m r hm hb hT hE => right5 AQ s t u m _ _ _ r bt bu hT hb (right_of h1 h2 ck hm hE) hq
    have sh : ∀ (m : T4) (r : List T4), r.length < 3 → SeqAt.shaped (.list (tbD m :: r.map tbD)) = true := by
      intro m r hr
      match r with
      | [] => rfl
      | [_] => rfl
      | [_, _] => rfl
    generalize hT0 : toldD (if isE t = false then lineOf colC t else if isE u = false then lineOf colC u else .every) = T0
    have hT1 : isE t = false → T0 = toldD (lineOf colC t) := fun h => by rw [← hT0, if_pos h]
    have hT2 : isE t = true → isE u = false → T0 = toldD (lineOf colC u) := fun h h' => by rw [← hT0, if_neg (by rw [h]; decide), if_pos h']
    have hT3 : isE t = true → isE u = true → T0 = .tuple [.str "every"] := fun h h' => by rw [← hT0, if_neg (by rw [h]; decide), if_neg (by rw [h']; decide)]; rfl
    walk_at "qs"
    unfold rs__law_line_right_6
    walk_at "qs"
    refine aLcL_step (line_st2 _ _ _ t s _ ?_)
    cases et : isE t
    · rw [if_neg (by decide)]
      have T1 := hT1 et
      subst T1
      rw [et, if_pos rfl] at bT
      refine aLcL_step (line_st2 _ _ _ u s _ ?_)
      cases eu : isE u
      · rw [if_neg (by decide)]
        unfold aLcL
        refine ⟨sh t [u] (by simp), rfl, ?_⟩
        rw [if_neg (by rw [show (PyData.list ([] ++ [tbD t] ++ [tbD u])).eqv (PyData.list []) = false from rfl]; decide)]
        exact r5 t [tbD u] (.inl rfl) bt bT et
      · rw [if_pos rfl]
        unfold aLcL
        refine ⟨sh t [] (by simp), rfl, ?_⟩
        rw [if_neg (by rw [show (PyData.list ([] ++ [tbD t])).eqv (PyData.list []) = false from rfl]; decide)]
        exact r5 t [] (.inl rfl) bt bT et
    · rw [if_pos rfl]
      rw [et, if_neg (by decide)] at bT
      refine aLcL_step (line_st2 _ _ _ u s _ ?_)
      cases eu : isE u
      · rw [if_neg (by decide)]
        have T1 := hT2 et eu
        subst T1
        rw [eu, if_pos rfl] at bT
        unfold aLcL
        refine ⟨sh u [] (by simp), rfl, ?_⟩
        rw [if_neg (by rw [show (PyData.list ([] ++ [tbD u])).eqv (PyData.list []) = false from rfl]; decide)]
        exact r5 u [] (.inr rfl) bu bT eu
      · rw [if_pos rfl]
        have T1 := hT3 et eu
        subst T1
        unfold aLcL
        refine ⟨rfl, rfl, ?_⟩
        rw [if_pos (by decide)]
        exact ⟨shaped_told .every, shaped_told .every, hq⟩
  · rw [if_pos (by omega)]
    rw [show toldD .none = .tuple [.str "none"] from rfl]
    walk_at "qs"
    rw [if_pos ck]
    exact ⟨shaped_told .none, shaped_told .none, hq⟩
def N__law_determinant : List Str := ["rows", "found", "sign", "k", "number", "row"]
def le__law_determinant_1 (fr : AFn) : ATE := (aBin aAdd (aSlice (aVar 5) aNoPart (aPart (aVar 3))) (aSlice (aVar 5) (aPart (aBin aAdd (aVar 3) (aC (.int 1)))) aNoPart))
def rs__law_determinant_2 (fr : AFn) : ATS := (aSet 2 (aBin aSub (aC (.int 0)) (aVar 2)))
def lb__law_determinant_3 (fr : AFn) : ATS := (aSeq (aIfS (aTest (aBin aNe (aVar 4) (aC (.int 0)))) (aSet 1 (aBin aAdd (aVar 1) (aBin aMul (aBin aMul (aVar 2) (aVar 4)) (aFn 1 fr (aCons (aLc (aItL (aSlice (aVar 0) (aPart (aC (.int 1))) aNoPart)) (aGName 5) aYes (le__law_determinant_1 fr) [5]) aNil))))) aNext)
    (rs__law_determinant_2 fr))
def t__law_determinant (fr : AFn) : ATS := (aSeq (aIfS (aTest (aBin aEq (aCall bLen (aCons (aVar 0) aNil)) (aC (.int 1)))) (aRet (aBin aIx (aBin aIx (aVar 0) (aC (.int 0))) (aC (.int 0)))) aNext)
    (aSeq (aAsg (aTup (aCons (aC (.int 0)) (aCons (aC (.int 1)) aNil))) (aGTup 2 (aGCons (aGName 1) (aGCons (aGName 2) aGNil))))
    (aSeq (aFor [3, 4, 5] (aEnum (aCons (aBin aIx (aVar 0) (aC (.int 0))) aNil)) (aGTup 2 (aGCons (aGName 3) (aGCons (aGName 4) aGNil))) (lb__law_determinant_3 fr))
    (aRet (aVar 1)))))
/-! determinants along the first row -/
def sumD (f : Nat → Int) : List Int → Nat → Int → Int
  | [], _, _ => 0
  | n :: r, k, sg => sg * n * f k + sumD f r (k + 1) (-sg)
def minorL (k : Nat) (rows : List (List Int)) : List (List Int) := rows.map fun r => r.take k ++ r.drop (k + 1)
def detN : Nat → List (List Int) → Int
  | 0, _ => 0
  | _ + 1, [] => 0
  | _ + 1, [r] => r.headD 0
  | d + 1, r :: q :: rest => sumD (fun k => detN d (minorL k (q :: rest))) r 0 1
def rwD (rows : List (List Int)) : D := .list (rows.map fun r => .list (r.map .int))
def SqOk (e n : Nat) (rows : List (List Int)) : Prop := rows.length = n ∧ ∀ r ∈ rows, r.length = n ∧ ∀ x ∈ r, Bd e x
def fnr__law_determinant : Nat → AFn
  | 0 => fun _ _ _ => False
  | d + 1 => fun avs s Q => ∃ (rows : List (List Int)) (e n : Nat), avs = [.d (rwD rows)] ∧ SqOk e n rows ∧ 1 ≤ n ∧ n ≤ d + 1 ∧ n ≤ 6 ∧ e ≤ 2000 ∧ Q (.d (.int (detN (d + 1) rows))) s
def fn__law_determinant : AFn := fnr__law_determinant 5
theorem sg_neg {e : Int} (h : Sg e) : Sg (-e) := by
  rcases h with rfl | rfl
  · exact .inr rfl
  · exact .inl rfl
theorem minor_ok {e n : Nat} {rows : List (List Int)} {k : Nat} (h : rows.length = n ∧ ∀ r ∈ rows, r.length = n + 1 ∧ ∀ x ∈ r, Bd e x) (hk : k ≤ n) : SqOk e n (minorL k rows) := by
  refine ⟨by unfold minorL; rw [List.length_map]; exact h.1, fun r hr => ?_⟩
  obtain ⟨q, hq, rfl⟩ := List.mem_map.mp hr
  obtain ⟨h1, h2⟩ := h.2 q hq
  refine ⟨by rw [List.length_append, List.length_take, List.length_drop]; omega, fun x hx => ?_⟩
  rcases List.mem_append.mp hx with hx | hx
  · exact h2 x (List.mem_of_mem_take hx)
  · exact h2 x (List.mem_of_mem_drop hx)
theorem sumD_bd {f : Nat → Int} {e M : Nat} : ∀ (ns : List Int) (k : Nat) (sg : Int), Sg sg → (∀ x ∈ ns, Bd e x) → (∀ j, k ≤ j → j < k + ns.length → Bd M (f j)) → (sumD f ns k sg).natAbs ≤ ns.length * 2 ^ (e + M)
  | [], _, _, _, _, _ => Nat.zero_le _
  | n :: r, k, sg, hs, hn, hf => by
    have ih := sumD_bd r (k + 1) (-sg) (sg_neg hs) (fun x hx => hn x (List.mem_cons_of_mem _ hx)) fun j h1 h2 => hf j (by omega) (by rw [List.length_cons]; omega)
    have h1 : Bd (e + M) (n * f k) := (hn n List.mem_cons_self).mul (hf k (Nat.le_refl _) (by rw [List.length_cons]; omega))
    unfold Bd at h1
    show (sg * n * f k + sumD f r (k + 1) (-sg)).natAbs ≤ (r.length + 1) * 2 ^ (e + M)
    rw [Nat.add_mul]
    have e1 : (sg * n * f k).natAbs = (n * f k).natAbs := by rcases hs with rfl | rfl <;> simp [Int.natAbs_mul]
    have := Int.natAbs_add_le (sg * n * f k) (sumD f r (k + 1) (-sg))
    omega
theorem det_bd {e : Nat} : ∀ (d n : Nat) (rows : List (List Int)), SqOk e n rows → 1 ≤ n → n ≤ d → n ≤ 6 → Bd (n * (e + 4)) (detN d rows)
  | 0, n, _, _, h1, h2, _ => absurd h1 (by omega)
  | d + 1, n, [], h, h1, _, _ => absurd h.1 (by simp; omega)
  | d + 1, n, [r], h, h1, _, _ => by
    have hn : n = 1 := h.1.symm
    subst hn
    obtain ⟨h3, h4⟩ := h.2 r List.mem_cons_self
    match r, h3 with
    | [x], _ => exact (h4 x List.mem_cons_self).le (by omega)
  | d + 1, n, r :: q :: rest, h, h1, h2, h6 => by
    obtain ⟨m, rfl⟩ : ∃ m, n = m + 1 := ⟨n - 1, by omega⟩
    have hl : (q :: rest).length = m := by have := h.1; simp only [List.length_cons] at this ⊢; omega
    have hm : 1 ≤ m := by simp only [List.length_cons] at hl; omega
    obtain ⟨h3, h4⟩ := h.2 r List.mem_cons_self
    have hb := sumD_bd (f := fun k => detN d (minorL k (q :: rest))) (e := e) (M := m * (e + 4)) r 0 1 (.inl rfl) h4 fun j _ hj => det_bd d m _ (minor_ok ⟨hl, fun r' hr' => h.2 r' (List.mem_cons_of_mem _ hr')⟩ (by omega)) hm (by omega) (by omega)
    show Bd ((m + 1) * (e + 4)) (sumD (fun k => detN d (minorL k (q :: rest))) r 0 1)
    unfold Bd
    have h7 : r.length * 2 ^ (e + m * (e + 4)) < 2 ^ 3 * 2 ^ (e + m * (e + 4)) := Nat.mul_lt_mul_of_pos_right (by omega) (Nat.two_pow_pos _)
    have h8 : 2 ^ 3 * 2 ^ (e + m * (e + 4)) ≤ 2 ^ ((m + 1) * (e + 4)) := by
      rw [← Nat.pow_add]
      exact Nat.pow_le_pow_right (by decide) (by rw [Nat.succ_mul]; omega)
    omega
/-- a row with its places -/
def enF : Nat → List D → List D
  | _, [] => []
  | k, x :: r => .tuple [.int (k : Nat), x] :: enF (k + 1) r
theorem enumD_enF (xs : List D) : enumD xs = enF 0 xs := by
  have go : ∀ (xs : List D) (k : Nat), (List.range' k xs.length).zipWith (fun i x => PyData.tuple [.int (i : Nat), x]) xs = enF k xs := by
    intro xs
    induction xs with
    | nil => intro k; rfl
    | cons x r ih =>
      intro k
      rw [List.length_cons, List.range'_succ, List.zipWith_cons_cons, ih]
      rfl
  unfold enumD
  rw [List.range_eq_range']
  exact go xs 0
theorem enumD_len' (xs : List D) : (enumD xs).length = xs.length := enumD_len xs
theorem cut_take (r : List Int) (k : Nat) : cutD (r.map PyData.int) none (some (k : Int)) = (r.take k).map PyData.int := by
  unfold cutD
  rw [HT.sIx_none, HT.sIx_nat, List.drop_zero, Nat.sub_zero, List.length_map, ← List.map_take]
  congr 1
  rw [List.take_eq_take_iff]
  omega
theorem cut_drop (r : List D) (k : Nat) : cutD r (some (k : Int)) none = r.drop k := by
  unfold cutD
  rw [HT.sIx_none, HT.sIx_nat]
  by_cases h : k ≤ r.length
  · rw [Nat.min_eq_left h]
    exact List.take_of_length_le (by rw [List.length_drop]; omega)
  · rw [Nat.min_eq_right (by omega), List.drop_of_length_le (by omega), List.drop_of_length_le (by omega)]
    simp
theorem det_loop (E : AEnds) (d m e : Nat) (r0 : List Int) (rest : List (List Int)) (s : Option Src) (hl : rest.length = m) (hm : 1 ≤ m) (hmd : m ≤ d + 1) (hm6 : m ≤ 5) (he : e ≤ 2000) (hr0 : ∀ x ∈ r0, Bd e x) (hrl : r0.length = m + 1) (hrest : ∀ r ∈ rest, r.length = m + 1 ∧ ∀ x ∈ r, Bd e x) :
    ∀ (ns : List Int) (k : Nat) (acc sg : Int), k + ns.length = m + 1 → (∀ x ∈ ns, Bd e x) → Sg sg →
    (∀ sg', E.nx ⟨[some (.d (rwD (r0 :: rest))), some (.d (.int (acc + sumD (fun k => detN (d + 1) (minorL k rest)) ns k sg))), some (.d (.int sg')), none, none, none], ⟨s, []⟩⟩) →
    aForL 0 [3, 4, 5] (aGTup 2 (aGCons (aGName 3) (aGCons (aGName 4) aGNil))) (lb__law_determinant_3 (fnr__law_determinant (d + 1))) E (enF k (ns.map .int)) ⟨[some (.d (rwD (r0 :: rest))), some (.d (.int acc)), some (.d (.int sg)), none, none, none], ⟨s, []⟩⟩ := by
  intro ns
  induction ns with
  | nil =>
    intro k acc sg _ _ _ h
    have := h sg
    simp only [sumD, Int.add_zero] at this
    exact this
  | cons n ns ih =>
    intro k acc sg hk hn hs h
    have hsb : Bd 1 sg := by unfold Bd; rcases hs with rfl | rfl <;> decide
    have hs' : Sg (-sg) := sg_neg hs
    have hkm : k ≤ m := by rw [List.length_cons] at hk; omega
    have nx := ih (k + 1) (acc + sg * n * detN (d + 1) (minorL k rest)) (-sg) (by rw [List.length_cons] at hk; omega) (fun x hx => hn x (List.mem_cons_of_mem _ hx)) hs' (fun sg' => by
      have := h sg'
      simp only [sumD] at this
      rw [← Int.add_assoc] at this
      exact this)
    rw [List.map_cons]
    show aForL 0 [3, 4, 5] _ _ E (.tuple [.int (k : Nat), .int n] :: enF (k + 1) (ns.map .int)) _
    unfold aForL lb__law_determinant_3 rs__law_determinant_2
    have mo := minor_ok (k := k) ⟨hl, hrest⟩ hkm
    have db := det_bd (d + 1) m (minorL k rest) mo hm hmd (by omega)
    have hnb := hn n List.mem_cons_self
    have hlim : m * (e + 4) ≤ 5 * 2004 := Nat.mul_le_mul hm6 (by omega)
    walk_at "qs"
    by_cases c : n = 0
    · subst c
      rw [Int.mul_zero, Int.zero_mul, Int.add_zero] at nx
      rw [if_neg (by decide)]
      walk_at "qs"
      rw [Int.zero_sub]
      exact nx
    · rw [if_pos c]
      rw [show rwD (r0 :: rest) = .list (.list (r0.map .int) :: rest.map fun r => .list (r.map .int)) from rfl] at nx ⊢
      walk_at "qs"
      have st : ∀ (X : D) (r : List Int) (K : Option D → Mm → Prop), r.length = m + 1 → K (some (.list ((r.take k ++ r.drop (k + 1)).map .int))) ⟨s, []⟩ → stepC (aGName 5) aYes (le__law_determinant_1 (fnr__law_determinant (d + 1))) [some (.d X), some (.d (.int acc)), some (.d (.int sg)), some (.d (.int (k : Nat))), some (.d (.int n)), none] (.list (r.map .int)) ⟨s, []⟩ K := by
        intro X r K hr hK
        unfold stepC le__law_determinant_1
        walk_at "qs"
        rw [cut_take, show ((k : Int) + 1) = ((k + 1 : Nat) : Int) by omega, cut_drop, ← List.map_drop, ← List.map_append]
        refine ⟨?_, hK⟩
        rw [List.length_map, List.length_map, List.length_take, List.length_drop, sizeLine_eq]
        omega
      have ec : cutD (PyData.list (List.map PyData.int r0) :: List.map (fun r => PyData.list (List.map PyData.int r)) rest) (some 1) none = List.map (fun r => PyData.list (List.map PyData.int r)) rest := cut_drop _ 1
      rw [ec, List.length_map, hl]
      refine ⟨MulOk.bd hsb hnb (by omega), by omega, aLcL_all (fun r : List Int => PyData.list (r.map .int)) (fun r => .list ((r.take k ++ r.drop (k + 1)).map .int)) (fun r hr K hK => st _ r K (hrest r hr).1 hK) ?_⟩
      refine ⟨minorL k rest, e, m, ?_, mo, hm, hmd, by omega, he, ?_⟩
      · unfold minorL rwD
        rw [List.map_map]
        rfl
      · refine ⟨MulOk.bd (hsb.mul hnb) db (by omega), ?_⟩
        rw [Int.zero_sub]
        exact nx
theorem h__law_determinant : ∀ d avs s AQ, fnr__law_determinant (d + 1) avs s AQ → t__law_determinant (fnr__law_determinant d) (endsA AQ) ⟨startA N__law_determinant avs, ⟨s, []⟩⟩ := by
  rintro d _ s AQ ⟨rows, e, n, rfl, hr, h1, h2, h6, he, hq⟩
  show t__law_determinant (fnr__law_determinant d) (endsA AQ) ⟨[some (.d (rwD rows)), none, none, none, none, none], ⟨s, []⟩⟩
  unfold t__law_determinant
  match rows, hr, hq with
  | [], hr, _ => exact absurd hr.1 (by simp; omega)
  | [r], hr, hq =>
    have hn : n = 1 := hr.1.symm
    subst hn
    obtain ⟨h3, h4⟩ := hr.2 r List.mem_cons_self
    match r, h3, hq with
    | [x], _, hq =>
      rw [show rwD [[x]] = .list [.list [.int x]] from rfl]
      walk_at "qs"
      exact hq
  | r0 :: q :: rest, hr, hq =>
    obtain ⟨m, rfl⟩ : ∃ m, n = m + 1 := ⟨n - 1, by omega⟩
    have hl : (q :: rest).length = m := by have := hr.1; simp only [List.length_cons] at this ⊢; omega
    have hm : 1 ≤ m := by simp only [List.length_cons] at hl; omega
    obtain ⟨d', rfl⟩ : ∃ d', d = d' + 1 := ⟨d - 1, by omega⟩
    obtain ⟨h3, h4⟩ := hr.2 r0 List.mem_cons_self
    have lp := fun E hx => det_loop E d' m e r0 (q :: rest) s hl hm (by omega) (by omega) he h4 h3 (fun r hr' => hr.2 r (List.mem_cons_of_mem _ hr')) r0 0 0 1 (by omega) h4 (.inl rfl) hx
    rw [show rwD (r0 :: q :: rest) = .list (.list (r0.map .int) :: .list (q.map .int) :: rest.map fun r => .list (r.map .int)) from rfl] at lp ⊢
    walk_at "qs"
    rw [if_neg (by omega)]
    walk_at "qs"
    rw [enumD_enF]
    refine lp _ fun sg' => ?_
    walk_at "qs"
    rw [Int.zero_add]
    exact hq
/-! ### the trace's polynomial, bounds of values -/
theorem ps_two : Ps pTwo := by unfold Ps; decide
theorem val_two (x y z : Int) : valP pTwo x y z = 2 := by
  have p0 : ∀ n : Int, n ^ Int.toNat 0 = 1 := fun n => Int.pow_zero n
  simp only [valP, pTwo, List.map_cons, List.map_nil, List.sum_cons, List.sum_nil, tmV, p0]
  rfl
theorem val_trc {f : P4} (hf : P4s f) (x y z : Int) : valP (trcP f) x y z = 2 * valP f.1 x y z + x * valP f.2.1 x y z + y * valP f.2.2.1 x y z + z * valP f.2.2.2 x y z := by
  obtain ⟨a, b, c, d⟩ := f
  obtain ⟨h1, h2, h3, h4⟩ := hf
  obtain ⟨v1, v2, v3, v4, v5, v6, v7⟩ := val_units x y z
  obtain ⟨u1, u2, u3, u4, u5, u6, u7⟩ := ps_unit
  unfold trcP
  rw [val_sum (fun pr hpr => by
    simp only [List.mem_cons, List.not_mem_nil, or_false] at hpr
    rcases hpr with rfl | rfl | rfl | rfl
    · exact ⟨ps_two, h1⟩
    · exact ⟨u2, h2⟩
    · exact ⟨u3, h3⟩
    · exact ⟨u4, h4⟩)]
  simp only [List.map_cons, List.map_nil, List.sum_cons, List.sum_nil, v2, v3, v4, val_two]
  omega
theorem tr_comb (v t u : T4) : trT (comb v t u) = 2 * v.1 + (trM t u).1 * v.2.1 + (trM t u).2.1 * v.2.2.1 + (trM t u).2.2 * v.2.2.2 := by
  simp only [comb, trM, trT]
  grind
/-- the trace's polynomial tells the trace -/
theorem trace_tells {t u : T4} (h1 : detT t = 1) (h2 : detT u = 1) {w : List Int} (hw : ∀ l ∈ w, Ltr l) : valP (trcP (fourP w)) (trM t u).1 (trM t u).2.1 (trM t u).2.2 = trT (wrdI t u w) := by
  have ⟨a, b⟩ := four_tells' h1 h2 hw
  rw [val_trc a, ← b, tr_comb]
  rfl
theorem val_bd {p : Po} {d e : Nat} {x y z : Int} (hp : PoOk d p) (he : 0 < e) (hx : Bd e x) (hy : Bd e y) (hz : Bd e z) (hl : p.length ≤ 4000) : Bd (3 * (e * (d + 1) + 1) + 80) (valP p x y z) := by
  have hpo : ∀ (n : Int) (k : Int), Bd e n → 0 ≤ k → k ≤ d → Bd (e * (d + 1) + 1) (n ^ k.toNat) := fun n k hn h0 hk => by
    have h := hn.pow he k.toNat
    have : e * k.toNat ≤ e * (d + 1) := Nat.mul_le_mul_left _ (by omega)
    exact h.le (by omega)
  have ht : ∀ t ∈ p, (tmV x y z t).natAbs ≤ 2 ^ (64 + 3 * (e * (d + 1) + 1)) := by
    intro t ht
    obtain ⟨h1, h2, h3, h4⟩ := hp t ht
    have e1 := hpo x _ hx h1.1 h1.2
    have e2 := hpo y _ hy h2.1 h2.2
    have e3 := hpo z _ hz h3.1 h3.2
    have := (((Bd.of64 h4.1 h4.2).mul e1).mul e2).mul e3
    have := this.le (show 64 + (e * (d + 1) + 1) + (e * (d + 1) + 1) + (e * (d + 1) + 1) ≤ 64 + 3 * (e * (d + 1) + 1) by omega)
    unfold Bd at this
    exact Nat.le_of_lt this
  have hs : ∀ q : Po, (∀ t ∈ q, (tmV x y z t).natAbs ≤ 2 ^ (64 + 3 * (e * (d + 1) + 1))) → (valP q x y z).natAbs ≤ q.length * 2 ^ (64 + 3 * (e * (d + 1) + 1)) := by
    intro q
    induction q with
    | nil => intro _; exact Nat.zero_le _
    | cons t r ih =>
      intro h
      have h1 := h t List.mem_cons_self
      have h2 := ih fun t ht => h t (List.mem_cons_of_mem _ ht)
      have e1 : valP (t :: r) x y z = tmV x y z t + valP r x y z := by unfold valP; rw [List.map_cons, List.sum_cons]
      rw [e1, List.length_cons, Nat.add_mul]
      have := Int.natAbs_add_le (tmV x y z t) (valP r x y z)
      omega
  have h := hs p ht
  unfold Bd
  have h7 : p.length * 2 ^ (64 + 3 * (e * (d + 1) + 1)) < 2 ^ 13 * 2 ^ (64 + 3 * (e * (d + 1) + 1)) := Nat.mul_lt_mul_of_pos_right (by omega) (Nat.two_pow_pos _)
  have h8 : 2 ^ 13 * 2 ^ (64 + 3 * (e * (d + 1) + 1)) ≤ 2 ^ (3 * (e * (d + 1) + 1) + 80) := by
    rw [← Nat.pow_add]
    exact Nat.pow_le_pow_right (by decide) (by omega)
  omega
/-! ### the word a b a- b- -/
def wK : List Int := [1, 2, -1, -2]
theorem wK_ltr : ∀ l ∈ wK, Ltr l := by
  intro l hl
  unfold wK at hl
  simp only [List.mem_cons, List.not_mem_nil, or_false] at hl
  unfold Ltr
  omega
theorem wK_tr {t u : T4} (h1 : detT t = 1) (h2 : detT u = 1) : trT (wrdI t u wK) = kT3 (trM t u) := by
  have e : wrdI t u wK = mulT (mulT (mulT (mulT (1, 0, 0, 1) t) u) (invT t)) (invT u) := rfl
  rw [e, ← k_comm t u h1 h2, one_mul']
  have e2 : invT (mulT u t) = mulT (invT t) (invT u) := by
    obtain ⟨p, q, r, s⟩ := t; obtain ⟨e, f, g, h⟩ := u
    simp only [mulT, invT]
    refine Prod.ext ?_ (Prod.ext ?_ (Prod.ext ?_ ?_)) <;> simp only [] <;> grind
  rw [e2, mul_ass (mulT t u)]
theorem wK_ok : ∀ k, P4Ok (fourP (wK.take k)) := by
  intro k
  match k with
  | 0 => unfold P4Ok; decide +kernel
  | 1 => unfold P4Ok; decide +kernel
  | 2 => unfold P4Ok; decide +kernel
  | 3 => unfold P4Ok; decide +kernel
  | k + 4 =>
    rw [List.take_of_length_le (show wK.length ≤ k + 4 by unfold wK; simp)]
    unfold P4Ok; decide +kernel
theorem wK_len : (trcP (fourP wK)).length ≤ 10 := by decide +kernel
theorem wK_po : ∀ p ∈ fL (fourP wK), PoOk 4 p := by unfold PoOk B64; decide +kernel
theorem wK_pt : PoOk 4 (trcP (fourP wK)) := by unfold PoOk B64; decide +kernel
theorem wK_rep : (poD (trcP (fourP wK))).depth ≤ 64 ∧ (poD (trcP (fourP wK))).bulk ≤ 8000 := by decide +kernel
theorem wK_rep2 : trcP (fourP wK) = [((0, 0, 0), -2), ((0, 0, 2), 1), ((0, 2, 0), 1), ((1, 1, 1), -1), ((2, 0, 0), 1)] := by decide +kernel
/-- the four tables' determinant -/
theorem det_four {t u : T4} (h1 : detT t = 1) (h2 : detT u = 1) : (detN 5 [[1, 0, 0, 1], [t.1, t.2.1, t.2.2.1, t.2.2.2], [u.1, u.2.1, u.2.2.1, u.2.2.2], [(mulT t u).1, (mulT t u).2.1, (mulT t u).2.2.1, (mulT t u).2.2.2]]).natAbs = (kT3 (trM t u) - 2).natAbs := by
  obtain ⟨p, q, r, s⟩ := t; obtain ⟨e, f, g, h⟩ := u
  simp only [detT] at h1 h2
  have key : detN 5 [[1, 0, 0, 1], [p, q, r, s], [e, f, g, h], [(mulT (p, q, r, s) (e, f, g, h)).1, (mulT (p, q, r, s) (e, f, g, h)).2.1, (mulT (p, q, r, s) (e, f, g, h)).2.2.1, (mulT (p, q, r, s) (e, f, g, h)).2.2.2]] = -((p + s) * (p + s) * (e * h - f * g) + (e + h) * (e + h) * (p * s - q * r) + trT (mulT (p, q, r, s) (e, f, g, h)) * trT (mulT (p, q, r, s) (e, f, g, h)) - (p + s) * (e + h) * trT (mulT (p, q, r, s) (e, f, g, h)) - 4 * ((p * s - q * r) * (e * h - f * g))) := by
    clear h1 h2
    simp only [detN, sumD, minorL, List.map_cons, List.map_nil, List.take_zero, List.take_succ_cons, List.take_nil, List.drop_succ_cons, List.drop_zero, List.drop_nil, List.nil_append, List.cons_append, List.headD_cons, List.append_nil, Nat.zero_add, Nat.reduceAdd, mulT, trT]
    grind
  rw [h1, h2] at key
  simp only []
  rw [key]
  simp only [kT3, trM, trT]
  omega
def N_law : List Str := ["script", "source", "word", "four", "turn", "pair", "triple", "kept", "x", "y", "z", "k", "late", "values", "both", "rows", "j", "one", "row"]
def le_law_1 : ATE := (aBin aMul (aVar 17) (aBin aIx (aVar 18) (aVar 16)))
def le_law_2 : ATE := (aCall bSum (aCons (aLc (aZipM (aCons (aVar 13) (aCons (aVar 15) aNil))) (aGTup 2 (aGCons (aGName 17) (aGCons (aGName 18) aGNil))) aYes le_law_1 [17, 18]) aNil))
def le_law_3 : ATE := (aCall bList (aCons (aVar 18) aNil))
def rs_law_4 : ATS := (aIfS (aOr (aNot (aTru (aFn 3 fn__law_line_right (aCons (aVar 5) (aCons (aFn 1 fn_line_told (aCons (aVar 5) aNil)) (aCons (aVar 11) aNil)))))) (aTest (aBin aNe (aCall bRepr (aCons (aVar 5) aNil)) (aVar 7)))) (aRet (aC (.bool false))) aNext)
def rs_law_5 : ATS := (aSeq (aIfS (aTest (aBin aNe (aCall bAbs (aCons (aFn 1 fn__law_determinant (aCons (aLc (aItL (aVar 15)) (aGName 18) aYes le_law_3 [18]) aNil)) aNil)) (aCall bAbs (aCons (aBin aSub (aVar 11) (aC (.int 2))) aNil)))) (aRet (aC (.bool false))) aNext)
    rs_law_4)
def rs_law_6 : ATS := (aSeq (aAsg (aTup (aCons (aFn 2 fn_four_value (aCons (aVar 3) (aCons (aVar 6) aNil))) (aCons (aFn 2 fn__law_times (aCons (aBin aIx (aVar 5) (aC (.int 0))) (aCons (aBin aIx (aVar 5) (aC (.int 1))) aNil))) aNil))) (aGTup 2 (aGCons (aGName 13) (aGCons (aGName 14) aGNil))))
    (aSeq (aSet 15 (aLst (aCons (aTup (aCons (aC (.int 1)) (aCons (aC (.int 0)) (aCons (aC (.int 0)) (aCons (aC (.int 1)) aNil))))) (aCons (aBin aIx (aVar 5) (aC (.int 0))) (aCons (aBin aIx (aVar 5) (aC (.int 1))) (aCons (aVar 14) aNil))))))
    (aSeq (aIfS (aTest (aBin aNe (aCall bTuple (aCons (aLc (aRng1 (aCons (aC (.int 4)) aNil)) (aGName 16) aYes le_law_2 [16]) aNil)) (aVar 12))) (aRet (aC (.bool false))) aNext)
    rs_law_5)))
def rs_law_7 : ATS := (aSeq (aSet 12 (aFn 2 fn__law_table_of (aCons (aVar 5) (aCons (aVar 2) aNil))))
    (aSeq (aIfS (aOr (aTest (aBin aNe (aBin aAdd (aBin aIx (aVar 12) (aC (.int 0))) (aBin aIx (aVar 12) (aC (.int 3)))) (aVar 11))) (aOr (aTest (aBin aNe (aFn 2 fn_poly_value (aCons (aFn 1 fn_trace_told (aCons (aVar 2) aNil)) (aCons (aVar 6) aNil))) (aVar 11))) (aTest (aBin aNe (aFn 2 fn_word_table (aCons (aVar 5) (aCons (aVar 2) aNil))) (aVar 12))))) (aRet (aC (.bool false))) aNext)
    rs_law_6))
def lb_law_8 : ATS := (aSeq (aSet 5 (aFn 1 fn__law_pair (aCons (aVar 1) aNil)))
    (aSeq (aPar 6 7 (aCons (aFn 1 fn_traced (aCons (aVar 5) aNil)) (aCons (aCall bRepr (aCons (aVar 5) aNil)) aNil)))
    (aSeq (aAsg (aVar 6) (aGTup 3 (aGCons (aGName 8) (aGCons (aGName 9) (aGCons (aGName 10) aGNil)))))
    (aSeq (aSet 11 (aBin aSub (aBin aSub (aBin aAdd (aBin aAdd (aBin aMul (aVar 8) (aVar 8)) (aBin aMul (aVar 9) (aVar 9))) (aBin aMul (aVar 10) (aVar 10))) (aBin aMul (aBin aMul (aVar 8) (aVar 9)) (aVar 10))) (aC (.int 2))))
    (aSeq (aIfS (aOr (aTest (aBin aNe (aCall bRepr (aCons (aVar 6) aNil)) (aCall bRepr (aCons (aFn 1 fn__law_triple (aCons (aVar 5) aNil)) aNil)))) (aTest (aBin aNe (aCall bRepr (aCons (aFn 1 fn_k_of (aCons (aVar 6) aNil)) aNil)) (aCall bRepr (aCons (aVar 11) aNil))))) (aRet (aC (.bool false))) aNext)
    rs_law_7)))))
def rs_law_9 : ATS := (aSeq (aFor [4, 5, 6, 7, 8, 9, 10, 11, 12, 13, 14, 15, 16, 17, 18] (aRng1 (aCons (aC (.int 5)) aNil)) (aGName 4) lb_law_8)
    (aRet (aAndV (aBin aEq (aFn 1 fn_line_told (aCons (aTup (aCons (aTup (aCons (aC (.int 1)) (aCons (aC (.int 1)) (aCons (aC (.int 0)) (aCons (aC (.int 1)) aNil))))) (aCons (aTup (aCons (aC (.int 1)) (aCons (aC (.int 5)) (aCons (aC (.int 0)) (aCons (aC (.int 1)) aNil))))) aNil))) aNil)) (aTup (aCons (aC (.str "one")) (aCons (aTup (aCons (aC (.int 1)) (aCons (aC (.int 0)) aNil))) aNil)))) (aBin aEq (aFn 1 fn_line_told (aCons (aBin aRep (aTup (aCons (aTup (aCons (aC (.int 2)) (aCons (aC (.int 1)) (aCons (aC (.int 1)) (aCons (aC (.int 1)) aNil))))) aNil)) (aC (.int 2))) aNil)) (aTup (aCons (aC (.str "root")) (aCons (aC (.int 5)) aNil)))))))
def t_law : ATS := (aSeq (aSet 1 (aFn 1 fn__law_source (aCons (aVar 0) aNil)))
    (aSeq (aPar 2 3 (aCons (aTup (aCons (aC (.int 1)) (aCons (aC (.int 2)) (aCons (aUn aNeg (aC (.int 1))) (aCons (aUn aNeg (aC (.int 2))) aNil))))) (aCons (aFn 1 fn_four_told (aCons (aTup (aCons (aC (.int 1)) (aCons (aC (.int 2)) (aCons (aUn aNeg (aC (.int 1))) (aCons (aUn aNeg (aC (.int 2))) aNil))))) aNil)) aNil)))
    (aSeq (aIfS (aTest (aBin aNe (aCall bRepr (aCons (aFn 1 fn_trace_of_traces (aCons (aVar 3) aNil)) aNil)) (aCall bRepr (aCons (aFn 1 fn_trace_told (aCons (aVar 2) aNil)) aNil)))) (aRet (aC (.bool false))) aNext)
    rs_law_9)))
def fn_law : AFn := lawFn
theorem tbD_eq (m : T4) : tbD m = .tuple [.int m.1, .int m.2.1, .int m.2.2.1, .int m.2.2.2] := rfl
theorem triD_eq (m : T3) : triD m = .tuple [.int m.1, .int m.2.1, .int m.2.2] := rfl
def prD (t u : T4) : D := .tuple [tbD t, tbD u]
theorem rep_pr {t u : T4} (bt : Bt 60 t) (bu : Bt 60 u) : RepOk (prD t u) := by
  have hh : ∀ {i}, Bd 60 i → IntsB (.int i) := fun h => ints_i h (by decide)
  simp only [IntsB] at hh
  refine RepOk.of ?_ ?_ ?_
  · simp only [prD, tbD, IntsB, IntsBs, and_true]
    exact ⟨⟨hh bt.1, hh bt.2.1, hh bt.2.2.1, hh bt.2.2.2⟩, hh bu.1, hh bu.2.1, hh bu.2.2.1, hh bu.2.2.2⟩
  · simp [prD, tbD, PyData.depth, PyData.depthAll]
  · simp [prD, tbD, PyData.bulk, PyData.bulkAll]
theorem rep_int {k : Nat} {i : Int} (h : Bd k i) (hk : k < 1900) : RepOk (.int i) := RepOk.of (ints_i h hk) (by simp [PyData.depth]) (by simp [PyData.bulk])
set_option hygiene false in
local macro_rules | `(tactic| walk_at "sq") => `(tactic| (refine aSeq_abs ?_; intro E2 hE2 hR2))
set_option hygiene false in
local macro_rules | `(tactic| walk_at "nx") => `(tactic| (refine hE2 _ ?_; clear hE2 hR2 E2))
/-- where a turn ends: the first four places stay -/
abbrev TurnEnd (E : AEnds) (ns : List Int) (x2 x3 : D) : Prop := ∀ (a4 a5 a6 a7 a8 a9 a10 a11 a12 a13 a14 a15 a16 a17 a18 : Option AV) (S : Src), E.nx ⟨[some (.scr ns), some .src, some (.d x2), some (.d x3), a4, a5, a6, a7, a8, a9, a10, a11, a12, a13, a14, a15, a16, a17, a18], ⟨some S, []⟩⟩
theorem L4 (E : AEnds) (ns : List Int) (S : Src) (t u : T4) (x2 x3 : D) (bt : Bt 60 t) (bu : Bt 60 u) (h1 : detT t = 1) (h2 : detT u = 1) (h : TurnEnd E ns x2 x3) (a4 a6 a8 a9 a10 a12 a13 a14 a15 : Option AV) :
    rs_law_4 E ⟨[some (.scr ns), some .src, some (.d x2), some (.d x3), a4, some (.d (prD t u)), a6, some (.d (.str (prD t u).shown)), a8, a9, a10, some (.d (.int (kT3 (trM t u)))), a12, a13, a14, a15, none, none, none], ⟨some S, []⟩⟩ := by
  unfold rs_law_4
  have rp := rep_pr bt bu
  have hp : prD t u = .tuple [tbD t, tbD u] := rfl
  walk_at "qs"
  refine ⟨t, u, by rw [hp], ⟨bt.le (by decide), bu.le (by decide)⟩, ⟨h1, h2⟩, ?_⟩
  refine ⟨rfl, t, u, by rw [hp], ⟨bt, bu⟩, ⟨h1, h2⟩, ?_⟩
  walk_at "qs"
  exact ⟨rp, h ..⟩
theorem L5 (E : AEnds) (ns : List Int) (S : Src) (t u : T4) (x2 x3 : D) (bt : Bt 60 t) (bu : Bt 60 u) (h1 : detT t = 1) (h2 : detT u = 1) (h : TurnEnd E ns x2 x3) (a4 a6 a8 a9 a10 a12 a13 a14 : Option AV) :
    rs_law_5 E ⟨[some (.scr ns), some .src, some (.d x2), some (.d x3), a4, some (.d (prD t u)), a6, some (.d (.str (prD t u).shown)), a8, a9, a10, some (.d (.int (kT3 (trM t u)))), a12, a13, a14, some (.d (.list [tbD (1, 0, 0, 1), tbD t, tbD u, tbD (mulT t u)])), none, none, none], ⟨some S, []⟩⟩ := by
  unfold rs_law_5
  have sev := fun a12 a13 a14 a15 => L4 E ns S t u x2 x3 bt bu h1 h2 h a4 a6 a8 a9 a10 a12 a13 a14 a15
  have st : ∀ (m : T4) (x15 : D) (K : Option D → Mm → Prop), K (some (.list ([m.1, m.2.1, m.2.2.1, m.2.2.2].map .int))) ⟨some S, []⟩ → stepC (aGName 18) aYes le_law_3 [some (.scr ns), some .src, some (.d x2), some (.d x3), a4, some (.d (prD t u)), a6, some (.d (.str (prD t u).shown)), a8, a9, a10, some (.d (.int (kT3 (trM t u)))), a12, a13, a14, some (.d x15), none, none, none] (tbD m) ⟨some S, []⟩ K := by
    intro m x15 K hK
    unfold stepC le_law_3
    rw [tbD_eq m]
    walk_at "qs"
    exact hK
  walk_at "qs"
  refine aLcL_step (st _ _ _ ?_)
  refine aLcL_step (st _ _ _ ?_)
  refine aLcL_step (st _ _ _ ?_)
  refine aLcL_step (st _ _ _ ?_)
  unfold aLcL
  have bm : Bt 121 (mulT t u) := bt.mul bu
  have b1 : Bt 200 (1, 0, 0, 1) := bt_one.le (by decide)
  have sq : SqOk 200 4 [[(1 : Int), 0, 0, 1], [t.1, t.2.1, t.2.2.1, t.2.2.2], [u.1, u.2.1, u.2.2.1, u.2.2.2], [(mulT t u).1, (mulT t u).2.1, (mulT t u).2.2.1, (mulT t u).2.2.2]] := by
    have go : ∀ m : T4, Bt 200 m → ([m.1, m.2.1, m.2.2.1, m.2.2.2] : List Int).length = 4 ∧ ∀ x ∈ ([m.1, m.2.1, m.2.2.1, m.2.2.2] : List Int), Bd 200 x := by
      intro m hm
      refine ⟨rfl, fun x hx => ?_⟩
      simp only [List.mem_cons, List.not_mem_nil, or_false] at hx
      rcases hx with rfl | rfl | rfl | rfl
      · exact hm.1
      · exact hm.2.1
      · exact hm.2.2.1
      · exact hm.2.2.2
    refine ⟨rfl, fun r hr => ?_⟩
    simp only [List.mem_cons, List.not_mem_nil, or_false] at hr
    rcases hr with rfl | rfl | rfl | rfl
    · exact go (1, 0, 0, 1) b1
    · exact go t (bt.le (by decide))
    · exact go u (bu.le (by decide))
    · exact go (mulT t u) (bm.le (by decide))
  refine ⟨[[(1 : Int), 0, 0, 1], [t.1, t.2.1, t.2.2.1, t.2.2.2], [u.1, u.2.1, u.2.2.1, u.2.2.2], [(mulT t u).1, (mulT t u).2.1, (mulT t u).2.2.1, (mulT t u).2.2.2]], 200, 4, rfl, sq, by decide, by decide, by decide, by decide, ?_⟩
  have hd := det_four h1 h2
  generalize detN 5 [[1, 0, 0, 1], [t.1, t.2.1, t.2.2.1, t.2.2.2], [u.1, u.2.1, u.2.2.1, u.2.2.2], [(mulT t u).1, (mulT t u).2.1, (mulT t u).2.2.1, (mulT t u).2.2.2]] = dt at hd ⊢
  walk_at "qs"
  rw [if_neg (by split <;> split <;> omega)]
  exact sev ..
theorem four_val_bd {t u : T4} (bt : Bt 60 t) (bu : Bt 60 u) : ∀ p ∈ fL (fourP wK), Bd 2000 (valP p (trM t u).1 (trM t u).2.1 (trM t u).2.2) := by
  intro p hp
  have b3 := Bt3.of bt bu
  have ok4 : P4Ok (fourP wK) := by have := wK_ok 4; rwa [List.take_of_length_le (show wK.length ≤ 4 by unfold wK; simp)] at this
  refine (val_bd (wK_po p hp) (e := 122) (by decide) b3.1 b3.2.1 b3.2.2 ?_).le (by decide)
  simp only [fL, List.mem_cons, List.not_mem_nil, or_false] at hp
  rcases hp with rfl | rfl | rfl | rfl
  · exact ok4.1
  · exact ok4.2.1
  · exact ok4.2.2.1
  · exact ok4.2.2.2
theorem L6 (E : AEnds) (ns : List Int) (S : Src) (t u W : T4) (f : P4) (x2 : D) (kept : D) (hkept : kept = .str (prD t u).shown) (bt : Bt 60 t) (bu : Bt 60 u) (h1 : detT t = 1) (h2 : detT u = 1) (h : TurnEnd E ns x2 (p4D f)) (ok4 : P4Ok f) (po : ∀ p ∈ fL f, PoOk 4 p)
    (vb : ∀ p ∈ fL f, Bd 2000 (valP p (trM t u).1 (trM t u).2.1 (trM t u).2.2)) (tell : comb (val4 f (trM t u).1 (trM t u).2.1 (trM t u).2.2) t u = W) (a4 a8 a9 a10 : Option AV) :
    rs_law_6 E ⟨[some (.scr ns), some .src, some (.d x2), some (.d (p4D f)), a4, some (.d (prD t u)), some (.d (triD (trM t u))), some (.d kept), a8, a9, a10, some (.d (.int (kT3 (trM t u)))), some (.d (tbD W)), none, none, none, none, none, none], ⟨some S, []⟩⟩ := by
  unfold rs_law_6
  have sev := fun a12 a13 a14 => L5 E ns S t u x2 (p4D f) bt bu h1 h2 h a4 (some (.d (triD (trM t u)))) a8 a9 a10 a12 a13 a14
  rw [← hkept] at sev
  have b3 := Bt3.of bt bu
  have v1 := vb _ (show f.1 ∈ fL f by simp [fL])
  have v2 := vb _ (show f.2.1 ∈ fL f by simp [fL])
  have v3 := vb _ (show f.2.2.1 ∈ fL f by simp [fL])
  have v4 := vb _ (show f.2.2.2 ∈ fL f by simp [fL])
  have hV : val4 f (trM t u).1 (trM t u).2.1 (trM t u).2.2 = (valP f.1 (trM t u).1 (trM t u).2.1 (trM t u).2.2, valP f.2.1 (trM t u).1 (trM t u).2.1 (trM t u).2.2, valP f.2.2.1 (trM t u).1 (trM t u).2.1 (trM t u).2.2, valP f.2.2.2 (trM t u).1 (trM t u).2.1 (trM t u).2.2) := rfl
  have hp : prD t u = .tuple [tbD t, tbD u] := rfl
  generalize hP : prD t u = P at *
  refine aSeq_abs fun E1 hE1 _ => ?_
  walk_at "qs"
  refine ⟨f, (trM t u).1, (trM t u).2.1, (trM t u).2.2, 4, 122, rfl, ok4, po, by decide, b3.1, b3.2.1, b3.2.2, by decide, by decide, ?_⟩
  rw [hV] at tell ⊢
  generalize valP f.1 (trM t u).1 (trM t u).2.1 (trM t u).2.2 = p0 at *
  generalize valP f.2.1 (trM t u).1 (trM t u).2.1 (trM t u).2.2 = p1 at *
  generalize valP f.2.2.1 (trM t u).1 (trM t u).2.1 (trM t u).2.2 = p2 at *
  generalize valP f.2.2.2 (trM t u).1 (trM t u).2.1 (trM t u).2.2 = p3 at *
  subst hp
  walk_at "qs"
  refine ⟨t, u, rfl, bt.le (by decide), bu.le (by decide), ?_⟩
  walk_at "qs"
  refine hE1 _ ?_
  refine aSeq_abs fun E2 hE2 _ => ?_
  walk_at "qs"
  refine hE2 _ ?_
  refine aSeq_abs fun E3 hE3 hR3 => ?_
  walk_at "qs"
  refine ⟨Rg.of (by decide) (by decide), by rw [rngD_len]; decide, ?_⟩
  rw [show rngD 0 (Int.toNat 4) = [PyData.int 0, .int 1, .int 2, .int 3] from rfl]
  have bm : Bt 121 (mulT t u) := bt.mul bu
  have mo : ∀ {a b : Int}, Bd 2000 a → Bd 200 b → MulOk a b := fun ha hb => MulOk.bd ha hb (by decide)
  have rb : ∀ {b}, Bd 200 b → Bd 200 b := fun h => h
  have bt2 : Bt 200 t := bt.le (by decide)
  have bu2 : Bt 200 u := bu.le (by decide)
  have bm2 : Bt 200 (mulT t u) := bm.le (by decide)
  have one : Bd 200 1 := by unfold Bd; decide
  have zro : Bd 200 0 := by unfold Bd; decide
  -- one turn: the sum at a place
  have go : ∀ (j r1 r2 r3 r4 : Int) (ds2 ds3 ds4 : D) (acc : List D) (K : Option D → Mm → Prop), (Bd 200 r1 ∧ Bd 200 r2 ∧ Bd 200 r3 ∧ Bd 200 r4) → True := fun _ _ _ _ _ _ _ _ _ _ _ => trivial
  rw [tbD_eq t, tbD_eq u, tbD_eq (mulT t u)] at sev
  rw [tbD_eq t, tbD_eq u, tbD_eq (mulT t u), tbD_eq (p0, p1, p2, p3)]
  simp only []
  have z2 : ∀ (x1 x2 x3 x4 y1 y2 y3 y4 : D), zipD [x1, x2, x3, x4] [y1, y2, y3, y4] = [.tuple [x1, y1], .tuple [x2, y2], .tuple [x3, y3], .tuple [x4, y4]] := fun _ _ _ _ _ _ _ _ => rfl
  iterate 4
    refine aLcL_step ?_
    unfold stepC
    try unfold le_law_2
    walk_at "qs"
    rw [z2]
    refine ⟨by simp, ?_⟩
    iterate 4
      refine aLcL_step ?_
      unfold stepC
      try unfold le_law_1
      walk_at "qs"
      refine ⟨mo (by assumption) (by first | exact one | exact zro | exact bt2.1 | exact bt2.2.1 | exact bt2.2.2.1 | exact bt2.2.2.2 | exact bu2.1 | exact bu2.2.1 | exact bu2.2.2.1 | exact bu2.2.2.2 | exact bm2.1 | exact bm2.2.1 | exact bm2.2.2.1 | exact bm2.2.2.2), ?_⟩
    unfold aLcL
    simp only [List.nil_append, List.cons_append, intsD, List.sum_cons, List.sum_nil, Int.mul_one, Int.mul_zero, Int.zero_add]
  unfold aLcL
  simp only [List.nil_append, List.cons_append]
  have e : ((p0 + (p1 * t.1 + (p2 * u.1 + (p3 * (mulT t u).1 + 0))), p1 * t.2.1 + (p2 * u.2.1 + (p3 * (mulT t u).2.1 + 0)), p1 * t.2.2.1 + (p2 * u.2.2.1 + (p3 * (mulT t u).2.2.1 + 0)), p0 + (p1 * t.2.2.2 + (p2 * u.2.2.2 + (p3 * (mulT t u).2.2.2 + 0)))) : T4) = W := by
    rw [← tell]
    simp only [comb]
    refine Prod.ext ?_ (Prod.ext ?_ (Prod.ext ?_ ?_)) <;> simp only [] <;> grind
  refine ⟨rfl, rfl, ?_⟩
  rw [if_neg (by
    show ¬ PyData.eqv (tbD (p0 + (p1 * t.1 + (p2 * u.1 + (p3 * (mulT t u).1 + 0))), p1 * t.2.1 + (p2 * u.2.1 + (p3 * (mulT t u).2.1 + 0)), p1 * t.2.2.1 + (p2 * u.2.2.1 + (p3 * (mulT t u).2.2.1 + 0)), p0 + (p1 * t.2.2.2 + (p2 * u.2.2.2 + (p3 * (mulT t u).2.2.2 + 0))))) (tbD W) = false
    rw [eqv_tb, e]; simp)]
  exact hE3 _ (sev ..)
theorem L7 (E : AEnds) (ns : List Int) (S : Src) (t u W : T4) (f : P4) (g : Po) (w : List Int) (kept : D) (hkept : kept = .str (prD t u).shown) (bt : Bt 60 t) (bu : Bt 60 u) (h1 : detT t = 1) (h2 : detT u = 1) (h : TurnEnd E ns (wD w) (p4D f)) (ok4 : P4Ok f) (po : ∀ p ∈ fL f, PoOk 4 p)
    (hw : ∀ l ∈ w, Ltr l) (hl : w.length ≤ 10) (hwk : ∀ k, P4Ok (fourP (w.take k))) (hg : g = trcP (fourP w)) (hgl : g.length ≤ 4000) (gpo : PoOk 4 g) (tr1 : trT W = kT3 (trM t u)) (tr2 : valP g (trM t u).1 (trM t u).2.1 (trM t u).2.2 = kT3 (trM t u)) (hW : wrdI t u w = W)
    (vb : ∀ p ∈ fL f, Bd 2000 (valP p (trM t u).1 (trM t u).2.1 (trM t u).2.2)) (tell : comb (val4 f (trM t u).1 (trM t u).2.1 (trM t u).2.2) t u = W) (a4 a8 a9 a10 : Option AV) :
    rs_law_7 E ⟨[some (.scr ns), some .src, some (.d (wD w)), some (.d (p4D f)), a4, some (.d (prD t u)), some (.d (triD (trM t u))), some (.d kept), a8, a9, a10, some (.d (.int (kT3 (trM t u)))), none, none, none, none, none, none, none], ⟨some S, []⟩⟩ := by
  unfold rs_law_7
  have sev := L6 E ns S t u W f (wD w) kept hkept bt bu h1 h2 h ok4 po vb tell a4 a8 a9 a10
  have b3 := Bt3.of bt bu
  refine aSeq_abs fun E1 hE1 _ => ?_
  walk_at "qs"
  refine ⟨t, u, w, 60, rfl, hw, bt, bu, by decide, Nat.le_trans (Nat.mul_le_mul_left _ (Nat.succ_le_succ hl)) (by decide), ?_⟩
  rw [hW]
  refine hE1 _ ?_
  refine aSeq_abs fun E2 hE2 _ => ?_
  rw [tbD_eq W] at sev ⊢
  walk_at "qs"
  rw [if_neg (by unfold trT at tr1; rw [tr1]; exact fun h => h rfl)]
  refine ⟨w, rfl, hw, hwk, by rw [← hg]; exact hgl, ?_⟩
  rw [← hg]
  refine ⟨rfl, g, (trM t u).1, (trM t u).2.1, (trM t u).2.2, 4, 122, rfl, by omega, gpo, by decide, b3.1, b3.2.1, b3.2.2, by decide, by decide, ?_⟩
  walk_at "qs"
  rw [if_neg (by rw [tr2]; exact fun h => h rfl)]
  refine ⟨t, u, w, 60, rfl, hw, bt, bu, by decide, Nat.le_trans (Nat.mul_le_mul_left _ (Nat.succ_le_succ hl)) (by decide), ?_⟩
  walk_at "qs"
  rw [hW]
  refine ⟨rfl, rfl, ?_⟩
  rw [if_neg (by
    show ¬ PyData.eqv (tbD W) (tbD W) = false
    rw [eqv_tb]; simp)]
  exact hE2 _ sev
theorem turn_loop (E : AEnds) (ns : List Int) (f : P4) (g : Po) (w : List Int) (ok4 : P4Ok f) (po : ∀ p ∈ fL f, PoOk 4 p) (hw : ∀ l ∈ w, Ltr l) (hl : w.length ≤ 10) (hwk : ∀ k, P4Ok (fourP (w.take k))) (hg : g = trcP (fourP w)) (hgl : g.length ≤ 4000) (gpo : PoOk 4 g)
    (tr1 : ∀ t u, detT t = 1 → detT u = 1 → trT (wrdI t u w) = kT3 (trM t u)) (tr2 : ∀ t u, detT t = 1 → detT u = 1 → valP g (trM t u).1 (trM t u).2.1 (trM t u).2.2 = kT3 (trM t u))
    (vb : ∀ t u, Bt 60 t → Bt 60 u → ∀ p ∈ fL f, Bd 2000 (valP p (trM t u).1 (trM t u).2.1 (trM t u).2.2)) (tell : ∀ t u, detT t = 1 → detT u = 1 → comb (val4 f (trM t u).1 (trM t u).2.1 (trM t u).2.2) t u = wrdI t u w)
    (h : ∀ S, E.nx ⟨[some (.scr ns), some .src, some (.d (wD w)), some (.d (p4D f)), none, none, none, none, none, none, none, none, none, none, none, none, none, none, none], ⟨some S, []⟩⟩) : ∀ (ds : List D) (S : Src),
    aForL 0 [4, 5, 6, 7, 8, 9, 10, 11, 12, 13, 14, 15, 16, 17, 18] (aGName 4) lb_law_8 E ds ⟨[some (.scr ns), some .src, some (.d (wD w)), some (.d (p4D f)), none, none, none, none, none, none, none, none, none, none, none, none, none, none, none], ⟨some S, []⟩⟩ := by
  intro ds
  induction ds with
  | nil => intro S; exact h ..
  | cons d ds ih =>
    intro S
    unfold aForL
    walk_at "qs"
    generalize hE : ({ nx := _, rt := _, bk := _, ct := _ } : AEnds) = E1
    have te : TurnEnd E1 ns (wD w) (p4D f) := by
      unfold TurnEnd
      intros
      rw [← hE]
      exact ih _
    clear hE
    unfold lb_law_8
    walk_at "sq"
    walk_at "qs"
    refine ⟨S, rfl, rfl, fun t u S1 h1 h2 bt bu => ?_⟩
    walk_at "nx"
    have b3 := Bt3.of bt bu
    have r3 : RepOk (triD (trM t u)) := rep_tri (b3.le (by decide) : Bt3 1000 _)
    have rk : Bd 500 (kT3 (trM t u)) := by
      have := (((b3.1.mul b3.1).add' (b3.2.1.mul b3.2.1)).add' (b3.2.2.mul b3.2.2)).sub' ((b3.1.mul b3.2.1).mul b3.2.2)
      exact (this.sub' (Bd.lit (i := 2))).le (by decide)
    have rp := rep_pr bt bu
    have hp : PyData.tuple [tbD t, tbD u] = prD t u := rfl
    walk_at "sq"
    walk_at "qs"
    refine ⟨t, u, rfl, bt.le (by decide), bu.le (by decide), ?_⟩
    walk_at "qs"
    rw [hp]
    refine ⟨rp, ?_⟩
    walk_at "nx"
    walk_at "sq"
    rw [triD_eq (trM t u)]
    walk_at "qs"
    walk_at "nx"
    walk_at "sq"
    walk_at "qs"
    refine ⟨MulOk.bd b3.1 b3.1 (by decide), MulOk.bd b3.2.1 b3.2.1 (by decide), MulOk.bd b3.2.2 b3.2.2 (by decide), MulOk.bd b3.1 b3.2.1 (by decide), MulOk.bd (b3.1.mul b3.2.1) b3.2.2 (by decide), ?_⟩
    walk_at "nx"
    rw [← triD_eq (trM t u), show (trM t u).1 * (trM t u).1 + (trM t u).2.1 * (trM t u).2.1 + (trM t u).2.2 * (trM t u).2.2 - (trM t u).1 * (trM t u).2.1 * (trM t u).2.2 - 2 = kT3 (trM t u) from rfl]
    walk_at "sq"
    walk_at "qs"
    refine ⟨r3, t, u, rfl, bt.le (by decide), bu.le (by decide), ?_⟩
    walk_at "qs"
    refine ⟨r3, ?_⟩
    refine ⟨trM t u, rfl, b3.le (by decide), ?_⟩
    walk_at "qs"
    refine ⟨rep_int rk (by decide), ?_⟩
    walk_at "qs"
    refine ⟨rep_int rk (by decide), ?_⟩
    rw [if_neg (fun h => h trivial)]
    exact hE2 _ (L7 E1 ns S1 t u _ f g w _ rfl bt bu h1 h2 te ok4 po hw hl hwk hg hgl gpo (tr1 t u h1 h2) (tr2 t u h1 h2) rfl (vb t u bt bu) (tell t u h1 h2) ..)
theorem h_law : ∀ avs s AQ, fn_law avs s AQ → t_law (endsA AQ) ⟨startA N_law avs, ⟨s, []⟩⟩ := by
  rintro _ _ AQ ⟨ns, rfl, rfl, hn, hq⟩
  show t_law (endsA AQ) ⟨[some (.scr ns), none, none, none, none, none, none, none, none, none, none, none, none, none, none, none, none, none, none], ⟨none, []⟩⟩
  have ok4 : P4Ok (fourP wK) := by have := wK_ok 4; rwa [List.take_of_length_le (show wK.length ≤ 4 by unfold wK; simp)] at this
  have rT : RepOk (poD (trcP (fourP wK))) := by
    refine RepOk.of ?_ wK_rep.1 wK_rep.2
    rw [wK_rep2]
    simp only [poD, List.map_cons, List.map_nil, tmD, trD, IntsB, IntsBs]; decide
  unfold t_law
  walk_at "sq"
  walk_at "qs"
  refine ⟨ns, rfl, rfl, hn, fun S => ?_⟩
  walk_at "nx"
  walk_at "sq"
  walk_at "qs"
  refine ⟨wK, rfl, wK_ltr, wK_ok, ?_⟩
  walk_at "nx"
  have lp := fun E hx => turn_loop E ns (fourP wK) (trcP (fourP wK)) wK ok4 wK_po wK_ltr (by decide) wK_ok rfl (Nat.le_trans wK_len (by decide)) wK_pt (fun t u h1 h2 => wK_tr h1 h2) (fun t u h1 h2 => (trace_tells h1 h2 wK_ltr).trans (wK_tr h1 h2)) (fun t u bt bu => four_val_bd bt bu) (fun t u h1 h2 => (four_tells' h1 h2 wK_ltr).2) hx
  have wl := wK_ltr
  have wo := wK_ok
  have wn := wK_len
  rw [show (PyData.tuple [.int 1, .int 2, .int (-1), .int (-2)]) = wD wK from rfl]
  generalize hwk : wK = w at *
  clear hwk
  generalize hf : fourP w = f at *
  generalize hg : trcP f = g at *
  walk_at "sq"
  walk_at "qs"
  refine ⟨f, rfl, ok4, by rw [hg]; omega, ?_⟩
  rw [hg]
  walk_at "qs"
  refine ⟨rT, w, rfl, wl, wo, by rw [hf, hg]; omega, ?_⟩
  rw [hf, hg]
  walk_at "qs"
  refine ⟨rT, ?_⟩
  walk_at "nx"
  unfold rs_law_9
  walk_at "sq"
  walk_at "qs"
  refine ⟨Rg.of (by decide) (by decide), ?_⟩
  refine lp _ (fun S => ?_) _ S
  walk_at "nx"
  walk_at "qs"
  have b0 : ∀ b, (b = 0 ∨ b = 1 ∨ b = 2 ∨ b = 5) → Bd 500 b := by
    intro b hb; rcases hb with rfl | rfl | rfl | rfl <;> exact Bd.le (a := 8) Bd.lit (by decide)
  refine ⟨(1, 1, 0, 1), (1, 5, 0, 1), rfl, ⟨⟨b0 _ (by simp), b0 _ (by simp), b0 _ (by simp), b0 _ (by simp)⟩, ⟨b0 _ (by simp), b0 _ (by simp), b0 _ (by simp), b0 _ (by simp)⟩⟩, ⟨rfl, rfl⟩, ?_⟩
  rw [show LTg colC (1, 1, 0, 1) (1, 5, 0, 1) = .one (1, 0) by rfl]
  simp only [toldD, clD]
  walk_at "qs"
  refine ⟨by decide +kernel, by decide +kernel, ?_⟩
  rw [show (PyData.tuple [PyData.str "one", PyData.tuple [PyData.int 1, PyData.int 0]]).eqv (PyData.tuple [PyData.str "one", PyData.tuple [PyData.int 1, PyData.int 0]]) = true by decide +kernel]
  walk_at "qs"
  refine ⟨by simp, by decide, by decide, (2, 1, 1, 1), (2, 1, 1, 1), rfl, ⟨⟨b0 _ (by simp), b0 _ (by simp), b0 _ (by simp), b0 _ (by simp)⟩, ⟨b0 _ (by simp), b0 _ (by simp), b0 _ (by simp), b0 _ (by simp)⟩⟩, ⟨rfl, rfl⟩, ?_⟩
  rw [show LTg colC (2, 1, 1, 1) (2, 1, 1, 1) = .root 5 by rfl]
  simp only [toldD]
  refine ⟨by decide +kernel, by decide +kernel, ?_⟩
  rw [show (PyData.tuple [PyData.str (Str.ofString "root"), PyData.int 5]).eqv (PyData.tuple [PyData.str (Str.ofString "root"), PyData.int 5]) = true by decide +kernel]
  exact hq _

/-! ### the text by places -/
def topS (i : Nat) : Stmt := PySem.Challenge.pw_tracetriples_k53_whole_k_two_exactly_if.main.body.getD i (.Pass ⟨0, 0, 0, 0⟩)
/-- what the top leaves of names -/
structure Txt (w : World) (K : PySem.W.Frag) (mg : Str → Option Value) : Prop where
  n_abs : mg "abs" = none
  n_enumerate : mg "enumerate" = none
  n_int : mg "int" = none
  n_isinstance : mg "isinstance" = none
  n_len : mg "len" = none
  n_list : mg "list" = none
  n_max : mg "max" = none
  n_range : mg "range" = none
  n_repr : mg "repr" = none
  n_sorted : mg "sorted" = none
  n_str : mg "str" = none
  n_sum : mg "sum" = none
  n_tuple : mg "tuple" = none
  n_zip : mg "zip" = none
  k_BEGUN : ConstAt K mg "BEGUN" (.tuple [.tuple [.tuple [.tuple [.int 0, .int 0, .int 0], .int 1]], .tuple [], .tuple [], .tuple []])
  k_EACH_ONE : ConstAt K mg "EACH_ONE" (.tuple [.tuple [.int 1, .int 0, .int 0, .int 1], .tuple [.int (-1), .int 0, .int 0, .int (-1)]])
  k_HAS_LINE : ConstAt K mg "HAS_LINE" (.int 2)
  k_LEFT_OVER : ConstAt K mg "LEFT_OVER" (.tuple [.tuple [.tuple [.int 0, .int 0, .int 1], .int 1], .tuple [.tuple [.int 1, .int 1, .int 0], .int (-1)]])
  k_LESS_ONE : ConstAt K mg "LESS_ONE" (.tuple [.tuple [.tuple [.int 0, .int 0, .int 0], .int (-1)]])
  k_LESS_Y : ConstAt K mg "LESS_Y" (.tuple [.tuple [.tuple [.int 0, .int 1, .int 0], .int (-1)]])
  k_MOST_FIGURES : ConstAt K mg "MOST_FIGURES" (.int 300)
  k_MOST_TERMS : ConstAt K mg "MOST_TERMS" (.int 4000)
  k_NOTHING : ConstAt K mg "NOTHING" (.tuple [])
  k_ONE_pairtables : ConstAt K mg "ONE_pairtables" (.tuple [.int 1, .int 0, .int 0, .int 1])
  k_ONE_polysums : ConstAt K mg "ONE_polysums" (.tuple [.tuple [.tuple [.int 0, .int 0, .int 0], .int 1]])
  k_TWO : ConstAt K mg "TWO" (.tuple [.tuple [.tuple [.int 0, .int 0, .int 0], .int 2]])
  k_X : ConstAt K mg "X" (.tuple [.tuple [.tuple [.int 1, .int 0, .int 0], .int 1]])
  k_Y : ConstAt K mg "Y" (.tuple [.tuple [.tuple [.int 0, .int 1, .int 0], .int 1]])
  k_Z : ConstAt K mg "Z" (.tuple [.tuple [.tuple [.int 0, .int 0, .int 1], .int 1]])
  f_gcd : mg "gcd" = some (.builtin "math.gcd")
theorem hu65 {k : Nat} {A : Around} (hr : Room k A) : A.units + 65 < cLine := by have := hr.un; omega
theorem reprU {k : Nat} {A : Around} (hr : Room k A) : A.units + 100 < cLine := by have := hr.un; omega
abbrev s__law_determinant : Stmt := topS 64
theorem sc__law_determinant : FnScope N__law_determinant ["rows"] (defScope s__law_determinant) := ⟨rfl, rfl, rfl, by decide +kernel, rfl, by decide +kernel, by decide +kernel⟩
theorem ok__law_determinant {P : Program} {w : World} {K : PySem.W.Frag} {mg : Str → Option Value} {base : Heap} (T : Txt w K mg) (D : DefAt K mg "_law_determinant" s__law_determinant ["rows"]) : Callee P w K mg base "_law_determinant" 6 1 fn__law_determinant := by
  have step : ∀ d : Nat, Callee P w K mg base "_law_determinant" (1 + d) 1 (fnr__law_determinant d) := by
    intro d
    induction d with
    | zero => exact (Callee.none D).imp fun _ _ _ h => h.elim
    | succ d c_self => exact D.callee (N := N__law_determinant) (t := t__law_determinant (fnr__law_determinant d)) sc__law_determinant rfl (fun f cdv A outer s H E hr hgd => (qss_cons (qs_if (qt_cmp (oq_eq hr.units) (q_callB cq_len (by rfl) T.n_len bt_len (qa_cons (qv 0) qa_nil)) q_int (nomark _)) (qss_one (qs_ret (q_ix iq_seq (q_ix iq_seq (qv 0) q_int (fun _ _ => rfl)) q_int (fun _ _ => rfl)))) qss_nil)
      (qss_cons (qs_asg (vs := allv) (q_tup (qa_cons q_int (qa_cons q_int qa_nil))) (qg_tup rfl (qgs_cons (qg_name (i := 1) sc__law_determinant.nd rfl (.inl rfl) (by decide)) (qgs_cons (qg_name (i := 2) sc__law_determinant.nd rfl (.inl rfl) (by decide)) qgs_nil))))
      (qss_cons (qs_for (vs := allv) [3, 4, 5] PassesOwn.never rfl (qi_enum (by rfl) T.n_enumerate (qa_cons (q_ix iq_seq (qv 0) q_int (fun _ _ => rfl)) qa_nil)) (qg_tup rfl (qgs_cons (qg_name (i := 3) sc__law_determinant.nd rfl (.inr rfl) (by decide)) (qgs_cons (qg_name (i := 4) sc__law_determinant.nd rfl (.inl rfl) (by decide)) qgs_nil))) (qss_cons (qs_if (qt_cmp (oq_ne hr.units) (qv 4) q_int (nomark _)) (qss_one (qs_set (i := 1) sc__law_determinant.nd rfl (.inl rfl) (q_op oq_add (qv 1) (q_op oq_mul (q_op oq_mul (qv 2) (qv 4)) (q_call c_self (hr.mono (Nat.le_refl _)) hgd (qa_cons (q_lc (own := [("row", 5)]) rfl sc__law_determinant.nd (qi_lst (q_slice (qv 0) (qo_some q_int) qo_none)) (blkOk_by (N := N__law_determinant) (sc := defScope s__law_determinant) (own := [("row", 5)]) (by decide +kernel)) (fun _ _ _ _ _ => (qg_name (i := 5) sc__law_determinant.nd rfl (.inl rfl) (by decide))) (fun _ _ _ _ _ => qts_nil) (fun _ _ _ _ _ => (q_op oq_add (q_slice (qv 5) qo_none (qo_some (qv 3))) (q_slice (qv 5) (qo_some (q_op oq_add (qv 3) q_int)) qo_none)))) qa_nil)))))) qss_nil)
      (qss_one (qs_set (i := 2) sc__law_determinant.nd rfl (.inl rfl) (q_op oq_sub q_int (qv 2))))))
      (qss_one (qs_ret (qv 1))))))) (h__law_determinant d)
  exact step 5
abbrev s__law_keeps : Stmt := topS 65
theorem sc__law_keeps : FnScope N__law_keeps ["table", "column"] (defScope s__law_keeps) := ⟨rfl, rfl, rfl, by decide +kernel, rfl, by decide +kernel, by decide +kernel⟩
theorem ok__law_keeps {P : Program} {w : World} {K : PySem.W.Frag} {mg : Str → Option Value} {base : Heap} (T : Txt w K mg) (D : DefAt K mg "_law_keeps" s__law_keeps ["table", "column"]) : Callee P w K mg base "_law_keeps" 1 2 fn__law_keeps :=
  D.callee (N := N__law_keeps) (t := t__law_keeps) sc__law_keeps rfl (fun f cdv A outer s H E hr hgd => (qss_cons (qs_asg (vs := allv) (qv 1) (qg_tup rfl (qgs_cons (qg_name (i := 2) sc__law_keeps.nd rfl (.inl rfl) (by decide)) (qgs_cons (qg_name (i := 3) sc__law_keeps.nd rfl (.inl rfl) (by decide)) qgs_nil))))
      (qss_one (qs_ret (q_cmp (oq_eq hr.units) (q_op oq_mul (q_op oq_add (q_op oq_mul (q_ix iq_seq (qv 0) q_int (fun _ _ => rfl)) (qv 2)) (q_op oq_mul (q_ix iq_seq (qv 0) q_int (fun _ _ => rfl)) (qv 3))) (qv 3)) (q_op oq_mul (q_op oq_add (q_op oq_mul (q_ix iq_seq (qv 0) q_int (fun _ _ => rfl)) (qv 2)) (q_op oq_mul (q_ix iq_seq (qv 0) q_int (fun _ _ => rfl)) (qv 3))) (qv 2)) (nomark _)))))) h__law_keeps
abbrev s__law_part : Stmt := topS 63
theorem sc__law_part : FnScope N__law_part ["a", "b"] (defScope s__law_part) := ⟨rfl, rfl, rfl, by decide +kernel, rfl, by decide +kernel, by decide +kernel⟩
theorem ok__law_part {P : Program} {w : World} {K : PySem.W.Frag} {mg : Str → Option Value} {base : Heap} (T : Txt w K mg) (D : DefAt K mg "_law_part" s__law_part ["a", "b"]) : Callee P w K mg base "_law_part" 1 2 fn__law_part :=
  D.callee (N := N__law_part) (t := t__law_part) sc__law_part rfl (fun f cdv A outer s H E hr hgd => (qss_cons (qs_par (i := 0) (j := 1) rfl sc__law_part.nd rfl rfl (by decide) rfl rfl (qa_cons (q_callB cq_abs (by rfl) T.n_abs bt_abs (qa_cons (qv 0) qa_nil)) (qa_cons (q_callB cq_abs (by rfl) T.n_abs bt_abs (qa_cons (qv 1) qa_nil)) qa_nil)) (by rfl))
      (qss_cons (qs_while [] PassesOwn.never (qt_cmp oq_gt (qv 1) q_int (nomark _)) (qss_one (qs_par (i := 0) (j := 1) rfl sc__law_part.nd rfl rfl (by decide) rfl rfl (qa_cons (qv 1) (qa_cons (q_op oq_mod (q_callTy cq_int (by rfl) T.n_int bt_int (qa_cons (qv 0) qa_nil)) (qv 1)) qa_nil)) (by rfl))))
      (qss_one (qs_ret (qv 0)))))) h__law_part
abbrev s__law_times : Stmt := topS 58
theorem sc__law_times : FnScope N__law_times ["one", "other"] (defScope s__law_times) := ⟨rfl, rfl, rfl, by decide +kernel, rfl, by decide +kernel, by decide +kernel⟩
theorem ok__law_times {P : Program} {w : World} {K : PySem.W.Frag} {mg : Str → Option Value} {base : Heap} (T : Txt w K mg) (D : DefAt K mg "_law_times" s__law_times ["one", "other"]) : Callee P w K mg base "_law_times" 1 2 fn__law_times :=
  D.callee (N := N__law_times) (t := t__law_times) sc__law_times rfl (fun f cdv A outer s H E hr hgd => (qss_cons (qs_asg (vs := allv) (qv 0) (qg_tup rfl (qgs_cons (qg_name (i := 2) sc__law_times.nd rfl (.inl rfl) (by decide)) (qgs_cons (qg_name (i := 3) sc__law_times.nd rfl (.inl rfl) (by decide)) (qgs_cons (qg_name (i := 4) sc__law_times.nd rfl (.inl rfl) (by decide)) (qgs_cons (qg_name (i := 5) sc__law_times.nd rfl (.inl rfl) (by decide)) qgs_nil))))))
      (qss_cons (qs_asg (vs := allv) (qv 1) (qg_tup rfl (qgs_cons (qg_name (i := 6) sc__law_times.nd rfl (.inl rfl) (by decide)) (qgs_cons (qg_name (i := 7) sc__law_times.nd rfl (.inl rfl) (by decide)) (qgs_cons (qg_name (i := 8) sc__law_times.nd rfl (.inl rfl) (by decide)) (qgs_cons (qg_name (i := 9) sc__law_times.nd rfl (.inl rfl) (by decide)) qgs_nil))))))
      (qss_one (qs_ret (q_tup (qa_cons (q_op oq_add (q_op oq_mul (qv 2) (qv 6)) (q_op oq_mul (qv 3) (qv 8))) (qa_cons (q_op oq_add (q_op oq_mul (qv 2) (qv 7)) (q_op oq_mul (qv 3) (qv 9))) (qa_cons (q_op oq_add (q_op oq_mul (qv 4) (qv 6)) (q_op oq_mul (qv 5) (qv 8))) (qa_cons (q_op oq_add (q_op oq_mul (qv 4) (qv 7)) (q_op oq_mul (qv 5) (qv 9))) qa_nil)))))))))) h__law_times
abbrev s__law_line_right : Stmt := topS 67
theorem sc__law_line_right : FnScope N__law_line_right ["pair", "told", "k"] (defScope s__law_line_right) := ⟨rfl, rfl, rfl, by decide +kernel, rfl, by decide +kernel, by decide +kernel⟩
theorem ok__law_line_right {P : Program} {w : World} {K : PySem.W.Frag} {mg : Str → Option Value} {base : Heap} (T : Txt w K mg) (c__law_keeps : Callee P w K mg base "_law_keeps" 1 2 fn__law_keeps) (c__law_part : Callee P w K mg base "_law_part" 1 2 fn__law_part) (c__law_times : Callee P w K mg base "_law_times" 1 2 fn__law_times) (D : DefAt K mg "_law_line_right" s__law_line_right ["pair", "told", "k"]) : Callee P w K mg base "_law_line_right" 2 3 fn__law_line_right :=
  D.callee (N := N__law_line_right) (t := t__law_line_right) sc__law_line_right rfl (fun f cdv A outer s H E hr hgd => (qss_cons (qs_set (i := 3) sc__law_line_right.nd rfl (.inr rfl) (q_tup (qa_cons (q_tup (qa_cons q_int (qa_cons q_int (qa_cons q_int (qa_cons q_int qa_nil))))) (qa_cons (q_tup (qa_cons (q_neg q_int) (qa_cons q_int (qa_cons q_int (qa_cons (q_neg q_int) qa_nil))))) qa_nil))))
      (qss_cons (qs_if (qt_cmp (oq_ne hr.units) (qv 2) q_int (nomark _)) (qss_one (qs_ret (q_cmp (oq_eq hr.units) (qv 1) (q_tup (qa_cons q_str qa_nil)) (nomark _)))) qss_nil)
      (qss_cons (qs_setLc (i := 4) (own := [("table", 10)]) rfl sc__law_line_right.nd rfl rfl (sw_true rfl rfl rfl (by decide +kernel)) (qi_tup (qv 0)) (blkOk_by (N := N__law_line_right) (sc := defScope s__law_line_right) (own := [("table", 10)]) (by decide +kernel)) (fun _ _ _ _ _ => (qg_name (i := 10) sc__law_line_right.nd rfl (.inl rfl) (by decide))) (fun _ _ _ _ _ => (qts_one (qt_cmp (oq_ninT (hu65 hr)) (qv 10) (qv 3) (by rfl)))) (fun _ _ _ _ _ => (qv 10)))
      (qss_cons (qs_if (qt_cmp (oq_eq hr.units) (qv 4) (q_lst qa_nil) (nomark _)) (qss_one (qs_ret (q_cmp (oq_eq hr.units) (qv 1) (q_tup (qa_cons q_str qa_nil)) (nomark _)))) qss_nil)
      (qss_cons (qs_set (i := 5) sc__law_line_right.nd rfl (.inl rfl) (q_op oq_add (q_ix iq_seq (q_ix iq_seq (qv 4) q_int (fun _ _ => rfl)) q_int (fun _ _ => rfl)) (q_ix iq_seq (q_ix iq_seq (qv 4) q_int (fun _ _ => rfl)) q_int (fun _ _ => rfl))))
      (qss_cons (qs_if (qt_cmp (oq_inT (hu65 hr)) (qv 5) (q_tup (qa_cons q_int (qa_cons (q_neg q_int) qa_nil))) (by rfl)) (qss_cons (qs_if (qt_w (qw_or (qt_cmp (oq_ne hr.units) (q_ix iq_seq (qv 1) q_int (fun _ _ => rfl)) q_str (nomark _)) (qw_or (qt_cmp (oq_ne hr.units) (q_callB cq_len (by rfl) T.n_len bt_len (qa_cons (qv 1) qa_nil)) q_int (nomark _)) (qw_or (qt_not (qt_tru (q_callB cq_isi (by rfl) T.n_isinstance bt_isinstance (qa_cons (q_ix iq_seq (qv 1) q_int (fun _ _ => rfl)) (qa_cons (q_ty (by rfl) T.n_tuple bt_tuple) qa_nil))) (by intro _; rfl))) (qw_or1 (qt_cmp (oq_ne hr.units) (q_callB cq_len (by rfl) T.n_len bt_len (qa_cons (q_ix iq_seq (qv 1) q_int (fun _ _ => rfl)) qa_nil)) q_int (nomark _))))))) (qss_one (qs_ret q_bl)) qss_nil)
      (qss_cons (qs_asg (vs := allv) (q_ix iq_seq (qv 1) q_int (fun _ _ => rfl)) (qg_tup rfl (qgs_cons (qg_name (i := 6) sc__law_line_right.nd rfl (.inl rfl) (by decide)) (qgs_cons (qg_name (i := 7) sc__law_line_right.nd rfl (.inl rfl) (by decide)) qgs_nil))))
      (qss_cons (qs_set (i := 8) sc__law_line_right.nd rfl (.inl rfl) (q_and (q_cmp (oq_eq hr.units) (q_call c__law_part (hr.mono (by decide)) hgd (qa_cons (qv 6) (qa_cons (qv 7) qa_nil))) q_int (nomark _)) (q_one (q_or (q_cmp oq_gt (qv 6) q_int (nomark _)) (q_one (q_and (q_cmp (oq_eq hr.units) (qv 6) q_int (nomark _)) (q_one (q_cmp oq_gt (qv 7) q_int (nomark _)))))))))
      (qss_one (qs_ret (q_and (qv 8) (q_and (q_call c__law_keeps (hr.mono (by decide)) hgd (qa_cons (q_ix iq_seq (qv 0) q_int (fun _ _ => rfl)) (qa_cons (q_ix iq_seq (qv 1) q_int (fun _ _ => rfl)) qa_nil))) (q_one (q_call c__law_keeps (hr.mono (by decide)) hgd (qa_cons (q_ix iq_seq (qv 0) q_int (fun _ _ => rfl)) (qa_cons (q_ix iq_seq (qv 1) q_int (fun _ _ => rfl)) qa_nil))))))))))) qss_nil)
      (qss_cons (qs_set (i := 9) sc__law_line_right.nd rfl (.inl rfl) (q_cmp (oq_eq hr.units) (q_call c__law_times (hr.mono (by decide)) hgd (qa_cons (q_ix iq_seq (qv 0) q_int (fun _ _ => rfl)) (qa_cons (q_ix iq_seq (qv 0) q_int (fun _ _ => rfl)) qa_nil))) (q_call c__law_times (hr.mono (by decide)) hgd (qa_cons (q_ix iq_seq (qv 0) q_int (fun _ _ => rfl)) (qa_cons (q_ix iq_seq (qv 0) q_int (fun _ _ => rfl)) qa_nil))) (nomark _)))
      (qss_one (qs_ret (q_and (q_cmp (oq_eq hr.units) (q_callB (cq_repr hgd (reprU hr)) (by rfl) T.n_repr bt_repr (qa_cons (qv 1) qa_nil)) (q_callB (cq_repr hgd (reprU hr)) (by rfl) T.n_repr bt_repr (qa_cons (q_tup (qa_cons q_str (qa_cons (q_op oq_sub (q_op oq_mul (qv 5) (qv 5)) q_int) qa_nil))) qa_nil)) (nomark _)) (q_one (qv 9))))))))))))) h__law_line_right
abbrev s__law_pick : Stmt := topS 56
theorem sc__law_pick : FnScope N__law_pick ["source", "many"] (defScope s__law_pick) := ⟨rfl, rfl, rfl, by decide +kernel, rfl, by decide +kernel, by decide +kernel⟩
theorem ok__law_pick {P : Program} {w : World} {K : PySem.W.Frag} {mg : Str → Option Value} {base : Heap} (T : Txt w K mg) (D : DefAt K mg "_law_pick" s__law_pick ["source", "many"]) : Callee P w K mg base "_law_pick" 1 2 fn__law_pick :=
  D.callee (N := N__law_pick) (t := t__law_pick) sc__law_pick rfl (fun f cdv A outer s H E hr hgd => (qss_cons (qs_while [] PassesOwn.never (qt_w (qw_and (qt_cmp oq_gt (qv 1) q_int (nomark _)) (qw_and (qt_cmp oq_lt (q_srcF .left (hu_of hr) (qv 0)) q_int (nomark _)) (qw_and1 (qt_cmp oq_gt (q_callB cq_len (by rfl) T.n_len bt_len (qa_cons (q_srcC (hu_of hr) (qv 0)) qa_nil)) q_int (nomark _)))))) (qss_one (qs_srcPut .left (hu_of hr) (qv 0) (q_mt0 mq_popC PySem.F.slot_list_pop PySem.F.type_list_pop (q_srcC (hu_of hr) (qv 0))))))
      (qss_cons (qs_set (i := 2) sc__law_pick.nd rfl (.inl rfl) (q_srcF .left (hu_of hr) (qv 0)))
      (qss_cons (qs_if (qt_w (qw_or (qt_cmp oq_lt (qv 1) q_int (nomark _)) (qw_or1 (qt_cmp oq_gt (qv 2) q_int (nomark _))))) (qss_cons (qs_srcPut .left (hu_of hr) (qv 0) (q_op oq_fdiv (qv 2) (q_callB (cq_max rfl) (by rfl) T.n_max bt_max (qa_cons q_int (qa_cons (qv 1) qa_nil)))))
      (qss_one (qs_ret (q_op oq_mod (q_callTy cq_int (by rfl) T.n_int bt_int (qa_cons (qv 2) qa_nil)) (q_callB (cq_max rfl) (by rfl) T.n_max bt_max (qa_cons q_int (qa_cons (qv 1) qa_nil))))))) qss_nil)
      (qss_cons (qs_srcPut .turn (hu_of hr) (qv 0) (q_op oq_add (q_srcF .turn (hu_of hr) (qv 0)) q_int))
      (qss_cons (qs_set (i := 3) sc__law_pick.nd rfl (.inl rfl) (q_op oq_mod (q_callTy cq_int (by rfl) T.n_int bt_int (qa_cons (q_op oq_add (q_srcF .mixed (hu_of hr) (qv 0)) (q_op oq_mul (q_srcF .turn (hu_of hr) (qv 0)) q_int)) qa_nil)) q_int))
      (qss_cons (qs_set (i := 3) sc__law_pick.nd rfl (.inl rfl) (q_op oq_mod (q_callTy cq_int (by rfl) T.n_int bt_int (qa_cons (q_op oq_add (q_op oq_mul (qv 3) (qv 3)) (q_op oq_mul (q_srcF .turn (hu_of hr) (qv 0)) q_int)) qa_nil)) q_int))
      (qss_cons (qs_srcPut .mixed (hu_of hr) (qv 0) (qv 3))
      (qss_one (qs_ret (q_op oq_mod (q_callTy cq_int (by rfl) T.n_int bt_int (qa_cons (q_op oq_fdiv (qv 3) q_int) qa_nil)) (qv 1)))))))))))) h__law_pick
abbrev s__law_of : Stmt := topS 57
theorem sc__law_of : FnScope N__law_of ["source", "some"] (defScope s__law_of) := ⟨rfl, rfl, rfl, by decide +kernel, rfl, by decide +kernel, by decide +kernel⟩
theorem ok__law_of {P : Program} {w : World} {K : PySem.W.Frag} {mg : Str → Option Value} {base : Heap} (T : Txt w K mg) (c__law_pick : Callee P w K mg base "_law_pick" 1 2 fn__law_pick) (D : DefAt K mg "_law_of" s__law_of ["source", "some"]) : Callee P w K mg base "_law_of" 2 2 fn__law_of :=
  D.callee (N := N__law_of) (t := t__law_of) sc__law_of rfl (fun f cdv A outer s H E hr hgd => (qss_one (qs_ret (q_ix iq_seq (qv 1) (q_call c__law_pick (hr.mono (by decide)) hgd (qa_cons (qv 0) (qa_cons (q_callB cq_len (by rfl) T.n_len bt_len (qa_cons (qv 1) qa_nil)) qa_nil))) (fun _ _ => rfl))))) h__law_of
abbrev s__law_shears : Stmt := topS 62
theorem sc__law_shears : FnScope N__law_shears ["source", "most"] (defScope s__law_shears) := ⟨rfl, rfl, rfl, by decide +kernel, rfl, by decide +kernel, by decide +kernel⟩
theorem ok__law_shears {P : Program} {w : World} {K : PySem.W.Frag} {mg : Str → Option Value} {base : Heap} (T : Txt w K mg) (c__law_of : Callee P w K mg base "_law_of" 2 2 fn__law_of) (c__law_pick : Callee P w K mg base "_law_pick" 1 2 fn__law_pick) (c__law_times : Callee P w K mg base "_law_times" 1 2 fn__law_times) (D : DefAt K mg "_law_shears" s__law_shears ["source", "most"]) : Callee P w K mg base "_law_shears" 3 2 fn__law_shears :=
  D.callee (N := N__law_shears) (t := t__law_shears) sc__law_shears rfl (fun f cdv A outer s H E hr hgd => (qss_cons (qs_set (i := 2) sc__law_shears.nd rfl (.inl rfl) (q_tup (qa_cons q_int (qa_cons q_int (qa_cons q_int (qa_cons q_int qa_nil))))))
      (qss_cons (qs_for (vs := allv) [3, 4] PassesOwn.never rfl (qi_range1 (by rfl) T.n_range (qa_cons (q_call c__law_pick (hr.mono (by decide)) hgd (qa_cons (qv 0) (qa_cons (q_op oq_add (qv 1) q_int) qa_nil))) qa_nil)) (qg_name (i := 3) sc__law_shears.nd rfl (.inl rfl) (by decide)) (qss_cons (qs_set (i := 4) sc__law_shears.nd rfl (.inl rfl) (q_call c__law_of (hr.mono (by decide)) hgd (qa_cons (qv 0) (qa_cons (q_lst (qa_cons q_int (qa_cons (q_neg q_int) (qa_cons q_int (qa_cons (q_neg q_int) (qa_cons q_int qa_nil)))))) qa_nil))))
      (qss_one (qs_set (i := 2) sc__law_shears.nd rfl (.inl rfl) (q_call c__law_times (hr.mono (by decide)) hgd (qa_cons (qv 2) (qa_cons (q_if (qt_cmp (oq_eq hr.units) (q_call c__law_pick (hr.mono (by decide)) hgd (qa_cons (qv 0) (qa_cons q_int qa_nil))) q_int (nomark _)) (q_tup (qa_cons q_int (qa_cons (qv 4) (qa_cons q_int (qa_cons q_int qa_nil))))) (q_tup (qa_cons q_int (qa_cons q_int (qa_cons (qv 4) (qa_cons q_int qa_nil)))))) qa_nil)))))))
      (qss_one (qs_ret (q_if (qt_cmp oq_gt (q_call c__law_pick (hr.mono (by decide)) hgd (qa_cons (qv 0) (qa_cons q_int qa_nil))) q_int (nomark _)) (qv 2) (q_callTy cq_tuple (by rfl) T.n_tuple bt_tuple (qa_cons (q_lc (own := [("one", 5)]) rfl sc__law_shears.nd (qi_tup (qv 2)) (blkOk_by (N := N__law_shears) (sc := defScope s__law_shears) (own := [("one", 5)]) (by decide +kernel)) (fun _ _ _ _ _ => (qg_name (i := 5) sc__law_shears.nd rfl (.inl rfl) (by decide))) (fun _ _ _ _ _ => qts_nil) (fun _ _ _ _ _ => (q_op oq_sub q_int (qv 5)))) qa_nil)))))))) h__law_shears
abbrev s__law_table_undone : Stmt := topS 59
theorem sc__law_table_undone : FnScope N__law_table_undone ["one"] (defScope s__law_table_undone) := ⟨rfl, rfl, rfl, by decide +kernel, rfl, by decide +kernel, by decide +kernel⟩
theorem ok__law_table_undone {P : Program} {w : World} {K : PySem.W.Frag} {mg : Str → Option Value} {base : Heap} (T : Txt w K mg) (D : DefAt K mg "_law_table_undone" s__law_table_undone ["one"]) : Callee P w K mg base "_law_table_undone" 1 1 fn__law_table_undone :=
  D.callee (N := N__law_table_undone) (t := t__law_table_undone) sc__law_table_undone rfl (fun f cdv A outer s H E hr hgd => (qss_one (qs_ret (q_tup (qa_cons (q_ix iq_seq (qv 0) q_int (fun _ _ => rfl)) (qa_cons (q_op oq_sub q_int (q_ix iq_seq (qv 0) q_int (fun _ _ => rfl))) (qa_cons (q_op oq_sub q_int (q_ix iq_seq (qv 0) q_int (fun _ _ => rfl))) (qa_cons (q_ix iq_seq (qv 0) q_int (fun _ _ => rfl)) qa_nil)))))))) h__law_table_undone
abbrev s__law_pair : Stmt := topS 66
theorem sc__law_pair : FnScope N__law_pair ["source"] (defScope s__law_pair) := ⟨rfl, rfl, rfl, by decide +kernel, rfl, by decide +kernel, by decide +kernel⟩
theorem ok__law_pair {P : Program} {w : World} {K : PySem.W.Frag} {mg : Str → Option Value} {base : Heap} (T : Txt w K mg) (c__law_of : Callee P w K mg base "_law_of" 2 2 fn__law_of) (c__law_pick : Callee P w K mg base "_law_pick" 1 2 fn__law_pick) (c__law_shears : Callee P w K mg base "_law_shears" 3 2 fn__law_shears) (c__law_table_undone : Callee P w K mg base "_law_table_undone" 1 1 fn__law_table_undone) (c__law_times : Callee P w K mg base "_law_times" 1 2 fn__law_times) (D : DefAt K mg "_law_pair" s__law_pair ["source"]) : Callee P w K mg base "_law_pair" 4 1 fn__law_pair :=
  D.callee (N := N__law_pair) (t := t__law_pair) sc__law_pair rfl (fun f cdv A outer s H E hr hgd => (qss_cons (qs_par3 (i := 1) (j := 2) (l := 3) rfl sc__law_pair.nd rfl rfl rfl (by decide) (by decide) (by decide) rfl rfl rfl (qa_cons (q_call c__law_pick (hr.mono (by decide)) hgd (qa_cons (qv 0) (qa_cons q_int qa_nil))) (qa_cons (q_call c__law_shears (hr.mono (by decide)) hgd (qa_cons (qv 0) (qa_cons q_int qa_nil))) (qa_cons (q_call c__law_shears (hr.mono (by decide)) hgd (qa_cons (qv 0) (qa_cons q_int qa_nil))) qa_nil))) (by rfl))
      (qss_cons (qs_if (qt_cmp oq_lt (qv 1) q_int (nomark _)) (qss_one (qs_ret (q_tup (qa_cons (qv 2) (qa_cons (qv 3) qa_nil))))) qss_nil)
      (qss_cons (qs_asg (vs := allv) (q_tup (qa_cons (qv 3) (qa_cons (q_call c__law_table_undone (hr.mono (by decide)) hgd (qa_cons (qv 3) qa_nil)) qa_nil))) (qg_tup rfl (qgs_cons (qg_name (i := 4) sc__law_pair.nd rfl (.inr rfl) (by decide)) (qgs_cons (qg_name (i := 5) sc__law_pair.nd rfl (.inr rfl) (by decide)) qgs_nil))))
      (qss_cons (qs_set (i := 6) sc__law_pair.nd rfl (.inl rfl) (q_call c__law_of (hr.mono (by decide)) hgd (qa_cons (qv 0) (qa_cons (q_lst (qa_cons q_int (qa_cons q_int (qa_cons (q_neg q_int) qa_nil)))) qa_nil))))
      (qss_cons (qs_if (qt_cmp (oq_eq hr.units) (qv 1) q_int (nomark _)) (qss_cons (qs_set (i := 7) sc__law_pair.nd rfl (.inl rfl) (q_lst (qa_cons (q_tup (qa_cons q_int (qa_cons (q_op oq_sub (q_call c__law_pick (hr.mono (by decide)) hgd (qa_cons (qv 0) (qa_cons q_int qa_nil))) q_int) (qa_cons q_int (qa_cons q_int qa_nil))))) (qa_cons (q_tup (qa_cons (qv 6) (qa_cons (q_op oq_sub (q_call c__law_pick (hr.mono (by decide)) hgd (qa_cons (qv 0) (qa_cons q_int qa_nil))) q_int) (qa_cons q_int (qa_cons (qv 6) qa_nil))))) qa_nil))))
      (qss_one (qs_ret (q_callTy cq_tuple (by rfl) T.n_tuple bt_tuple (qa_cons (q_lc (own := [("late", 11)]) rfl sc__law_pair.nd (qi_lst (qv 7)) (blkOk_by (N := N__law_pair) (sc := defScope s__law_pair) (own := [("late", 11)]) (by decide +kernel)) (fun _ _ _ _ _ => (qg_name (i := 11) sc__law_pair.nd rfl (.inl rfl) (by decide))) (fun _ _ _ _ _ => qts_nil) (fun _ _ _ _ _ => (q_call c__law_times (hr.mono (by decide)) hgd (qa_cons (q_call c__law_times (hr.mono (by decide)) hgd (qa_cons (qv 4) (qa_cons (qv 11) qa_nil))) (qa_cons (qv 5) qa_nil))))) qa_nil))))) qss_nil)
      (qss_cons (qs_if (qt_cmp (oq_eq hr.units) (qv 1) q_int (nomark _)) (qss_cons (qs_set (i := 8) sc__law_pair.nd rfl (.inl rfl) (q_op oq_sub (q_call c__law_pick (hr.mono (by decide)) hgd (qa_cons (qv 0) (qa_cons q_int qa_nil))) q_int))
      (qss_cons (qs_set (i := 9) sc__law_pair.nd rfl (.inl rfl) (q_tup (qa_cons q_int (qa_cons q_int (qa_cons q_int (qa_cons q_int qa_nil))))))
      (qss_cons (qs_for (vs := allv) [10] PassesOwn.never rfl (qi_range1 (by rfl) T.n_range (qa_cons (q_callB cq_abs (by rfl) T.n_abs bt_abs (qa_cons (qv 8) qa_nil)) qa_nil)) (qg_name (i := 10) sc__law_pair.nd rfl (.inl rfl) (by decide)) (qss_one (qs_set (i := 9) sc__law_pair.nd rfl (.inl rfl) (q_call c__law_times (hr.mono (by decide)) hgd (qa_cons (qv 9) (qa_cons (q_if (qt_cmp oq_gt (qv 8) q_int (nomark _)) (qv 2) (q_call c__law_table_undone (hr.mono (by decide)) hgd (qa_cons (qv 2) qa_nil))) qa_nil))))))
      (qss_one (qs_ret (q_if (qt_cmp (oq_eq hr.units) (q_call c__law_pick (hr.mono (by decide)) hgd (qa_cons (qv 0) (qa_cons q_int qa_nil))) q_int (nomark _)) (q_tup (qa_cons (qv 2) (qa_cons (qv 9) qa_nil))) (q_tup (qa_cons (qv 9) (qa_cons (qv 2) qa_nil))))))))) qss_nil)
      (qss_cons (qs_if (qt_cmp (oq_eq hr.units) (qv 1) q_int (nomark _)) (qss_one (qs_ret (q_tup (qa_cons (q_tup (qa_cons (qv 6) (qa_cons q_int (qa_cons q_int (qa_cons (qv 6) qa_nil))))) (qa_cons (q_call c__law_of (hr.mono (by decide)) hgd (qa_cons (qv 0) (qa_cons (q_lst (qa_cons (q_tup (qa_cons q_int (qa_cons q_int (qa_cons q_int (qa_cons q_int qa_nil))))) (qa_cons (q_tup (qa_cons (q_neg q_int) (qa_cons q_int (qa_cons q_int (qa_cons (q_neg q_int) qa_nil))))) (qa_cons (qv 2) qa_nil)))) qa_nil))) qa_nil))))) qss_nil)
      (qss_one (qs_ret (q_tup (qa_cons (qv 2) (qa_cons (q_call c__law_times (hr.mono (by decide)) hgd (qa_cons (q_call c__law_times (hr.mono (by decide)) hgd (qa_cons (qv 4) (qa_cons (qv 2) qa_nil))) (qa_cons (qv 5) qa_nil))) qa_nil))))))))))))) h__law_pair
abbrev s__law_source : Stmt := topS 55
theorem sc__law_source : FnScope N__law_source ["script"] (defScope s__law_source) := ⟨rfl, rfl, rfl, by decide +kernel, rfl, by decide +kernel, by decide +kernel⟩
theorem ok__law_source {P : Program} {w : World} {K : PySem.W.Frag} {mg : Str → Option Value} {base : Heap} (T : Txt w K mg) (D : DefAt K mg "_law_source" s__law_source ["script"]) : Callee P w K mg base "_law_source" 1 1 fn__law_source :=
  D.callee (N := N__law_source) (t := t__law_source) sc__law_source rfl (fun f cdv A outer s H E hr hgd => (qss_cons (qs_set (i := 1) sc__law_source.nd rfl (.inl rfl) q_int)
      (qss_cons (qs_for (vs := allv) [2] PassesOwn.never rfl (qi_scr (qv 0)) (qg_name (i := 2) sc__law_source.nd rfl (.inl rfl) (by decide)) (qss_one (qs_set (i := 1) sc__law_source.nd rfl (.inl rfl) (q_op oq_mod (q_callTy cq_int (by rfl) T.n_int bt_int (qa_cons (q_op oq_add (q_op oq_add (q_op oq_mul (qv 1) q_int) (q_op oq_mul (qv 2) q_int)) q_int) qa_nil)) q_int))))
      (qss_one (qs_ret (q_srcNew (q_revM (q_lc (own := [("cell", 2)]) rfl sc__law_source.nd (qi_scr (qv 0)) (blkOk_by (N := N__law_source) (sc := defScope s__law_source) (own := [("cell", 2)]) (by decide +kernel)) (fun _ _ _ _ _ => (qg_name (i := 2) sc__law_source.nd rfl (.inl rfl) (by decide))) (fun _ _ _ _ _ => qts_nil) (fun _ _ _ _ _ => (q_callB cq_abs (by rfl) T.n_abs bt_abs (qa_cons (qv 2) qa_nil))))) q_int (qv 1) q_int)))))) h__law_source
abbrev s__law_table_of : Stmt := topS 60
theorem sc__law_table_of : FnScope N__law_table_of ["pair", "word"] (defScope s__law_table_of) := ⟨rfl, rfl, rfl, by decide +kernel, rfl, by decide +kernel, by decide +kernel⟩
theorem ok__law_table_of {P : Program} {w : World} {K : PySem.W.Frag} {mg : Str → Option Value} {base : Heap} (T : Txt w K mg) (c__law_table_undone : Callee P w K mg base "_law_table_undone" 1 1 fn__law_table_undone) (c__law_times : Callee P w K mg base "_law_times" 1 2 fn__law_times) (D : DefAt K mg "_law_table_of" s__law_table_of ["pair", "word"]) : Callee P w K mg base "_law_table_of" 2 2 fn__law_table_of :=
  D.callee (N := N__law_table_of) (t := t__law_table_of) sc__law_table_of rfl (fun f cdv A outer s H E hr hgd => (qss_cons (qs_set (i := 2) sc__law_table_of.nd rfl (.inl rfl) (q_tup (qa_cons q_int (qa_cons q_int (qa_cons q_int (qa_cons q_int qa_nil))))))
      (qss_cons (qs_for (vs := allv) [3, 4] PassesOwn.never rfl (qi_tup (qv 1)) (qg_name (i := 3) sc__law_table_of.nd rfl (.inl rfl) (by decide)) (qss_cons (qs_set (i := 4) sc__law_table_of.nd rfl (.inl rfl) (q_ix iq_seq (qv 0) (q_op oq_sub (q_callB cq_abs (by rfl) T.n_abs bt_abs (qa_cons (qv 3) qa_nil)) q_int) (fun _ _ => rfl)))
      (qss_one (qs_set (i := 2) sc__law_table_of.nd rfl (.inl rfl) (q_call c__law_times (hr.mono (by decide)) hgd (qa_cons (qv 2) (qa_cons (q_if (qt_cmp oq_gt (qv 3) q_int (nomark _)) (qv 4) (q_call c__law_table_undone (hr.mono (by decide)) hgd (qa_cons (qv 4) qa_nil))) qa_nil)))))))
      (qss_one (qs_ret (qv 2)))))) h__law_table_of
abbrev s__law_triple : Stmt := topS 61
theorem sc__law_triple : FnScope N__law_triple ["pair"] (defScope s__law_triple) := ⟨rfl, rfl, rfl, by decide +kernel, rfl, by decide +kernel, by decide +kernel⟩
theorem ok__law_triple {P : Program} {w : World} {K : PySem.W.Frag} {mg : Str → Option Value} {base : Heap} (T : Txt w K mg) (c__law_times : Callee P w K mg base "_law_times" 1 2 fn__law_times) (D : DefAt K mg "_law_triple" s__law_triple ["pair"]) : Callee P w K mg base "_law_triple" 2 1 fn__law_triple :=
  D.callee (N := N__law_triple) (t := t__law_triple) sc__law_triple rfl (fun f cdv A outer s H E hr hgd => (qss_cons (qs_set (i := 1) sc__law_triple.nd rfl (.inl rfl) (q_call c__law_times (hr.mono (by decide)) hgd (qa_cons (q_ix iq_seq (qv 0) q_int (fun _ _ => rfl)) (qa_cons (q_ix iq_seq (qv 0) q_int (fun _ _ => rfl)) qa_nil))))
      (qss_one (qs_ret (q_callTy cq_tuple (by rfl) T.n_tuple bt_tuple (qa_cons (q_lc (own := [("one", 2)]) rfl sc__law_triple.nd (qi_tup (q_tup (qa_cons (q_ix iq_seq (qv 0) q_int (fun _ _ => rfl)) (qa_cons (q_ix iq_seq (qv 0) q_int (fun _ _ => rfl)) (qa_cons (qv 1) qa_nil))))) (blkOk_by (N := N__law_triple) (sc := defScope s__law_triple) (own := [("one", 2)]) (by decide +kernel)) (fun _ _ _ _ _ => (qg_name (i := 2) sc__law_triple.nd rfl (.inl rfl) (by decide))) (fun _ _ _ _ _ => qts_nil) (fun _ _ _ _ _ => (q_op oq_add (q_ix iq_seq (qv 2) q_int (fun _ _ => rfl)) (q_ix iq_seq (qv 2) q_int (fun _ _ => rfl))))) qa_nil)))))) h__law_triple
abbrev s_four_by_one : Stmt := topS 43
theorem sc_four_by_one : FnScope N_four_by_one ["four"] (defScope s_four_by_one) := ⟨rfl, rfl, rfl, by decide +kernel, rfl, by decide +kernel, by decide +kernel⟩
theorem ok_four_by_one {P : Program} {w : World} {K : PySem.W.Frag} {mg : Str → Option Value} {base : Heap} (T : Txt w K mg) (D : DefAt K mg "four_by_one" s_four_by_one ["four"]) : Callee P w K mg base "four_by_one" 1 1 fn_four_by_one :=
  D.callee (N := N_four_by_one) (t := t_four_by_one) sc_four_by_one rfl (fun f cdv A outer s H E hr hgd => (qss_cons (qs_asg (vs := allv) (qv 0) (qg_tup rfl (qgs_cons (qg_name (i := 1) sc_four_by_one.nd rfl (.inl rfl) (by decide)) (qgs_cons (qg_name (i := 2) sc_four_by_one.nd rfl (.inl rfl) (by decide)) (qgs_cons (qg_name (i := 3) sc_four_by_one.nd rfl (.inl rfl) (by decide)) (qgs_cons (qg_name (i := 4) sc_four_by_one.nd rfl (.inl rfl) (by decide)) qgs_nil))))))
      (qss_cons (qs_set (i := 5) sc_four_by_one.nd rfl (.inl rfl) (q_lst (qa_cons (q_tup (qa_cons (q_const T.k_LESS_ONE) (qa_cons (qv 2) qa_nil))) (qa_cons (q_tup (qa_cons (q_const T.k_LEFT_OVER) (qa_cons (qv 3) qa_nil))) (qa_cons (q_tup (qa_cons (q_const T.k_LESS_Y) (qa_cons (qv 4) qa_nil))) qa_nil)))))
      (qss_one (qs_ret (q_lst (qa_cons (qv 5) (qa_cons (q_lst (qa_cons (q_tup (qa_cons (q_const T.k_ONE_polysums) (qa_cons (qv 1) qa_nil))) (qa_cons (q_tup (qa_cons (q_const T.k_X) (qa_cons (qv 2) qa_nil))) (qa_cons (q_tup (qa_cons (q_const T.k_Y) (qa_cons (qv 3) qa_nil))) (qa_cons (q_tup (qa_cons (q_const T.k_Z) (qa_cons (qv 4) qa_nil))) qa_nil))))) (qa_cons (q_lst (qa_cons (q_tup (qa_cons (q_const T.k_X) (qa_cons (qv 3) qa_nil))) (qa_cons (q_tup (qa_cons (q_const T.k_ONE_polysums) (qa_cons (qv 4) qa_nil))) qa_nil))) (qa_cons (q_lst (qa_cons (q_tup (qa_cons (q_const T.k_LESS_ONE) (qa_cons (qv 3) qa_nil))) qa_nil)) qa_nil)))))))))) h_four_by_one
abbrev s_four_by_other : Stmt := topS 44
theorem sc_four_by_other : FnScope N_four_by_other ["four"] (defScope s_four_by_other) := ⟨rfl, rfl, rfl, by decide +kernel, rfl, by decide +kernel, by decide +kernel⟩
theorem ok_four_by_other {P : Program} {w : World} {K : PySem.W.Frag} {mg : Str → Option Value} {base : Heap} (T : Txt w K mg) (D : DefAt K mg "four_by_other" s_four_by_other ["four"]) : Callee P w K mg base "four_by_other" 1 1 fn_four_by_other :=
  D.callee (N := N_four_by_other) (t := t_four_by_other) sc_four_by_other rfl (fun f cdv A outer s H E hr hgd => (qss_cons (qs_asg (vs := allv) (qv 0) (qg_tup rfl (qgs_cons (qg_name (i := 1) sc_four_by_other.nd rfl (.inl rfl) (by decide)) (qgs_cons (qg_name (i := 2) sc_four_by_other.nd rfl (.inl rfl) (by decide)) (qgs_cons (qg_name (i := 3) sc_four_by_other.nd rfl (.inl rfl) (by decide)) (qgs_cons (qg_name (i := 4) sc_four_by_other.nd rfl (.inl rfl) (by decide)) qgs_nil))))))
      (qss_one (qs_ret (q_lst (qa_cons (q_lst (qa_cons (q_tup (qa_cons (q_const T.k_LESS_ONE) (qa_cons (qv 3) qa_nil))) qa_nil)) (qa_cons (q_lst (qa_cons (q_tup (qa_cons (q_const T.k_LESS_ONE) (qa_cons (qv 4) qa_nil))) qa_nil)) (qa_cons (q_lst (qa_cons (q_tup (qa_cons (q_const T.k_ONE_polysums) (qa_cons (qv 1) qa_nil))) (qa_cons (q_tup (qa_cons (q_const T.k_Y) (qa_cons (qv 3) qa_nil))) qa_nil))) (qa_cons (q_lst (qa_cons (q_tup (qa_cons (q_const T.k_ONE_polysums) (qa_cons (qv 2) qa_nil))) (qa_cons (q_tup (qa_cons (q_const T.k_Y) (qa_cons (qv 4) qa_nil))) qa_nil))) qa_nil))))))))) h_four_by_other
abbrev s_poly_taken : Stmt := topS 33
theorem sc_poly_taken : FnScope N_poly_taken ["one", "number"] (defScope s_poly_taken) := ⟨rfl, rfl, rfl, by decide +kernel, rfl, by decide +kernel, by decide +kernel⟩
theorem ok_poly_taken {P : Program} {w : World} {K : PySem.W.Frag} {mg : Str → Option Value} {base : Heap} (T : Txt w K mg) (D : DefAt K mg "poly_taken" s_poly_taken ["one", "number"]) : Callee P w K mg base "poly_taken" 1 2 fn_poly_taken :=
  D.callee (N := N_poly_taken) (t := t_poly_taken) sc_poly_taken rfl (fun f cdv A outer s H E hr hgd => (qss_one (qs_ret (q_if (qt_cmp (oq_ne hr.units) (qv 1) q_int (nomark _)) (q_callTy cq_tuple (by rfl) T.n_tuple bt_tuple (qa_cons (q_lc (own := [("powers", 2), ("late", 3)]) rfl sc_poly_taken.nd (qi_tup (qv 0)) (blkOk_by (N := N_poly_taken) (sc := defScope s_poly_taken) (own := [("powers", 2), ("late", 3)]) (by decide +kernel)) (fun _ _ _ _ _ => (qg_tup rfl (qgs_cons (qg_name (i := 2) sc_poly_taken.nd rfl (.inl rfl) (by decide)) (qgs_cons (qg_name (i := 3) sc_poly_taken.nd rfl (.inl rfl) (by decide)) qgs_nil)))) (fun _ _ _ _ _ => qts_nil) (fun _ _ _ _ _ => (q_tup (qa_cons (qv 2) (qa_cons (q_op oq_mul (qv 1) (qv 3)) qa_nil))))) qa_nil)) (q_const T.k_NOTHING))))) h_poly_taken
abbrev s_less_all : Stmt := topS 45
theorem sc_less_all : FnScope N_less_all ["pairs"] (defScope s_less_all) := ⟨rfl, rfl, rfl, by decide +kernel, rfl, by decide +kernel, by decide +kernel⟩
theorem ok_less_all {P : Program} {w : World} {K : PySem.W.Frag} {mg : Str → Option Value} {base : Heap} (T : Txt w K mg) (c_poly_taken : Callee P w K mg base "poly_taken" 1 2 fn_poly_taken) (D : DefAt K mg "less_all" s_less_all ["pairs"]) : Callee P w K mg base "less_all" 2 1 fn_less_all :=
  D.callee (N := N_less_all) (t := t_less_all) sc_less_all rfl (fun f cdv A outer s H E hr hgd => (qss_one (qs_ret (q_lc (own := [("short", 1), ("one", 2)]) rfl sc_less_all.nd (qi_lst (qv 0)) (blkOk_by (N := N_less_all) (sc := defScope s_less_all) (own := [("short", 1), ("one", 2)]) (by decide +kernel)) (fun _ _ _ _ _ => (qg_tup rfl (qgs_cons (qg_name (i := 1) sc_less_all.nd rfl (.inl rfl) (by decide)) (qgs_cons (qg_name (i := 2) sc_less_all.nd rfl (.inl rfl) (by decide)) qgs_nil)))) (fun _ _ _ _ _ => qts_nil) (fun _ _ _ _ _ => (q_tup (qa_cons (q_call c_poly_taken (hr.mono (by decide)) hgd (qa_cons (qv 1) (qa_cons (q_neg q_int) qa_nil))) (qa_cons (qv 2) qa_nil)))))))) h_less_all
abbrev s_poly_told : Stmt := topS 32
theorem sc_poly_told : FnScope N_poly_told ["terms"] (defScope s_poly_told) := ⟨rfl, rfl, rfl, by decide +kernel, rfl, by decide +kernel, by decide +kernel⟩
theorem ok_poly_told {P : Program} {w : World} {K : PySem.W.Frag} {mg : Str → Option Value} {base : Heap} (T : Txt w K mg) (D : DefAt K mg "poly_told" s_poly_told ["terms"]) : Callee P w K mg base "poly_told" 1 1 fn_poly_told :=
  D.callee (N := N_poly_told) (t := t_poly_told) sc_poly_told rfl (fun f cdv A outer s H E hr hgd => (qss_cons (qs_set (i := 1) sc_poly_told.nd rfl (.inl rfl) (q_callTy cq_tuple (by rfl) T.n_tuple bt_tuple (qa_cons (q_lc (own := [("powers", 2)]) rfl sc_poly_told.nd (qi_lst (q_callB (cq_sortT rfl) (by rfl) T.n_sorted bt_sorted (qa_cons (qv 0) qa_nil))) (blkOk_by (N := N_poly_told) (sc := defScope s_poly_told) (own := [("powers", 2)]) (by decide +kernel)) (fun _ _ _ _ _ => (qg_name (i := 2) sc_poly_told.nd rfl (.inl rfl) (by decide))) (fun _ _ _ _ _ => (qts_one (qt_cmp (oq_ne hr.units) (q_dixT (hu_of hr) (qv 0) (qv 2)) q_int (nomark _)))) (fun _ _ _ _ _ => (q_tup (qa_cons (qv 2) (qa_cons (q_dixT (hu_of hr) (qv 0) (qv 2)) qa_nil))))) qa_nil)))
      (qss_cons (qs_if (qt_cmp oq_gt (q_callB cq_len (by rfl) T.n_len bt_len (qa_cons (qv 1) qa_nil)) (q_const T.k_MOST_TERMS) (nomark _)) (qss_one qs_never) qss_nil)
      (qss_one (qs_ret (qv 1)))))) h_poly_told
abbrev s_sum_of_products : Stmt := topS 42
theorem sc_sum_of_products : FnScope N_sum_of_products ["pairs"] (defScope s_sum_of_products) := ⟨rfl, rfl, rfl, by decide +kernel, rfl, by decide +kernel, by decide +kernel⟩
theorem ok_sum_of_products {P : Program} {w : World} {K : PySem.W.Frag} {mg : Str → Option Value} {base : Heap} (T : Txt w K mg) (c_poly_told : Callee P w K mg base "poly_told" 1 1 fn_poly_told) (D : DefAt K mg "sum_of_products" s_sum_of_products ["pairs"]) : Callee P w K mg base "sum_of_products" 2 1 fn_sum_of_products :=
  D.callee (N := N_sum_of_products) (t := t_sum_of_products) sc_sum_of_products rfl (fun f cdv A outer s H E hr hgd => (qss_cons (qs_set (i := 1) sc_sum_of_products.nd rfl (.inl rfl) q_dnewT)
      (qss_cons (qs_for (vs := allv) [2, 3, 4, 5, 6, 7, 8, 9, 10, 11, 12] PassesOwn.never rfl (qi_lst (qv 0)) (qg_tup rfl (qgs_cons (qg_name (i := 2) sc_sum_of_products.nd rfl (.inl rfl) (by decide)) (qgs_cons (qg_name (i := 3) sc_sum_of_products.nd rfl (.inl rfl) (by decide)) qgs_nil))) (qss_one (qs_for (vs := allv) [4, 5, 6, 7, 8, 9, 10, 11, 12] PassesOwn.never rfl (qi_tup (qv 2)) (qg_tup rfl (qgs_cons (qg_tup rfl (qgs_cons (qg_name (i := 4) sc_sum_of_products.nd rfl (.inl rfl) (by decide)) (qgs_cons (qg_name (i := 5) sc_sum_of_products.nd rfl (.inl rfl) (by decide)) (qgs_cons (qg_name (i := 6) sc_sum_of_products.nd rfl (.inl rfl) (by decide)) qgs_nil)))) (qgs_cons (qg_name (i := 7) sc_sum_of_products.nd rfl (.inl rfl) (by decide)) qgs_nil))) (qss_one (qs_for (vs := allv) [8, 9, 10, 11, 12] PassesOwn.never rfl (qi_tup (qv 3)) (qg_tup rfl (qgs_cons (qg_tup rfl (qgs_cons (qg_name (i := 8) sc_sum_of_products.nd rfl (.inl rfl) (by decide)) (qgs_cons (qg_name (i := 9) sc_sum_of_products.nd rfl (.inl rfl) (by decide)) (qgs_cons (qg_name (i := 10) sc_sum_of_products.nd rfl (.inl rfl) (by decide)) qgs_nil)))) (qgs_cons (qg_name (i := 11) sc_sum_of_products.nd rfl (.inl rfl) (by decide)) qgs_nil))) (qss_cons (qs_set (i := 12) sc_sum_of_products.nd rfl (.inl rfl) (q_tupK (qa_cons (q_op oq_add (qv 8) (qv 4)) (qa_cons (q_op oq_add (qv 9) (qv 5)) (qa_cons (q_op oq_add (qv 10) (qv 6)) qa_nil)))))
      (qss_one (qs_dput (hu_of hr) (qv 1) (qv 12) (q_op oq_add (q_dget (hu_of hr) (qv 1) (qv 12) q_int) (q_op oq_mul (qv 7) (qv 11)))))))))))
      (qss_one (qs_norm 0 [] (qs_ret (q_call c_poly_told (hr.mono (by decide)) hgd (qa_cons (qv 1) qa_nil)))))))) h_sum_of_products
abbrev s_four_letter : Stmt := topS 46
theorem sc_four_letter : FnScope N_four_letter ["four", "letter"] (defScope s_four_letter) := ⟨rfl, rfl, rfl, by decide +kernel, rfl, by decide +kernel, by decide +kernel⟩
theorem ok_four_letter {P : Program} {w : World} {K : PySem.W.Frag} {mg : Str → Option Value} {base : Heap} (T : Txt w K mg) (c_four_by_one : Callee P w K mg base "four_by_one" 1 1 fn_four_by_one) (c_four_by_other : Callee P w K mg base "four_by_other" 1 1 fn_four_by_other) (c_less_all : Callee P w K mg base "less_all" 2 1 fn_less_all) (c_sum_of_products : Callee P w K mg base "sum_of_products" 2 1 fn_sum_of_products) (D : DefAt K mg "four_letter" s_four_letter ["four", "letter"]) : Callee P w K mg base "four_letter" 3 2 fn_four_letter :=
  D.callee (N := N_four_letter) (t := t_four_letter) sc_four_letter rfl (fun f cdv A outer s H E hr hgd => (qss_cons (qs_set (i := 2) sc_four_letter.nd rfl (.inl rfl) (q_if (qt_cmp (oq_eq hr.units) (q_callB cq_abs (by rfl) T.n_abs bt_abs (qa_cons (qv 1) qa_nil)) q_int (nomark _)) (q_call c_four_by_one (hr.mono (by decide)) hgd (qa_cons (qv 0) qa_nil)) (q_call c_four_by_other (hr.mono (by decide)) hgd (qa_cons (qv 0) qa_nil))))
      (qss_cons (qs_if (qt_cmp oq_lt (qv 1) q_int (nomark _)) (qss_cons (qs_set (i := 3) sc_four_letter.nd rfl (.inr rfl) (q_if (qt_cmp (oq_eq hr.units) (qv 1) (q_neg q_int) (nomark _)) (q_const T.k_X) (q_const T.k_Y)))
      (qss_one (qs_setLc (i := 2) (own := [("k", 4), ("pairs", 5)]) rfl sc_four_letter.nd rfl rfl (sw_true rfl rfl rfl (by decide +kernel)) (qi_enum (by rfl) T.n_enumerate (qa_cons (qv 2) qa_nil)) (blkOk_by (N := N_four_letter) (sc := defScope s_four_letter) (own := [("k", 4), ("pairs", 5)]) (by decide +kernel)) (fun _ _ _ _ _ => (qg_tup rfl (qgs_cons (qg_name (i := 4) sc_four_letter.nd rfl (.inl rfl) (by decide)) (qgs_cons (qg_name (i := 5) sc_four_letter.nd rfl (.inl rfl) (by decide)) qgs_nil)))) (fun _ _ _ _ _ => qts_nil) (fun _ _ _ _ _ => (q_op oq_add (q_call c_less_all (hr.mono (by decide)) hgd (qa_cons (qv 5) qa_nil)) (q_lst (qa_cons (q_tup (qa_cons (qv 3) (qa_cons (q_ix iq_seq (qv 0) (qv 4) (fun _ _ => rfl)) qa_nil))) qa_nil))))))) qss_nil)
      (qss_one (qs_ret (q_callTy cq_tuple (by rfl) T.n_tuple bt_tuple (qa_cons (q_lc (own := [("pairs", 5)]) rfl sc_four_letter.nd (qi_lst (qv 2)) (blkOk_by (N := N_four_letter) (sc := defScope s_four_letter) (own := [("pairs", 5)]) (by decide +kernel)) (fun _ _ _ _ _ => (qg_name (i := 5) sc_four_letter.nd rfl (.inl rfl) (by decide))) (fun _ _ _ _ _ => qts_nil) (fun _ _ _ _ _ => (q_call c_sum_of_products (hr.mono (by decide)) hgd (qa_cons (qv 5) qa_nil)))) qa_nil))))))) h_four_letter
abbrev s_four_told : Stmt := topS 47
theorem sc_four_told : FnScope N_four_told ["word"] (defScope s_four_told) := ⟨rfl, rfl, rfl, by decide +kernel, rfl, by decide +kernel, by decide +kernel⟩
theorem ok_four_told {P : Program} {w : World} {K : PySem.W.Frag} {mg : Str → Option Value} {base : Heap} (T : Txt w K mg) (c_four_letter : Callee P w K mg base "four_letter" 3 2 fn_four_letter) (D : DefAt K mg "four_told" s_four_told ["word"]) : Callee P w K mg base "four_told" 4 1 fn_four_told :=
  D.callee (N := N_four_told) (t := t_four_told) sc_four_told rfl (fun f cdv A outer s H E hr hgd => (qss_cons (qs_set (i := 1) sc_four_told.nd rfl (.inl rfl) (q_const T.k_BEGUN))
      (qss_cons (qs_for (vs := allv) [2] PassesOwn.never rfl (qi_tup (qv 0)) (qg_name (i := 2) sc_four_told.nd rfl (.inl rfl) (by decide)) (qss_one (qs_set (i := 1) sc_four_told.nd rfl (.inl rfl) (q_call c_four_letter (hr.mono (by decide)) hgd (qa_cons (qv 1) (qa_cons (qv 2) qa_nil))))))
      (qss_one (qs_ret (qv 1)))))) h_four_told
abbrev s_number_powers : Stmt := topS 35
theorem sc_number_powers : FnScope N_number_powers ["number", "most"] (defScope s_number_powers) := ⟨rfl, rfl, rfl, by decide +kernel, rfl, by decide +kernel, by decide +kernel⟩
theorem ok_number_powers {P : Program} {w : World} {K : PySem.W.Frag} {mg : Str → Option Value} {base : Heap} (T : Txt w K mg) (D : DefAt K mg "number_powers" s_number_powers ["number", "most"]) : Callee P w K mg base "number_powers" 1 2 fn_number_powers :=
  D.callee (N := N_number_powers) (t := t_number_powers) sc_number_powers rfl (fun f cdv A outer s H E hr hgd => (qss_cons (qs_set (i := 2) sc_number_powers.nd rfl (.inl rfl) (q_lstM (qa_cons q_int qa_nil)))
      (qss_cons (qs_for (vs := allv) [3] PassesOwn.never rfl (qi_range1 (by rfl) T.n_range (qa_cons (qv 1) qa_nil)) (qg_name (i := 3) sc_number_powers.nd rfl (.inl rfl) (by decide)) (qss_one (qs_expr (q_mt mq_append PySem.F.slot_list_append PySem.F.type_list_append (qv 2) (qa_cons (q_op oq_mul (q_ix iq_seq (qv 2) (q_neg q_int) (fun _ _ => rfl)) (qv 0)) qa_nil)))))
      (qss_one (qs_ret (qv 2)))))) h_number_powers
abbrev s_poly_degrees : Stmt := topS 34
theorem sc_poly_degrees : FnScope N_poly_degrees ["one"] (defScope s_poly_degrees) := ⟨rfl, rfl, rfl, by decide +kernel, rfl, by decide +kernel, by decide +kernel⟩
theorem ok_poly_degrees {P : Program} {w : World} {K : PySem.W.Frag} {mg : Str → Option Value} {base : Heap} (T : Txt w K mg) (D : DefAt K mg "poly_degrees" s_poly_degrees ["one"]) : Callee P w K mg base "poly_degrees" 1 1 fn_poly_degrees :=
  D.callee (N := N_poly_degrees) (t := t_poly_degrees) sc_poly_degrees rfl (fun f cdv A outer s H E hr hgd => (qss_one (qs_ret (q_callTy cq_tuple (by rfl) T.n_tuple bt_tuple (qa_cons (q_lc (own := [("k", 1)]) rfl sc_poly_degrees.nd (qi_range1 (by rfl) T.n_range (qa_cons q_int qa_nil)) (blkOk_by (N := N_poly_degrees) (sc := defScope s_poly_degrees) (own := [("k", 1)]) (by decide +kernel)) (fun _ _ _ _ _ => (qg_name (i := 1) sc_poly_degrees.nd rfl (.inr rfl) (by decide))) (fun _ _ _ _ _ => qts_nil) (fun _ _ _ _ _ => (q_callB (cq_maxL rfl) (by rfl) T.n_max bt_max (qa_cons (q_op oq_add (q_lst (qa_cons q_int qa_nil)) (q_lc (own := [("powers", 2), ("number", 3)]) rfl sc_poly_degrees.nd (qi_tup (qv 0)) (blkOk_by (by first | kernel_rfl | rfl)) (fun _ _ _ _ _ => (qg_tup rfl (qgs_cons (qg_name (i := 2) sc_poly_degrees.nd rfl (.inl rfl) (by decide)) (qgs_cons (qg_name (i := 3) sc_poly_degrees.nd rfl (.inl rfl) (by decide)) qgs_nil)))) (fun _ _ _ _ _ => qts_nil) (fun _ _ _ _ _ => (q_ix iq_seq (qv 2) (qv 1) (fun _ _ => rfl))))) qa_nil)))) qa_nil))))) h_poly_degrees
abbrev s_poly_value : Stmt := topS 36
theorem sc_poly_value : FnScope N_poly_value ["one", "triple"] (defScope s_poly_value) := ⟨rfl, rfl, rfl, by decide +kernel, rfl, by decide +kernel, by decide +kernel⟩
theorem ok_poly_value {P : Program} {w : World} {K : PySem.W.Frag} {mg : Str → Option Value} {base : Heap} (T : Txt w K mg) (c_number_powers : Callee P w K mg base "number_powers" 1 2 fn_number_powers) (c_poly_degrees : Callee P w K mg base "poly_degrees" 1 1 fn_poly_degrees) (D : DefAt K mg "poly_value" s_poly_value ["one", "triple"]) : Callee P w K mg base "poly_value" 2 2 fn_poly_value :=
  D.callee (N := N_poly_value) (t := t_poly_value) sc_poly_value rfl (fun f cdv A outer s H E hr hgd => (qss_cons (qs_set (i := 2) sc_poly_value.nd rfl (.inr rfl) (q_lc (own := [("number", 3), ("most", 4)]) rfl sc_poly_value.nd (qi_zipS (by rfl) T.n_zip (qa_cons (qv 1) (qa_cons (q_call c_poly_degrees (hr.mono (by decide)) hgd (qa_cons (qv 0) qa_nil)) qa_nil))) (blkOk_by (N := N_poly_value) (sc := defScope s_poly_value) (own := [("number", 3), ("most", 4)]) (by decide +kernel)) (fun _ _ _ _ _ => (qg_tup rfl (qgs_cons (qg_name (i := 3) sc_poly_value.nd rfl (.inl rfl) (by decide)) (qgs_cons (qg_name (i := 4) sc_poly_value.nd rfl (.inl rfl) (by decide)) qgs_nil)))) (fun _ _ _ _ _ => qts_nil) (fun _ _ _ _ _ => (q_call c_number_powers (hr.mono (by decide)) hgd (qa_cons (qv 3) (qa_cons (qv 4) qa_nil))))))
      (qss_one (qs_ret (q_callB (cq_sum rfl) (by rfl) T.n_sum bt_sum (qa_cons (q_lc (own := [("number", 3), ("i", 5), ("j", 6), ("k", 7)]) rfl sc_poly_value.nd (qi_tup (qv 0)) (blkOk_by (N := N_poly_value) (sc := defScope s_poly_value) (own := [("number", 3), ("i", 5), ("j", 6), ("k", 7)]) (by decide +kernel)) (fun _ _ _ _ _ => (qg_tup rfl (qgs_cons (qg_tup rfl (qgs_cons (qg_name (i := 5) sc_poly_value.nd rfl (.inl rfl) (by decide)) (qgs_cons (qg_name (i := 6) sc_poly_value.nd rfl (.inl rfl) (by decide)) (qgs_cons (qg_name (i := 7) sc_poly_value.nd rfl (.inl rfl) (by decide)) qgs_nil)))) (qgs_cons (qg_name (i := 3) sc_poly_value.nd rfl (.inl rfl) (by decide)) qgs_nil)))) (fun _ _ _ _ _ => qts_nil) (fun _ _ _ _ _ => (q_op oq_mul (q_op oq_mul (q_op oq_mul (qv 3) (q_ix iq_seq (q_ix iq_seq (qv 2) q_int (fun _ _ => rfl)) (qv 5) (fun _ _ => rfl))) (q_ix iq_seq (q_ix iq_seq (qv 2) q_int (fun _ _ => rfl)) (qv 6) (fun _ _ => rfl))) (q_ix iq_seq (q_ix iq_seq (qv 2) q_int (fun _ _ => rfl)) (qv 7) (fun _ _ => rfl))))) qa_nil)))))) h_poly_value
abbrev s_four_value : Stmt := topS 48
theorem sc_four_value : FnScope N_four_value ["four", "triple"] (defScope s_four_value) := ⟨rfl, rfl, rfl, by decide +kernel, rfl, by decide +kernel, by decide +kernel⟩
theorem ok_four_value {P : Program} {w : World} {K : PySem.W.Frag} {mg : Str → Option Value} {base : Heap} (T : Txt w K mg) (c_poly_value : Callee P w K mg base "poly_value" 2 2 fn_poly_value) (D : DefAt K mg "four_value" s_four_value ["four", "triple"]) : Callee P w K mg base "four_value" 3 2 fn_four_value :=
  D.callee (N := N_four_value) (t := t_four_value) sc_four_value rfl (fun f cdv A outer s H E hr hgd => (qss_one (qs_ret (q_callTy cq_tuple (by rfl) T.n_tuple bt_tuple (qa_cons (q_lc (own := [("one", 2)]) rfl sc_four_value.nd (qi_tup (qv 0)) (blkOk_by (N := N_four_value) (sc := defScope s_four_value) (own := [("one", 2)]) (by decide +kernel)) (fun _ _ _ _ _ => (qg_name (i := 2) sc_four_value.nd rfl (.inl rfl) (by decide))) (fun _ _ _ _ _ => qts_nil) (fun _ _ _ _ _ => (q_call c_poly_value (hr.mono (by decide)) hgd (qa_cons (qv 2) (qa_cons (qv 1) qa_nil))))) qa_nil))))) h_four_value
abbrev s_k_of : Stmt := topS 13
theorem sc_k_of : FnScope N_k_of ["triple"] (defScope s_k_of) := ⟨rfl, rfl, rfl, by decide +kernel, rfl, by decide +kernel, by decide +kernel⟩
theorem ok_k_of {P : Program} {w : World} {K : PySem.W.Frag} {mg : Str → Option Value} {base : Heap} (T : Txt w K mg) (D : DefAt K mg "k_of" s_k_of ["triple"]) : Callee P w K mg base "k_of" 1 1 fn_k_of :=
  D.callee (N := N_k_of) (t := t_k_of) sc_k_of rfl (fun f cdv A outer s H E hr hgd => (qss_cons (qs_asg (vs := allv) (qv 0) (qg_tup rfl (qgs_cons (qg_name (i := 1) sc_k_of.nd rfl (.inl rfl) (by decide)) (qgs_cons (qg_name (i := 2) sc_k_of.nd rfl (.inl rfl) (by decide)) (qgs_cons (qg_name (i := 3) sc_k_of.nd rfl (.inl rfl) (by decide)) qgs_nil)))))
      (qss_one (qs_ret (q_op oq_sub (q_op oq_sub (q_op oq_add (q_op oq_add (q_op oq_mul (qv 1) (qv 1)) (q_op oq_mul (qv 2) (qv 2))) (q_op oq_mul (qv 3) (qv 3))) (q_op oq_mul (q_op oq_mul (qv 1) (qv 2)) (qv 3))) q_int))))) h_k_of
abbrev s_least_row : Stmt := topS 19
theorem sc_least_row : FnScope N_least_row ["row"] (defScope s_least_row) := ⟨rfl, rfl, rfl, by decide +kernel, rfl, by decide +kernel, by decide +kernel⟩
theorem ok_least_row {P : Program} {w : World} {K : PySem.W.Frag} {mg : Str → Option Value} {base : Heap} (T : Txt w K mg) (D : DefAt K mg "least_row" s_least_row ["row"]) : Callee P w K mg base "least_row" 1 1 fn_least_row :=
  D.callee (N := N_least_row) (t := t_least_row) sc_least_row rfl (fun f cdv A outer s H E hr hgd => (qss_cons (qs_set (i := 1) sc_least_row.nd rfl (.inr rfl) q_int)
      (qss_cons (qs_for (vs := allv) [2] PassesOwn.never rfl (qi_tup (qv 0)) (qg_name (i := 2) sc_least_row.nd rfl (.inl rfl) (by decide)) (qss_one (qs_set (i := 1) sc_least_row.nd rfl (.inr rfl) (q_callF cq_gcd (by rfl) T.f_gcd (qa_cons (qv 1) (qa_cons (q_callB cq_abs (by rfl) T.n_abs bt_abs (qa_cons (qv 2) qa_nil)) qa_nil))))))
      (qss_cons (qs_setLc (i := 3) (own := [("number", 2)]) rfl sc_least_row.nd rfl rfl (sw_true rfl rfl rfl (by decide +kernel)) (qi_tup (qv 0)) (blkOk_by (N := N_least_row) (sc := defScope s_least_row) (own := [("number", 2)]) (by decide +kernel)) (fun _ _ _ _ _ => (qg_name (i := 2) sc_least_row.nd rfl (.inl rfl) (by decide))) (fun _ _ _ _ _ => (qts_one (qt_cmp (oq_ne hr.units) (qv 2) q_int (nomark _)))) (fun _ _ _ _ _ => (qv 2)))
      (qss_cons (qs_if (qt_cmp (oq_eq hr.units) (qv 3) (q_lst qa_nil) (nomark _)) (qss_one (qs_ret (q_callTy cq_list (by rfl) T.n_list bt_list (qa_cons (qv 0) qa_nil)))) qss_nil)
      (qss_cons (qs_set (i := 1) sc_least_row.nd rfl (.inr rfl) (q_if (qt_cmp oq_gt (q_ix iq_seq (qv 3) q_int (fun _ _ => rfl)) q_int (nomark _)) (qv 1) (q_neg (qv 1))))
      (qss_one (qs_ret (q_lc (own := [("number", 2)]) rfl sc_least_row.nd (qi_tup (qv 0)) (blkOk_by (N := N_least_row) (sc := defScope s_least_row) (own := [("number", 2)]) (by decide +kernel)) (fun _ _ _ _ _ => (qg_name (i := 2) sc_least_row.nd rfl (.inl rfl) (by decide))) (fun _ _ _ _ _ => qts_nil) (fun _ _ _ _ _ => (q_op oq_fdivN (qv 2) (qv 1)))))))))))) h_least_row
abbrev s_kept_column : Stmt := topS 22
theorem sc_kept_column : FnScope N_kept_column ["table"] (defScope s_kept_column) := ⟨rfl, rfl, rfl, by decide +kernel, rfl, by decide +kernel, by decide +kernel⟩
theorem ok_kept_column {P : Program} {w : World} {K : PySem.W.Frag} {mg : Str → Option Value} {base : Heap} (T : Txt w K mg) (c_least_row : Callee P w K mg base "least_row" 1 1 fn_least_row) (D : DefAt K mg "kept_column" s_kept_column ["table"]) : Callee P w K mg base "kept_column" 2 1 fn_kept_column :=
  D.callee (N := N_kept_column) (t := t_kept_column) sc_kept_column rfl (fun f cdv A outer s H E hr hgd => (qss_cons (qs_asg (vs := allv) (qv 0) (qg_tup rfl (qgs_cons (qg_name (i := 1) sc_kept_column.nd rfl (.inl rfl) (by decide)) (qgs_cons (qg_name (i := 2) sc_kept_column.nd rfl (.inl rfl) (by decide)) (qgs_cons (qg_name (i := 3) sc_kept_column.nd rfl (.inl rfl) (by decide)) (qgs_cons (qg_name (i := 4) sc_kept_column.nd rfl (.inl rfl) (by decide)) qgs_nil))))))
      (qss_cons (qs_set (i := 5) sc_kept_column.nd rfl (.inl rfl) (q_op oq_fdiv (q_op oq_add (qv 1) (qv 4)) q_int))
      (qss_cons (qs_set (i := 6) sc_kept_column.nd rfl (.inl rfl) (q_if (qt_w (qw_or (qt_cmp (oq_ne hr.units) (qv 2) q_int (nomark _)) (qw_or1 (qt_cmp (oq_ne hr.units) (qv 5) (qv 1) (nomark _))))) (q_tup (qa_cons (qv 2) (qa_cons (q_op oq_sub (qv 5) (qv 1)) qa_nil))) (q_tup (qa_cons (q_op oq_sub (qv 5) (qv 4)) (qa_cons (qv 3) qa_nil)))))
      (qss_one (qs_ret (q_callTy cq_tuple (by rfl) T.n_tuple bt_tuple (qa_cons (q_call c_least_row (hr.mono (by decide)) hgd (qa_cons (qv 6) qa_nil)) qa_nil)))))))) h_kept_column
abbrev s_trace_of_pairtables : Stmt := topS 10
theorem sc_trace_of_pairtables : FnScope N_trace_of_pairtables ["one"] (defScope s_trace_of_pairtables) := ⟨rfl, rfl, rfl, by decide +kernel, rfl, by decide +kernel, by decide +kernel⟩
theorem ok_trace_of_pairtables {P : Program} {w : World} {K : PySem.W.Frag} {mg : Str → Option Value} {base : Heap} (T : Txt w K mg) (D : DefAt2 K mg "trace_of_pairtables" "trace_of" s_trace_of_pairtables ["one"]) : Callee P w K mg base "trace_of_pairtables" 1 1 fn_trace_of_pairtables :=
  D.callee (N := N_trace_of_pairtables) (t := t_trace_of_pairtables) sc_trace_of_pairtables rfl (fun f cdv A outer s H E hr hgd => (qss_one (qs_ret (q_op oq_add (q_ix iq_seq (qv 0) q_int (fun _ _ => rfl)) (q_ix iq_seq (qv 0) q_int (fun _ _ => rfl)))))) h_trace_of_pairtables
abbrev s_table_times : Stmt := topS 8
theorem sc_table_times : FnScope N_table_times ["one", "other"] (defScope s_table_times) := ⟨rfl, rfl, rfl, by decide +kernel, rfl, by decide +kernel, by decide +kernel⟩
theorem ok_table_times {P : Program} {w : World} {K : PySem.W.Frag} {mg : Str → Option Value} {base : Heap} (T : Txt w K mg) (D : DefAt K mg "table_times" s_table_times ["one", "other"]) : Callee P w K mg base "table_times" 1 2 fn_table_times :=
  D.callee (N := N_table_times) (t := t_table_times) sc_table_times rfl (fun f cdv A outer s H E hr hgd => (qss_cons (qs_asg (vs := allv) (qv 0) (qg_tup rfl (qgs_cons (qg_name (i := 2) sc_table_times.nd rfl (.inl rfl) (by decide)) (qgs_cons (qg_name (i := 3) sc_table_times.nd rfl (.inl rfl) (by decide)) (qgs_cons (qg_name (i := 4) sc_table_times.nd rfl (.inl rfl) (by decide)) (qgs_cons (qg_name (i := 5) sc_table_times.nd rfl (.inl rfl) (by decide)) qgs_nil))))))
      (qss_cons (qs_asg (vs := allv) (qv 1) (qg_tup rfl (qgs_cons (qg_name (i := 6) sc_table_times.nd rfl (.inl rfl) (by decide)) (qgs_cons (qg_name (i := 7) sc_table_times.nd rfl (.inl rfl) (by decide)) (qgs_cons (qg_name (i := 8) sc_table_times.nd rfl (.inl rfl) (by decide)) (qgs_cons (qg_name (i := 9) sc_table_times.nd rfl (.inl rfl) (by decide)) qgs_nil))))))
      (qss_one (qs_ret (q_tup (qa_cons (q_op oq_add (q_op oq_mul (qv 2) (qv 6)) (q_op oq_mul (qv 3) (qv 8))) (qa_cons (q_op oq_add (q_op oq_mul (qv 2) (qv 7)) (q_op oq_mul (qv 3) (qv 9))) (qa_cons (q_op oq_add (q_op oq_mul (qv 4) (qv 6)) (q_op oq_mul (qv 5) (qv 8))) (qa_cons (q_op oq_add (q_op oq_mul (qv 4) (qv 7)) (q_op oq_mul (qv 5) (qv 9))) qa_nil)))))))))) h_table_times
abbrev s_traced : Stmt := topS 12
theorem sc_traced : FnScope N_traced ["pair"] (defScope s_traced) := ⟨rfl, rfl, rfl, by decide +kernel, rfl, by decide +kernel, by decide +kernel⟩
theorem ok_traced {P : Program} {w : World} {K : PySem.W.Frag} {mg : Str → Option Value} {base : Heap} (T : Txt w K mg) (c_table_times : Callee P w K mg base "table_times" 1 2 fn_table_times) (c_trace_of_pairtables : Callee P w K mg base "trace_of_pairtables" 1 1 fn_trace_of_pairtables) (D : DefAt K mg "traced" s_traced ["pair"]) : Callee P w K mg base "traced" 2 1 fn_traced :=
  D.callee (N := N_traced) (t := t_traced) sc_traced rfl (fun f cdv A outer s H E hr hgd => (qss_one (qs_ret (q_tup (qa_cons (q_call c_trace_of_pairtables (hr.mono (by decide)) hgd (qa_cons (q_ix iq_seq (qv 0) q_int (fun _ _ => rfl)) qa_nil)) (qa_cons (q_call c_trace_of_pairtables (hr.mono (by decide)) hgd (qa_cons (q_ix iq_seq (qv 0) q_int (fun _ _ => rfl)) qa_nil)) (qa_cons (q_call c_trace_of_pairtables (hr.mono (by decide)) hgd (qa_cons (q_call c_table_times (hr.mono (by decide)) hgd (qa_cons (q_ix iq_seq (qv 0) q_int (fun _ _ => rfl)) (qa_cons (q_ix iq_seq (qv 0) q_int (fun _ _ => rfl)) qa_nil))) qa_nil)) qa_nil))))))) h_traced
abbrev s_line_told : Stmt := topS 23
theorem sc_line_told : FnScope N_line_told ["pair"] (defScope s_line_told) := ⟨rfl, rfl, rfl, by decide +kernel, rfl, by decide +kernel, by decide +kernel⟩
theorem ok_line_told {P : Program} {w : World} {K : PySem.W.Frag} {mg : Str → Option Value} {base : Heap} (T : Txt w K mg) (c_k_of : Callee P w K mg base "k_of" 1 1 fn_k_of) (c_kept_column : Callee P w K mg base "kept_column" 2 1 fn_kept_column) (c_trace_of_pairtables : Callee P w K mg base "trace_of_pairtables" 1 1 fn_trace_of_pairtables) (c_traced : Callee P w K mg base "traced" 2 1 fn_traced) (D : DefAt K mg "line_told" s_line_told ["pair"]) : Callee P w K mg base "line_told" 3 1 fn_line_told :=
  D.callee (N := N_line_told) (t := t_line_told) sc_line_told rfl (fun f cdv A outer s H E hr hgd => (qss_cons (qs_if (qt_cmp (oq_ne hr.units) (q_call c_k_of (hr.mono (by decide)) hgd (qa_cons (q_call c_traced (hr.mono (by decide)) hgd (qa_cons (qv 0) qa_nil)) qa_nil)) (q_const T.k_HAS_LINE) (nomark _)) (qss_one (qs_ret (q_tup (qa_cons q_str qa_nil)))) qss_nil)
      (qss_cons (qs_setLc (i := 1) (own := [("table", 3)]) rfl sc_line_told.nd rfl rfl (sw_true rfl rfl rfl (by decide +kernel)) (qi_tup (qv 0)) (blkOk_by (N := N_line_told) (sc := defScope s_line_told) (own := [("table", 3)]) (by decide +kernel)) (fun _ _ _ _ _ => (qg_name (i := 3) sc_line_told.nd rfl (.inl rfl) (by decide))) (fun _ _ _ _ _ => (qts_one (qt_cmp (oq_ninT (hu65 hr)) (qv 3) (q_const T.k_EACH_ONE) (by rfl)))) (fun _ _ _ _ _ => (qv 3)))
      (qss_cons (qs_if (qt_cmp (oq_eq hr.units) (qv 1) (q_lst qa_nil) (nomark _)) (qss_one (qs_ret (q_tup (qa_cons q_str qa_nil)))) qss_nil)
      (qss_cons (qs_set (i := 2) sc_line_told.nd rfl (.inl rfl) (q_op oq_sub (q_op oq_mul (q_call c_trace_of_pairtables (hr.mono (by decide)) hgd (qa_cons (q_ix iq_seq (qv 1) q_int (fun _ _ => rfl)) qa_nil)) (q_call c_trace_of_pairtables (hr.mono (by decide)) hgd (qa_cons (q_ix iq_seq (qv 1) q_int (fun _ _ => rfl)) qa_nil))) q_int))
      (qss_one (qs_ret (q_if (qt_cmp (oq_eq hr.units) (qv 2) q_int (nomark _)) (q_tup (qa_cons q_str (qa_cons (q_call c_kept_column (hr.mono (by decide)) hgd (qa_cons (q_ix iq_seq (qv 1) q_int (fun _ _ => rfl)) qa_nil)) qa_nil))) (q_tup (qa_cons q_str (qa_cons (qv 2) qa_nil))))))))))) h_line_told
abbrev s_trace_of_traces : Stmt := topS 51
theorem sc_trace_of_traces : FnScope N_trace_of_traces ["four"] (defScope s_trace_of_traces) := ⟨rfl, rfl, rfl, by decide +kernel, rfl, by decide +kernel, by decide +kernel⟩
theorem ok_trace_of_traces {P : Program} {w : World} {K : PySem.W.Frag} {mg : Str → Option Value} {base : Heap} (T : Txt w K mg) (c_sum_of_products : Callee P w K mg base "sum_of_products" 2 1 fn_sum_of_products) (D : DefAt2 K mg "trace_of_traces" "trace_of" s_trace_of_traces ["four"]) : Callee P w K mg base "trace_of_traces" 3 1 fn_trace_of_traces :=
  D.callee (N := N_trace_of_traces) (t := t_trace_of_traces) sc_trace_of_traces rfl (fun f cdv A outer s H E hr hgd => (qss_one (qs_ret (q_call c_sum_of_products (hr.mono (by decide)) hgd (qa_cons (q_lst (qa_cons (q_tup (qa_cons (q_const T.k_TWO) (qa_cons (q_ix iq_seq (qv 0) q_int (fun _ _ => rfl)) qa_nil))) (qa_cons (q_tup (qa_cons (q_const T.k_X) (qa_cons (q_ix iq_seq (qv 0) q_int (fun _ _ => rfl)) qa_nil))) (qa_cons (q_tup (qa_cons (q_const T.k_Y) (qa_cons (q_ix iq_seq (qv 0) q_int (fun _ _ => rfl)) qa_nil))) (qa_cons (q_tup (qa_cons (q_const T.k_Z) (qa_cons (q_ix iq_seq (qv 0) q_int (fun _ _ => rfl)) qa_nil))) qa_nil))))) qa_nil))))) h_trace_of_traces
abbrev s_trace_told : Stmt := topS 53
theorem sc_trace_told : FnScope N_trace_told ["word"] (defScope s_trace_told) := ⟨rfl, rfl, rfl, by decide +kernel, rfl, by decide +kernel, by decide +kernel⟩
theorem ok_trace_told {P : Program} {w : World} {K : PySem.W.Frag} {mg : Str → Option Value} {base : Heap} (T : Txt w K mg) (c_four_told : Callee P w K mg base "four_told" 4 1 fn_four_told) (c_trace_of_traces : Callee P w K mg base "trace_of_traces" 3 1 fn_trace_of_traces) (D : DefAt K mg "trace_told" s_trace_told ["word"]) : Callee P w K mg base "trace_told" 5 1 fn_trace_told :=
  D.callee (N := N_trace_told) (t := t_trace_told) sc_trace_told rfl (fun f cdv A outer s H E hr hgd => (qss_one (qs_ret (q_call c_trace_of_traces (hr.mono (by decide)) hgd (qa_cons (q_call c_four_told (hr.mono (by decide)) hgd (qa_cons (qv 0) qa_nil)) qa_nil))))) h_trace_told
abbrev s_table_undone : Stmt := topS 9
theorem sc_table_undone : FnScope N_table_undone ["one"] (defScope s_table_undone) := ⟨rfl, rfl, rfl, by decide +kernel, rfl, by decide +kernel, by decide +kernel⟩
theorem ok_table_undone {P : Program} {w : World} {K : PySem.W.Frag} {mg : Str → Option Value} {base : Heap} (T : Txt w K mg) (D : DefAt K mg "table_undone" s_table_undone ["one"]) : Callee P w K mg base "table_undone" 1 1 fn_table_undone :=
  D.callee (N := N_table_undone) (t := t_table_undone) sc_table_undone rfl (fun f cdv A outer s H E hr hgd => (qss_one (qs_ret (q_tup (qa_cons (q_ix iq_seq (qv 0) q_int (fun _ _ => rfl)) (qa_cons (q_neg (q_ix iq_seq (qv 0) q_int (fun _ _ => rfl))) (qa_cons (q_neg (q_ix iq_seq (qv 0) q_int (fun _ _ => rfl))) (qa_cons (q_ix iq_seq (qv 0) q_int (fun _ _ => rfl)) qa_nil)))))))) h_table_undone
abbrev s_letter_table : Stmt := topS 15
theorem sc_letter_table : FnScope N_letter_table ["pair", "letter"] (defScope s_letter_table) := ⟨rfl, rfl, rfl, by decide +kernel, rfl, by decide +kernel, by decide +kernel⟩
theorem ok_letter_table {P : Program} {w : World} {K : PySem.W.Frag} {mg : Str → Option Value} {base : Heap} (T : Txt w K mg) (c_table_undone : Callee P w K mg base "table_undone" 1 1 fn_table_undone) (D : DefAt K mg "letter_table" s_letter_table ["pair", "letter"]) : Callee P w K mg base "letter_table" 2 2 fn_letter_table :=
  D.callee (N := N_letter_table) (t := t_letter_table) sc_letter_table rfl (fun f cdv A outer s H E hr hgd => (qss_cons (qs_set (i := 2) sc_letter_table.nd rfl (.inl rfl) (q_ix iq_seq (qv 0) (q_op oq_sub (q_callB cq_abs (by rfl) T.n_abs bt_abs (qa_cons (qv 1) qa_nil)) q_int) (fun _ _ => rfl)))
      (qss_one (qs_ret (q_if (qt_cmp oq_gt (qv 1) q_int (nomark _)) (qv 2) (q_call c_table_undone (hr.mono (by decide)) hgd (qa_cons (qv 2) qa_nil))))))) h_letter_table
abbrev s_not_long : Stmt := topS 14
theorem sc_not_long : FnScope N_not_long ["table"] (defScope s_not_long) := ⟨rfl, rfl, rfl, by decide +kernel, rfl, by decide +kernel, by decide +kernel⟩
theorem ok_not_long {P : Program} {w : World} {K : PySem.W.Frag} {mg : Str → Option Value} {base : Heap} (T : Txt w K mg) (D : DefAt K mg "not_long" s_not_long ["table"]) : Callee P w K mg base "not_long" 1 1 fn_not_long :=
  D.callee (N := N_not_long) (t := t_not_long) sc_not_long rfl (fun f cdv A outer s H E hr hgd => (qss_cons (qs_if (qt_cmp oq_gt (q_callB (cq_maxL rfl) (by rfl) T.n_max bt_max (qa_cons (q_lc (own := [("number", 1)]) rfl sc_not_long.nd (qi_tup (qv 0)) (blkOk_by (N := N_not_long) (sc := defScope s_not_long) (own := [("number", 1)]) (by decide +kernel)) (fun _ _ _ _ _ => (qg_name (i := 1) sc_not_long.nd rfl (.inl rfl) (by decide))) (fun _ _ _ _ _ => qts_nil) (fun _ _ _ _ _ => (q_callB cq_len (by rfl) T.n_len bt_len (qa_cons (q_callTy cq_str (by rfl) T.n_str bt_str (qa_cons (q_callB cq_abs (by rfl) T.n_abs bt_abs (qa_cons (qv 1) qa_nil)) qa_nil)) qa_nil)))) qa_nil)) (q_const T.k_MOST_FIGURES) (nomark _)) (qss_one qs_never) qss_nil)
      (qss_one (qs_ret (qv 0))))) h_not_long
abbrev s_word_table : Stmt := topS 16
theorem sc_word_table : FnScope N_word_table ["pair", "word"] (defScope s_word_table) := ⟨rfl, rfl, rfl, by decide +kernel, rfl, by decide +kernel, by decide +kernel⟩
theorem ok_word_table {P : Program} {w : World} {K : PySem.W.Frag} {mg : Str → Option Value} {base : Heap} (T : Txt w K mg) (c_letter_table : Callee P w K mg base "letter_table" 2 2 fn_letter_table) (c_not_long : Callee P w K mg base "not_long" 1 1 fn_not_long) (c_table_times : Callee P w K mg base "table_times" 1 2 fn_table_times) (D : DefAt K mg "word_table" s_word_table ["pair", "word"]) : Callee P w K mg base "word_table" 3 2 fn_word_table :=
  D.callee (N := N_word_table) (t := t_word_table) sc_word_table rfl (fun f cdv A outer s H E hr hgd => (qss_cons (qs_set (i := 2) sc_word_table.nd rfl (.inl rfl) (q_const T.k_ONE_pairtables))
      (qss_cons (qs_for (vs := allv) [3] PassesOwn.never rfl (qi_tup (qv 1)) (qg_name (i := 3) sc_word_table.nd rfl (.inl rfl) (by decide)) (qss_one (qs_set (i := 2) sc_word_table.nd rfl (.inl rfl) (q_call c_not_long (hr.mono (by decide)) hgd (qa_cons (q_call c_table_times (hr.mono (by decide)) hgd (qa_cons (qv 2) (qa_cons (q_call c_letter_table (hr.mono (by decide)) hgd (qa_cons (qv 0) (qa_cons (qv 3) qa_nil))) qa_nil))) qa_nil)))))
      (qss_one (qs_ret (qv 2)))))) h_word_table
abbrev s_law : Stmt := topS 68
theorem sc_law : FnScope N_law ["script"] (defScope s_law) := ⟨rfl, rfl, rfl, by decide +kernel, rfl, by decide +kernel, by decide +kernel⟩
theorem ok_law {P : Program} {w : World} {K : PySem.W.Frag} {mg : Str → Option Value} {base : Heap} {f : Addr} {fd : FuncData} (T : Txt w K mg) (c__law_determinant : Callee P w K mg base "_law_determinant" 6 1 fn__law_determinant) (c__law_line_right : Callee P w K mg base "_law_line_right" 2 3 fn__law_line_right) (c__law_pair : Callee P w K mg base "_law_pair" 4 1 fn__law_pair) (c__law_source : Callee P w K mg base "_law_source" 1 1 fn__law_source) (c__law_table_of : Callee P w K mg base "_law_table_of" 2 2 fn__law_table_of) (c__law_times : Callee P w K mg base "_law_times" 1 2 fn__law_times) (c__law_triple : Callee P w K mg base "_law_triple" 2 1 fn__law_triple) (c_four_told : Callee P w K mg base "four_told" 4 1 fn_four_told) (c_four_value : Callee P w K mg base "four_value" 3 2 fn_four_value) (c_k_of : Callee P w K mg base "k_of" 1 1 fn_k_of) (c_line_told : Callee P w K mg base "line_told" 3 1 fn_line_told) (c_poly_value : Callee P w K mg base "poly_value" 2 2 fn_poly_value) (c_trace_of_traces : Callee P w K mg base "trace_of_traces" 3 1 fn_trace_of_traces) (c_trace_told : Callee P w K mg base "trace_told" 5 1 fn_trace_told) (c_traced : Callee P w K mg base "traced" 2 1 fn_traced) (c_word_table : Callee P w K mg base "word_table" 3 2 fn_word_table) (F : Fun K "law" "law" s_law f fd) : FnG P w K mg base CX0 7 f fd ["script"] (spOf K 1 fn_law) :=
  fn_okA (N := N_law) (t := t_law) F sc_law rfl (fun cdv A outer s H E hr hgd => (qss_cons (qs_set (i := 1) sc_law.nd rfl (.inl rfl) (q_call c__law_source (hr.mono (by decide)) hgd (qa_cons (qv 0) qa_nil)))
      (qss_cons (qs_par (i := 2) (j := 3) rfl sc_law.nd rfl rfl (by decide) rfl rfl (qa_cons (q_tup (qa_cons q_int (qa_cons q_int (qa_cons (q_neg q_int) (qa_cons (q_neg q_int) qa_nil))))) (qa_cons (q_call c_four_told (hr.mono (by decide)) hgd (qa_cons (q_tup (qa_cons q_int (qa_cons q_int (qa_cons (q_neg q_int) (qa_cons (q_neg q_int) qa_nil))))) qa_nil)) qa_nil)) (by rfl))
      (qss_cons (qs_if (qt_cmp (oq_ne hr.units) (q_callB (cq_repr hgd (reprU hr)) (by rfl) T.n_repr bt_repr (qa_cons (q_call c_trace_of_traces (hr.mono (by decide)) hgd (qa_cons (qv 3) qa_nil)) qa_nil)) (q_callB (cq_repr hgd (reprU hr)) (by rfl) T.n_repr bt_repr (qa_cons (q_call c_trace_told (hr.mono (by decide)) hgd (qa_cons (qv 2) qa_nil)) qa_nil)) (nomark _)) (qss_one (qs_ret q_bl)) qss_nil)
      (qss_cons (qs_for (vs := allv) [4, 5, 6, 7, 8, 9, 10, 11, 12, 13, 14, 15, 16, 17, 18] PassesOwn.never rfl (qi_range1 (by rfl) T.n_range (qa_cons q_int qa_nil)) (qg_name (i := 4) sc_law.nd rfl (.inl rfl) (by decide)) (qss_cons (qs_set (i := 5) sc_law.nd rfl (.inl rfl) (q_call c__law_pair (hr.mono (by decide)) hgd (qa_cons (qv 1) qa_nil)))
      (qss_cons (qs_par (i := 6) (j := 7) rfl sc_law.nd rfl rfl (by decide) rfl rfl (qa_cons (q_call c_traced (hr.mono (by decide)) hgd (qa_cons (qv 5) qa_nil)) (qa_cons (q_callB (cq_repr hgd (reprU hr)) (by rfl) T.n_repr bt_repr (qa_cons (qv 5) qa_nil)) qa_nil)) (by rfl))
      (qss_cons (qs_asg (vs := allv) (qv 6) (qg_tup rfl (qgs_cons (qg_name (i := 8) sc_law.nd rfl (.inl rfl) (by decide)) (qgs_cons (qg_name (i := 9) sc_law.nd rfl (.inl rfl) (by decide)) (qgs_cons (qg_name (i := 10) sc_law.nd rfl (.inl rfl) (by decide)) qgs_nil)))))
      (qss_cons (qs_set (i := 11) sc_law.nd rfl (.inl rfl) (q_op oq_sub (q_op oq_sub (q_op oq_add (q_op oq_add (q_op oq_mul (qv 8) (qv 8)) (q_op oq_mul (qv 9) (qv 9))) (q_op oq_mul (qv 10) (qv 10))) (q_op oq_mul (q_op oq_mul (qv 8) (qv 9)) (qv 10))) q_int))
      (qss_cons (qs_if (qt_w (qw_or (qt_cmp (oq_ne hr.units) (q_callB (cq_repr hgd (reprU hr)) (by rfl) T.n_repr bt_repr (qa_cons (qv 6) qa_nil)) (q_callB (cq_repr hgd (reprU hr)) (by rfl) T.n_repr bt_repr (qa_cons (q_call c__law_triple (hr.mono (by decide)) hgd (qa_cons (qv 5) qa_nil)) qa_nil)) (nomark _)) (qw_or1 (qt_cmp (oq_ne hr.units) (q_callB (cq_repr hgd (reprU hr)) (by rfl) T.n_repr bt_repr (qa_cons (q_call c_k_of (hr.mono (by decide)) hgd (qa_cons (qv 6) qa_nil)) qa_nil)) (q_callB (cq_repr hgd (reprU hr)) (by rfl) T.n_repr bt_repr (qa_cons (qv 11) qa_nil)) (nomark _))))) (qss_one (qs_ret q_bl)) qss_nil)
      (qss_cons (qs_set (i := 12) sc_law.nd rfl (.inl rfl) (q_call c__law_table_of (hr.mono (by decide)) hgd (qa_cons (qv 5) (qa_cons (qv 2) qa_nil))))
      (qss_cons (qs_if (qt_w (qw_or (qt_cmp (oq_ne hr.units) (q_op oq_add (q_ix iq_seq (qv 12) q_int (fun _ _ => rfl)) (q_ix iq_seq (qv 12) q_int (fun _ _ => rfl))) (qv 11) (nomark _)) (qw_or (qt_cmp (oq_ne hr.units) (q_call c_poly_value (hr.mono (by decide)) hgd (qa_cons (q_call c_trace_told (hr.mono (by decide)) hgd (qa_cons (qv 2) qa_nil)) (qa_cons (qv 6) qa_nil))) (qv 11) (nomark _)) (qw_or1 (qt_cmp (oq_ne hr.units) (q_call c_word_table (hr.mono (by decide)) hgd (qa_cons (qv 5) (qa_cons (qv 2) qa_nil))) (qv 12) (nomark _)))))) (qss_one (qs_ret q_bl)) qss_nil)
      (qss_cons (qs_asg (vs := allv) (q_tup (qa_cons (q_call c_four_value (hr.mono (by decide)) hgd (qa_cons (qv 3) (qa_cons (qv 6) qa_nil))) (qa_cons (q_call c__law_times (hr.mono (by decide)) hgd (qa_cons (q_ix iq_seq (qv 5) q_int (fun _ _ => rfl)) (qa_cons (q_ix iq_seq (qv 5) q_int (fun _ _ => rfl)) qa_nil))) qa_nil))) (qg_tup rfl (qgs_cons (qg_name (i := 13) sc_law.nd rfl (.inr rfl) (by decide)) (qgs_cons (qg_name (i := 14) sc_law.nd rfl (.inl rfl) (by decide)) qgs_nil))))
      (qss_cons (qs_set (i := 15) sc_law.nd rfl (.inr rfl) (q_lst (qa_cons (q_tup (qa_cons q_int (qa_cons q_int (qa_cons q_int (qa_cons q_int qa_nil))))) (qa_cons (q_ix iq_seq (qv 5) q_int (fun _ _ => rfl)) (qa_cons (q_ix iq_seq (qv 5) q_int (fun _ _ => rfl)) (qa_cons (qv 14) qa_nil))))))
      (qss_cons (qs_if (qt_cmp (oq_ne hr.units) (q_callTy cq_tuple (by rfl) T.n_tuple bt_tuple (qa_cons (q_lc (own := [("j", 16)]) rfl sc_law.nd (qi_range1 (by rfl) T.n_range (qa_cons q_int qa_nil)) (blkOk_by (N := N_law) (sc := defScope s_law) (own := [("j", 16)]) (by decide +kernel)) (fun _ _ _ _ _ => (qg_name (i := 16) sc_law.nd rfl (.inr rfl) (by decide))) (fun _ _ _ _ _ => qts_nil) (fun _ _ _ _ _ => (q_callB (cq_sum rfl) (by rfl) T.n_sum bt_sum (qa_cons (q_lc (own := [("one", 17), ("row", 18)]) rfl sc_law.nd (qi_zipM (by rfl) T.n_zip (qa_cons (qv 13) (qa_cons (qv 15) qa_nil))) (blkOk_by (by first | kernel_rfl | rfl)) (fun _ _ _ _ _ => (qg_tup rfl (qgs_cons (qg_name (i := 17) sc_law.nd rfl (.inl rfl) (by decide)) (qgs_cons (qg_name (i := 18) sc_law.nd rfl (.inl rfl) (by decide)) qgs_nil)))) (fun _ _ _ _ _ => qts_nil) (fun _ _ _ _ _ => (q_op oq_mul (qv 17) (q_ix iq_seq (qv 18) (qv 16) (fun _ _ => rfl))))) qa_nil)))) qa_nil)) (qv 12) (nomark _)) (qss_one (qs_ret q_bl)) qss_nil)
      (qss_cons (qs_if (qt_cmp (oq_ne hr.units) (q_callB cq_abs (by rfl) T.n_abs bt_abs (qa_cons (q_call c__law_determinant (hr.mono (by decide)) hgd (qa_cons (q_lc (own := [("row", 18)]) rfl sc_law.nd (qi_lst (qv 15)) (blkOk_by (N := N_law) (sc := defScope s_law) (own := [("row", 18)]) (by decide +kernel)) (fun _ _ _ _ _ => (qg_name (i := 18) sc_law.nd rfl (.inl rfl) (by decide))) (fun _ _ _ _ _ => qts_nil) (fun _ _ _ _ _ => (q_callTy cq_list (by rfl) T.n_list bt_list (qa_cons (qv 18) qa_nil)))) qa_nil)) qa_nil)) (q_callB cq_abs (by rfl) T.n_abs bt_abs (qa_cons (q_op oq_sub (qv 11) q_int) qa_nil)) (nomark _)) (qss_one (qs_ret q_bl)) qss_nil)
      (qss_one (qs_if (qt_w (qw_or (qt_not (qt_tru (q_call c__law_line_right (hr.mono (by decide)) hgd (qa_cons (qv 5) (qa_cons (q_call c_line_told (hr.mono (by decide)) hgd (qa_cons (qv 5) qa_nil)) (qa_cons (qv 11) qa_nil)))) (by intro _; rfl))) (qw_or1 (qt_cmp (oq_ne hr.units) (q_callB (cq_repr hgd (reprU hr)) (by rfl) T.n_repr bt_repr (qa_cons (qv 5) qa_nil)) (qv 7) (nomark _))))) (qss_one (qs_ret q_bl)) qss_nil))))))))))))))
      (qss_one (qs_ret (q_and (q_cmp (oq_eq hr.units) (q_call c_line_told (hr.mono (by decide)) hgd (qa_cons (q_tup (qa_cons (q_tup (qa_cons q_int (qa_cons q_int (qa_cons q_int (qa_cons q_int qa_nil))))) (qa_cons (q_tup (qa_cons q_int (qa_cons q_int (qa_cons q_int (qa_cons q_int qa_nil))))) qa_nil))) qa_nil)) (q_tup (qa_cons q_str (qa_cons (q_tup (qa_cons q_int (qa_cons q_int qa_nil))) qa_nil))) (nomark _)) (q_one (q_cmp (oq_eq hr.units) (q_call c_line_told (hr.mono (by decide)) hgd (qa_cons (q_op oq_rep (q_tup (qa_cons (q_tup (qa_cons q_int (qa_cons q_int (qa_cons q_int (qa_cons q_int qa_nil))))) qa_nil)) q_int) qa_nil)) (q_tup (qa_cons q_str (qa_cons q_int qa_nil))) (nomark _))))))))))) h_law
theorem defAt_mk {K : PySem.W.Frag} {h : Heap} {mg : Str → Option Value} {x : Str} {st : Stmt} {ps : List Str} {f : Addr} {an : Option Addr} {kV dc pm cd ct : Value} (X : K.In h) (G : h.Ns mainGlobals mg)
    (a : PySem.W.nsIn K mainGlobals x = some (some (.ref f))) (F : Fun K x x st f (PySem.W.fnOf x x (defArgs st) (defBody st) (defScope st) .none kV dc pm an cd ct)) (b : Binds K (PySem.W.fnOf x x (defArgs st) (defBody st) (defScope st) .none kV dc pm an cd ct) ps []) : DefAt K mg x st ps := ⟨f, _, PySem.W.mg_of X G a, F, b⟩
theorem defAt2_mk {K : PySem.W.Frag} {h : Heap} {mg : Str → Option Value} {x y : Str} {st : Stmt} {ps : List Str} {f : Addr} {an : Option Addr} {kV dc pm cd ct : Value} (X : K.In h) (G : h.Ns mainGlobals mg)
    (a : PySem.W.nsIn K mainGlobals x = some (some (.ref f))) (F : Fun K y y st f (PySem.W.fnOf y y (defArgs st) (defBody st) (defScope st) .none kV dc pm an cd ct)) (b : Binds K (PySem.W.fnOf y y (defArgs st) (defBody st) (defScope st) .none kV dc pm an cd ct) ps []) : DefAt2 K mg x y st ps := ⟨f, _, PySem.W.mg_of X G a, F, b⟩
theorem all_mk {l : PySem.W.OpenLaw} {w : World} {K : PySem.W.Frag} {h : Heap} {mg : Str → Option Value} {fa f0 f1 f2 f3 f4 f5 f6 f7 f8 f9 f10 f11 f12 f13 f14 f15 f16 f17 f18 f19 f20 f21 f22 f23 f24 f25 f26 f27 f28 f29 f30 f31 f32 f33 f34 f35 f36 f37 f38 : Addr} (X : K.In h) (G : h.Ns mainGlobals mg) (hfa : mg "law" = some (.ref fa))
    {od0 an0 od1 an1 od2 an2 od3 an3 od4 an4 od5 an5 od6 an6 od7 an7 od8 an8 od9 an9 od10 an10 od11 an11 od12 an12 od13 an13 od14 an14 od15 an15 od16 an16 od17 an17 od18 an18 od19 an19 od20 an20 od21 an21 od22 an22 od23 an23 od24 an24 od25 an25 od26 an26 od27 an27 od28 an28 od29 an29 od30 an30 od31 an31 od32 an32 od33 an33 od34 an34 od35 an35 od36 an36 od37 an37 od38 an38 : Option Addr} {sl0 sl1 sl2 sl3 sl4 sl5 sl6 sl7 sl8 sl9 sl10 sl11 sl12 sl13 sl14 sl15 sl16 sl17 sl18 sl19 sl20 sl21 sl22 sl23 sl24 sl25 sl26 sl27 sl28 sl29 sl30 sl31 sl32 sl33 sl34 sl35 sl36 sl37 sl38 : Array (Option Value)} {oc0 kV0 dc0 pm0 cd0 ct0 oc1 kV1 dc1 pm1 cd1 ct1 oc2 kV2 dc2 pm2 cd2 ct2 oc3 kV3 dc3 pm3 cd3 ct3 oc4 kV4 dc4 pm4 cd4 ct4 oc5 kV5 dc5 pm5 cd5 ct5 oc6 kV6 dc6 pm6 cd6 ct6 oc7 kV7 dc7 pm7 cd7 ct7 oc8 kV8 dc8 pm8 cd8 ct8 oc9 kV9 dc9 pm9 cd9 ct9 oc10 kV10 dc10 pm10 cd10 ct10 oc11 kV11 dc11 pm11 cd11 ct11 oc12 kV12 dc12 pm12 cd12 ct12 oc13 kV13 dc13 pm13 cd13 ct13 oc14 kV14 dc14 pm14 cd14 ct14 oc15 kV15 dc15 pm15 cd15 ct15 oc16 kV16 dc16 pm16 cd16 ct16 oc17 kV17 dc17 pm17 cd17 ct17 oc18 kV18 dc18 pm18 cd18 ct18 oc19 kV19 dc19 pm19 cd19 ct19 oc20 kV20 dc20 pm20 cd20 ct20 oc21 kV21 dc21 pm21 cd21 ct21 oc22 kV22 dc22 pm22 cd22 ct22 oc23 kV23 dc23 pm23 cd23 ct23 oc24 kV24 dc24 pm24 cd24 ct24 oc25 kV25 dc25 pm25 cd25 ct25 oc26 kV26 dc26 pm26 cd26 ct26 oc27 kV27 dc27 pm27 cd27 ct27 oc28 kV28 dc28 pm28 cd28 ct28 oc29 kV29 dc29 pm29 cd29 ct29 oc30 kV30 dc30 pm30 cd30 ct30 oc31 kV31 dc31 pm31 cd31 ct31 oc32 kV32 dc32 pm32 cd32 ct32 oc33 kV33 dc33 pm33 cd33 ct33 oc34 kV34 dc34 pm34 cd34 ct34 oc35 kV35 dc35 pm35 cd35 ct35 oc36 kV36 dc36 pm36 cd36 ct36 oc37 kV37 dc37 pm37 cd37 ct37 oc38 kV38 dc38 pm38 cd38 ct38 : Value}
    (a0 : PySem.W.nsIn K mainGlobals "_law_determinant" = some (some (.ref f0))) (l0 : K.lookup f0 = some ⟨oc0, od0, .func (PySem.W.fnOf "_law_determinant" "_law_determinant" (defArgs s__law_determinant) (defBody s__law_determinant) (defScope s__law_determinant) .none kV0 dc0 pm0 an0 cd0 ct0), sl0⟩) (c0 : PySem.W.codeIn K cd0 "_law_determinant" = true) (k0 : PySem.W.keepIn K (.ref f0) = true)
    (a1 : PySem.W.nsIn K mainGlobals "_law_keeps" = some (some (.ref f1))) (l1 : K.lookup f1 = some ⟨oc1, od1, .func (PySem.W.fnOf "_law_keeps" "_law_keeps" (defArgs s__law_keeps) (defBody s__law_keeps) (defScope s__law_keeps) .none kV1 dc1 pm1 an1 cd1 ct1), sl1⟩) (c1 : PySem.W.codeIn K cd1 "_law_keeps" = true) (k1 : PySem.W.keepIn K (.ref f1) = true)
    (a2 : PySem.W.nsIn K mainGlobals "_law_part" = some (some (.ref f2))) (l2 : K.lookup f2 = some ⟨oc2, od2, .func (PySem.W.fnOf "_law_part" "_law_part" (defArgs s__law_part) (defBody s__law_part) (defScope s__law_part) .none kV2 dc2 pm2 an2 cd2 ct2), sl2⟩) (c2 : PySem.W.codeIn K cd2 "_law_part" = true) (k2 : PySem.W.keepIn K (.ref f2) = true)
    (a3 : PySem.W.nsIn K mainGlobals "_law_times" = some (some (.ref f3))) (l3 : K.lookup f3 = some ⟨oc3, od3, .func (PySem.W.fnOf "_law_times" "_law_times" (defArgs s__law_times) (defBody s__law_times) (defScope s__law_times) .none kV3 dc3 pm3 an3 cd3 ct3), sl3⟩) (c3 : PySem.W.codeIn K cd3 "_law_times" = true) (k3 : PySem.W.keepIn K (.ref f3) = true)
    (a4 : PySem.W.nsIn K mainGlobals "_law_line_right" = some (some (.ref f4))) (l4 : K.lookup f4 = some ⟨oc4, od4, .func (PySem.W.fnOf "_law_line_right" "_law_line_right" (defArgs s__law_line_right) (defBody s__law_line_right) (defScope s__law_line_right) .none kV4 dc4 pm4 an4 cd4 ct4), sl4⟩) (c4 : PySem.W.codeIn K cd4 "_law_line_right" = true) (k4 : PySem.W.keepIn K (.ref f4) = true)
    (a5 : PySem.W.nsIn K mainGlobals "_law_pick" = some (some (.ref f5))) (l5 : K.lookup f5 = some ⟨oc5, od5, .func (PySem.W.fnOf "_law_pick" "_law_pick" (defArgs s__law_pick) (defBody s__law_pick) (defScope s__law_pick) .none kV5 dc5 pm5 an5 cd5 ct5), sl5⟩) (c5 : PySem.W.codeIn K cd5 "_law_pick" = true) (k5 : PySem.W.keepIn K (.ref f5) = true)
    (a6 : PySem.W.nsIn K mainGlobals "_law_of" = some (some (.ref f6))) (l6 : K.lookup f6 = some ⟨oc6, od6, .func (PySem.W.fnOf "_law_of" "_law_of" (defArgs s__law_of) (defBody s__law_of) (defScope s__law_of) .none kV6 dc6 pm6 an6 cd6 ct6), sl6⟩) (c6 : PySem.W.codeIn K cd6 "_law_of" = true) (k6 : PySem.W.keepIn K (.ref f6) = true)
    (a7 : PySem.W.nsIn K mainGlobals "_law_shears" = some (some (.ref f7))) (l7 : K.lookup f7 = some ⟨oc7, od7, .func (PySem.W.fnOf "_law_shears" "_law_shears" (defArgs s__law_shears) (defBody s__law_shears) (defScope s__law_shears) .none kV7 dc7 pm7 an7 cd7 ct7), sl7⟩) (c7 : PySem.W.codeIn K cd7 "_law_shears" = true) (k7 : PySem.W.keepIn K (.ref f7) = true)
    (a8 : PySem.W.nsIn K mainGlobals "_law_table_undone" = some (some (.ref f8))) (l8 : K.lookup f8 = some ⟨oc8, od8, .func (PySem.W.fnOf "_law_table_undone" "_law_table_undone" (defArgs s__law_table_undone) (defBody s__law_table_undone) (defScope s__law_table_undone) .none kV8 dc8 pm8 an8 cd8 ct8), sl8⟩) (c8 : PySem.W.codeIn K cd8 "_law_table_undone" = true) (k8 : PySem.W.keepIn K (.ref f8) = true)
    (a9 : PySem.W.nsIn K mainGlobals "_law_pair" = some (some (.ref f9))) (l9 : K.lookup f9 = some ⟨oc9, od9, .func (PySem.W.fnOf "_law_pair" "_law_pair" (defArgs s__law_pair) (defBody s__law_pair) (defScope s__law_pair) .none kV9 dc9 pm9 an9 cd9 ct9), sl9⟩) (c9 : PySem.W.codeIn K cd9 "_law_pair" = true) (k9 : PySem.W.keepIn K (.ref f9) = true)
    (a10 : PySem.W.nsIn K mainGlobals "_law_source" = some (some (.ref f10))) (l10 : K.lookup f10 = some ⟨oc10, od10, .func (PySem.W.fnOf "_law_source" "_law_source" (defArgs s__law_source) (defBody s__law_source) (defScope s__law_source) .none kV10 dc10 pm10 an10 cd10 ct10), sl10⟩) (c10 : PySem.W.codeIn K cd10 "_law_source" = true) (k10 : PySem.W.keepIn K (.ref f10) = true)
    (a11 : PySem.W.nsIn K mainGlobals "_law_table_of" = some (some (.ref f11))) (l11 : K.lookup f11 = some ⟨oc11, od11, .func (PySem.W.fnOf "_law_table_of" "_law_table_of" (defArgs s__law_table_of) (defBody s__law_table_of) (defScope s__law_table_of) .none kV11 dc11 pm11 an11 cd11 ct11), sl11⟩) (c11 : PySem.W.codeIn K cd11 "_law_table_of" = true) (k11 : PySem.W.keepIn K (.ref f11) = true)
    (a12 : PySem.W.nsIn K mainGlobals "_law_triple" = some (some (.ref f12))) (l12 : K.lookup f12 = some ⟨oc12, od12, .func (PySem.W.fnOf "_law_triple" "_law_triple" (defArgs s__law_triple) (defBody s__law_triple) (defScope s__law_triple) .none kV12 dc12 pm12 an12 cd12 ct12), sl12⟩) (c12 : PySem.W.codeIn K cd12 "_law_triple" = true) (k12 : PySem.W.keepIn K (.ref f12) = true)
    (a13 : PySem.W.nsIn K mainGlobals "four_by_one" = some (some (.ref f13))) (l13 : K.lookup f13 = some ⟨oc13, od13, .func (PySem.W.fnOf "four_by_one" "four_by_one" (defArgs s_four_by_one) (defBody s_four_by_one) (defScope s_four_by_one) .none kV13 dc13 pm13 an13 cd13 ct13), sl13⟩) (c13 : PySem.W.codeIn K cd13 "four_by_one" = true) (k13 : PySem.W.keepIn K (.ref f13) = true)
    (a14 : PySem.W.nsIn K mainGlobals "four_by_other" = some (some (.ref f14))) (l14 : K.lookup f14 = some ⟨oc14, od14, .func (PySem.W.fnOf "four_by_other" "four_by_other" (defArgs s_four_by_other) (defBody s_four_by_other) (defScope s_four_by_other) .none kV14 dc14 pm14 an14 cd14 ct14), sl14⟩) (c14 : PySem.W.codeIn K cd14 "four_by_other" = true) (k14 : PySem.W.keepIn K (.ref f14) = true)
    (a15 : PySem.W.nsIn K mainGlobals "poly_taken" = some (some (.ref f15))) (l15 : K.lookup f15 = some ⟨oc15, od15, .func (PySem.W.fnOf "poly_taken" "poly_taken" (defArgs s_poly_taken) (defBody s_poly_taken) (defScope s_poly_taken) .none kV15 dc15 pm15 an15 cd15 ct15), sl15⟩) (c15 : PySem.W.codeIn K cd15 "poly_taken" = true) (k15 : PySem.W.keepIn K (.ref f15) = true)
    (a16 : PySem.W.nsIn K mainGlobals "less_all" = some (some (.ref f16))) (l16 : K.lookup f16 = some ⟨oc16, od16, .func (PySem.W.fnOf "less_all" "less_all" (defArgs s_less_all) (defBody s_less_all) (defScope s_less_all) .none kV16 dc16 pm16 an16 cd16 ct16), sl16⟩) (c16 : PySem.W.codeIn K cd16 "less_all" = true) (k16 : PySem.W.keepIn K (.ref f16) = true)
    (a17 : PySem.W.nsIn K mainGlobals "poly_told" = some (some (.ref f17))) (l17 : K.lookup f17 = some ⟨oc17, od17, .func (PySem.W.fnOf "poly_told" "poly_told" (defArgs s_poly_told) (defBody s_poly_told) (defScope s_poly_told) .none kV17 dc17 pm17 an17 cd17 ct17), sl17⟩) (c17 : PySem.W.codeIn K cd17 "poly_told" = true) (k17 : PySem.W.keepIn K (.ref f17) = true)
    (a18 : PySem.W.nsIn K mainGlobals "sum_of_products" = some (some (.ref f18))) (l18 : K.lookup f18 = some ⟨oc18, od18, .func (PySem.W.fnOf "sum_of_products" "sum_of_products" (defArgs s_sum_of_products) (defBody s_sum_of_products) (defScope s_sum_of_products) .none kV18 dc18 pm18 an18 cd18 ct18), sl18⟩) (c18 : PySem.W.codeIn K cd18 "sum_of_products" = true) (k18 : PySem.W.keepIn K (.ref f18) = true)
    (a19 : PySem.W.nsIn K mainGlobals "four_letter" = some (some (.ref f19))) (l19 : K.lookup f19 = some ⟨oc19, od19, .func (PySem.W.fnOf "four_letter" "four_letter" (defArgs s_four_letter) (defBody s_four_letter) (defScope s_four_letter) .none kV19 dc19 pm19 an19 cd19 ct19), sl19⟩) (c19 : PySem.W.codeIn K cd19 "four_letter" = true) (k19 : PySem.W.keepIn K (.ref f19) = true)
    (a20 : PySem.W.nsIn K mainGlobals "four_told" = some (some (.ref f20))) (l20 : K.lookup f20 = some ⟨oc20, od20, .func (PySem.W.fnOf "four_told" "four_told" (defArgs s_four_told) (defBody s_four_told) (defScope s_four_told) .none kV20 dc20 pm20 an20 cd20 ct20), sl20⟩) (c20 : PySem.W.codeIn K cd20 "four_told" = true) (k20 : PySem.W.keepIn K (.ref f20) = true)
    (a21 : PySem.W.nsIn K mainGlobals "number_powers" = some (some (.ref f21))) (l21 : K.lookup f21 = some ⟨oc21, od21, .func (PySem.W.fnOf "number_powers" "number_powers" (defArgs s_number_powers) (defBody s_number_powers) (defScope s_number_powers) .none kV21 dc21 pm21 an21 cd21 ct21), sl21⟩) (c21 : PySem.W.codeIn K cd21 "number_powers" = true) (k21 : PySem.W.keepIn K (.ref f21) = true)
    (a22 : PySem.W.nsIn K mainGlobals "poly_degrees" = some (some (.ref f22))) (l22 : K.lookup f22 = some ⟨oc22, od22, .func (PySem.W.fnOf "poly_degrees" "poly_degrees" (defArgs s_poly_degrees) (defBody s_poly_degrees) (defScope s_poly_degrees) .none kV22 dc22 pm22 an22 cd22 ct22), sl22⟩) (c22 : PySem.W.codeIn K cd22 "poly_degrees" = true) (k22 : PySem.W.keepIn K (.ref f22) = true)
    (a23 : PySem.W.nsIn K mainGlobals "poly_value" = some (some (.ref f23))) (l23 : K.lookup f23 = some ⟨oc23, od23, .func (PySem.W.fnOf "poly_value" "poly_value" (defArgs s_poly_value) (defBody s_poly_value) (defScope s_poly_value) .none kV23 dc23 pm23 an23 cd23 ct23), sl23⟩) (c23 : PySem.W.codeIn K cd23 "poly_value" = true) (k23 : PySem.W.keepIn K (.ref f23) = true)
    (a24 : PySem.W.nsIn K mainGlobals "four_value" = some (some (.ref f24))) (l24 : K.lookup f24 = some ⟨oc24, od24, .func (PySem.W.fnOf "four_value" "four_value" (defArgs s_four_value) (defBody s_four_value) (defScope s_four_value) .none kV24 dc24 pm24 an24 cd24 ct24), sl24⟩) (c24 : PySem.W.codeIn K cd24 "four_value" = true) (k24 : PySem.W.keepIn K (.ref f24) = true)
    (a25 : PySem.W.nsIn K mainGlobals "k_of" = some (some (.ref f25))) (l25 : K.lookup f25 = some ⟨oc25, od25, .func (PySem.W.fnOf "k_of" "k_of" (defArgs s_k_of) (defBody s_k_of) (defScope s_k_of) .none kV25 dc25 pm25 an25 cd25 ct25), sl25⟩) (c25 : PySem.W.codeIn K cd25 "k_of" = true) (k25 : PySem.W.keepIn K (.ref f25) = true)
    (a26 : PySem.W.nsIn K mainGlobals "least_row" = some (some (.ref f26))) (l26 : K.lookup f26 = some ⟨oc26, od26, .func (PySem.W.fnOf "least_row" "least_row" (defArgs s_least_row) (defBody s_least_row) (defScope s_least_row) .none kV26 dc26 pm26 an26 cd26 ct26), sl26⟩) (c26 : PySem.W.codeIn K cd26 "least_row" = true) (k26 : PySem.W.keepIn K (.ref f26) = true)
    (a27 : PySem.W.nsIn K mainGlobals "kept_column" = some (some (.ref f27))) (l27 : K.lookup f27 = some ⟨oc27, od27, .func (PySem.W.fnOf "kept_column" "kept_column" (defArgs s_kept_column) (defBody s_kept_column) (defScope s_kept_column) .none kV27 dc27 pm27 an27 cd27 ct27), sl27⟩) (c27 : PySem.W.codeIn K cd27 "kept_column" = true) (k27 : PySem.W.keepIn K (.ref f27) = true)
    (a28 : PySem.W.nsIn K mainGlobals "trace_of_pairtables" = some (some (.ref f28))) (l28 : K.lookup f28 = some ⟨oc28, od28, .func (PySem.W.fnOf "trace_of" "trace_of" (defArgs s_trace_of_pairtables) (defBody s_trace_of_pairtables) (defScope s_trace_of_pairtables) .none kV28 dc28 pm28 an28 cd28 ct28), sl28⟩) (c28 : PySem.W.codeIn K cd28 "trace_of" = true) (k28 : PySem.W.keepIn K (.ref f28) = true)
    (a29 : PySem.W.nsIn K mainGlobals "table_times" = some (some (.ref f29))) (l29 : K.lookup f29 = some ⟨oc29, od29, .func (PySem.W.fnOf "table_times" "table_times" (defArgs s_table_times) (defBody s_table_times) (defScope s_table_times) .none kV29 dc29 pm29 an29 cd29 ct29), sl29⟩) (c29 : PySem.W.codeIn K cd29 "table_times" = true) (k29 : PySem.W.keepIn K (.ref f29) = true)
    (a30 : PySem.W.nsIn K mainGlobals "traced" = some (some (.ref f30))) (l30 : K.lookup f30 = some ⟨oc30, od30, .func (PySem.W.fnOf "traced" "traced" (defArgs s_traced) (defBody s_traced) (defScope s_traced) .none kV30 dc30 pm30 an30 cd30 ct30), sl30⟩) (c30 : PySem.W.codeIn K cd30 "traced" = true) (k30 : PySem.W.keepIn K (.ref f30) = true)
    (a31 : PySem.W.nsIn K mainGlobals "line_told" = some (some (.ref f31))) (l31 : K.lookup f31 = some ⟨oc31, od31, .func (PySem.W.fnOf "line_told" "line_told" (defArgs s_line_told) (defBody s_line_told) (defScope s_line_told) .none kV31 dc31 pm31 an31 cd31 ct31), sl31⟩) (c31 : PySem.W.codeIn K cd31 "line_told" = true) (k31 : PySem.W.keepIn K (.ref f31) = true)
    (a32 : PySem.W.nsIn K mainGlobals "trace_of_traces" = some (some (.ref f32))) (l32 : K.lookup f32 = some ⟨oc32, od32, .func (PySem.W.fnOf "trace_of" "trace_of" (defArgs s_trace_of_traces) (defBody s_trace_of_traces) (defScope s_trace_of_traces) .none kV32 dc32 pm32 an32 cd32 ct32), sl32⟩) (c32 : PySem.W.codeIn K cd32 "trace_of" = true) (k32 : PySem.W.keepIn K (.ref f32) = true)
    (a33 : PySem.W.nsIn K mainGlobals "trace_told" = some (some (.ref f33))) (l33 : K.lookup f33 = some ⟨oc33, od33, .func (PySem.W.fnOf "trace_told" "trace_told" (defArgs s_trace_told) (defBody s_trace_told) (defScope s_trace_told) .none kV33 dc33 pm33 an33 cd33 ct33), sl33⟩) (c33 : PySem.W.codeIn K cd33 "trace_told" = true) (k33 : PySem.W.keepIn K (.ref f33) = true)
    (a34 : PySem.W.nsIn K mainGlobals "table_undone" = some (some (.ref f34))) (l34 : K.lookup f34 = some ⟨oc34, od34, .func (PySem.W.fnOf "table_undone" "table_undone" (defArgs s_table_undone) (defBody s_table_undone) (defScope s_table_undone) .none kV34 dc34 pm34 an34 cd34 ct34), sl34⟩) (c34 : PySem.W.codeIn K cd34 "table_undone" = true) (k34 : PySem.W.keepIn K (.ref f34) = true)
    (a35 : PySem.W.nsIn K mainGlobals "letter_table" = some (some (.ref f35))) (l35 : K.lookup f35 = some ⟨oc35, od35, .func (PySem.W.fnOf "letter_table" "letter_table" (defArgs s_letter_table) (defBody s_letter_table) (defScope s_letter_table) .none kV35 dc35 pm35 an35 cd35 ct35), sl35⟩) (c35 : PySem.W.codeIn K cd35 "letter_table" = true) (k35 : PySem.W.keepIn K (.ref f35) = true)
    (a36 : PySem.W.nsIn K mainGlobals "not_long" = some (some (.ref f36))) (l36 : K.lookup f36 = some ⟨oc36, od36, .func (PySem.W.fnOf "not_long" "not_long" (defArgs s_not_long) (defBody s_not_long) (defScope s_not_long) .none kV36 dc36 pm36 an36 cd36 ct36), sl36⟩) (c36 : PySem.W.codeIn K cd36 "not_long" = true) (k36 : PySem.W.keepIn K (.ref f36) = true)
    (a37 : PySem.W.nsIn K mainGlobals "word_table" = some (some (.ref f37))) (l37 : K.lookup f37 = some ⟨oc37, od37, .func (PySem.W.fnOf "word_table" "word_table" (defArgs s_word_table) (defBody s_word_table) (defScope s_word_table) .none kV37 dc37 pm37 an37 cd37 ct37), sl37⟩) (c37 : PySem.W.codeIn K cd37 "word_table" = true) (k37 : PySem.W.keepIn K (.ref f37) = true)
    (a38 : PySem.W.nsIn K mainGlobals "law" = some (some (.ref f38))) (l38 : K.lookup f38 = some ⟨oc38, od38, .func (PySem.W.fnOf "law" "law" (defArgs s_law) (defBody s_law) (defScope s_law) .none kV38 dc38 pm38 an38 cd38 ct38), sl38⟩) (c38 : PySem.W.codeIn K cd38 "law" = true) (k38 : PySem.W.keepIn K (.ref f38) = true)
    (z_abs : PySem.W.nsIn K mainGlobals "abs" = some none)
    (z_enumerate : PySem.W.nsIn K mainGlobals "enumerate" = some none)
    (z_int : PySem.W.nsIn K mainGlobals "int" = some none)
    (z_isinstance : PySem.W.nsIn K mainGlobals "isinstance" = some none)
    (z_len : PySem.W.nsIn K mainGlobals "len" = some none)
    (z_list : PySem.W.nsIn K mainGlobals "list" = some none)
    (z_max : PySem.W.nsIn K mainGlobals "max" = some none)
    (z_range : PySem.W.nsIn K mainGlobals "range" = some none)
    (z_repr : PySem.W.nsIn K mainGlobals "repr" = some none)
    (z_sorted : PySem.W.nsIn K mainGlobals "sorted" = some none)
    (z_str : PySem.W.nsIn K mainGlobals "str" = some none)
    (z_sum : PySem.W.nsIn K mainGlobals "sum" = some none)
    (z_tuple : PySem.W.nsIn K mainGlobals "tuple" = some none)
    (z_zip : PySem.W.nsIn K mainGlobals "zip" = some none)
    (z_gcd : PySem.W.nsIn K mainGlobals "gcd" = some (some (.builtin "math.gcd")))
    {ct1 ct5 ct9 ct13 ct21 ct25 ct29 ct33 ct37 ct45 ct54 ct58 ct62 ct70 ct74 ct82 ct86 ct90 ct98 ct102 ct106 ct116 ct120 ct128 ct132 ct136 ct144 ct148 ct152 ct160 ct164 ct168 ct176 ct180 ct184 ct192 ct196 ct200 : Addr} {co2 co6 co10 co14 co22 co26 co30 co34 co38 co46 co55 co59 co63 co71 co75 co83 co87 co91 co99 co103 co107 co117 co121 co129 co133 co137 co145 co149 co153 co161 co165 co169 co177 co181 co185 co193 co197 co201 : Option Addr} {cn3 cn7 cn11 cn15 cn23 cn27 cn31 cn35 cn39 cn47 cn56 cn60 cn64 cn72 cn76 cn84 cn88 cn92 cn100 cn104 cn108 cn118 cn122 cn130 cn134 cn138 cn146 cn150 cn154 cn162 cn166 cn170 cn178 cn182 cn186 cn194 cn198 cn202 : Nat} {cs4 cs8 cs12 cs16 cs24 cs28 cs32 cs36 cs40 cs48 cs57 cs61 cs65 cs73 cs77 cs85 cs89 cs93 cs101 cs105 cs109 cs119 cs123 cs131 cs135 cs139 cs147 cs151 cs155 cs163 cs167 cs171 cs179 cs183 cs187 cs195 cs199 cs203 : Array (Option Value)} {cu17 cu18 cu19 cu20 cu41 cu42 cu43 cu44 cu49 cu50 cu51 cu52 cu53 cu66 cu67 cu68 cu69 cu78 cu79 cu80 cu81 cu94 cu95 cu96 cu97 cu110 cu111 cu112 cu113 cu114 cu115 cu124 cu125 cu126 cu127 cu140 cu141 cu142 cu143 cu156 cu157 cu158 cu159 cu172 cu173 cu174 cu175 cu188 cu189 cu190 cu191 cu204 cu205 cu206 cu207 : _}
    (cl_ct13 : K.lookup ct13 = some ⟨.type "tuple", co14, .seq #[.int 0 cu17, .int 0 cu18, .int 0 cu19] cn15, cs16⟩)
    (cl_ct9 : K.lookup ct9 = some ⟨.type "tuple", co10, .seq #[.ref ct13, .int 1 cu20] cn11, cs12⟩)
    (cl_ct5 : K.lookup ct5 = some ⟨.type "tuple", co6, .seq #[.ref ct9] cn7, cs8⟩)
    (cl_ct21 : K.lookup ct21 = some ⟨.type "tuple", co22, .seq #[] cn23, cs24⟩)
    (cl_ct25 : K.lookup ct25 = some ⟨.type "tuple", co26, .seq #[] cn27, cs28⟩)
    (cl_ct29 : K.lookup ct29 = some ⟨.type "tuple", co30, .seq #[] cn31, cs32⟩)
    (cl_ct1 : K.lookup ct1 = some ⟨.type "tuple", co2, .seq #[.ref ct5, .ref ct21, .ref ct25, .ref ct29] cn3, cs4⟩)
    (kc_BEGUN : PySem.W.nsIn K mainGlobals "BEGUN" = some (some (.ref ct1)))
    (cl_ct37 : K.lookup ct37 = some ⟨.type "tuple", co38, .seq #[.int 1 cu41, .int 0 cu42, .int 0 cu43, .int 1 cu44] cn39, cs40⟩)
    (cl_ct45 : K.lookup ct45 = some ⟨.type "tuple", co46, .seq #[.int (-1) cu49, .int 0 cu50, .int 0 cu51, .int (-1) cu52] cn47, cs48⟩)
    (cl_ct33 : K.lookup ct33 = some ⟨.type "tuple", co34, .seq #[.ref ct37, .ref ct45] cn35, cs36⟩)
    (kc_EACH_ONE : PySem.W.nsIn K mainGlobals "EACH_ONE" = some (some (.ref ct33)))
    (kc_HAS_LINE : PySem.W.nsIn K mainGlobals "HAS_LINE" = some (some (.int 2 cu53)))
    (cl_ct62 : K.lookup ct62 = some ⟨.type "tuple", co63, .seq #[.int 0 cu66, .int 0 cu67, .int 1 cu68] cn64, cs65⟩)
    (cl_ct58 : K.lookup ct58 = some ⟨.type "tuple", co59, .seq #[.ref ct62, .int 1 cu69] cn60, cs61⟩)
    (cl_ct74 : K.lookup ct74 = some ⟨.type "tuple", co75, .seq #[.int 1 cu78, .int 1 cu79, .int 0 cu80] cn76, cs77⟩)
    (cl_ct70 : K.lookup ct70 = some ⟨.type "tuple", co71, .seq #[.ref ct74, .int (-1) cu81] cn72, cs73⟩)
    (cl_ct54 : K.lookup ct54 = some ⟨.type "tuple", co55, .seq #[.ref ct58, .ref ct70] cn56, cs57⟩)
    (kc_LEFT_OVER : PySem.W.nsIn K mainGlobals "LEFT_OVER" = some (some (.ref ct54)))
    (cl_ct90 : K.lookup ct90 = some ⟨.type "tuple", co91, .seq #[.int 0 cu94, .int 0 cu95, .int 0 cu96] cn92, cs93⟩)
    (cl_ct86 : K.lookup ct86 = some ⟨.type "tuple", co87, .seq #[.ref ct90, .int (-1) cu97] cn88, cs89⟩)
    (cl_ct82 : K.lookup ct82 = some ⟨.type "tuple", co83, .seq #[.ref ct86] cn84, cs85⟩)
    (kc_LESS_ONE : PySem.W.nsIn K mainGlobals "LESS_ONE" = some (some (.ref ct82)))
    (cl_ct106 : K.lookup ct106 = some ⟨.type "tuple", co107, .seq #[.int 0 cu110, .int 1 cu111, .int 0 cu112] cn108, cs109⟩)
    (cl_ct102 : K.lookup ct102 = some ⟨.type "tuple", co103, .seq #[.ref ct106, .int (-1) cu113] cn104, cs105⟩)
    (cl_ct98 : K.lookup ct98 = some ⟨.type "tuple", co99, .seq #[.ref ct102] cn100, cs101⟩)
    (kc_LESS_Y : PySem.W.nsIn K mainGlobals "LESS_Y" = some (some (.ref ct98)))
    (kc_MOST_FIGURES : PySem.W.nsIn K mainGlobals "MOST_FIGURES" = some (some (.int 300 cu114)))
    (kc_MOST_TERMS : PySem.W.nsIn K mainGlobals "MOST_TERMS" = some (some (.int 4000 cu115)))
    (cl_ct116 : K.lookup ct116 = some ⟨.type "tuple", co117, .seq #[] cn118, cs119⟩)
    (kc_NOTHING : PySem.W.nsIn K mainGlobals "NOTHING" = some (some (.ref ct116)))
    (cl_ct120 : K.lookup ct120 = some ⟨.type "tuple", co121, .seq #[.int 1 cu124, .int 0 cu125, .int 0 cu126, .int 1 cu127] cn122, cs123⟩)
    (kc_ONE_pairtables : PySem.W.nsIn K mainGlobals "ONE_pairtables" = some (some (.ref ct120)))
    (cl_ct136 : K.lookup ct136 = some ⟨.type "tuple", co137, .seq #[.int 0 cu140, .int 0 cu141, .int 0 cu142] cn138, cs139⟩)
    (cl_ct132 : K.lookup ct132 = some ⟨.type "tuple", co133, .seq #[.ref ct136, .int 1 cu143] cn134, cs135⟩)
    (cl_ct128 : K.lookup ct128 = some ⟨.type "tuple", co129, .seq #[.ref ct132] cn130, cs131⟩)
    (kc_ONE_polysums : PySem.W.nsIn K mainGlobals "ONE_polysums" = some (some (.ref ct128)))
    (cl_ct152 : K.lookup ct152 = some ⟨.type "tuple", co153, .seq #[.int 0 cu156, .int 0 cu157, .int 0 cu158] cn154, cs155⟩)
    (cl_ct148 : K.lookup ct148 = some ⟨.type "tuple", co149, .seq #[.ref ct152, .int 2 cu159] cn150, cs151⟩)
    (cl_ct144 : K.lookup ct144 = some ⟨.type "tuple", co145, .seq #[.ref ct148] cn146, cs147⟩)
    (kc_TWO : PySem.W.nsIn K mainGlobals "TWO" = some (some (.ref ct144)))
    (cl_ct168 : K.lookup ct168 = some ⟨.type "tuple", co169, .seq #[.int 1 cu172, .int 0 cu173, .int 0 cu174] cn170, cs171⟩)
    (cl_ct164 : K.lookup ct164 = some ⟨.type "tuple", co165, .seq #[.ref ct168, .int 1 cu175] cn166, cs167⟩)
    (cl_ct160 : K.lookup ct160 = some ⟨.type "tuple", co161, .seq #[.ref ct164] cn162, cs163⟩)
    (kc_X : PySem.W.nsIn K mainGlobals "X" = some (some (.ref ct160)))
    (cl_ct184 : K.lookup ct184 = some ⟨.type "tuple", co185, .seq #[.int 0 cu188, .int 1 cu189, .int 0 cu190] cn186, cs187⟩)
    (cl_ct180 : K.lookup ct180 = some ⟨.type "tuple", co181, .seq #[.ref ct184, .int 1 cu191] cn182, cs183⟩)
    (cl_ct176 : K.lookup ct176 = some ⟨.type "tuple", co177, .seq #[.ref ct180] cn178, cs179⟩)
    (kc_Y : PySem.W.nsIn K mainGlobals "Y" = some (some (.ref ct176)))
    (cl_ct200 : K.lookup ct200 = some ⟨.type "tuple", co201, .seq #[.int 0 cu204, .int 0 cu205, .int 1 cu206] cn202, cs203⟩)
    (cl_ct196 : K.lookup ct196 = some ⟨.type "tuple", co197, .seq #[.ref ct200, .int 1 cu207] cn198, cs199⟩)
    (cl_ct192 : K.lookup ct192 = some ⟨.type "tuple", co193, .seq #[.ref ct196] cn194, cs195⟩)
    (kc_Z : PySem.W.nsIn K mainGlobals "Z" = some (some (.ref ct192)))
    : ∃ fd : FuncData, (∀ (s : Shared) (v : Value), BindsTo s fd ⟨[v], []⟩ [("script", v)]) ∧ ∀ base : Heap, K.In base → base.Ns mainGlobals mg → FnG l.prog w K mg base CX0 7 fa fd ["script"] (spOf K 1 lawFn) := by
  have e := hfa.symm.trans (PySem.W.mg_of X G a38)
  cases e
  have F0 := fun_mk (st := s__law_determinant) l0 c0 k0
  have D__law_determinant : DefAt K mg "_law_determinant" s__law_determinant ["rows"] := defAt_mk X G a0 F0 (F0.binds (ps := ["rows"]) fun _ _ _ _ _ _ us hl => match us, hl with | [_], _ => rfl)
  have F1 := fun_mk (st := s__law_keeps) l1 c1 k1
  have D__law_keeps : DefAt K mg "_law_keeps" s__law_keeps ["table", "column"] := defAt_mk X G a1 F1 (F1.binds (ps := ["table", "column"]) fun _ _ _ _ _ _ us hl => match us, hl with | [_, _], _ => rfl)
  have F2 := fun_mk (st := s__law_part) l2 c2 k2
  have D__law_part : DefAt K mg "_law_part" s__law_part ["a", "b"] := defAt_mk X G a2 F2 (F2.binds (ps := ["a", "b"]) fun _ _ _ _ _ _ us hl => match us, hl with | [_, _], _ => rfl)
  have F3 := fun_mk (st := s__law_times) l3 c3 k3
  have D__law_times : DefAt K mg "_law_times" s__law_times ["one", "other"] := defAt_mk X G a3 F3 (F3.binds (ps := ["one", "other"]) fun _ _ _ _ _ _ us hl => match us, hl with | [_, _], _ => rfl)
  have F4 := fun_mk (st := s__law_line_right) l4 c4 k4
  have D__law_line_right : DefAt K mg "_law_line_right" s__law_line_right ["pair", "told", "k"] := defAt_mk X G a4 F4 (F4.binds (ps := ["pair", "told", "k"]) fun _ _ _ _ _ _ us hl => match us, hl with | [_, _, _], _ => rfl)
  have F5 := fun_mk (st := s__law_pick) l5 c5 k5
  have D__law_pick : DefAt K mg "_law_pick" s__law_pick ["source", "many"] := defAt_mk X G a5 F5 (F5.binds (ps := ["source", "many"]) fun _ _ _ _ _ _ us hl => match us, hl with | [_, _], _ => rfl)
  have F6 := fun_mk (st := s__law_of) l6 c6 k6
  have D__law_of : DefAt K mg "_law_of" s__law_of ["source", "some"] := defAt_mk X G a6 F6 (F6.binds (ps := ["source", "some"]) fun _ _ _ _ _ _ us hl => match us, hl with | [_, _], _ => rfl)
  have F7 := fun_mk (st := s__law_shears) l7 c7 k7
  have D__law_shears : DefAt K mg "_law_shears" s__law_shears ["source", "most"] := defAt_mk X G a7 F7 (F7.binds (ps := ["source", "most"]) fun _ _ _ _ _ _ us hl => match us, hl with | [_, _], _ => rfl)
  have F8 := fun_mk (st := s__law_table_undone) l8 c8 k8
  have D__law_table_undone : DefAt K mg "_law_table_undone" s__law_table_undone ["one"] := defAt_mk X G a8 F8 (F8.binds (ps := ["one"]) fun _ _ _ _ _ _ us hl => match us, hl with | [_], _ => rfl)
  have F9 := fun_mk (st := s__law_pair) l9 c9 k9
  have D__law_pair : DefAt K mg "_law_pair" s__law_pair ["source"] := defAt_mk X G a9 F9 (F9.binds (ps := ["source"]) fun _ _ _ _ _ _ us hl => match us, hl with | [_], _ => rfl)
  have F10 := fun_mk (st := s__law_source) l10 c10 k10
  have D__law_source : DefAt K mg "_law_source" s__law_source ["script"] := defAt_mk X G a10 F10 (F10.binds (ps := ["script"]) fun _ _ _ _ _ _ us hl => match us, hl with | [_], _ => rfl)
  have F11 := fun_mk (st := s__law_table_of) l11 c11 k11
  have D__law_table_of : DefAt K mg "_law_table_of" s__law_table_of ["pair", "word"] := defAt_mk X G a11 F11 (F11.binds (ps := ["pair", "word"]) fun _ _ _ _ _ _ us hl => match us, hl with | [_, _], _ => rfl)
  have F12 := fun_mk (st := s__law_triple) l12 c12 k12
  have D__law_triple : DefAt K mg "_law_triple" s__law_triple ["pair"] := defAt_mk X G a12 F12 (F12.binds (ps := ["pair"]) fun _ _ _ _ _ _ us hl => match us, hl with | [_], _ => rfl)
  have F13 := fun_mk (st := s_four_by_one) l13 c13 k13
  have D_four_by_one : DefAt K mg "four_by_one" s_four_by_one ["four"] := defAt_mk X G a13 F13 (F13.binds (ps := ["four"]) fun _ _ _ _ _ _ us hl => match us, hl with | [_], _ => rfl)
  have F14 := fun_mk (st := s_four_by_other) l14 c14 k14
  have D_four_by_other : DefAt K mg "four_by_other" s_four_by_other ["four"] := defAt_mk X G a14 F14 (F14.binds (ps := ["four"]) fun _ _ _ _ _ _ us hl => match us, hl with | [_], _ => rfl)
  have F15 := fun_mk (st := s_poly_taken) l15 c15 k15
  have D_poly_taken : DefAt K mg "poly_taken" s_poly_taken ["one", "number"] := defAt_mk X G a15 F15 (F15.binds (ps := ["one", "number"]) fun _ _ _ _ _ _ us hl => match us, hl with | [_, _], _ => rfl)
  have F16 := fun_mk (st := s_less_all) l16 c16 k16
  have D_less_all : DefAt K mg "less_all" s_less_all ["pairs"] := defAt_mk X G a16 F16 (F16.binds (ps := ["pairs"]) fun _ _ _ _ _ _ us hl => match us, hl with | [_], _ => rfl)
  have F17 := fun_mk (st := s_poly_told) l17 c17 k17
  have D_poly_told : DefAt K mg "poly_told" s_poly_told ["terms"] := defAt_mk X G a17 F17 (F17.binds (ps := ["terms"]) fun _ _ _ _ _ _ us hl => match us, hl with | [_], _ => rfl)
  have F18 := fun_mk (st := s_sum_of_products) l18 c18 k18
  have D_sum_of_products : DefAt K mg "sum_of_products" s_sum_of_products ["pairs"] := defAt_mk X G a18 F18 (F18.binds (ps := ["pairs"]) fun _ _ _ _ _ _ us hl => match us, hl with | [_], _ => rfl)
  have F19 := fun_mk (st := s_four_letter) l19 c19 k19
  have D_four_letter : DefAt K mg "four_letter" s_four_letter ["four", "letter"] := defAt_mk X G a19 F19 (F19.binds (ps := ["four", "letter"]) fun _ _ _ _ _ _ us hl => match us, hl with | [_, _], _ => rfl)
  have F20 := fun_mk (st := s_four_told) l20 c20 k20
  have D_four_told : DefAt K mg "four_told" s_four_told ["word"] := defAt_mk X G a20 F20 (F20.binds (ps := ["word"]) fun _ _ _ _ _ _ us hl => match us, hl with | [_], _ => rfl)
  have F21 := fun_mk (st := s_number_powers) l21 c21 k21
  have D_number_powers : DefAt K mg "number_powers" s_number_powers ["number", "most"] := defAt_mk X G a21 F21 (F21.binds (ps := ["number", "most"]) fun _ _ _ _ _ _ us hl => match us, hl with | [_, _], _ => rfl)
  have F22 := fun_mk (st := s_poly_degrees) l22 c22 k22
  have D_poly_degrees : DefAt K mg "poly_degrees" s_poly_degrees ["one"] := defAt_mk X G a22 F22 (F22.binds (ps := ["one"]) fun _ _ _ _ _ _ us hl => match us, hl with | [_], _ => rfl)
  have F23 := fun_mk (st := s_poly_value) l23 c23 k23
  have D_poly_value : DefAt K mg "poly_value" s_poly_value ["one", "triple"] := defAt_mk X G a23 F23 (F23.binds (ps := ["one", "triple"]) fun _ _ _ _ _ _ us hl => match us, hl with | [_, _], _ => rfl)
  have F24 := fun_mk (st := s_four_value) l24 c24 k24
  have D_four_value : DefAt K mg "four_value" s_four_value ["four", "triple"] := defAt_mk X G a24 F24 (F24.binds (ps := ["four", "triple"]) fun _ _ _ _ _ _ us hl => match us, hl with | [_, _], _ => rfl)
  have F25 := fun_mk (st := s_k_of) l25 c25 k25
  have D_k_of : DefAt K mg "k_of" s_k_of ["triple"] := defAt_mk X G a25 F25 (F25.binds (ps := ["triple"]) fun _ _ _ _ _ _ us hl => match us, hl with | [_], _ => rfl)
  have F26 := fun_mk (st := s_least_row) l26 c26 k26
  have D_least_row : DefAt K mg "least_row" s_least_row ["row"] := defAt_mk X G a26 F26 (F26.binds (ps := ["row"]) fun _ _ _ _ _ _ us hl => match us, hl with | [_], _ => rfl)
  have F27 := fun_mk (st := s_kept_column) l27 c27 k27
  have D_kept_column : DefAt K mg "kept_column" s_kept_column ["table"] := defAt_mk X G a27 F27 (F27.binds (ps := ["table"]) fun _ _ _ _ _ _ us hl => match us, hl with | [_], _ => rfl)
  have F28 := fun_mk (st := s_trace_of_pairtables) l28 c28 k28
  have D_trace_of_pairtables : DefAt2 K mg "trace_of_pairtables" "trace_of" s_trace_of_pairtables ["one"] := defAt2_mk X G a28 F28 (F28.binds (ps := ["one"]) fun _ _ _ _ _ _ us hl => match us, hl with | [_], _ => rfl)
  have F29 := fun_mk (st := s_table_times) l29 c29 k29
  have D_table_times : DefAt K mg "table_times" s_table_times ["one", "other"] := defAt_mk X G a29 F29 (F29.binds (ps := ["one", "other"]) fun _ _ _ _ _ _ us hl => match us, hl with | [_, _], _ => rfl)
  have F30 := fun_mk (st := s_traced) l30 c30 k30
  have D_traced : DefAt K mg "traced" s_traced ["pair"] := defAt_mk X G a30 F30 (F30.binds (ps := ["pair"]) fun _ _ _ _ _ _ us hl => match us, hl with | [_], _ => rfl)
  have F31 := fun_mk (st := s_line_told) l31 c31 k31
  have D_line_told : DefAt K mg "line_told" s_line_told ["pair"] := defAt_mk X G a31 F31 (F31.binds (ps := ["pair"]) fun _ _ _ _ _ _ us hl => match us, hl with | [_], _ => rfl)
  have F32 := fun_mk (st := s_trace_of_traces) l32 c32 k32
  have D_trace_of_traces : DefAt2 K mg "trace_of_traces" "trace_of" s_trace_of_traces ["four"] := defAt2_mk X G a32 F32 (F32.binds (ps := ["four"]) fun _ _ _ _ _ _ us hl => match us, hl with | [_], _ => rfl)
  have F33 := fun_mk (st := s_trace_told) l33 c33 k33
  have D_trace_told : DefAt K mg "trace_told" s_trace_told ["word"] := defAt_mk X G a33 F33 (F33.binds (ps := ["word"]) fun _ _ _ _ _ _ us hl => match us, hl with | [_], _ => rfl)
  have F34 := fun_mk (st := s_table_undone) l34 c34 k34
  have D_table_undone : DefAt K mg "table_undone" s_table_undone ["one"] := defAt_mk X G a34 F34 (F34.binds (ps := ["one"]) fun _ _ _ _ _ _ us hl => match us, hl with | [_], _ => rfl)
  have F35 := fun_mk (st := s_letter_table) l35 c35 k35
  have D_letter_table : DefAt K mg "letter_table" s_letter_table ["pair", "letter"] := defAt_mk X G a35 F35 (F35.binds (ps := ["pair", "letter"]) fun _ _ _ _ _ _ us hl => match us, hl with | [_, _], _ => rfl)
  have F36 := fun_mk (st := s_not_long) l36 c36 k36
  have D_not_long : DefAt K mg "not_long" s_not_long ["table"] := defAt_mk X G a36 F36 (F36.binds (ps := ["table"]) fun _ _ _ _ _ _ us hl => match us, hl with | [_], _ => rfl)
  have F37 := fun_mk (st := s_word_table) l37 c37 k37
  have D_word_table : DefAt K mg "word_table" s_word_table ["pair", "word"] := defAt_mk X G a37 F37 (F37.binds (ps := ["pair", "word"]) fun _ _ _ _ _ _ us hl => match us, hl with | [_, _], _ => rfl)
  have T : Txt w K mg := ⟨PySem.W.mg_none_of X G z_abs, PySem.W.mg_none_of X G z_enumerate, PySem.W.mg_none_of X G z_int, PySem.W.mg_none_of X G z_isinstance, PySem.W.mg_none_of X G z_len, PySem.W.mg_none_of X G z_list, PySem.W.mg_none_of X G z_max, PySem.W.mg_none_of X G z_range, PySem.W.mg_none_of X G z_repr, PySem.W.mg_none_of X G z_sorted, PySem.W.mg_none_of X G z_str, PySem.W.mg_none_of X G z_sum, PySem.W.mg_none_of X G z_tuple, PySem.W.mg_none_of X G z_zip, ⟨.ref ct1, _, PySem.W.mg_of X G kc_BEGUN, rfl, fun _ => (.tup (xs := [.ref ct5, .ref ct21, .ref ct25, .ref ct29]) (.inr ⟨_, _, _, cl_ct1, rfl, rfl, by rw [sizeLine_eq]; simp, (.cons rfl (.cons rfl (.cons rfl (.cons rfl .nil))))⟩) (.cons (.tup (xs := [.ref ct9]) (.inr ⟨_, _, _, cl_ct5, rfl, rfl, by rw [sizeLine_eq]; simp, (.cons rfl .nil)⟩) (.cons (.tup (xs := [.ref ct13, .int 1]) (.inr ⟨_, _, _, cl_ct9, rfl, rfl, by rw [sizeLine_eq]; simp, (.cons rfl (.cons ⟨_, rfl⟩ .nil))⟩) (.cons (.tup (xs := [.int 0, .int 0, .int 0]) (.inr ⟨_, _, _, cl_ct13, rfl, rfl, by rw [sizeLine_eq]; simp, (.cons ⟨_, rfl⟩ (.cons ⟨_, rfl⟩ (.cons ⟨_, rfl⟩ .nil)))⟩) (.cons (.int _) (.cons (.int _) (.cons (.int _) .nil)))) (.cons (.int _) .nil))) .nil)) (.cons (.tup (xs := []) (.inr ⟨_, _, _, cl_ct21, rfl, rfl, by rw [sizeLine_eq]; simp, .nil⟩) .nil) (.cons (.tup (xs := []) (.inr ⟨_, _, _, cl_ct25, rfl, rfl, by rw [sizeLine_eq]; simp, .nil⟩) .nil) (.cons (.tup (xs := []) (.inr ⟨_, _, _, cl_ct29, rfl, rfl, by rw [sizeLine_eq]; simp, .nil⟩) .nil) .nil)))))⟩, ⟨.ref ct33, _, PySem.W.mg_of X G kc_EACH_ONE, rfl, fun _ => (.tup (xs := [.ref ct37, .ref ct45]) (.inr ⟨_, _, _, cl_ct33, rfl, rfl, by rw [sizeLine_eq]; simp, (.cons rfl (.cons rfl .nil))⟩) (.cons (.tup (xs := [.int 1, .int 0, .int 0, .int 1]) (.inr ⟨_, _, _, cl_ct37, rfl, rfl, by rw [sizeLine_eq]; simp, (.cons ⟨_, rfl⟩ (.cons ⟨_, rfl⟩ (.cons ⟨_, rfl⟩ (.cons ⟨_, rfl⟩ .nil))))⟩) (.cons (.int _) (.cons (.int _) (.cons (.int _) (.cons (.int _) .nil))))) (.cons (.tup (xs := [.int (-1), .int 0, .int 0, .int (-1)]) (.inr ⟨_, _, _, cl_ct45, rfl, rfl, by rw [sizeLine_eq]; simp, (.cons ⟨_, rfl⟩ (.cons ⟨_, rfl⟩ (.cons ⟨_, rfl⟩ (.cons ⟨_, rfl⟩ .nil))))⟩) (.cons (.int _) (.cons (.int _) (.cons (.int _) (.cons (.int _) .nil))))) .nil)))⟩, ⟨.int 2, _, PySem.W.mg_of X G kc_HAS_LINE, ⟨_, rfl⟩, fun _ => (.int _)⟩, ⟨.ref ct54, _, PySem.W.mg_of X G kc_LEFT_OVER, rfl, fun _ => (.tup (xs := [.ref ct58, .ref ct70]) (.inr ⟨_, _, _, cl_ct54, rfl, rfl, by rw [sizeLine_eq]; simp, (.cons rfl (.cons rfl .nil))⟩) (.cons (.tup (xs := [.ref ct62, .int 1]) (.inr ⟨_, _, _, cl_ct58, rfl, rfl, by rw [sizeLine_eq]; simp, (.cons rfl (.cons ⟨_, rfl⟩ .nil))⟩) (.cons (.tup (xs := [.int 0, .int 0, .int 1]) (.inr ⟨_, _, _, cl_ct62, rfl, rfl, by rw [sizeLine_eq]; simp, (.cons ⟨_, rfl⟩ (.cons ⟨_, rfl⟩ (.cons ⟨_, rfl⟩ .nil)))⟩) (.cons (.int _) (.cons (.int _) (.cons (.int _) .nil)))) (.cons (.int _) .nil))) (.cons (.tup (xs := [.ref ct74, .int (-1)]) (.inr ⟨_, _, _, cl_ct70, rfl, rfl, by rw [sizeLine_eq]; simp, (.cons rfl (.cons ⟨_, rfl⟩ .nil))⟩) (.cons (.tup (xs := [.int 1, .int 1, .int 0]) (.inr ⟨_, _, _, cl_ct74, rfl, rfl, by rw [sizeLine_eq]; simp, (.cons ⟨_, rfl⟩ (.cons ⟨_, rfl⟩ (.cons ⟨_, rfl⟩ .nil)))⟩) (.cons (.int _) (.cons (.int _) (.cons (.int _) .nil)))) (.cons (.int _) .nil))) .nil)))⟩, ⟨.ref ct82, _, PySem.W.mg_of X G kc_LESS_ONE, rfl, fun _ => (.tup (xs := [.ref ct86]) (.inr ⟨_, _, _, cl_ct82, rfl, rfl, by rw [sizeLine_eq]; simp, (.cons rfl .nil)⟩) (.cons (.tup (xs := [.ref ct90, .int (-1)]) (.inr ⟨_, _, _, cl_ct86, rfl, rfl, by rw [sizeLine_eq]; simp, (.cons rfl (.cons ⟨_, rfl⟩ .nil))⟩) (.cons (.tup (xs := [.int 0, .int 0, .int 0]) (.inr ⟨_, _, _, cl_ct90, rfl, rfl, by rw [sizeLine_eq]; simp, (.cons ⟨_, rfl⟩ (.cons ⟨_, rfl⟩ (.cons ⟨_, rfl⟩ .nil)))⟩) (.cons (.int _) (.cons (.int _) (.cons (.int _) .nil)))) (.cons (.int _) .nil))) .nil))⟩, ⟨.ref ct98, _, PySem.W.mg_of X G kc_LESS_Y, rfl, fun _ => (.tup (xs := [.ref ct102]) (.inr ⟨_, _, _, cl_ct98, rfl, rfl, by rw [sizeLine_eq]; simp, (.cons rfl .nil)⟩) (.cons (.tup (xs := [.ref ct106, .int (-1)]) (.inr ⟨_, _, _, cl_ct102, rfl, rfl, by rw [sizeLine_eq]; simp, (.cons rfl (.cons ⟨_, rfl⟩ .nil))⟩) (.cons (.tup (xs := [.int 0, .int 1, .int 0]) (.inr ⟨_, _, _, cl_ct106, rfl, rfl, by rw [sizeLine_eq]; simp, (.cons ⟨_, rfl⟩ (.cons ⟨_, rfl⟩ (.cons ⟨_, rfl⟩ .nil)))⟩) (.cons (.int _) (.cons (.int _) (.cons (.int _) .nil)))) (.cons (.int _) .nil))) .nil))⟩, ⟨.int 300, _, PySem.W.mg_of X G kc_MOST_FIGURES, ⟨_, rfl⟩, fun _ => (.int _)⟩, ⟨.int 4000, _, PySem.W.mg_of X G kc_MOST_TERMS, ⟨_, rfl⟩, fun _ => (.int _)⟩, ⟨.ref ct116, _, PySem.W.mg_of X G kc_NOTHING, rfl, fun _ => (.tup (xs := []) (.inr ⟨_, _, _, cl_ct116, rfl, rfl, by rw [sizeLine_eq]; simp, .nil⟩) .nil)⟩, ⟨.ref ct120, _, PySem.W.mg_of X G kc_ONE_pairtables, rfl, fun _ => (.tup (xs := [.int 1, .int 0, .int 0, .int 1]) (.inr ⟨_, _, _, cl_ct120, rfl, rfl, by rw [sizeLine_eq]; simp, (.cons ⟨_, rfl⟩ (.cons ⟨_, rfl⟩ (.cons ⟨_, rfl⟩ (.cons ⟨_, rfl⟩ .nil))))⟩) (.cons (.int _) (.cons (.int _) (.cons (.int _) (.cons (.int _) .nil)))))⟩, ⟨.ref ct128, _, PySem.W.mg_of X G kc_ONE_polysums, rfl, fun _ => (.tup (xs := [.ref ct132]) (.inr ⟨_, _, _, cl_ct128, rfl, rfl, by rw [sizeLine_eq]; simp, (.cons rfl .nil)⟩) (.cons (.tup (xs := [.ref ct136, .int 1]) (.inr ⟨_, _, _, cl_ct132, rfl, rfl, by rw [sizeLine_eq]; simp, (.cons rfl (.cons ⟨_, rfl⟩ .nil))⟩) (.cons (.tup (xs := [.int 0, .int 0, .int 0]) (.inr ⟨_, _, _, cl_ct136, rfl, rfl, by rw [sizeLine_eq]; simp, (.cons ⟨_, rfl⟩ (.cons ⟨_, rfl⟩ (.cons ⟨_, rfl⟩ .nil)))⟩) (.cons (.int _) (.cons (.int _) (.cons (.int _) .nil)))) (.cons (.int _) .nil))) .nil))⟩, ⟨.ref ct144, _, PySem.W.mg_of X G kc_TWO, rfl, fun _ => (.tup (xs := [.ref ct148]) (.inr ⟨_, _, _, cl_ct144, rfl, rfl, by rw [sizeLine_eq]; simp, (.cons rfl .nil)⟩) (.cons (.tup (xs := [.ref ct152, .int 2]) (.inr ⟨_, _, _, cl_ct148, rfl, rfl, by rw [sizeLine_eq]; simp, (.cons rfl (.cons ⟨_, rfl⟩ .nil))⟩) (.cons (.tup (xs := [.int 0, .int 0, .int 0]) (.inr ⟨_, _, _, cl_ct152, rfl, rfl, by rw [sizeLine_eq]; simp, (.cons ⟨_, rfl⟩ (.cons ⟨_, rfl⟩ (.cons ⟨_, rfl⟩ .nil)))⟩) (.cons (.int _) (.cons (.int _) (.cons (.int _) .nil)))) (.cons (.int _) .nil))) .nil))⟩, ⟨.ref ct160, _, PySem.W.mg_of X G kc_X, rfl, fun _ => (.tup (xs := [.ref ct164]) (.inr ⟨_, _, _, cl_ct160, rfl, rfl, by rw [sizeLine_eq]; simp, (.cons rfl .nil)⟩) (.cons (.tup (xs := [.ref ct168, .int 1]) (.inr ⟨_, _, _, cl_ct164, rfl, rfl, by rw [sizeLine_eq]; simp, (.cons rfl (.cons ⟨_, rfl⟩ .nil))⟩) (.cons (.tup (xs := [.int 1, .int 0, .int 0]) (.inr ⟨_, _, _, cl_ct168, rfl, rfl, by rw [sizeLine_eq]; simp, (.cons ⟨_, rfl⟩ (.cons ⟨_, rfl⟩ (.cons ⟨_, rfl⟩ .nil)))⟩) (.cons (.int _) (.cons (.int _) (.cons (.int _) .nil)))) (.cons (.int _) .nil))) .nil))⟩, ⟨.ref ct176, _, PySem.W.mg_of X G kc_Y, rfl, fun _ => (.tup (xs := [.ref ct180]) (.inr ⟨_, _, _, cl_ct176, rfl, rfl, by rw [sizeLine_eq]; simp, (.cons rfl .nil)⟩) (.cons (.tup (xs := [.ref ct184, .int 1]) (.inr ⟨_, _, _, cl_ct180, rfl, rfl, by rw [sizeLine_eq]; simp, (.cons rfl (.cons ⟨_, rfl⟩ .nil))⟩) (.cons (.tup (xs := [.int 0, .int 1, .int 0]) (.inr ⟨_, _, _, cl_ct184, rfl, rfl, by rw [sizeLine_eq]; simp, (.cons ⟨_, rfl⟩ (.cons ⟨_, rfl⟩ (.cons ⟨_, rfl⟩ .nil)))⟩) (.cons (.int _) (.cons (.int _) (.cons (.int _) .nil)))) (.cons (.int _) .nil))) .nil))⟩, ⟨.ref ct192, _, PySem.W.mg_of X G kc_Z, rfl, fun _ => (.tup (xs := [.ref ct196]) (.inr ⟨_, _, _, cl_ct192, rfl, rfl, by rw [sizeLine_eq]; simp, (.cons rfl .nil)⟩) (.cons (.tup (xs := [.ref ct200, .int 1]) (.inr ⟨_, _, _, cl_ct196, rfl, rfl, by rw [sizeLine_eq]; simp, (.cons rfl (.cons ⟨_, rfl⟩ .nil))⟩) (.cons (.tup (xs := [.int 0, .int 0, .int 1]) (.inr ⟨_, _, _, cl_ct200, rfl, rfl, by rw [sizeLine_eq]; simp, (.cons ⟨_, rfl⟩ (.cons ⟨_, rfl⟩ (.cons ⟨_, rfl⟩ .nil)))⟩) (.cons (.int _) (.cons (.int _) (.cons (.int _) .nil)))) (.cons (.int _) .nil))) .nil))⟩, PySem.W.mg_of X G z_gcd⟩
  refine ⟨PySem.W.fnOf "law" "law" (defArgs s_law) (defBody s_law) (defScope s_law) .none kV38 dc38 pm38 an38 cd38 ct38, fun s v => .of_eq rfl, fun base _ _ => ?_⟩
  have C__law_determinant := ok__law_determinant (P := l.prog) (w := w) (base := base) T  D__law_determinant
  have C__law_keeps := ok__law_keeps (P := l.prog) (w := w) (base := base) T  D__law_keeps
  have C__law_part := ok__law_part (P := l.prog) (w := w) (base := base) T  D__law_part
  have C__law_times := ok__law_times (P := l.prog) (w := w) (base := base) T  D__law_times
  have C__law_line_right := ok__law_line_right (P := l.prog) (w := w) (base := base) T C__law_keeps C__law_part C__law_times D__law_line_right
  have C__law_pick := ok__law_pick (P := l.prog) (w := w) (base := base) T  D__law_pick
  have C__law_of := ok__law_of (P := l.prog) (w := w) (base := base) T C__law_pick D__law_of
  have C__law_shears := ok__law_shears (P := l.prog) (w := w) (base := base) T C__law_of C__law_pick C__law_times D__law_shears
  have C__law_table_undone := ok__law_table_undone (P := l.prog) (w := w) (base := base) T  D__law_table_undone
  have C__law_pair := ok__law_pair (P := l.prog) (w := w) (base := base) T C__law_of C__law_pick C__law_shears C__law_table_undone C__law_times D__law_pair
  have C__law_source := ok__law_source (P := l.prog) (w := w) (base := base) T  D__law_source
  have C__law_table_of := ok__law_table_of (P := l.prog) (w := w) (base := base) T C__law_table_undone C__law_times D__law_table_of
  have C__law_triple := ok__law_triple (P := l.prog) (w := w) (base := base) T C__law_times D__law_triple
  have C_four_by_one := ok_four_by_one (P := l.prog) (w := w) (base := base) T  D_four_by_one
  have C_four_by_other := ok_four_by_other (P := l.prog) (w := w) (base := base) T  D_four_by_other
  have C_poly_taken := ok_poly_taken (P := l.prog) (w := w) (base := base) T  D_poly_taken
  have C_less_all := ok_less_all (P := l.prog) (w := w) (base := base) T C_poly_taken D_less_all
  have C_poly_told := ok_poly_told (P := l.prog) (w := w) (base := base) T  D_poly_told
  have C_sum_of_products := ok_sum_of_products (P := l.prog) (w := w) (base := base) T C_poly_told D_sum_of_products
  have C_four_letter := ok_four_letter (P := l.prog) (w := w) (base := base) T C_four_by_one C_four_by_other C_less_all C_sum_of_products D_four_letter
  have C_four_told := ok_four_told (P := l.prog) (w := w) (base := base) T C_four_letter D_four_told
  have C_number_powers := ok_number_powers (P := l.prog) (w := w) (base := base) T  D_number_powers
  have C_poly_degrees := ok_poly_degrees (P := l.prog) (w := w) (base := base) T  D_poly_degrees
  have C_poly_value := ok_poly_value (P := l.prog) (w := w) (base := base) T C_number_powers C_poly_degrees D_poly_value
  have C_four_value := ok_four_value (P := l.prog) (w := w) (base := base) T C_poly_value D_four_value
  have C_k_of := ok_k_of (P := l.prog) (w := w) (base := base) T  D_k_of
  have C_least_row := ok_least_row (P := l.prog) (w := w) (base := base) T  D_least_row
  have C_kept_column := ok_kept_column (P := l.prog) (w := w) (base := base) T C_least_row D_kept_column
  have C_trace_of_pairtables := ok_trace_of_pairtables (P := l.prog) (w := w) (base := base) T  D_trace_of_pairtables
  have C_table_times := ok_table_times (P := l.prog) (w := w) (base := base) T  D_table_times
  have C_traced := ok_traced (P := l.prog) (w := w) (base := base) T C_table_times C_trace_of_pairtables D_traced
  have C_line_told := ok_line_told (P := l.prog) (w := w) (base := base) T C_k_of C_kept_column C_trace_of_pairtables C_traced D_line_told
  have C_trace_of_traces := ok_trace_of_traces (P := l.prog) (w := w) (base := base) T C_sum_of_products D_trace_of_traces
  have C_trace_told := ok_trace_told (P := l.prog) (w := w) (base := base) T C_four_told C_trace_of_traces D_trace_told
  have C_table_undone := ok_table_undone (P := l.prog) (w := w) (base := base) T  D_table_undone
  have C_letter_table := ok_letter_table (P := l.prog) (w := w) (base := base) T C_table_undone D_letter_table
  have C_not_long := ok_not_long (P := l.prog) (w := w) (base := base) T  D_not_long
  have C_word_table := ok_word_table (P := l.prog) (w := w) (base := base) T C_letter_table C_not_long C_table_times D_word_table
  exact ok_law T C__law_determinant C__law_line_right C__law_pair C__law_source C__law_table_of C__law_times C__law_triple C_four_told C_four_value C_k_of C_line_told C_poly_value C_trace_of_traces C_trace_told C_traced C_word_table (fun_mk (st := s_law) l38 c38 k38)
end QL

open PySem PySem.W PyProof.Rows in
set_option maxRecDepth 100000 in
set_option maxHeartbeats 0 in
theorem PySem.Challenge.cw_tracetriples_k53_whole_k_two_exactly_if_holds : PySem.Challenge.rw_tracetriples_k53_whole_k_two_exactly_if.Holds := by
  w_on; o_law; k_head; (case hw => w_witness2)
  k_fill
  refine QL.walkG (k := 7) (x := "script") (l := PySem.Challenge.rw_tracetriples_k53_whole_k_two_exactly_if) rfl rfl ⟨rfl, by decide, by decide⟩ (fun w h Y => PySem.W.kIn_of Y) ?F
  case F =>
    intro w mg fa h KX G hmg
    refine' QL.all_mk KX G hmg ?a0 ?l0 ?c0 ?k0 ?a1 ?l1 ?c1 ?k1 ?a2 ?l2 ?c2 ?k2 ?a3 ?l3 ?c3 ?k3 ?a4 ?l4 ?c4 ?k4 ?a5 ?l5 ?c5 ?k5 ?a6 ?l6 ?c6 ?k6 ?a7 ?l7 ?c7 ?k7 ?a8 ?l8 ?c8 ?k8 ?a9 ?l9 ?c9 ?k9 ?a10 ?l10 ?c10 ?k10 ?a11 ?l11 ?c11 ?k11 ?a12 ?l12 ?c12 ?k12 ?a13 ?l13 ?c13 ?k13 ?a14 ?l14 ?c14 ?k14 ?a15 ?l15 ?c15 ?k15 ?a16 ?l16 ?c16 ?k16 ?a17 ?l17 ?c17 ?k17 ?a18 ?l18 ?c18 ?k18 ?a19 ?l19 ?c19 ?k19 ?a20 ?l20 ?c20 ?k20 ?a21 ?l21 ?c21 ?k21 ?a22 ?l22 ?c22 ?k22 ?a23 ?l23 ?c23 ?k23 ?a24 ?l24 ?c24 ?k24 ?a25 ?l25 ?c25 ?k25 ?a26 ?l26 ?c26 ?k26 ?a27 ?l27 ?c27 ?k27 ?a28 ?l28 ?c28 ?k28 ?a29 ?l29 ?c29 ?k29 ?a30 ?l30 ?c30 ?k30 ?a31 ?l31 ?c31 ?k31 ?a32 ?l32 ?c32 ?k32 ?a33 ?l33 ?c33 ?k33 ?a34 ?l34 ?c34 ?k34 ?a35 ?l35 ?c35 ?k35 ?a36 ?l36 ?c36 ?k36 ?a37 ?l37 ?c37 ?k37 ?a38 ?l38 ?c38 ?k38 ?z_abs ?z_enumerate ?z_int ?z_isinstance ?z_len ?z_list ?z_max ?z_range ?z_repr ?z_sorted ?z_str ?z_sum ?z_tuple ?z_zip ?z_gcd ?cl_ct13 ?cl_ct9 ?cl_ct5 ?cl_ct21 ?cl_ct25 ?cl_ct29 ?cl_ct1 ?kc_BEGUN ?cl_ct37 ?cl_ct45 ?cl_ct33 ?kc_EACH_ONE ?kc_HAS_LINE ?cl_ct62 ?cl_ct58 ?cl_ct74 ?cl_ct70 ?cl_ct54 ?kc_LEFT_OVER ?cl_ct90 ?cl_ct86 ?cl_ct82 ?kc_LESS_ONE ?cl_ct106 ?cl_ct102 ?cl_ct98 ?kc_LESS_Y ?kc_MOST_FIGURES ?kc_MOST_TERMS ?cl_ct116 ?kc_NOTHING ?cl_ct120 ?kc_ONE_pairtables ?cl_ct136 ?cl_ct132 ?cl_ct128 ?kc_ONE_polysums ?cl_ct152 ?cl_ct148 ?cl_ct144 ?kc_TWO ?cl_ct168 ?cl_ct164 ?cl_ct160 ?kc_X ?cl_ct184 ?cl_ct180 ?cl_ct176 ?kc_Y ?cl_ct200 ?cl_ct196 ?cl_ct192 ?kc_Z
    (case a0 => k_is)
    (case l0 => k_is)
    (case c0 => k_is)
    (case k0 => k_is)
    (case a1 => k_is)
    (case l1 => k_is)
    (case c1 => k_is)
    (case k1 => k_is)
    (case a2 => k_is)
    (case l2 => k_is)
    (case c2 => k_is)
    (case k2 => k_is)
    (case a3 => k_is)
    (case l3 => k_is)
    (case c3 => k_is)
    (case k3 => k_is)
    (case a4 => k_is)
    (case l4 => k_is)
    (case c4 => k_is)
    (case k4 => k_is)
    (case a5 => k_is)
    (case l5 => k_is)
    (case c5 => k_is)
    (case k5 => k_is)
    (case a6 => k_is)
    (case l6 => k_is)
    (case c6 => k_is)
    (case k6 => k_is)
    (case a7 => k_is)
    (case l7 => k_is)
    (case c7 => k_is)
    (case k7 => k_is)
    (case a8 => k_is)
    (case l8 => k_is)
    (case c8 => k_is)
    (case k8 => k_is)
    (case a9 => k_is)
    (case l9 => k_is)
    (case c9 => k_is)
    (case k9 => k_is)
    (case a10 => k_is)
    (case l10 => k_is)
    (case c10 => k_is)
    (case k10 => k_is)
    (case a11 => k_is)
    (case l11 => k_is)
    (case c11 => k_is)
    (case k11 => k_is)
    (case a12 => k_is)
    (case l12 => k_is)
    (case c12 => k_is)
    (case k12 => k_is)
    (case a13 => k_is)
    (case l13 => k_is)
    (case c13 => k_is)
    (case k13 => k_is)
    (case a14 => k_is)
    (case l14 => k_is)
    (case c14 => k_is)
    (case k14 => k_is)
    (case a15 => k_is)
    (case l15 => k_is)
    (case c15 => k_is)
    (case k15 => k_is)
    (case a16 => k_is)
    (case l16 => k_is)
    (case c16 => k_is)
    (case k16 => k_is)
    (case a17 => k_is)
    (case l17 => k_is)
    (case c17 => k_is)
    (case k17 => k_is)
    (case a18 => k_is)
    (case l18 => k_is)
    (case c18 => k_is)
    (case k18 => k_is)
    (case a19 => k_is)
    (case l19 => k_is)
    (case c19 => k_is)
    (case k19 => k_is)
    (case a20 => k_is)
    (case l20 => k_is)
    (case c20 => k_is)
    (case k20 => k_is)
    (case a21 => k_is)
    (case l21 => k_is)
    (case c21 => k_is)
    (case k21 => k_is)
    (case a22 => k_is)
    (case l22 => k_is)
    (case c22 => k_is)
    (case k22 => k_is)
    (case a23 => k_is)
    (case l23 => k_is)
    (case c23 => k_is)
    (case k23 => k_is)
    (case a24 => k_is)
    (case l24 => k_is)
    (case c24 => k_is)
    (case k24 => k_is)
    (case a25 => k_is)
    (case l25 => k_is)
    (case c25 => k_is)
    (case k25 => k_is)
    (case a26 => k_is)
    (case l26 => k_is)
    (case c26 => k_is)
    (case k26 => k_is)
    (case a27 => k_is)
    (case l27 => k_is)
    (case c27 => k_is)
    (case k27 => k_is)
    (case a28 => k_is)
    (case l28 => k_is)
    (case c28 => k_is)
    (case k28 => k_is)
    (case a29 => k_is)
    (case l29 => k_is)
    (case c29 => k_is)
    (case k29 => k_is)
    (case a30 => k_is)
    (case l30 => k_is)
    (case c30 => k_is)
    (case k30 => k_is)
    (case a31 => k_is)
    (case l31 => k_is)
    (case c31 => k_is)
    (case k31 => k_is)
    (case a32 => k_is)
    (case l32 => k_is)
    (case c32 => k_is)
    (case k32 => k_is)
    (case a33 => k_is)
    (case l33 => k_is)
    (case c33 => k_is)
    (case k33 => k_is)
    (case a34 => k_is)
    (case l34 => k_is)
    (case c34 => k_is)
    (case k34 => k_is)
    (case a35 => k_is)
    (case l35 => k_is)
    (case c35 => k_is)
    (case k35 => k_is)
    (case a36 => k_is)
    (case l36 => k_is)
    (case c36 => k_is)
    (case k36 => k_is)
    (case a37 => k_is)
    (case l37 => k_is)
    (case c37 => k_is)
    (case k37 => k_is)
    (case a38 => k_is)
    (case l38 => k_is)
    (case c38 => k_is)
    (case k38 => k_is)
    (case z_abs => k_is)
    (case z_enumerate => k_is)
    (case z_int => k_is)
    (case z_isinstance => k_is)
    (case z_len => k_is)
    (case z_list => k_is)
    (case z_max => k_is)
    (case z_range => k_is)
    (case z_repr => k_is)
    (case z_sorted => k_is)
    (case z_str => k_is)
    (case z_sum => k_is)
    (case z_tuple => k_is)
    (case z_zip => k_is)
    (case z_gcd => k_is)
    (case kc_Z => k_is)
    (case cl_ct192 => k_is)
    (case cl_ct196 => k_is)
    (case cl_ct200 => k_is)
    (case kc_Y => k_is)
    (case cl_ct176 => k_is)
    (case cl_ct180 => k_is)
    (case cl_ct184 => k_is)
    (case kc_X => k_is)
    (case cl_ct160 => k_is)
    (case cl_ct164 => k_is)
    (case cl_ct168 => k_is)
    (case kc_TWO => k_is)
    (case cl_ct144 => k_is)
    (case cl_ct148 => k_is)
    (case cl_ct152 => k_is)
    (case kc_ONE_polysums => k_is)
    (case cl_ct128 => k_is)
    (case cl_ct132 => k_is)
    (case cl_ct136 => k_is)
    (case kc_ONE_pairtables => k_is)
    (case cl_ct120 => k_is)
    (case kc_NOTHING => k_is)
    (case cl_ct116 => k_is)
    (case kc_MOST_TERMS => k_is)
    (case kc_MOST_FIGURES => k_is)
    (case kc_LESS_Y => k_is)
    (case cl_ct98 => k_is)
    (case cl_ct102 => k_is)
    (case cl_ct106 => k_is)
    (case kc_LESS_ONE => k_is)
    (case cl_ct82 => k_is)
    (case cl_ct86 => k_is)
    (case cl_ct90 => k_is)
    (case kc_LEFT_OVER => k_is)
    (case cl_ct54 => k_is)
    (case cl_ct70 => k_is)
    (case cl_ct74 => k_is)
    (case cl_ct58 => k_is)
    (case cl_ct62 => k_is)
    (case kc_HAS_LINE => k_is)
    (case kc_EACH_ONE => k_is)
    (case cl_ct33 => k_is)
    (case cl_ct45 => k_is)
    (case cl_ct37 => k_is)
    (case kc_BEGUN => k_is)
    (case cl_ct1 => k_is)
    (case cl_ct29 => k_is)
    (case cl_ct25 => k_is)
    (case cl_ct21 => k_is)
    (case cl_ct5 => k_is)
    (case cl_ct9 => k_is)
    (case cl_ct13 => k_is)
#print axioms PySem.Challenge.cw_tracetriples_k53_whole_k_two_exactly_if_holds
