import PyProof.Rows.All
import Wide.All
import OpenK.AllK
import Wide.FinOn
import HandS.ForMost
import HandS.TupAny
import HandS.NoneIn
import HandS.Wide
import HandS.Style
import HandS.More
import PyProof.ReprBulk
import HandS.Zip
import HandS.Deep
import HandS.IsInst
import HandS.SortInts
import HandS.WideBits
import HandS.TupMul
import HandS.Gcd
import PySem.Challenge.RW_tracetriples_k52_lines_in_common
set_option Elab.async false
set_option linter.all false
set_option maxRecDepth 100000
set_option maxHeartbeats 2000000
/-! QA: plain data over the hand layer. Values are told as data (PyData), mutable things of a def as local objects, the law's source as one state. -/
namespace QL
open PySem PySem.Spec PyProof.Rows L2

abbrev D := PyData
/-- a key as data -/
def kD : Key → D
  | .inl i => .int i
  | .inr x => .str x
mutual
inductive Dq (K : PySem.W.Frag) (H : Hp) : V → D → Prop
  | non : Dq K H .non .none
  | bl (b : Bool) : Dq K H (.bl b) (.bool b)
  | int (i : Int) : Dq K H (.int i) (.int i)
  | str (x : Str) : Dq K H (.str x) (.str x)
  | lst {a : Addr} {xs : List V} {ds : List D} : H a = some (.lst xs) → DqAll K H xs ds → Dq K H (.ref a) (.list ds)
  | tup {a : Addr} {xs : List V} {ds : List D} : SqT K H a xs → DqAll K H xs ds → Dq K H (.ref a) (.tuple ds)
  | dk {a : Addr} {ys : List (Key × V)} {kvs : List (D × D)} : H a = some (.dK ys) → DqK K H ys kvs → Dq K H (.ref a) (.dict kvs)
inductive DqK (K : PySem.W.Frag) (H : Hp) : List (Key × V) → List (D × D) → Prop
  | nil : DqK K H [] []
  | cons {k : Key} {v : V} {d : D} {ys : List (Key × V)} {kvs : List (D × D)} : Dq K H v d → DqK K H ys kvs → DqK K H ((k, v) :: ys) ((kD k, d) :: kvs)
inductive DqAll (K : PySem.W.Frag) (H : Hp) : List V → List D → Prop
  | nil : DqAll K H [] []
  | cons {v : V} {vs : List V} {d : D} {ds : List D} : Dq K H v d → DqAll K H vs ds → DqAll K H (v :: vs) (d :: ds)
end
section
variable {K : PySem.W.Frag} {H H' : Hp}
theorem same_tup (e : Same H H') {a : Addr} {xs : List V} (h : SqT K H a xs) : SqT K H' a xs := by
  rcases h with (h | ⟨o, h⟩) | h
  · exact .inl (.inl (e _ _ h))
  · exact .inl (.inr ⟨o, e _ _ h⟩)
  · exact .inr h
mutual
theorem Dq.mono (e : Same H H') : ∀ (d : D) (v : V), Dq K H v d → Dq K H' v d
  | .none, _, h => by cases h; exact .non
  | .bool b, _, h => by cases h; exact .bl b
  | .int i, _, h => by cases h; exact .int i
  | .str x, _, h => by cases h; exact .str x
  | .list ds, _, h => by
    cases h with
    | lst h1 h2 => exact .lst (e _ _ h1) (DqAll.mono e ds _ h2)
  | .tuple ds, _, h => by
    cases h with
    | tup h1 h2 => exact .tup (same_tup e h1) (DqAll.mono e ds _ h2)
  | .dict kvs, _, h => by
    cases h with
    | dk h1 h2 => exact .dk (e _ _ h1) (DqK.mono e kvs _ h2)
theorem DqK.mono (e : Same H H') : ∀ (kvs : List (D × D)) (ys : List (Key × V)), DqK K H ys kvs → DqK K H' ys kvs
  | [], _, h => by cases h; exact .nil
  | (k, d) :: kvs, _, h => by
    cases h with
    | cons h1 h2 => exact .cons (Dq.mono e d _ h1) (DqK.mono e kvs _ h2)
theorem DqAll.mono (e : Same H H') : ∀ (ds : List D) (vs : List V), DqAll K H vs ds → DqAll K H' vs ds
  | [], _, h => by cases h; exact .nil
  | d :: ds, _, h => by
    cases h with
    | cons h1 h2 => exact .cons (Dq.mono e d _ h1) (DqAll.mono e ds _ h2)
end
mutual
theorem Dq.toDp : ∀ (d : D) (v : V), d.hasDict = false → Dq K H v d → Dp K H v d
  | .none, _, _, h => by cases h; exact .non
  | .bool b, _, _, h => by cases h; exact .bl b
  | .int i, _, _, h => by cases h; exact .int i
  | .str x, _, _, h => by cases h; exact .str x
  | .list ds, _, n, h => by
    simp only [PyData.hasDict] at n
    cases h with
    | lst h1 h2 => exact .lst (SqL.of h1) (DqAll.toDp ds _ n h2)
  | .tuple ds, _, n, h => by
    simp only [PyData.hasDict] at n
    cases h with
    | tup h1 h2 => exact .tup h1 (DqAll.toDp ds _ n h2)
  | .dict _, _, n, h => by simp [PyData.hasDict] at n
theorem DqAll.toDp : ∀ (ds : List D) (vs : List V), PyData.hasDictAll ds = false → DqAll K H vs ds → DpAll K H vs ds
  | [], _, _, h => by cases h; exact .nil
  | d :: ds, _, n, h => by
    simp only [PyData.hasDictAll, Bool.or_eq_false_iff] at n
    cases h with
    | cons h1 h2 => exact .cons (Dq.toDp d _ n.1 h1) (DqAll.toDp ds _ n.2 h2)
end
mutual
theorem canLay_noDict : ∀ d : D, d.canLay0 = true → d.hasDict = false
  | .none, _ => by simp [PyData.hasDict]
  | .bool _, _ => by simp [PyData.hasDict]
  | .int _, _ => by simp [PyData.hasDict]
  | .str _, _ => by simp [PyData.hasDict]
  | .list ds, h => by simp only [PyData.hasDict]; simp only [PyData.canLay0] at h; exact canLayAll_noDict ds h
  | .tuple ds, h => by simp only [PyData.hasDict]; simp only [PyData.canLay0] at h; exact canLayAll_noDict ds h
  | .dict _, h => by simp [PyData.canLay0] at h
theorem canLayAll_noDict : ∀ ds : List D, PyData.canLayAll0 ds = true → PyData.hasDictAll ds = false
  | [], _ => by simp [PyData.hasDictAll]
  | d :: ds, h => by
    simp only [PyData.canLayAll0, Bool.and_eq_true] at h
    simp [PyData.hasDictAll, canLay_noDict d h.1, canLayAll_noDict ds h.2]
end
theorem shaped_noDict {d : D} (h : SeqAt.shaped d = true) : d.hasDict = false := canLay_noDict d (SeqAt.canLay_of_shaped h)
theorem DqAll.len : ∀ {ds : List D} {vs : List V}, DqAll K H vs ds → vs.length = ds.length
  | [], _, h => by cases h; rfl
  | d :: ds, _, h => by
    cases h with
    | cons h1 h2 => simp [DqAll.len h2]
theorem DqAll.at : ∀ {ds : List D} {vs : List V} {i : Nat} {d : D}, DqAll K H vs ds → ds[i]? = some d → ∃ v, vs[i]? = some v ∧ Dq K H v d
  | [], _, _, _, h, e => by simp at e
  | d :: ds, _, 0, _, h, e => by
    cases h with
    | cons h1 h2 => simp at e; subst e; exact ⟨_, rfl, h1⟩
  | d :: ds, _, i + 1, _, h, e => by
    cases h with
    | cons h1 h2 =>
      obtain ⟨v, q1, q2⟩ := DqAll.at (i := i) h2 (by simpa using e)
      exact ⟨v, by simpa using q1, q2⟩
theorem DqAll.app : ∀ {ds es : List D} {vs ws : List V}, DqAll K H vs ds → DqAll K H ws es → DqAll K H (vs ++ ws) (ds ++ es)
  | [], _, _, _, h, k => by cases h; exact k
  | d :: ds, _, _, _, h, k => by
    cases h with
    | cons h1 h2 => exact .cons h1 (DqAll.app h2 k)
theorem DqAll.drop : ∀ {ds : List D} {vs : List V} (n : Nat), DqAll K H vs ds → DqAll K H (vs.drop n) (ds.drop n)
  | _, _, 0, h => h
  | [], _, n + 1, h => by cases h; exact .nil
  | d :: ds, _, n + 1, h => by
    cases h with
    | cons h1 h2 => exact DqAll.drop n h2
theorem DqAll.take : ∀ {ds : List D} {vs : List V} (n : Nat), DqAll K H vs ds → DqAll K H (vs.take n) (ds.take n)
  | _, _, 0, h => .nil
  | [], _, n + 1, h => by cases h; exact .nil
  | d :: ds, _, n + 1, h => by
    cases h with
    | cons h1 h2 => exact .cons h1 (DqAll.take n h2)
theorem DqAll.rev {ds : List D} {vs : List V} (h : DqAll K H vs ds) : DqAll K H vs.reverse ds.reverse := by
  induction ds generalizing vs with
  | nil => cases h; exact .nil
  | cons d ds ih =>
    cases h with
    | cons h1 h2 =>
      rw [List.reverse_cons, List.reverse_cons]
      exact (ih h2).app (.cons h1 .nil)
theorem DqAll.rep {ds : List D} {vs : List V} (h : DqAll K H vs ds) : ∀ n : Nat, DqAll K H (List.replicate n vs).flatten (List.replicate n ds).flatten
  | 0 => .nil
  | n + 1 => by
    rw [List.replicate_succ, List.replicate_succ, List.flatten_cons, List.flatten_cons]
    exact h.app (DqAll.rep h n)
theorem DqAll.pop {ds : List D} {vs : List V} (h : DqAll K H vs ds) : DqAll K H vs.dropLast ds.dropLast := by
  rw [List.dropLast_eq_take, List.dropLast_eq_take, h.len]
  exact h.take _
theorem DqAll.setAt : ∀ {ds : List D} {vs : List V} {d : D} {v : V} (i : Nat), DqAll K H vs ds → Dq K H v d → DqAll K H (vs.set i v) (ds.set i d)
  | [], _, _, _, i, h, _ => by cases h; exact .nil
  | x :: ds, _, _, _, 0, h, k => by
    cases h with
    | cons h1 h2 => exact .cons k h2
  | x :: ds, _, _, _, i + 1, h, k => by
    cases h with
    | cons h1 h2 => exact .cons h1 (DqAll.setAt i h2 k)
theorem DqAll.ints : ∀ {ns : List Int} {vs : List V}, DqAll K H vs (ns.map PyData.int) → vs = ns.map V.int
  | [], _, h => by cases h; rfl
  | n :: ns, _, h => by
    cases h with
    | cons h1 h2 => cases h1; simp [DqAll.ints h2]
theorem DqAll.bls : ∀ {ns : List Bool} {vs : List V}, DqAll K H vs (ns.map PyData.bool) → vs = ns.map V.bl
  | [], _, h => by cases h; rfl
  | n :: ns, _, h => by
    cases h with
    | cons h1 h2 => cases h1; simp [DqAll.bls h2]
theorem DqAll.ofInts : ∀ (ns : List Int), DqAll K H (ns.map V.int) (ns.map PyData.int)
  | [] => .nil
  | n :: ns => .cons (.int n) (DqAll.ofInts ns)
end

/-! ### the abstract state -/
inductive AV where
  | d (x : D) | o (j : Nat) | src | cells | scr (ns : List Int) | kt (ks : List Key) | dt (kvs : List (List Key × D)) | ty (n : String) | ad (a : Addr)
structure Src where
  cells : List Int
  left : Int
  mixed : Int
  turn : Int
inductive MO where
  | l (ds : List D) | kd (kvs : List (Key × D)) | td (kvs : List (List Key × D))
structure Mm where
  s : Option Src
  o : List MO
structure AS where
  g : List (Option AV)
  m : Mm

def hid (Z : List Addr) (H : Hp) : Hp := fun a => if a ∈ Z then none else H a
theorem hid_some {Z : List Addr} {H : Hp} {a : Addr} {o : HO} (h : hid Z H a = some o) : a ∉ Z ∧ H a = some o := by
  unfold hid at h
  split at h
  · cases h
  · exact ⟨‹_›, h⟩
theorem hid_of {Z : List Addr} {H : Hp} {a : Addr} (h : a ∉ Z) : hid Z H a = H a := if_neg h
theorem hid_same {Z : List Addr} {H : Hp} : Same (hid Z H) H := fun a o h => (hid_some h).2

structure Ct where
  K : PySem.W.Frag
  Z : List Addr
  L0 : List Addr
  H0 : Hp
abbrev Ct.hd (C : Ct) (L Mo : List Addr) (H : Hp) : Hp := hid (C.Z ++ (L ++ Mo)) H
def srcKv (S : Src) (c : Addr) : List (Key × V) := [(.inr "cells", .ref c), (.inr "left", .int S.left), (.inr "mixed", .int S.mixed), (.inr "turn", .int S.turn)]
def SrcAt (H : Hp) : Option Src → List Addr → Prop
  | none, L => L = []
  | some S, L => ∃ d c, L = [d, c] ∧ H d = some (.dK (srcKv S c)) ∧ H c = some (.lst (S.cells.map V.int))
def KQ {κ : Type} (K : PySem.W.Frag) (h : Hp) : List (κ × V) → List (κ × D) → Prop := Paired fun (p : κ × V) (q : κ × D) => p.1 = q.1 ∧ Dq K h p.2 q.2
theorem KQ.mono {κ : Type} {K : PySem.W.Frag} {h h' : Hp} (e : Same h h') {l : List (κ × V)} {r : List (κ × D)} (q : KQ K h l r) : KQ K h' l r := Paired.mapP q fun a b ⟨q1, q2⟩ => ⟨q1, Dq.mono e _ _ q2⟩
def kvD (kvs : List (Key × D)) : List (D × D) := kvs.map fun p => (kD p.1, p.2)
theorem KQ.toK {K : PySem.W.Frag} {h : Hp} : ∀ {ys : List (Key × V)} {kvs : List (Key × D)}, KQ K h ys kvs → DqK K h ys (kvD kvs)
  | _, _, .nil => .nil
  | (_, _) :: _, (_, _) :: _, .cons q t => by
    obtain ⟨q1, q2⟩ := q
    simp only at q1 q2
    subst q1
    exact .cons q2 (KQ.toK t)
def MOk (K : PySem.W.Frag) (h H : Hp) : MO → Addr → Prop
  | .l ds, l => ∃ xs, H l = some (.lst xs) ∧ DqAll K h xs ds
  | .kd kvs, l => ∃ ys, H l = some (.dK ys) ∧ KQ K h ys kvs
  | .td kvs, l => ∃ ys, H l = some (.dT ys) ∧ KQ K h ys kvs
theorem MOk.mono {K : PySem.W.Frag} {h h' H H' : Hp} {o : MO} {l : Addr} (q : MOk K h H o l) (e : Same h h') (f : H' l = H l) : MOk K h' H' o l := by
  cases o with
  | l ds => obtain ⟨xs, q1, q2⟩ := q; exact ⟨xs, f.trans q1, DqAll.mono e _ _ q2⟩
  | kd ds => obtain ⟨xs, q1, q2⟩ := q; exact ⟨xs, f.trans q1, q2.mono e⟩
  | td ds => obtain ⟨xs, q1, q2⟩ := q; exact ⟨xs, f.trans q1, q2.mono e⟩
theorem MOk.there {K : PySem.W.Frag} {h H : Hp} {o : MO} {l : Addr} (q : MOk K h H o l) : ∃ u, H l = some u := by
  cases o with
  | l ds => obtain ⟨xs, q1, q2⟩ := q; exact ⟨_, q1⟩
  | kd ds => obtain ⟨xs, q1, q2⟩ := q; exact ⟨_, q1⟩
  | td ds => obtain ⟨xs, q1, q2⟩ := q; exact ⟨_, q1⟩

structure B (C : Ct) (m : Mm) (L Mo : List Addr) (H : Hp) : Prop where
  nd : (C.Z ++ (L ++ Mo)).Nodup
  sr : SrcAt H m.s L
  ob : Paired (MOk C.K (C.hd L Mo H) H) m.o Mo
  kp : ∀ a u, C.H0 a = some u → a ∉ C.L0 → H a = some u
  nl : ∀ x ∈ L, x ∈ C.L0 ∨ C.H0 x = none
  no : ∀ x ∈ Mo, C.H0 x = none ∧ x ∉ C.L0
  zt : ∀ z ∈ C.Z, (∃ u, C.H0 z = some u) ∧ z ∉ C.L0
  l0 : C.L0 = [] ∨ L = C.L0
theorem paired_mem {α β : Type} {F : α → β → Prop} : ∀ {l : List α} {r : List β} {b : β}, Paired F l r → b ∈ r → ∃ a ∈ l, F a b
  | _, _, _, .nil, h => by cases h
  | _, _, _, .cons q t, h => by
    rcases List.mem_cons.mp h with rfl | h
    · exact ⟨_, List.mem_cons_self, q⟩
    · obtain ⟨a, h1, h2⟩ := paired_mem t h
      exact ⟨a, List.mem_cons_of_mem _ h1, h2⟩
theorem paired_at {α β : Type} {F : α → β → Prop} : ∀ {l : List α} {r : List β} {i : Nat} {a : α}, Paired F l r → l[i]? = some a → ∃ b, r[i]? = some b ∧ F a b
  | _, _, _, _, .nil, h => by simp at h
  | _, _, 0, _, .cons q t, h => by simp at h; subst h; exact ⟨_, rfl, q⟩
  | _, _, i + 1, _, .cons q t, h => by
    obtain ⟨b, h1, h2⟩ := paired_at (i := i) t (by simpa using h)
    exact ⟨b, by simpa using h1, h2⟩
theorem paired_app {α β : Type} {F : α → β → Prop} : ∀ {l l2 : List α} {r r2 : List β}, Paired F l r → Paired F l2 r2 → Paired F (l ++ l2) (r ++ r2)
  | _, _, _, _, .nil, k => k
  | _, _, _, _, .cons q t, k => .cons q (paired_app t k)
theorem paired_impM {α β : Type} {F G : α → β → Prop} : ∀ {l : List α} {r : List β}, Paired F l r → (∀ a b, b ∈ r → F a b → G a b) → Paired G l r
  | _, _, .nil, _ => .nil
  | _, _, .cons q t, f => .cons (f _ _ List.mem_cons_self q) (paired_impM t fun a b hb => f a b (List.mem_cons_of_mem _ hb))
theorem paired_take {α β : Type} {F : α → β → Prop} : ∀ {l : List α} {r : List β} (n : Nat), Paired F l r → Paired F (l.take n) (r.take n)
  | _, _, 0, _ => .nil
  | _, _, n + 1, .nil => .nil
  | _, _, n + 1, .cons q t => .cons q (paired_take n t)
theorem paired_set {α β : Type} {F : α → β → Prop} : ∀ {l : List α} {r : List β} {i : Nat} {a : α} {b : β}, Paired F l r → r[i]? = some b → F a b → Paired F (l.set i a) r
  | _, _, _, _, _, .nil, h, _ => by simp at h
  | _, _, 0, _, _, .cons q t, h, k => by simp at h; subst h; exact .cons k t
  | _, _, i + 1, _, _, .cons q t, h, k => .cons q (paired_set t (by simpa using h) k)

structure X2 (C : Ct) (L Mo : List Addr) (H : Hp) (L' Mo' : List Addr) (H' : Hp) : Prop where
  pl : L = [] ∨ L' = L
  po : Mo <+: Mo'
  sm : Same (C.hd L Mo H) (C.hd L' Mo' H')
section
variable {C : Ct} {m : Mm} {L Mo L' Mo' L2 Mo2 : List Addr} {H H' H2 : Hp} {p : Addr} {ho : HO}
theorem X2.refl : X2 C L Mo H L Mo H := ⟨.inr rfl, List.prefix_rfl, Same.refl _⟩
theorem X2.trans (a : X2 C L Mo H L' Mo' H') (b : X2 C L' Mo' H' L2 Mo2 H2) : X2 C L Mo H L2 Mo2 H2 :=
  ⟨by rcases a.pl with h | h
      · exact .inl h
      · rcases b.pl with k | k
        · exact .inl (h ▸ k)
        · exact .inr (k.trans h), a.po.trans b.po, a.sm.trans b.sm⟩
theorem B.there (b : B C m L Mo H) {x : Addr} (hx : x ∈ C.Z ++ (L ++ Mo)) : ∃ u, H x = some u := by
  rcases List.mem_append.mp hx with h | h
  · obtain ⟨⟨u, h1⟩, h2⟩ := b.zt x h
    exact ⟨u, b.kp x u h1 h2⟩
  · rcases List.mem_append.mp h with h | h
    · have q := b.sr
      cases e : m.s with
      | none => rw [e] at q; rw [show L = [] from q] at h; cases h
      | some S =>
        rw [e] at q
        obtain ⟨d, c, rfl, h1, h2⟩ := q
        rcases List.mem_cons.mp h with rfl | h
        · exact ⟨_, h1⟩
        · rcases List.mem_cons.mp h with rfl | h
          · exact ⟨_, h2⟩
          · cases h
    · obtain ⟨o, _, q⟩ := paired_mem b.ob h
      exact q.there
theorem B.fresh (b : B C m L Mo H) (hp : H p = none) : p ∉ C.Z ++ (L ++ Mo) := fun h => by
  obtain ⟨u, q⟩ := b.there h
  rw [hp] at q; cases q
theorem B.freshL (b : B C m L Mo H) (hp : H p = none) : p ∉ C.L0 := fun h => by
  rcases b.l0 with z | z
  · rw [z] at h; cases h
  · exact b.fresh hp (by simp [z, h])
theorem B.fresh0 (b : B C m L Mo H) (hp : H p = none) : C.H0 p = none := by
  cases e : C.H0 p with
  | none => rfl
  | some u => rw [b.kp p u e (b.freshL hp)] at hp; cases hp
theorem hd_upd (hp : H p = none) : Same (C.hd L Mo H) (C.hd L Mo (upd H p ho)) := fun a o h => by
  obtain ⟨h1, h2⟩ := hid_some h
  rw [Ct.hd, hid_of h1, upd_ne (ne_of_none h2 hp)]
  exact h2
theorem hd_updIn {x : Addr} (hx : x ∈ C.Z ++ (L ++ Mo)) : C.hd L Mo (upd H x ho) = C.hd L Mo H := by
  funext a
  unfold Ct.hd hid
  by_cases h : a ∈ C.Z ++ (L ++ Mo)
  · rw [if_pos h, if_pos h]
  · rw [if_neg h, if_neg h]
    exact upd_ne fun e => h (e ▸ hx)
theorem X2.alloc (hp : H p = none) : X2 C L Mo H L Mo (upd H p ho) := ⟨.inr rfl, List.prefix_rfl, hd_upd hp⟩
theorem srcAt_upd {s : Option Src} (q : SrcAt H s L) (hn : p ∉ L) : SrcAt (upd H p ho) s L := by
  cases s with
  | none => exact q
  | some S =>
    obtain ⟨d, c, rfl, h1, h2⟩ := q
    refine ⟨d, c, rfl, ?_, ?_⟩
    · rw [upd_ne (fun e => hn (by simp [e]))]; exact h1
    · rw [upd_ne (fun e => hn (by simp [e]))]; exact h2
theorem B.alloc (b : B C m L Mo H) (hp : H p = none) : B C m L Mo (upd H p ho) := by
  have hf := b.fresh hp
  refine ⟨b.nd, srcAt_upd b.sr fun h => hf (by simp [h]), paired_impM b.ob fun o l hl q => q.mono (hd_upd hp) ?_, fun a u h1 h2 => ?_, b.nl, b.no, b.zt, b.l0⟩
  · exact upd_ne fun e => hf (by simp [← e, hl])
  · have := b.kp a u h1 h2
    rw [upd_ne (ne_of_none this hp)]; exact this
theorem hd_snoc (hp : H p = none) : Same (C.hd L Mo H) (C.hd L (Mo ++ [p]) (upd H p ho)) := fun a o h => by
  obtain ⟨h1, h2⟩ := hid_some h
  have ne : a ≠ p := ne_of_none h2 hp
  rw [Ct.hd, hid_of (fun z => h1 (by simp [ne] at z ⊢; exact z)), upd_ne ne]
  exact h2
theorem X2.allocO (hp : H p = none) : X2 C L Mo H L (Mo ++ [p]) (upd H p ho) := ⟨.inr rfl, List.prefix_append _ _, hd_snoc hp⟩
theorem B.allocO {o : MO} (b : B C m L Mo H) (hp : H p = none) (ok : ∀ h, Same (C.hd L Mo H) h → MOk C.K h (upd H p ho) o p) : B C ⟨m.s, m.o ++ [o]⟩ L (Mo ++ [p]) (upd H p ho) := by
  have hf := b.fresh hp
  have hs : Same (C.hd L Mo H) (C.hd L (Mo ++ [p]) (upd H p ho)) := hd_snoc hp
  refine ⟨?_, srcAt_upd b.sr fun h => hf (by simp [h]), paired_app (paired_impM b.ob fun o l hl q => q.mono hs ?_) (.cons (ok _ hs) .nil), fun a u h1 h2 => ?_, b.nl, fun x hx => ?_, b.zt, b.l0⟩
  · rw [← List.append_assoc, ← List.append_assoc]
    refine List.nodup_append.mpr ⟨by rw [List.append_assoc]; exact b.nd, by simp, fun x hx y hy e => ?_⟩
    have : y = p := by simpa using hy
    subst this; subst e
    exact hf (by rw [← List.append_assoc]; exact hx)
  · exact upd_ne fun e => hf (by simp [← e, hl])
  · have := b.kp a u h1 h2
    rw [upd_ne (ne_of_none this hp)]; exact this
  · rcases List.mem_append.mp hx with h | h
    · exact b.no x h
    · have : x = p := by simpa using h
      subst this
      exact ⟨b.fresh0 hp, b.freshL hp⟩
end
end QL

namespace QL
open PySem PySem.Spec PyProof.Rows L2

def AVR (C : Ct) (L Mo : List Addr) (H : Hp) : AV → V → Prop
  | .d x, v => Dq C.K (C.hd L Mo H) v x
  | .o j, v => ∃ l, Mo[j]? = some l ∧ v = .ref l
  | .src, v => ∃ d c, L = [d, c] ∧ v = .ref d
  | .cells, v => ∃ d c, L = [d, c] ∧ v = .ref c
  | .scr ns, v => ∃ a, v = .ref a ∧ SqL C.K (C.hd L Mo H) a (ns.map V.int)
  | .kt ks, v => ∃ a, v = .ref a ∧ C.hd L Mo H a = some (.tup (ks.map kV))
  | .dt kvs, v => ∃ a ys, v = .ref a ∧ C.hd L Mo H a = some (.dT ys) ∧ KQ C.K (C.hd L Mo H) ys kvs
  | .ty n, v => v = .ty n
  | .ad a, v => v = .ref a
abbrev AVRs (C : Ct) (L Mo : List Addr) (H : Hp) : List AV → List V → Prop := Paired (AVR C L Mo H)
section
variable {C : Ct} {m m' : Mm} {L Mo L' Mo' L2 Mo2 : List Addr} {H H' H2 : Hp} {av : AV} {v : V}
theorem AVR.mono (h : AVR C L Mo H av v) (x : X2 C L Mo H L' Mo' H') : AVR C L' Mo' H' av v := by
  cases av with
  | d y => exact Dq.mono x.sm _ _ h
  | o j =>
    obtain ⟨l, h1, rfl⟩ := h
    obtain ⟨t, rfl⟩ := x.po
    exact ⟨l, by rw [List.getElem?_append_left (List.getElem?_eq_some_iff.mp h1).1]; exact h1, rfl⟩
  | src =>
    obtain ⟨d, c, e, rfl⟩ := h
    rcases x.pl with z | z
    · rw [z] at e; cases e
    · exact ⟨d, c, z.trans e, rfl⟩
  | cells =>
    obtain ⟨d, c, e, rfl⟩ := h
    rcases x.pl with z | z
    · rw [z] at e; cases e
    · exact ⟨d, c, z.trans e, rfl⟩
  | scr ns =>
    obtain ⟨a, rfl, h⟩ := h
    exact ⟨a, rfl, x.sm.seq h⟩
  | kt ks =>
    obtain ⟨a, rfl, h⟩ := h
    exact ⟨a, rfl, x.sm _ _ h⟩
  | dt kvs =>
    obtain ⟨a, ys, rfl, h, h2⟩ := h
    exact ⟨a, ys, rfl, x.sm _ _ h, h2.mono x.sm⟩
  | ty n => exact h
  | ad a => exact h
theorem AVRs.mono {avs : List AV} {vs : List V} (h : AVRs C L Mo H avs vs) (x : X2 C L Mo H L' Mo' H') : AVRs C L' Mo' H' avs vs := Paired.mapP h fun _ _ q => q.mono x
end
structure R (C : Ct) (a : AS) (L Mo : List Addr) (σ : List (Option V)) (H : Hp) : Prop where
  b : B C a.m L Mo H
  ln : a.g.length = σ.length
  sl : ∀ (i : Nat) (av : AV), a.g[i]? = some (some av) → ∃ v, σ[i]? = some (some v) ∧ AVR C L Mo H av v
section
variable {C : Ct} {a : AS} {m' : Mm} {L Mo L' Mo' : List Addr} {σ : List (Option V)} {H H' : Hp} {av : AV} {v : V}
theorem R.next (r : R C a L Mo σ H) (b : B C m' L' Mo' H') (x : X2 C L Mo H L' Mo' H') : R C ⟨a.g, m'⟩ L' Mo' σ H' :=
  ⟨b, r.ln, fun i av h => let ⟨v, h1, h2⟩ := r.sl i av h; ⟨v, h1, h2.mono x⟩⟩
theorem R.set (r : R C a L Mo σ H) (i : Nat) (h : AVR C L Mo H av v) : R C ⟨a.g.set i (some av), a.m⟩ L Mo (σ.set i (some v)) H := by
  refine ⟨r.b, by simp [r.ln], fun j av' e => ?_⟩
  have e' : (a.g.set i (some av))[j]? = some (some av') := e
  by_cases hj : i = j
  · subst hj
    have hl : i < a.g.length := by
      have := (List.getElem?_eq_some_iff.mp e').1
      simpa using this
    rw [List.getElem?_set_self hl] at e'
    cases e'
    exact ⟨v, List.getElem?_set_self (by rw [← r.ln]; exact hl), h⟩
  · rw [List.getElem?_set_ne hj] at e'
    obtain ⟨w, h1, h2⟩ := r.sl j av' e'
    exact ⟨w, by rw [List.getElem?_set_ne hj]; exact h1, h2⟩
end
abbrev ATE := AS → (AV → Mm → Prop) → Prop
abbrev ATA := AS → (List AV → Mm → Prop) → Prop
abbrev ATT := AS → (Bool → Mm → Prop) → Prop
abbrev AR1 := AV → Mm → (AV → Mm → Prop) → Prop
abbrev AR2 := AV → AV → Mm → (AV → Mm → Prop) → Prop
/-- what follows a value -/
def Cont (C : Ct) (L Mo : List Addr) (H : Hp) (AQ : AV → Mm → Prop) (Q : VK) : Prop := ∀ av m' v L' Mo' H', AQ av m' → B C m' L' Mo' H' → AVR C L' Mo' H' av v → X2 C L Mo H L' Mo' H' → Q v H'
def lft (C : Ct) (t : ATE) : TE := fun σ H Q => ∃ a L Mo AQ, R C a L Mo σ H ∧ Cont C L Mo H AQ Q ∧ t a AQ
def ContA (C : Ct) (L Mo : List Addr) (H : Hp) (AQ : List AV → Mm → Prop) (Q : List V → Hp → Prop) : Prop := ∀ av m' v L' Mo' H', AQ av m' → B C m' L' Mo' H' → AVRs C L' Mo' H' av v → X2 C L Mo H L' Mo' H' → Q v H'
def lftA (C : Ct) (t : ATA) : TA := fun σ H Q => ∃ a L Mo AQ, R C a L Mo σ H ∧ ContA C L Mo H AQ Q ∧ t a AQ
def ContT (C : Ct) (L Mo : List Addr) (H : Hp) (AQ : Bool → Mm → Prop) (Q : Bool → Hp → Prop) : Prop := ∀ b m' L' Mo' H', AQ b m' → B C m' L' Mo' H' → X2 C L Mo H L' Mo' H' → Q b H'
def lftT (C : Ct) (t : ATT) : TT := fun σ H Q => ∃ a L Mo AQ, R C a L Mo σ H ∧ ContT C L Mo H AQ Q ∧ t a AQ

theorem PE.imp {X : Cx} {e : Expr} {t t' : TE} (h : PE X e t) (i : ∀ σ H Q, t' σ H Q → t σ H Q) : PE X e t' := ⟨fun pins s σ H Q I q => h.run pins s σ H Q I (i σ H Q q)⟩
theorem PA.imp {X : Cx} {e : List Expr} {t t' : TA} (h : PA X e t) (i : ∀ σ H Q, t' σ H Q → t σ H Q) : PA X e t' := ⟨fun pos pins s σ H Q I q => h.run pos pins s σ H Q I (i σ H Q q)⟩
theorem PT.imp {X : Cx} {e : Expr} {t t' : TT} (h : PT X e t) (i : ∀ σ H Q, t' σ H Q → t σ H Q) : PT X e t' := ⟨fun pins s σ H Q I q => h.run pins s σ H Q I (i σ H Q q)⟩
theorem PW.imp {X : Cx} {e : Expr} {t t' : TT} (h : PW X e t) (i : ∀ σ H Q, t' σ H Q → t σ H Q) : PW X e t' := ⟨fun wh pins s σ H Q I q => h.run wh pins s σ H Q I (i σ H Q q)⟩

def QE (X : Cx) (e : Expr) (t : ATE) : Prop := ∀ C : Ct, C.K = X.K → PE X e (lft C t)
def QA (X : Cx) (e : List Expr) (t : ATA) : Prop := ∀ C : Ct, C.K = X.K → PA X e (lftA C t)
def QT (X : Cx) (e : Expr) (t : ATT) : Prop := ∀ C : Ct, C.K = X.K → PT X e (lftT C t)
def QW (X : Cx) (e : Expr) (t : ATT) : Prop := ∀ C : Ct, C.K = X.K → PW X e (lftT C t)
section
variable {C : Ct} {m : Mm} {L Mo L' Mo' : List Addr} {H H' : Hp} {AQ : AV → Mm → Prop} {Q : VK} {av : AV} {v : V}
theorem Cont.ret (k : Cont C L Mo H AQ Q) (h : AQ av m) (b : B C m L Mo H) (r : AVR C L Mo H av v) : Q v H := k _ _ _ _ _ _ h b r X2.refl
theorem Cont.aft (k : Cont C L Mo H AQ Q) (x : X2 C L Mo H L' Mo' H') : Cont C L' Mo' H' AQ Q := fun av m' v L2 Mo2 H2 h b r y => k av m' v L2 Mo2 H2 h b r (x.trans y)
theorem hd_new {p : Addr} {o : HO} (b : B C m L Mo H) (hp : H p = none) : C.hd L Mo (upd H p o) p = some o := by
  rw [Ct.hd, hid_of (b.fresh hp)]; exact upd_same
theorem Cont.tup {p : Addr} {xs : List V} {ds : List D} (k : Cont C L Mo H AQ Q) (b : B C m L Mo H) (hp : H p = none) (r : DqAll C.K (C.hd L Mo H) xs ds) (h : AQ (.d (.tuple ds)) m) : Q (.ref p) (upd H p (.tup xs)) :=
  k _ _ _ _ _ _ h (b.alloc hp) (Dq.tup (SqT.of (hd_new b hp)) (DqAll.mono (hd_upd hp) _ _ r)) (X2.alloc hp)
theorem Cont.lst {p : Addr} {xs : List V} {ds : List D} (k : Cont C L Mo H AQ Q) (b : B C m L Mo H) (hp : H p = none) (r : DqAll C.K (C.hd L Mo H) xs ds) (h : AQ (.d (.list ds)) m) : Q (.ref p) (upd H p (.lst xs)) :=
  k _ _ _ _ _ _ h (b.alloc hp) (Dq.lst (hd_new b hp) (DqAll.mono (hd_upd hp) _ _ r)) (X2.alloc hp)
/-- a new list as a local object -/
theorem Cont.lstM {p : Addr} {xs : List V} {ds : List D} (k : Cont C L Mo H AQ Q) (b : B C m L Mo H) (hp : H p = none) (r : DqAll C.K (C.hd L Mo H) xs ds) (h : AQ (.o m.o.length) ⟨m.s, m.o ++ [.l ds]⟩) : Q (.ref p) (upd H p (.lst xs)) :=
  k _ _ _ _ _ _ h (b.allocO (o := .l ds) hp fun h' e => ⟨xs, upd_same, DqAll.mono e _ _ r⟩) ⟨p, by rw [Paired.length b.ob]; simp, rfl⟩ (X2.allocO hp)
end

/-! ### names, constants -/
def slotA : List (Option AV) → Nat → Option AV
  | [], _ => none
  | o :: _, 0 => o
  | _ :: r, i + 1 => slotA r i
def aVar (i : Nat) : ATE := fun a Q => match slotA a.g i with
  | some av => Q av a.m
  | none => False
def aC (x : D) : ATE := fun a Q => Q (.d x) a.m
theorem slotA_get : ∀ {g : List (Option AV)} {i : Nat} {av : AV}, slotA g i = some av → g[i]? = some (some av)
  | [], _, _, h => by simp [slotA] at h
  | o :: _, 0, _, h => by simp [slotA] at h; simp [h]
  | _ :: r, i + 1, _, h => by
    simp only [slotA] at h
    simpa using slotA_get (g := r) (i := i) h
section
variable {X : Cx} {C : Ct} {e a b c : Expr} {ta tb tc : ATE} {pos : Pos}
theorem q_var {i : Nat} {x : Str} (hN : X.N[i]? = some x) (hv : Vis X.env.scope x) (hd : (x == ("__debug__" : Str)) = false := by decide) (hcd : (x == ("__classdict__" : Str)) = false := by decide) : QE X (.Name x pos) (aVar i) := fun C hK =>
  PE.imp (pe_var hN hv hd hcd) fun σ H Q ⟨a, L, Mo, AQ, r, k, h⟩ => by
    unfold aVar at h
    split at h
    · rename_i av e
      obtain ⟨v, h1, h2⟩ := r.sl i av (slotA_get e)
      exact ⟨v, h1, k.ret h r.b h2⟩
    · exact h.elim
theorem q_of {v : V} {x : D} (h : PE X e (tC v)) (hd : ∀ H, Dq X.K H v x) : QE X e (aC x) := fun C hK =>
  PE.imp h fun σ H Q ⟨a, L, Mo, AQ, r, k, h⟩ => k.ret h r.b (by rw [AVR, hK]; exact hd _)
theorem q_int {i j} : QE X (.Constant (.int i) j pos) (aC (.int i)) := q_of pe_int fun _ => .int i
theorem q_bl {i j} : QE X (.Constant (.bool i) j pos) (aC (.bool i)) := q_of pe_bl fun _ => .bl i
theorem q_non {j} : QE X (.Constant .none j pos) (aC .none) := q_of pe_non fun _ => .non
theorem q_str {i j} : QE X (.Constant (.str i) j pos) (aC (.str i)) := q_of pe_str fun _ => .str i
/-- a module's constant -/
theorem q_glob {x : Str} {v : V} {u : Value} {d : D} (hg : Gl X x) (hm : X.mg x = some u) (r : RelV v u) (hd : ∀ H, Dq X.K H v d) (hdb : (x == ("__debug__" : Str)) = false := by decide) : QE X (.Name x pos) (aC d) := q_of (pe_glob hg hm r hdb) hd

/-! ### operators -/
def aBin (r : AR2) (ta tb : ATE) : ATE := fun a Q => ta a fun x m1 => tb ⟨a.g, m1⟩ fun y m2 => r x y m2 Q
def OpQ (X : Cx) (f : Value → Value → Sem Value) (r : AR2) : Prop := ∃ r2, OpR X f r2 ∧ ∀ (C : Ct) L Mo H m x y v w Q AQ, C.K = X.K → B C m L Mo H → AVR C L Mo H x v → AVR C L Mo H y w → Cont C L Mo H AQ Q → r x y m AQ → r2 v w H Q
theorem bin_imp {r : AR2} {r2 : R2} (hK : C.K = X.K) (ho : ∀ (C : Ct) L Mo H m x y v w Q AQ, C.K = X.K → B C m L Mo H → AVR C L Mo H x v → AVR C L Mo H y w → Cont C L Mo H AQ Q → r x y m AQ → r2 v w H Q) (σ : List (Option V)) (H : Hp) (Q : VK)
    (h : lft C (aBin r ta tb) σ H Q) : tOp r2 (lft C ta) (lft C tb) σ H Q := by
  obtain ⟨a, L, Mo, AQ, rr, k, h⟩ := h
  exact ⟨a, L, Mo, _, rr, fun x m1 v L1 Mo1 H1 h1 b1 v1 e1 => ⟨⟨a.g, m1⟩, L1, Mo1, _, rr.next b1 e1, fun y m2 w L2 Mo2 H2 h2 b2 w2 e2 => ho C L2 Mo2 H2 m2 x y v w Q AQ hK b2 (v1.mono e2) w2 (k.aft (e1.trans e2)) h2, h1⟩, h⟩
theorem q_op {op : Operator} {r : AR2} (o : OpQ X (binaryOp op) r) (ha : QE X a ta) (hb : QE X b tb) : QE X (.BinOp a op b pos) (aBin r ta tb) := fun C hK => by
  obtain ⟨r2, ho, hi⟩ := o
  exact PE.imp (pe_op ho (ha C hK) (hb C hK)) (bin_imp hK hi)
theorem q_cmp {op : CmpOp} {r : AR2} (o : OpQ X (compareOp op) r) (ha : QE X a ta) (hb : QE X b tb) (hm : behindInMarks op b = false) : QE X (.Compare a [op] [b] pos) (aBin r ta tb) := fun C hK => by
  obtain ⟨r2, ho, hi⟩ := o
  exact PE.imp (pe_cmpR ho (ha C hK) (hb C hK) hm) (bin_imp hK hi)
/-- tests -/
def isB : AV → Option Bool
  | .d (.bool b) => some b
  | _ => none
def aTest (t : ATE) : ATT := fun a Q => t a fun x m => match isB x with
  | some b => Q b m
  | none => False
theorem isB_rel {L Mo : List Addr} {H : Hp} {x : AV} {v : V} {b : Bool} (h : isB x = some b) (r : AVR C L Mo H x v) : v = .bl b := by
  cases x with
  | d y =>
    cases y <;> simp [isB] at h
    subst h
    cases r; rfl
  | o j => simp [isB] at h
  | src => simp [isB] at h
  | cells => simp [isB] at h
  | scr ns => simp [isB] at h
  | kt ks => simp [isB] at h
  | dt ks => simp [isB] at h
  | ty ks => simp [isB] at h
  | ad ks => simp [isB] at h
theorem test_imp (σ : List (Option V)) (H : Hp) (Q : Bool → Hp → Prop) (h : lftT C (aTest ta) σ H Q) : tTest (lft C ta) σ H Q := by
  obtain ⟨a, L, Mo, AQ, rr, k, h⟩ := h
  refine ⟨a, L, Mo, _, rr, fun x m1 v L1 Mo1 H1 h1 b1 v1 e1 => ?_, h⟩
  have h1' : (match isB x with | some b => AQ b m1 | none => False) := h1
  split at h1'
  · rename_i b e
    exact ⟨b, isB_rel e v1, k _ _ _ _ _ h1' b1 e1⟩
  · exact h1'.elim
theorem qt_cmp {op : CmpOp} {r : AR2} (o : OpQ X (compareOp op) r) (ha : QE X a ta) (hb : QE X b tb) (hm : behindInMarks op b = false) : QT X (.Compare a [op] [b] pos) (aTest (aBin r ta tb)) := fun C hK => by
  obtain ⟨r2, ho, hi⟩ := o
  refine PT.imp (pt_cmpR ho (ha C hK) (hb C hK) hm) fun σ H Q h => ?_
  obtain ⟨a, L, Mo, AQ, rr, k, h⟩ := test_imp σ H Q h
  exact bin_imp hK hi σ H _ ⟨a, L, Mo, AQ, rr, k, h⟩
/-- a op1 b op2 c -/
def aChain (r r' : AR2) (ta tb tc : ATE) : ATE := fun a Q => ta a fun x m1 => tb ⟨a.g, m1⟩ fun y m2 => r x y m2 fun z m3 => match isB z with
  | some k => if k = true then tc ⟨a.g, m3⟩ fun w m4 => r' y w m4 Q else Q (.d (.bool false)) m3
  | none => False
theorem chain_imp {r r' : AR2} {r2 r2' : R2} (hK : C.K = X.K) (ho : ∀ (C : Ct) L Mo H m x y v w Q AQ, C.K = X.K → B C m L Mo H → AVR C L Mo H x v → AVR C L Mo H y w → Cont C L Mo H AQ Q → r x y m AQ → r2 v w H Q)
    (ho' : ∀ (C : Ct) L Mo H m x y v w Q AQ, C.K = X.K → B C m L Mo H → AVR C L Mo H x v → AVR C L Mo H y w → Cont C L Mo H AQ Q → r' x y m AQ → r2' v w H Q) (σ : List (Option V)) (H : Hp) (Q : VK)
    (h : lft C (aChain r r' ta tb tc) σ H Q) : tChain r2 r2' (lft C ta) (lft C tb) (lft C tc) σ H Q := by
  obtain ⟨a, L, Mo, AQ, rr, k, h⟩ := h
  refine ⟨a, L, Mo, _, rr, fun x m1 v L1 Mo1 H1 h1 b1 v1 e1 => ⟨⟨a.g, m1⟩, L1, Mo1, _, rr.next b1 e1, fun y m2 w L2 Mo2 H2 h2 b2 w2 e2 => ?_, h1⟩, h⟩
  refine ho C L2 Mo2 H2 m2 x y v w _ _ hK b2 (v1.mono e2) w2 (fun z m3 vz L3 Mo3 H3 h3 b3 v3 e3 => ?_) h2
  have h3' : (match isB z with | some k => if k = true then tc ⟨a.g, m3⟩ fun w m4 => r' y w m4 AQ else AQ (.d (.bool false)) m3 | none => False) := h3
  split at h3'
  · rename_i kk ek
    refine ⟨kk, isB_rel ek v3, ?_⟩
    cases kk with
    | true =>
      rw [if_pos rfl] at h3' ⊢
      exact ⟨⟨a.g, m3⟩, L3, Mo3, _, (rr.next b1 e1).next b3 (e2.trans e3), fun u m4 vu L4 Mo4 H4 h4 b4 v4 e4 => ho' C L4 Mo4 H4 m4 y u w vu Q AQ hK b4 (w2.mono (e3.trans e4)) v4 (k.aft (e1.trans (e2.trans (e3.trans e4)))) h4, h3'⟩
    | false =>
      rw [if_neg Bool.false_ne_true] at h3' ⊢
      exact (k.aft (e1.trans (e2.trans e3))).ret h3' b3 (.bl false)
  · exact h3'.elim
theorem q_chain {op op' : CmpOp} {r r' : AR2} (o : OpQ X (compareOp op) r) (o' : OpQ X (compareOp op') r') (ha : QE X a ta) (hb : QE X b tb) (hc : QE X c tc) (hm : lastMarks [op, op'] [b, c] = false) :
    QE X (.Compare a [op, op'] [b, c] pos) (aChain r r' ta tb tc) := fun C hK => by
  obtain ⟨r2, ho, hi⟩ := o
  obtain ⟨r3, ho', hi'⟩ := o'
  exact PE.imp (pe_chain ho ho' (ha C hK) (hb C hK) (hc C hK) hm) (chain_imp hK hi hi')
theorem qt_chain {op op' : CmpOp} {r r' : AR2} (o : OpQ X (compareOp op) r) (o' : OpQ X (compareOp op') r') (ha : QE X a ta) (hb : QE X b tb) (hc : QE X c tc) (hm : lastMarks [op, op'] [b, c] = false) :
    QT X (.Compare a [op, op'] [b, c] pos) (aTest (aChain r r' ta tb tc)) := fun C hK => by
  obtain ⟨r2, ho, hi⟩ := o
  obtain ⟨r3, ho', hi'⟩ := o'
  refine PT.imp (pt_chain ho ho' (ha C hK) (hb C hK) (hc C hK) hm) fun σ H Q h => ?_
  obtain ⟨a, L, Mo, AQ, rr, k, h⟩ := test_imp σ H Q h
  exact chain_imp hK hi hi' σ H _ ⟨a, L, Mo, AQ, rr, k, h⟩
end
end QL

namespace QL
open PySem PySem.Spec PyProof.Rows L2

/-! ### what an abstract value holds -/
def lstA (m : Mm) : AV → Option (List D)
  | .d (.list ds) => some ds
  | .o j => match m.o[j]? with
    | some (.l ds) => some ds
    | _ => none
  | .cells => match m.s with
    | some S => some (S.cells.map PyData.int)
    | none => none
  | _ => none
def tupA : AV → Option (List D)
  | .d (.tuple ds) => some ds
  | _ => none
def seqA (m : Mm) (x : AV) : Option (List D) := match tupA x with
  | some ds => some ds
  | none => lstA m x
section
variable {C : Ct} {m : Mm} {L Mo : List Addr} {H : Hp} {x : AV} {v : V} {ds : List D}
theorem dq_hid (h : DqAll C.K (C.hd L Mo H) [] []) : True := trivial
theorem lstA_ok (b : B C m L Mo H) (r : AVR C L Mo H x v) (h : lstA m x = some ds) : ∃ l xs, v = .ref l ∧ H l = some (.lst xs) ∧ DqAll C.K (C.hd L Mo H) xs ds := by
  cases x with
  | d y =>
    cases y <;> simp [lstA] at h
    subst h
    cases r with
    | lst h1 h2 => exact ⟨_, _, rfl, (hid_some h1).2, h2⟩
  | o j =>
    simp only [lstA] at h
    split at h
    · rename_i ds' e
      cases h
      obtain ⟨l, h1, rfl⟩ := r
      obtain ⟨l', h2, xs, h3, h4⟩ := paired_at b.ob e
      rw [h1] at h2; cases h2
      exact ⟨l, xs, rfl, h3, h4⟩
    · cases h
  | src => simp [lstA] at h
  | scr ns => simp [lstA] at h
  | kt ns => simp [lstA] at h
  | dt ns => simp [lstA] at h
  | ty ns => simp [lstA] at h
  | ad ns => simp [lstA] at h
  | cells =>
    simp only [lstA] at h
    split at h
    · rename_i S e
      cases h
      obtain ⟨d, c, h1, rfl⟩ := r
      have q := b.sr
      rw [e] at q
      obtain ⟨d', c', h2, h3, h4⟩ := q
      rw [h1] at h2; cases h2
      exact ⟨c, _, rfl, h4, DqAll.ofInts _⟩
    · cases h
theorem tupA_ok (r : AVR C L Mo H x v) (h : tupA x = some ds) : ∃ l xs, v = .ref l ∧ SqT C.K H l xs ∧ DqAll C.K (C.hd L Mo H) xs ds := by
  cases x with
  | d y =>
    cases y <;> simp [tupA] at h
    subst h
    cases r with
    | tup h1 h2 => exact ⟨_, _, rfl, same_tup hid_same h1, h2⟩
  | o j => simp [tupA] at h
  | src => simp [tupA] at h
  | cells => simp [tupA] at h
  | scr ns => simp [tupA] at h
  | kt ns => simp [tupA] at h
  | dt ns => simp [tupA] at h
  | ty ns => simp [tupA] at h
  | ad ns => simp [tupA] at h
theorem seqA_ok (b : B C m L Mo H) (r : AVR C L Mo H x v) (h : seqA m x = some ds) : ∃ l xs, v = .ref l ∧ (SqL C.K H l xs ∨ SqT C.K H l xs) ∧ DqAll C.K (C.hd L Mo H) xs ds := by
  unfold seqA at h
  split at h
  · rename_i ds' e
    cases h
    obtain ⟨l, xs, h1, h2, h3⟩ := tupA_ok r e
    exact ⟨l, xs, h1, .inr h2, h3⟩
  · obtain ⟨l, xs, h1, h2, h3⟩ := lstA_ok b r h
    exact ⟨l, xs, h1, .inl (SqL.of h2), h3⟩
end
theorem dq_int {K : PySem.W.Frag} {H : Hp} {v : V} {i : Int} (h : Dq K H v (.int i)) : v = .int i := by cases h; rfl
theorem dq_str {K : PySem.W.Frag} {H : Hp} {v : V} {i : Str} (h : Dq K H v (.str i)) : v = .str i := by cases h; rfl
theorem dq_bl {K : PySem.W.Frag} {H : Hp} {v : V} {i : Bool} (h : Dq K H v (.bool i)) : v = .bl i := by cases h; rfl

/-! ### operators -/
def intsR (c : Int → Int → Prop) (g : Int → Int → D) : AR2 := fun x y m Q => match x, y with
  | .d (.int i), .d (.int j) => c i j ∧ Q (.d (g i j)) m
  | _, _ => False
def intsR0 (g : Int → Int → D) : AR2 := fun x y m Q => match x, y with
  | .d (.int i), .d (.int j) => Q (.d (g i j)) m
  | _, _ => False
section
variable {X : Cx}
theorem opq_ints {f : Value → Value → Sem Value} {c : Int → Int → Prop} {g : Int → Int → V} {g' : Int → Int → D} (h : OpR X f (rI c g)) (hg : ∀ i j K H, Dq K H (g i j) (g' i j)) : OpQ X f (intsR c g') := by
  refine ⟨_, h, fun C L Mo H m x y v w Q AQ hK b r1 r2 k hh => ?_⟩
  unfold intsR at hh
  split at hh
  · exact ⟨_, _, dq_int r1, dq_int r2, hh.1, k.ret hh.2 b (hg _ _ _ _)⟩
  · exact hh.elim
theorem opq_ints0 {f : Value → Value → Sem Value} {g : Int → Int → V} {g' : Int → Int → D} (h : OpR X f (rI0 g)) (hg : ∀ i j K H, Dq K H (g i j) (g' i j)) : OpQ X f (intsR0 g') := by
  refine ⟨_, h, fun C L Mo H m x y v w Q AQ hK b r1 r2 k hh => ?_⟩
  unfold intsR0 at hh
  split at hh
  · exact ⟨_, _, dq_int r1, dq_int r2, k.ret hh b (hg _ _ _ _)⟩
  · exact hh.elim
def aSub : AR2 := intsR0 fun i j => .int (i - j)
theorem oq_sub : OpQ X (binaryOp .Sub) aSub := opq_ints0 op_sub fun _ _ _ _ => .int _
def aMod : AR2 := intsR (fun _ j => 0 < j) fun i j => .int (i % j)
theorem oq_mod : OpQ X (binaryOp .Mod) aMod := opq_ints op_mod fun _ _ _ _ => .int _
def DivOk (i j : Int) : Prop := CDiv i j ∨ CDivW i j
theorem rI_or {f : Value → Value → Sem Value} {c c' : Int → Int → Prop} {g : Int → Int → V} (h : OpR X f (rI c g)) (h' : OpR X f (rI c' g)) : OpR X f (rI (fun i j => c i j ∨ c' i j) g) := by
  intro pins s σ H x y v u Q I rx ry ⟨i, j, e1, e2, hc, q⟩
  rcases hc with hc | hc
  · exact h pins s σ H x y v u Q I rx ry ⟨i, j, e1, e2, hc, q⟩
  · exact h' pins s σ H x y v u Q I rx ry ⟨i, j, e1, e2, hc, q⟩
def aFdiv : AR2 := intsR DivOk fun i j => .int (i / j)
theorem oq_fdiv : OpQ X (binaryOp .FloorDiv) aFdiv := opq_ints (rI_or op_fdiv op_fdivW) fun _ _ _ _ => .int _
def aPow : AR2 := intsR CPow fun i j => .int (i ^ j.toNat)
theorem oq_pow : OpQ X (binaryOp .Pow) aPow := opq_ints op_pow fun _ _ _ _ => .int _
def aLt : AR2 := intsR0 fun i j => .bool (decide (i < j))
def aLe : AR2 := intsR0 fun i j => .bool (decide (i ≤ j))
def aGt : AR2 := intsR0 fun i j => .bool (decide (j < i))
def aGe : AR2 := intsR0 fun i j => .bool (decide (j ≤ i))
theorem oq_lt : OpQ X (compareOp .Lt) aLt := opq_ints0 op_lt fun _ _ _ _ => .bl _
theorem oq_le : OpQ X (compareOp .LtE) aLe := opq_ints0 op_le fun _ _ _ _ => .bl _
theorem oq_gt : OpQ X (compareOp .Gt) aGt := opq_ints0 op_gt fun _ _ _ _ => .bl _
theorem oq_ge : OpQ X (compareOp .GtE) aGe := opq_ints0 op_ge fun _ _ _ _ => .bl _
/-- == of data (a local list as its items) -/
def datA (m : Mm) : AV → Option D
  | .d x => some x
  | .o j => match m.o[j]? with
    | some (.l ds) => some (.list ds)
    | _ => none
  | .kt ks => some (.tuple (ks.map kD))
  | _ => none
theorem DqAll.keys {K : PySem.W.Frag} {H : Hp} : ∀ ks : List Key, DqAll K H (ks.map kV) (ks.map kD)
  | [] => .nil
  | .inl i :: r => .cons (.int i) (DqAll.keys r)
  | .inr x :: r => .cons (.str x) (DqAll.keys r)
theorem datA_ok {C : Ct} {m : Mm} {L Mo : List Addr} {H : Hp} {x : AV} {v : V} {d : D} (b : B C m L Mo H) (r : AVR C L Mo H x v) (h : datA m x = some d) : Dq C.K H v d := by
  cases x with
  | d y => simp [datA] at h; subst h; exact Dq.mono hid_same _ _ r
  | o j =>
    simp only [datA] at h
    split at h
    · rename_i ds' e
      cases h
      obtain ⟨l, xs, rfl, h1, h2⟩ := lstA_ok (ds := ds') b r (by simp [lstA, e])
      exact .lst h1 (DqAll.mono hid_same _ _ h2)
    · cases h
  | src => simp [datA] at h
  | cells => simp [datA] at h
  | scr ns => simp [datA] at h
  | kt ns =>
    simp [datA] at h
    subst h
    obtain ⟨a, rfl, q⟩ := r
    exact .tup (.inl (.inl (hid_some q).2)) (DqAll.keys ns)
  | dt ns => simp [datA] at h
  | ty ns => simp [datA] at h
  | ad ns => simp [datA] at h
def aEq : AR2 := fun x y m Q => match datA m x, datA m y with
  | some (.int i), some (.int j) => Q (.d (.bool (decide (i = j)))) m
  | some (.str i), some (.str j) => Q (.d (.bool (decide (i = j)))) m
  | some d, some e => SeqAt.shaped d = true ∧ SeqAt.shaped e = true ∧ Q (.d (.bool (PyData.eqv d e))) m
  | _, _ => False
def aNe : AR2 := fun x y m Q => match datA m x, datA m y with
  | some (.int i), some (.int j) => Q (.d (.bool (!decide (i = j)))) m
  | some (.str i), some (.str j) => Q (.d (.bool (!decide (i = j)))) m
  | some d, some e => SeqAt.shaped d = true ∧ SeqAt.shaped e = true ∧ Q (.d (.bool (!PyData.eqv d e))) m
  | _, _ => False
theorem dec_i {i j : Int} : decide (V.int i = V.int j) = decide (i = j) := by by_cases h : i = j <;> simp [h]
theorem dec_s {i j : Str} : decide (V.str i = V.str j) = decide (i = j) := by by_cases h : i = j <;> simp [h]
theorem oq_eq (hu : X.A.units + 64 < cLine) : OpQ X (compareOp .Eq) aEq := by
  refine ⟨_, OpR.or op_eq (op_eqD hu), fun C L Mo H m x y v w Q AQ hK b r1 r2 k hh => ?_⟩
  unfold aEq at hh
  split at hh
  · rename_i i j e1 e2
    have q1 := dq_int (datA_ok b r1 e1); have q2 := dq_int (datA_ok b r2 e2)
    subst q1; subst q2
    exact .inl ⟨rfl, by rw [dec_i]; exact k.ret hh b (.bl _)⟩
  · rename_i i j e1 e2
    have q1 := dq_str (datA_ok b r1 e1); have q2 := dq_str (datA_ok b r2 e2)
    subst q1; subst q2
    exact .inl ⟨rfl, by rw [dec_s]; exact k.ret hh b (.bl _)⟩
  · rename_i d e _ _ e1 e2
    exact .inr ⟨d, e, Dq.toDp _ _ (shaped_noDict hh.1) (hK ▸ datA_ok b r1 e1), Dq.toDp _ _ (shaped_noDict hh.2.1) (hK ▸ datA_ok b r2 e2), hh.1, hh.2.1, k.ret hh.2.2 b (.bl _)⟩
  · exact hh.elim
theorem oq_ne (hu : X.A.units + 64 < cLine) : OpQ X (compareOp .NotEq) aNe := by
  refine ⟨_, OpR.or op_ne (op_neD hu), fun C L Mo H m x y v w Q AQ hK b r1 r2 k hh => ?_⟩
  unfold aNe at hh
  split at hh
  · rename_i i j e1 e2
    have q1 := dq_int (datA_ok b r1 e1); have q2 := dq_int (datA_ok b r2 e2)
    subst q1; subst q2
    exact .inl ⟨rfl, by rw [dec_i]; exact k.ret hh b (.bl _)⟩
  · rename_i i j e1 e2
    have q1 := dq_str (datA_ok b r1 e1); have q2 := dq_str (datA_ok b r2 e2)
    subst q1; subst q2
    exact .inl ⟨rfl, by rw [dec_s]; exact k.ret hh b (.bl _)⟩
  · rename_i d e _ _ e1 e2
    exact .inr ⟨d, e, Dq.toDp _ _ (shaped_noDict hh.1) (hK ▸ datA_ok b r1 e1), Dq.toDp _ _ (shaped_noDict hh.2.1) (hK ▸ datA_ok b r2 e2), hh.1, hh.2.1, k.ret hh.2.2 b (.bl _)⟩
  · exact hh.elim
/-- + -/
def aAdd : AR2 := fun x y m Q => match x, y with
  | .d (.int i), .d (.int j) => Q (.d (.int (i + j))) m
  | .d (.str i), .d (.str j) => i.length + j.length ≤ sizeLine ∧ Q (.d (.str (i ++ j))) m
  | .d (.tuple xs), .d (.tuple ys) => xs.length + ys.length ≤ sizeLine ∧ Q (.d (.tuple (xs ++ ys))) m
  | x, y => match lstA m x, lstA m y with
    | some xs, some ys => xs.length + ys.length ≤ sizeLine ∧ Q (.d (.list (xs ++ ys))) m
    | _, _ => False
theorem nil_of_len {xs : List V} {ds : List D} (h : xs.length = ds.length) (e : xs = []) : ds = [] := by subst e; exact List.length_eq_zero_iff.mp h.symm
theorem oq_add : OpQ X (binaryOp .Add) aAdd := by
  refine ⟨_, OpR.or op_add (OpR.or op_add_str (OpR.or op_catA op_cat)), fun C L Mo H m x y v w Q AQ hK b r1 r2 k hh => ?_⟩
  unfold aAdd at hh
  split at hh
  · exact .inl ⟨_, _, dq_int r1, dq_int r2, k.ret hh b (.int _)⟩
  · exact .inr (.inl ⟨_, _, dq_str r1, dq_str r2, hh.1, k.ret hh.2 b (.str _)⟩)
  · rename_i xs ys
    obtain ⟨l1, vs, rfl, h1, h2⟩ := tupA_ok (ds := xs) r1 rfl
    obtain ⟨l2, ws, rfl, h3, h4⟩ := tupA_ok (ds := ys) r2 rfl
    refine .inr (.inr (.inl ⟨l1, l2, vs, ws, rfl, rfl, hK ▸ h1, hK ▸ h3, by rw [h2.len, h4.len]; exact hh.1, fun e => ?_, fun _ e => ?_, fun _ _ p hp => k.tup b hp (h2.app h4) hh.2⟩))
    · have e' := nil_of_len h2.len e
      subst e'
      exact k.ret (by simpa using hh.2) b r2
    · have e' := nil_of_len h4.len e
      subst e'
      exact k.ret (by simpa using hh.2) b r1
  · split at hh
    · rename_i xs ys e1 e2
      obtain ⟨l1, vs, rfl, h1, h2⟩ := lstA_ok b r1 e1
      obtain ⟨l2, ws, rfl, h3, h4⟩ := lstA_ok b r2 e2
      exact .inr (.inr (.inr ⟨l1, l2, vs, ws, rfl, rfl, h1, h3, by rw [h2.len, h4.len]; exact hh.1, fun p hp => k.lst b hp (h2.app h4) hh.2⟩))
    · exact hh.elim
/-- * -/
def MulOk (i j : Int) : Prop := CMul i j ∨ CMulW i j
def aMul : AR2 := intsR MulOk fun i j => .int (i * j)
theorem oq_mul : OpQ X (binaryOp .Mult) aMul := opq_ints (rI_or op_mul op_mulW) fun _ _ _ _ => .int _
/-- a list or tuple of data at a place -/
def atD (ds : List D) (i : Int) : Option D := if 0 ≤ i then ds[i.toNat]? else if -(ds.length : Int) ≤ i then ds[(i + ds.length).toNat]? else none
theorem atD_at {K : PySem.W.Frag} {H : Hp} {ds : List D} {xs : List V} {i : Int} {d : D} (h : DqAll K H xs ds) (e : atD ds i = some d) : ∃ v, atI xs i = some v ∧ Dq K H v d := by
  unfold atD at e
  have hl := h.len
  unfold atI ixN
  by_cases h0 : 0 ≤ i
  · rw [if_pos h0] at e ⊢
    obtain ⟨v, h1, h2⟩ := h.at e
    have hlt : i.toNat < ds.length := (List.getElem?_eq_some_iff.mp e).1
    rw [if_pos (by omega)]
    exact ⟨v, by simpa using h1, h2⟩
  · rw [if_neg h0] at e ⊢
    split at e
    · rename_i h1
      obtain ⟨v, h2, h3⟩ := h.at e
      rw [if_pos (by omega)]
      exact ⟨v, by simpa [hl] using h2, h3⟩
    · cases e
def aIx : AR2 := fun x y m Q => match y with
  | .d (.int i) => match seqA m x with
    | some ds => match atD ds i with
      | some d => Q (.d d) m
      | none => False
    | none => False
  | _ => False
def IxQ (X : Cx) (r : AR2) : Prop := ∃ r2, IxR X r2 ∧ ∀ (C : Ct) L Mo H m x y v w Q AQ, C.K = X.K → B C m L Mo H → AVR C L Mo H x v → AVR C L Mo H y w → Cont C L Mo H AQ Q → r x y m AQ → r2 v w H Q
theorem iq_seq : IxQ X aIx := by
  refine ⟨_, ix_seq, fun C L Mo H m x y v w Q AQ hK b r1 r2 k hh => ?_⟩
  unfold aIx at hh
  split at hh
  · split at hh
    · rename_i ds e
      split at hh
      · rename_i d e2
        obtain ⟨l, xs, rfl, h1, h2⟩ := seqA_ok b r1 e
        obtain ⟨u, h3, h4⟩ := atD_at h2 e2
        rcases h1 with h1 | h1
        · exact .inl ⟨_, _, _, _, rfl, dq_int r2, hK ▸ h1, h3, k.ret hh b h4⟩
        · exact .inr (.inl ⟨_, _, _, _, rfl, dq_int r2, hK ▸ h1, h3, k.ret hh b h4⟩)
      · exact hh.elim
    · exact hh.elim
  · exact hh.elim
variable {C : Ct} {e a b c : Expr} {ta tb tc : ATE} {pos : Pos}
theorem q_ix {r : AR2} (o : IxQ X r) (ha : QE X a ta) (hb : QE X b tb) (hs : PlainIx b) : QE X (.Subscript a b pos) (aBin r ta tb) := fun C hK => by
  obtain ⟨r2, ho, hi⟩ := o
  exact PE.imp (pe_ix ho (ha C hK) (hb C hK) hs) (bin_imp hK hi)

/-! ### unary, tests -/
def aUn (r : AR1) (ta : ATE) : ATE := fun a Q => ta a fun x m1 => r x m1 Q
def aNeg : AR1 := fun x m Q => match x with
  | .d (.int i) => Q (.d (.int (-i))) m
  | _ => False
theorem q_neg (ha : QE X a ta) : QE X (.UnaryOp .USub a pos) (aUn aNeg ta) := fun C hK => PE.imp (pe_un un_neg (ha C hK)) fun σ H Q ⟨a, L, Mo, AQ, r, k, h⟩ => by
  refine ⟨a, L, Mo, _, r, fun x m1 v L1 Mo1 H1 h1 b1 v1 e1 => ?_, h⟩
  unfold aNeg at h1
  split at h1
  · exact ⟨_, dq_int v1, (k.aft e1).ret h1 b1 (.int _)⟩
  · exact h1.elim
def aNot (t : ATT) : ATT := fun a Q => t a fun b m => Q (!b) m
theorem qt_not {t : ATT} (h : QT X a t) : QT X (.UnaryOp .Not a pos) (aNot t) := fun C hK => PT.imp (pt_not (h C hK)) fun σ H Q ⟨a, L, Mo, AQ, r, k, h⟩ =>
  ⟨a, L, Mo, _, r, fun b m1 L1 Mo1 H1 h1 b1 e1 => k _ _ _ _ _ h1 b1 e1, h⟩
def aNotV (t : ATE) : ATE := fun a Q => t a fun x m => match isB x with
  | some b => Q (.d (.bool (!b))) m
  | none => False
theorem q_not (h : QE X a ta) : QE X (.UnaryOp .Not a pos) (aNotV ta) := fun C hK => PE.imp (pe_not (h C hK)) fun σ H Q ⟨a, L, Mo, AQ, r, k, h⟩ => by
  refine ⟨a, L, Mo, _, r, fun x m1 v L1 Mo1 H1 h1 b1 v1 e1 => ?_, h⟩
  have h1' : (match isB x with | some b => AQ (.d (.bool (!b))) m1 | none => False) := h1
  split at h1'
  · rename_i b e
    exact ⟨b, isB_rel e v1, (k.aft e1).ret h1' b1 (.bl _)⟩
  · exact h1'.elim
def aAnd (t u : ATT) : ATT := fun a Q => t a fun b m => if b = true then u ⟨a.g, m⟩ Q else Q false m
def aOr (t u : ATT) : ATT := fun a Q => t a fun b m => if b = true then Q true m else u ⟨a.g, m⟩ Q
theorem ContT.aft {L Mo L' Mo' : List Addr} {H H' : Hp} {AQ : Bool → Mm → Prop} {Q : Bool → Hp → Prop} (k : ContT C L Mo H AQ Q) (x : X2 C L Mo H L' Mo' H') : ContT C L' Mo' H' AQ Q := fun b m' L2 Mo2 H2 h b2 y => k b m' L2 Mo2 H2 h b2 (x.trans y)
variable {t u : ATT} {rest : List Expr}
theorem qw_and1 (h : QT X a t) : QW X (.BoolOp .And [a] pos) t := fun C hK => pw_and1 (h C hK)
theorem qw_or1 (h : QT X a t) : QW X (.BoolOp .Or [a] pos) t := fun C hK => pw_or1 (h C hK)
theorem qw_and (h : QT X a t) (h2 : QW X (.BoolOp .And (b :: rest) pos) u) : QW X (.BoolOp .And (a :: b :: rest) pos) (aAnd t u) := fun C hK => PW.imp (pw_and (h C hK) (h2 C hK)) fun σ H Q ⟨a, L, Mo, AQ, r, k, h⟩ => by
  refine ⟨a, L, Mo, _, r, fun b m1 L1 Mo1 H1 h1 b1 e1 => ?_, h⟩
  have h1' : if b = true then u ⟨a.g, m1⟩ AQ else AQ false m1 := h1
  cases b with
  | true => exact ⟨⟨a.g, m1⟩, L1, Mo1, AQ, r.next b1 e1, k.aft e1, h1'⟩
  | false => exact k _ _ _ _ _ h1' b1 e1
theorem qw_or (h : QT X a t) (h2 : QW X (.BoolOp .Or (b :: rest) pos) u) : QW X (.BoolOp .Or (a :: b :: rest) pos) (aOr t u) := fun C hK => PW.imp (pw_or (h C hK) (h2 C hK)) fun σ H Q ⟨a, L, Mo, AQ, r, k, h⟩ => by
  refine ⟨a, L, Mo, _, r, fun b m1 L1 Mo1 H1 h1 b1 e1 => ?_, h⟩
  have h1' : if b = true then AQ true m1 else u ⟨a.g, m1⟩ AQ := h1
  cases b with
  | false => exact ⟨⟨a.g, m1⟩, L1, Mo1, AQ, r.next b1 e1, k.aft e1, h1'⟩
  | true => exact k _ _ _ _ _ h1' b1 e1
theorem qt_w (h : QW X a t) : QT X a t := fun C hK => (h C hK).pt
/-- and, or as values: truth values but for the last -/
def aAndV (ta tb : ATE) : ATE := fun a Q => ta a fun x m => match isB x with
  | some c => if c = true then tb ⟨a.g, m⟩ Q else Q (.d (.bool false)) m
  | none => False
def aOrV (ta tb : ATE) : ATE := fun a Q => ta a fun x m => match isB x with
  | some c => if c = true then Q (.d (.bool true)) m else tb ⟨a.g, m⟩ Q
  | none => False
theorem q_one {op} (h : QE X a ta) : QE X (.BoolOp op [a] pos) ta := fun C hK => pe_one (h C hK)
theorem q_and (ha : QE X a ta) (hb : QE X (.BoolOp .And (b :: rest) pos) tb) : QE X (.BoolOp .And (a :: b :: rest) pos) (aAndV ta tb) := fun C hK => PE.imp (pe_and (ha C hK) (hb C hK)) fun σ H Q ⟨a, L, Mo, AQ, r, k, h⟩ => by
  refine ⟨a, L, Mo, _, r, fun x m1 v L1 Mo1 H1 h1 b1 v1 e1 => ?_, h⟩
  have h1' : (match isB x with | some c => if c = true then tb ⟨a.g, m1⟩ AQ else AQ (.d (.bool false)) m1 | none => False) := h1
  split at h1'
  · rename_i c e
    refine ⟨c, isB_rel e v1, ?_⟩
    cases c with
    | true => exact ⟨⟨a.g, m1⟩, L1, Mo1, AQ, r.next b1 e1, k.aft e1, h1'⟩
    | false => exact (k.aft e1).ret h1' b1 (.bl _)
  · exact h1'.elim
theorem q_or (ha : QE X a ta) (hb : QE X (.BoolOp .Or (b :: rest) pos) tb) : QE X (.BoolOp .Or (a :: b :: rest) pos) (aOrV ta tb) := fun C hK => PE.imp (pe_or (ha C hK) (hb C hK)) fun σ H Q ⟨a, L, Mo, AQ, r, k, h⟩ => by
  refine ⟨a, L, Mo, _, r, fun x m1 v L1 Mo1 H1 h1 b1 v1 e1 => ?_, h⟩
  have h1' : (match isB x with | some c => if c = true then AQ (.d (.bool true)) m1 else tb ⟨a.g, m1⟩ AQ | none => False) := h1
  split at h1'
  · rename_i c e
    refine ⟨c, isB_rel e v1, ?_⟩
    cases c with
    | false => exact ⟨⟨a.g, m1⟩, L1, Mo1, AQ, r.next b1 e1, k.aft e1, h1'⟩
    | true => exact (k.aft e1).ret h1' b1 (.bl _)
  · exact h1'.elim
def aIf (t : ATT) (ta tb : ATE) : ATE := fun a Q => t a fun b m => if b = true then ta ⟨a.g, m⟩ Q else tb ⟨a.g, m⟩ Q
theorem q_if (h : QT X c t) (ha : QE X a ta) (hb : QE X b tb) : QE X (.IfExp c a b pos) (aIf t ta tb) := fun C hK => PE.imp (pe_ifExp (h C hK) (ha C hK) (hb C hK)) fun σ H Q ⟨a, L, Mo, AQ, r, k, h⟩ => by
  refine ⟨a, L, Mo, _, r, fun b m1 L1 Mo1 H1 h1 b1 e1 => ?_, h⟩
  have h1' : if b = true then ta ⟨a.g, m1⟩ AQ else tb ⟨a.g, m1⟩ AQ := h1
  cases b with
  | true => exact ⟨⟨a.g, m1⟩, L1, Mo1, AQ, r.next b1 e1, k.aft e1, h1'⟩
  | false => exact ⟨⟨a.g, m1⟩, L1, Mo1, AQ, r.next b1 e1, k.aft e1, h1'⟩
/-- a value's truth -/
def truA (m : Mm) (x : AV) : Option Bool := match x with
  | .d .none => some false
  | .d (.bool b) => some b
  | .d (.int i) => some (i != 0)
  | x => match seqA m x with
    | some ds => some (!ds.isEmpty)
    | none => none
def aTru (t : ATE) : ATT := fun a Q => t a fun x m => match truA m x with
  | some b => Q b m
  | none => False
theorem isEmpty_len {α β : Type} {xs : List α} {ds : List β} (h : xs.length = ds.length) : xs.isEmpty = ds.isEmpty := by cases xs <;> cases ds <;> simp_all
theorem truA_ok {m : Mm} {L Mo : List Addr} {H : Hp} {x : AV} {v : V} {k : Bool} (bb : B C m L Mo H) (r : AVR C L Mo H x v) (h : truA m x = some k) : TruV C.K v H k := by
  unfold truA at h
  split at h
  · cases h; cases r; rfl
  · cases h; cases r; rfl
  · cases h; cases r; rfl
  · split at h
    · rename_i ds e
      cases h
      obtain ⟨l, xs, rfl, h1, h2⟩ := seqA_ok bb r e
      rcases h1 with h1 | h1
      · exact .inl ⟨xs, h1, by rw [isEmpty_len h2.len]⟩
      · exact .inr (.inl ⟨xs, h1, by rw [isEmpty_len h2.len]⟩)
    · cases h
theorem qt_tru (ha : QE X a ta) (he : ∀ whole, isTrue a X.env whole = (do let v ← whole; standAt a.pos; holding [v] (truthy v))) : QT X a (aTru ta) := fun C hK => PT.imp (pt_truth (ha C hK) he) fun σ H Q ⟨a, L, Mo, AQ, r, k, h⟩ => by
  refine ⟨a, L, Mo, _, r, fun x m1 v L1 Mo1 H1 h1 b1 v1 e1 => ?_, h⟩
  have h1' : (match truA m1 x with | some b => AQ b m1 | none => False) := h1
  split at h1'
  · rename_i b e
    exact ⟨b, hK ▸ truA_ok b1 v1 e, k _ _ _ _ _ h1' b1 e1⟩
  · exact h1'.elim

/-! ### arguments, displays -/
def aNil : ATA := fun a Q => Q [] a.m
def aCons (ta : ATE) (tr : ATA) : ATA := fun a Q => ta a fun x m1 => tr ⟨a.g, m1⟩ fun xs m2 => Q (x :: xs) m2
variable {es : List Expr} {tr : ATA}
theorem qa_nil : QA X [] aNil := fun C hK => PA.imp pa_nil fun σ H Q ⟨a, L, Mo, AQ, r, k, h⟩ => k _ _ _ _ _ _ h r.b .nil X2.refl
theorem qa_cons (ha : QE X e ta) (hr : QA X es tr) (hs : starEach (e :: es) X.env = (false, eval e X.env) :: starEach es X.env := by rfl) : QA X (e :: es) (aCons ta tr) := fun C hK => PA.imp (pa_cons (ha C hK) (hr C hK) hs) fun σ H Q ⟨a, L, Mo, AQ, r, k, h⟩ =>
  ⟨a, L, Mo, _, r, fun x m1 v L1 Mo1 H1 h1 b1 v1 e1 => ⟨⟨a.g, m1⟩, L1, Mo1, _, r.next b1 e1, fun xs m2 vs L2 Mo2 H2 h2 b2 v2 e2 => k _ _ _ _ _ _ h2 b2 (.cons (v1.mono e2) v2) (e1.trans e2), h1⟩, h⟩
def datas : List AV → Option (List D)
  | [] => some []
  | .d x :: r => match datas r with
    | some l => some (x :: l)
    | none => none
  | _ => none
theorem datas_ok {L Mo : List Addr} {H : Hp} : ∀ {avs : List AV} {vs : List V} {ds : List D}, AVRs C L Mo H avs vs → datas avs = some ds → DqAll C.K (C.hd L Mo H) vs ds
  | [], _, _, .nil, h => by cases h; exact .nil
  | .d x :: r, _, _, .cons q t, h => by
    simp only [datas] at h
    split at h
    · rename_i l e
      cases h
      exact .cons q (datas_ok t e)
    · cases h
  | .o j :: r, _, _, .cons q t, h => by simp [datas] at h
  | .src :: r, _, _, .cons q t, h => by simp [datas] at h
  | .cells :: r, _, _, .cons q t, h => by simp [datas] at h
  | .scr _ :: r, _, _, .cons q t, h => by simp [datas] at h
  | .kt _ :: r, _, _, .cons q t, h => by simp [datas] at h
  | .dt _ :: r, _, _, .cons q t, h => by simp [datas] at h
  | .ty _ :: r, _, _, .cons q t, h => by simp [datas] at h
  | .ad _ :: r, _, _, .cons q t, h => by simp [datas] at h
def aTup (t : ATA) : ATE := fun a Q => t a fun avs m => match datas avs with
  | some ds => ds.length ≤ 1000 ∧ Q (.d (.tuple ds)) m
  | none => False
def aLst (t : ATA) : ATE := fun a Q => t a fun avs m => match datas avs with
  | some ds => ds.length ≤ 1000 ∧ Q (.d (.list ds)) m
  | none => False
/-- a list that its def may change -/
def aLstM (t : ATA) : ATE := fun a Q => t a fun avs m => match datas avs with
  | some ds => ds.length ≤ 1000 ∧ Q (.o m.o.length) ⟨m.s, m.o ++ [.l ds]⟩
  | none => False
theorem line1000 {n : Nat} (h : n ≤ 1000) : n ≤ sizeLine := Nat.le_of_lt (small1000 h)
theorem q_tup {x1} (h : QA X es tr) : QE X (.Tuple es x1 pos) (aTup tr) := fun C hK => PE.imp (pe_tup (h C hK)) fun σ H Q ⟨a, L, Mo, AQ, r, k, h⟩ => by
  refine ⟨a, L, Mo, _, r, fun xs m1 vs L1 Mo1 H1 h1 b1 v1 e1 => ?_, h⟩
  have h1' : (match datas xs with | some ds => ds.length ≤ 1000 ∧ AQ (.d (.tuple ds)) m1 | none => False) := h1
  split at h1'
  · rename_i ds e
    have q := datas_ok v1 e
    exact ⟨line1000 (by rw [q.len]; exact h1'.1), fun p hp => (k.aft e1).tup b1 hp q h1'.2⟩
  · exact h1'.elim
theorem q_lst (h : QA X es tr) : QE X (.List es pos) (aLst tr) := fun C hK => PE.imp (pe_lst (h C hK)) fun σ H Q ⟨a, L, Mo, AQ, r, k, h⟩ => by
  refine ⟨a, L, Mo, _, r, fun xs m1 vs L1 Mo1 H1 h1 b1 v1 e1 => ?_, h⟩
  have h1' : (match datas xs with | some ds => ds.length ≤ 1000 ∧ AQ (.d (.list ds)) m1 | none => False) := h1
  split at h1'
  · rename_i ds e
    have q := datas_ok v1 e
    exact ⟨line1000 (by rw [q.len]; exact h1'.1), fun p hp => (k.aft e1).lst b1 hp q h1'.2⟩
  · exact h1'.elim
theorem q_lstM (h : QA X es tr) : QE X (.List es pos) (aLstM tr) := fun C hK => PE.imp (pe_lst (h C hK)) fun σ H Q ⟨a, L, Mo, AQ, r, k, h⟩ => by
  refine ⟨a, L, Mo, _, r, fun xs m1 vs L1 Mo1 H1 h1 b1 v1 e1 => ?_, h⟩
  have h1' : (match datas xs with | some ds => ds.length ≤ 1000 ∧ AQ (.o m1.o.length) ⟨m1.s, m1.o ++ [.l ds]⟩ | none => False) := h1
  split at h1'
  · rename_i ds e
    have q := datas_ok v1 e
    exact ⟨line1000 (by rw [q.len]; exact h1'.1), fun p hp => (k.aft e1).lstM b1 hp q h1'.2⟩
  · exact h1'.elim

/-! ### calls of built-ins -/
abbrev AC1 := List AV → Mm → (AV → Mm → Prop) → Prop
def CallQ (X : Cx) (f : Value) (r : AC1) : Prop := ∃ r2, CallR X f r2 ∧ ∀ (C : Ct) L Mo H m avs vs Q AQ, C.K = X.K → B C m L Mo H → AVRs C L Mo H avs vs → Cont C L Mo H AQ Q → r avs m AQ → r2 vs H Q
def aCall (r : AC1) (t : ATA) : ATE := fun a Q => t a fun avs m => r avs m Q
theorem call_imp {r : AC1} {r2 : List V → Hp → VK → Prop} (hK : C.K = X.K) (ho : ∀ (C : Ct) L Mo H m avs vs Q AQ, C.K = X.K → B C m L Mo H → AVRs C L Mo H avs vs → Cont C L Mo H AQ Q → r avs m AQ → r2 vs H Q) (σ : List (Option V)) (H : Hp) (Q : VK)
    (h : lft C (aCall r tr) σ H Q) : tCB r2 (lftA C tr) σ H Q := by
  obtain ⟨a, L, Mo, AQ, rr, k, h⟩ := h
  exact ⟨a, L, Mo, _, rr, fun xs m1 vs L1 Mo1 H1 h1 b1 v1 e1 => ho C L1 Mo1 H1 m1 xs vs Q AQ hK b1 v1 (k.aft e1) h1, h⟩
variable {x : Str} {id T : String} {p : Pos}
theorem q_callB {r : AC1} (o : CallQ X (.builtin id) r) (hg : Gl X x) (hm : X.mg x = none) (hv : bootBuiltins x = some (.builtin id)) (ha : QA X (e :: es) tr) (hn : x ≠ "__name__" := by decide) (hdb : (x == ("__debug__" : Str)) = false := by decide)
    (he : starEach (e :: es) X.env = (false, eval e X.env) :: starEach es X.env := by rfl) (hpl : (backTo pos (starEach es X.env)).any (·.1) = false := by rfl) : QE X (.Call (.Name x p) (e :: es) [] pos) (aCall r tr) := fun C hK => by
  obtain ⟨r2, ho, hi⟩ := o
  exact PE.imp (pe_callB ho hg hm hv (ha C hK) hn hdb he hpl) (call_imp hK hi)
theorem q_callTy {r : AC1} (o : CallQ X (.type T) r) (hg : Gl X x) (hm : X.mg x = none) (hv : bootBuiltins x = some (.type T)) (ha : QA X (e :: es) tr) (hn : x ≠ "__name__" := by decide) (hdb : (x == ("__debug__" : Str)) = false := by decide)
    (he : starEach (e :: es) X.env = (false, eval e X.env) :: starEach es X.env := by rfl) (hpl : (backTo pos (starEach es X.env)).any (·.1) = false := by rfl) : QE X (.Call (.Name x p) (e :: es) [] pos) (aCall r tr) := fun C hK => by
  obtain ⟨r2, ho, hi⟩ := o
  exact PE.imp (pe_callTy ho hg hm hv (ha C hK) hn hdb he hpl) (call_imp hK hi)
theorem av1 {L Mo : List Addr} {H : Hp} {x : AV} {vs : List V} (h : AVRs C L Mo H [x] vs) : ∃ v, vs = [v] ∧ AVR C L Mo H x v := by
  cases h with
  | cons q t => cases t; exact ⟨_, rfl, q⟩
theorem av2 {L Mo : List Addr} {H : Hp} {x y : AV} {vs : List V} (h : AVRs C L Mo H [x, y] vs) : ∃ v w, vs = [v, w] ∧ AVR C L Mo H x v ∧ AVR C L Mo H y w := by
  cases h with
  | cons q t => cases t with
    | cons q2 t2 => cases t2; exact ⟨_, _, rfl, q, q2⟩
def bLen : AC1 := fun avs m Q => match avs with
  | [.d (.str x)] => x.length ≤ sizeLine ∧ Q (.d (.int x.length)) m
  | [x] => match seqA m x with
    | some ds => Q (.d (.int ds.length)) m
    | none => False
  | _ => False
theorem cq_len : CallQ X (.builtin "len") bLen := by
  refine ⟨_, call_len, fun C L Mo H m avs vs Q AQ hK b r k hh => ?_⟩
  unfold bLen at hh
  split at hh
  · obtain ⟨v, rfl, rv⟩ := av1 r
    have := dq_str rv
    subst this
    exact ⟨_, _, rfl, ⟨hh.1, rfl⟩, k.ret hh.2 b (.int _)⟩
  · split at hh
    · rename_i ds e
      obtain ⟨v, rfl, rv⟩ := av1 r
      obtain ⟨l, xs, rfl, h1, h2⟩ := seqA_ok b rv e
      rcases h1 with h1 | h1
      · exact ⟨_, xs.length, rfl, .inl ⟨xs, hK ▸ h1, rfl⟩, by rw [h2.len]; exact k.ret hh b (.int _)⟩
      · exact ⟨_, xs.length, rfl, .inr ⟨xs, hK ▸ h1, rfl⟩, by rw [h2.len]; exact k.ret hh b (.int _)⟩
    · exact hh.elim
  · exact hh.elim
def bInt : AC1 := fun avs m Q => match avs with
  | [.d (.int i)] => Q (.d (.int i)) m
  | [.d (.bool k)] => Q (.d (.int (if k then 1 else 0))) m
  | _ => False
theorem cq_int : CallQ X (.type "int") bInt := by
  refine ⟨_, call_int1, fun C L Mo H m avs vs Q AQ hK b r k hh => ?_⟩
  unfold bInt at hh
  split at hh
  · obtain ⟨v, rfl, rv⟩ := av1 r
    exact .inl ⟨_, by rw [dq_int rv], k.ret hh b (.int _)⟩
  · obtain ⟨v, rfl, rv⟩ := av1 r
    exact .inr ⟨_, by rw [dq_bl rv], k.ret hh b (.int _)⟩
  · exact hh.elim
def bAbs : AC1 := fun avs m Q => match avs with
  | [.d (.int i)] => Q (.d (.int (if i < 0 then -i else i))) m
  | _ => False
theorem cq_abs : CallQ X (.builtin "abs") bAbs := by
  refine ⟨_, call_abs, fun C L Mo H m avs vs Q AQ hK b r k hh => ?_⟩
  unfold bAbs at hh
  split at hh
  · obtain ⟨v, rfl, rv⟩ := av1 r
    exact ⟨_, by rw [dq_int rv], k.ret hh b (.int _)⟩
  · exact hh.elim
def bMax : AC1 := fun avs m Q => match avs with
  | [.d (.int i), .d (.int j)] => Q (.d (.int (if j > i then j else i))) m
  | _ => False
theorem cq_max (hc : X.calm = true) : CallQ X (.builtin "max") bMax := by
  refine ⟨_, call_max2 hc, fun C L Mo H m avs vs Q AQ hK b r k hh => ?_⟩
  unfold bMax at hh
  split at hh
  · obtain ⟨v, w, rfl, rv, rw_⟩ := av2 r
    exact ⟨_, _, by rw [dq_int rv, dq_int rw_], k.ret hh b (.int _)⟩
  · exact hh.elim
def bMin : AC1 := fun avs m Q => match avs with
  | [.d (.int i), .d (.int j)] => Q (.d (.int (if j < i then j else i))) m
  | _ => False
theorem cq_min (hc : X.calm = true) : CallQ X (.builtin "min") bMin := by
  refine ⟨_, call_min2 hc, fun C L Mo H m avs vs Q AQ hK b r k hh => ?_⟩
  unfold bMin at hh
  split at hh
  · obtain ⟨v, w, rfl, rv, rw_⟩ := av2 r
    exact ⟨_, _, by rw [dq_int rv, dq_int rw_], k.ret hh b (.int _)⟩
  · exact hh.elim
def bTuple : AC1 := fun avs m Q => match avs with
  | [.d (.tuple ds)] => Q (.d (.tuple ds)) m
  | [x] => match lstA m x with
    | some ds => Q (.d (.tuple ds)) m
    | none => False
  | _ => False
theorem cq_tuple : CallQ X (.type "tuple") bTuple := by
  refine ⟨_, call_tuple_of, fun C L Mo H m avs vs Q AQ hK b r k hh => ?_⟩
  unfold bTuple at hh
  split at hh
  · rename_i ds
    obtain ⟨v, rfl, rv⟩ := av1 r
    obtain ⟨l, xs, rfl, h1, h2⟩ := tupA_ok (ds := ds) rv rfl
    exact ⟨l, xs, rfl, .inr ⟨hK ▸ h1, k.ret hh b rv⟩⟩
  · split at hh
    · rename_i ds e
      obtain ⟨v, rfl, rv⟩ := av1 r
      obtain ⟨l, xs, rfl, h1, h2⟩ := lstA_ok b rv e
      exact ⟨l, xs, rfl, .inl ⟨SqL.of h1, fun p hp => k.tup b hp h2 hh⟩⟩
    · exact hh.elim
  · exact hh.elim
/-- list(x): a new list, not changed afterwards; one that may be changed -/
def bList : AC1 := fun avs m Q => match avs with
  | [x] => match seqA m x with
    | some ds => Q (.d (.list ds)) m
    | none => False
  | _ => False
theorem cq_list : CallQ X (.type "list") bList := by
  refine ⟨_, call_list_of, fun C L Mo H m avs vs Q AQ hK b r k hh => ?_⟩
  unfold bList at hh
  split at hh
  · split at hh
    · rename_i ds e
      obtain ⟨v, rfl, rv⟩ := av1 r
      obtain ⟨l, xs, rfl, h1, h2⟩ := seqA_ok b rv e
      exact ⟨l, xs, rfl, hK ▸ h1, fun p hp => k.lst b hp h2 hh⟩
    · exact hh.elim
  · exact hh.elim
def bListM : AC1 := fun avs m Q => match avs with
  | [x] => match seqA m x with
    | some ds => Q (.o m.o.length) ⟨m.s, m.o ++ [.l ds]⟩
    | none => False
  | _ => False
theorem cq_listM : CallQ X (.type "list") bListM := by
  refine ⟨_, call_list_of, fun C L Mo H m avs vs Q AQ hK b r k hh => ?_⟩
  unfold bListM at hh
  split at hh
  · split at hh
    · rename_i ds e
      obtain ⟨v, rfl, rv⟩ := av1 r
      obtain ⟨l, xs, rfl, h1, h2⟩ := seqA_ok b rv e
      exact ⟨l, xs, rfl, hK ▸ h1, fun p hp => k.lstM b hp h2 hh⟩
    · exact hh.elim
  · exact hh.elim
def intsD : List D → Option (List Int)
  | [] => some []
  | .int i :: r => match intsD r with
    | some l => some (i :: l)
    | none => none
  | _ => none
theorem intsD_ok {K : PySem.W.Frag} {H : Hp} : ∀ {ds : List D} {xs : List V} {ns : List Int}, DqAll K H xs ds → intsD ds = some ns → xs = ns.map V.int
  | [], _, _, h, e => by cases e; cases h; rfl
  | .int i :: r, _, _, h, e => by
    simp only [intsD] at e
    split at e
    · rename_i l e'
      cases e
      cases h with
      | cons h1 h2 => cases h1; simp [intsD_ok h2 e']
    · cases e
  | .none :: r, _, _, h, e => by simp [intsD] at e
  | .bool _ :: r, _, _, h, e => by simp [intsD] at e
  | .str _ :: r, _, _, h, e => by simp [intsD] at e
  | .list _ :: r, _, _, h, e => by simp [intsD] at e
  | .tuple _ :: r, _, _, h, e => by simp [intsD] at e
  | .dict _ :: r, _, _, h, e => by simp [intsD] at e
theorem intsD_map (ns : List Int) : intsD (ns.map PyData.int) = some ns := by
  induction ns with
  | nil => rfl
  | cons n ns ih => simp [intsD, ih]
def bSum : AC1 := fun avs m Q => match avs with
  | [x] => match lstA m x with
    | some ds => match intsD ds with
      | some ns => Q (.d (.int ns.sum)) m
      | none => False
    | none => False
  | _ => False
theorem cq_sum (hc : X.calm = true) : CallQ X (.builtin "sum") bSum := by
  refine ⟨_, cr_sum hc, fun C L Mo H m avs vs Q AQ hK b r k hh => ?_⟩
  unfold bSum at hh
  split at hh
  · split at hh
    · rename_i ds e
      split at hh
      · rename_i ns e2
        obtain ⟨v, rfl, rv⟩ := av1 r
        obtain ⟨l, xs, rfl, h1, h2⟩ := lstA_ok b rv e
        exact ⟨l, ns, rfl, SqL.of (by rw [h1, intsD_ok h2 e2]), k.ret hh b (.int _)⟩
      · exact hh.elim
    · exact hh.elim
  · exact hh.elim
end
end QL

namespace QL
open PySem PySem.Spec PyProof.Rows L2

/-! ### statements -/
structure AEnds where
  nx : AS → Prop
  rt : AV → Mm → Prop
  bk : AS → Prop := fun _ => False
  ct : AS → Prop := fun _ => False
abbrev ATS := AEnds → AS → Prop
structure Bel (C : Ct) (AD : AEnds) (D : Ends) : Prop where
  nx : ∀ a L Mo σ H, AD.nx a → R C a L Mo σ H → D.nx σ H
  rt : ∀ av m L Mo H v, AD.rt av m → B C m L Mo H → AVR C L Mo H av v → D.rt v H
  bk : ∀ a L Mo σ H, AD.bk a → R C a L Mo σ H → D.bk σ H
  ct : ∀ a L Mo σ H, AD.ct a → R C a L Mo σ H → D.ct σ H
def lftS (C : Ct) (t : ATS) : TS := fun D σ H => ∃ a L Mo AD, R C a L Mo σ H ∧ Bel C AD D ∧ t AD a
theorem PS.imp {X : Cx} {e : Stmt} {t t' : TS} (h : PS X e t) (i : ∀ D σ H, t' D σ H → t D σ H) : PS X e t' := ⟨fun pins s σ H Q I q => h.run pins s σ H Q I (i Q σ H q)⟩
theorem PSs.imp {X : Cx} {e : List Stmt} {t t' : TS} (h : PSs X e t) (i : ∀ D σ H, t' D σ H → t D σ H) : PSs X e t' := ⟨fun pins s σ H Q I q => h.run pins s σ H Q I (i Q σ H q)⟩
def QS (X : Cx) (st : Stmt) (t : ATS) : Prop := ∀ C : Ct, C.K = X.K → PS X st (lftS C t)
def QSs (X : Cx) (st : List Stmt) (t : ATS) : Prop := ∀ C : Ct, C.K = X.K → PSs X st (lftS C t)
def aNext : ATS := fun D a => D.nx a
def aSeq (t u : ATS) : ATS := fun D a => t { D with nx := u D } a
section
variable {X : Cx} {st : Stmt} {sts : List Stmt} {t u : ATS} {e : Expr} {te : ATE} {pos : Pos}
theorem qss_nil : QSs X [] aNext := fun C hK => PSs.imp pss_nil fun D σ H ⟨a, L, Mo, AD, r, b, h⟩ => b.nx _ _ _ _ _ h r
theorem qss_cons (h1 : QS X st t) (h2 : QSs X sts u) : QSs X (st :: sts) (aSeq t u) := fun C hK => PSs.imp (pss_cons (h1 C hK) (h2 C hK)) fun D σ H ⟨a, L, Mo, AD, r, b, h⟩ =>
  ⟨a, L, Mo, { AD with nx := u AD }, r, ⟨fun a' L' Mo' σ' H' q r' => ⟨a', L', Mo', AD, r', b, q⟩, b.rt, b.bk, b.ct⟩, h⟩
theorem qss_one (h1 : QS X st t) : QSs X [st] t := fun C hK => pss_one (h1 C hK)
def aBreak : ATS := fun D a => D.bk a
def aCont : ATS := fun D a => D.ct a
theorem qs_pass : QS X (.Pass pos) aNext := fun C hK => PS.imp ps_pass fun D σ H ⟨a, L, Mo, AD, r, b, h⟩ => b.nx _ _ _ _ _ h r
theorem qs_break : QS X (.Break pos) aBreak := fun C hK => PS.imp ps_break fun D σ H ⟨a, L, Mo, AD, r, b, h⟩ => b.bk _ _ _ _ _ h r
theorem qs_continue : QS X (.Continue pos) aCont := fun C hK => PS.imp ps_continue fun D σ H ⟨a, L, Mo, AD, r, b, h⟩ => b.ct _ _ _ _ _ h r
def aDrop (te : ATE) : ATS := fun D a => te a fun _ m => D.nx ⟨a.g, m⟩
theorem qs_expr (he : QE X e te) (hs : swapsWith e none pos.line X.env = pure false := by rfl) : QS X (.Expr e pos) (aDrop te) := fun C hK => PS.imp (ps_expr (he C hK) hs) fun D σ H ⟨a, L, Mo, AD, r, b, h⟩ =>
  ⟨a, L, Mo, _, r, fun av m' v L' Mo' H' q b' rv x => b.nx _ _ _ _ _ q (r.next b' x), h⟩
def aRet (te : ATE) : ATS := fun D a => te a D.rt
theorem qs_ret (he : QE X e te) : QS X (.Return (some e) pos) (aRet te) := fun C hK => PS.imp (ps_ret (he C hK)) fun D σ H ⟨a, L, Mo, AD, r, b, h⟩ =>
  ⟨a, L, Mo, _, r, fun av m' v L' Mo' H' q b' rv x => b.rt _ _ _ _ _ _ q b' rv, h⟩
def aRetN : ATS := fun D a => D.rt (.d .none) a.m
theorem qs_retN : QS X (.Return none pos) aRetN := fun C hK => PS.imp ps_retN fun D σ H ⟨a, L, Mo, AD, r, b, h⟩ => b.rt _ _ _ _ _ _ h r.b .non
def aIfS (c : ATT) (t u : ATS) : ATS := fun D a => c a fun b m => if b = true then t D ⟨a.g, m⟩ else u D ⟨a.g, m⟩
theorem qs_if {c : Expr} {x y : List Stmt} {tc : ATT} (hc : QT X c tc) (ha : QSs X x t) (hb : QSs X y u) : QS X (.If c x y pos) (aIfS tc t u) := fun C hK => PS.imp (ps_if (hc C hK) (ha C hK) (hb C hK)) fun D σ H ⟨a, L, Mo, AD, r, b, h⟩ => by
  refine ⟨a, L, Mo, _, r, fun k m1 L1 Mo1 H1 h1 b1 e1 => ?_, h⟩
  have h1' : if k = true then t AD ⟨a.g, m1⟩ else u AD ⟨a.g, m1⟩ := h1
  cases k with
  | true => exact ⟨⟨a.g, m1⟩, L1, Mo1, AD, r.next b1 e1, b, h1'⟩
  | false => exact ⟨⟨a.g, m1⟩, L1, Mo1, AD, r.next b1 e1, b, h1'⟩
def aNever : ATS := fun _ _ => False
theorem qs_never : QS X st aNever := fun C hK => PS.imp ps_never fun D σ H ⟨a, L, Mo, AD, r, b, h⟩ => h
end

/-! ### targets: the slots alone change -/
abbrev ATG := AV → Mm → List (Option AV) → (List (Option AV) → Prop) → Prop
abbrev ATGs := List D → Mm → List (Option AV) → (List (Option AV) → Prop) → Prop
def lftG (C : Ct) (vs : List Nat) (t : ATG) : TG := fun v σ H Q => ∃ a L Mo av AQ, R C a L Mo σ H ∧ AVR C L Mo H av v ∧ (∀ g' σ', AQ g' → R C ⟨g', a.m⟩ L Mo σ' H → wipe σ' vs = wipe σ vs → Q σ' H) ∧ t av a.m a.g AQ
def lftGs (C : Ct) (vs : List Nat) (t : ATGs) : TGs := fun us σ H Q => ∃ a L Mo ds AQ, R C a L Mo σ H ∧ DqAll C.K (C.hd L Mo H) us ds ∧ (∀ g' σ', AQ g' → R C ⟨g', a.m⟩ L Mo σ' H → wipe σ' vs = wipe σ vs → Q σ' H) ∧ t ds a.m a.g AQ
theorem PG.imp {X : Cx} {e : Expr} {t t' : TG} (h : PG X e t) (i : ∀ v σ H Q, t' v σ H Q → t v σ H Q) : PG X e t' := ⟨fun pins s σ H v u Q I rv q => h.run pins s σ H v u Q I rv (i v σ H Q q)⟩
theorem PGs.imp {X : Cx} {e : List Expr} {t t' : TGs} (h : PGs X e t) (i : ∀ v σ H Q, t' v σ H Q → t v σ H Q) : PGs X e t' := ⟨fun pins s σ H v u Q I rv q => h.run pins s σ H v u Q I rv (i v σ H Q q)⟩
def QG (X : Cx) (vs : List Nat) (e : Expr) (t : ATG) : Prop := ∀ C : Ct, C.K = X.K → PG X e (lftG C vs t)
def QGs (X : Cx) (vs : List Nat) (e : List Expr) (t : ATGs) : Prop := ∀ C : Ct, C.K = X.K → PGs X e (lftGs C vs t)
theorem wipe_get {σ : List (Option V)} {j : Nat} : ∀ {vs : List Nat}, (wipe σ vs)[j]? = if j ∈ vs then (if j < σ.length then some none else none) else σ[j]?
  | [] => by simp [wipe]
  | v :: vs => by
    show ((wipe σ vs).set v none)[j]? = _
    by_cases h : v = j
    · subst h
      rw [if_pos List.mem_cons_self]
      by_cases hl : v < σ.length
      · rw [if_pos hl, List.getElem?_set_self (by rw [wipe_length]; exact hl)]
      · rw [if_neg hl, List.getElem?_eq_none_iff.mpr (by rw [List.length_set, wipe_length]; omega)]
    · rw [List.getElem?_set_ne h, wipe_get]
      by_cases hm : j ∈ vs
      · rw [if_pos hm, if_pos (List.mem_cons_of_mem _ hm)]
      · rw [if_neg hm, if_neg (by simp [hm]; exact fun e => h e.symm)]
theorem wipe_set {σ : List (Option V)} {i : Nat} {v : Option V} {vs : List Nat} (h : i ∈ vs) : wipe (σ.set i v) vs = wipe σ vs := by
  apply List.ext_getElem?
  intro j
  rw [wipe_get, wipe_get, List.length_set]
  by_cases hj : j ∈ vs
  · rw [if_pos hj, if_pos hj]
  · rw [if_neg hj, if_neg hj, List.getElem?_set_ne (fun e => hj (by rw [← e]; exact h))]
section
variable {X : Cx} {pos : Pos} {vs : List Nat}
def aGName (i : Nat) : ATG := fun av m g Q => Q (g.set i (some av))
theorem qg_name {i : Nat} {x : Str} (hN : X.N.Nodup) (hi : X.N[i]? = some x) (hx : Loc X.env.scope x) (hv : i ∈ vs) (hf : X.fn x = true ∨ X.env.scope.names.lookup x = some .local := by first | exact .inl rfl | exact .inr rfl | assumption) : QG X vs (.Name x pos) (aGName i) := fun C hK =>
  PG.imp (pg_name hN hi hx hf) fun v σ H Q ⟨a, L, Mo, av, AQ, r, rv, k, h⟩ => k _ _ h (r.set i rv) (wipe_set hv)
def aGNil : ATGs := fun ds m g Q => match ds with
  | [] => Q g
  | _ => False
def aGCons (t : ATG) (u : ATGs) : ATGs := fun ds m g Q => match ds with
  | d :: r => t (.d d) m g fun g' => u r m g' Q
  | [] => False
theorem qgs_nil : QGs X vs [] aGNil := fun C hK => PGs.imp pgs_nil fun us σ H Q ⟨a, L, Mo, ds, AQ, r, rv, k, h⟩ => by
  unfold aGNil at h
  split at h
  · cases rv; exact ⟨rfl, k _ _ h r rfl⟩
  · exact h.elim
theorem qgs_cons {e : Expr} {es : List Expr} {t : ATG} {u : ATGs} (h1 : QG X vs e t) (h2 : QGs X vs es u) (hs : (assignEach (e :: es) X.env).map (·.2) = assign e X.env :: (assignEach es X.env).map (·.2) := by rfl) : QGs X vs (e :: es) (aGCons t u) := fun C hK =>
  PGs.imp (pgs_cons (h1 C hK) (h2 C hK) hs) fun us σ H Q ⟨a, L, Mo, ds, AQ, r, rv, k, h⟩ => by
    unfold aGCons at h
    split at h
    · rename_i d ds'
      cases rv with
      | cons q1 q2 =>
        refine ⟨_, _, rfl, a, L, Mo, .d d, _, r, q1, fun g' σ' hg r' w => ⟨⟨g', a.m⟩, L, Mo, _, AQ, r', q2, fun g2 σ2 hg2 r2 w2 => k g2 σ2 hg2 r2 (w2.trans w), hg⟩, h⟩
    · exact h.elim
def aGTup (n : Nat) (t : ATGs) : ATG := fun av m g Q => match tupA av with
  | some ds => ds.length = n ∧ t ds m g Q
  | none => False
theorem qg_tup {es : List Expr} {k : Nat} {t : ATGs} {n : Nat} (hc : X.calm = true) (h : QGs X vs es t) (hn : (assignEach es X.env).length = n := by rfl) (hst : (assignEach es X.env).findIdx? (·.1) = none := by rfl) : QG X vs (.Tuple es k pos) (aGTup n t) := fun C hK =>
  PG.imp (pg_tup hc (h C hK) hn hst) fun v σ H Q ⟨a, L, Mo, av, AQ, r, rv, k, h⟩ => by
    unfold aGTup at h
    split at h
    · rename_i ds e
      obtain ⟨l, xs, rfl, h1, h2⟩ := tupA_ok rv e
      exact ⟨l, xs, rfl, hK ▸ h1, h2.len.trans h.1, a, L, Mo, ds, AQ, r, h2, k, h.2⟩
    · exact h.elim
/-- a list unpacked -/
def aGLst (n : Nat) (t : ATGs) : ATG := fun av m g Q => match lstA m av with
  | some ds => ds.length = n ∧ t ds m g Q
  | none => False
theorem qg_lst {es : List Expr} {k : Nat} {t : ATGs} {n : Nat} (hc : X.calm = true) (h : QGs X vs es t) (hn : (assignEach es X.env).length = n := by rfl) (hst : (assignEach es X.env).findIdx? (·.1) = none := by rfl) : QG X vs (.Tuple es k pos) (aGLst n t) := fun C hK =>
  PG.imp (pg_unl hc (h C hK) hn hst) fun v σ H Q ⟨a, L, Mo, av, AQ, r, rv, k, h⟩ => by
    unfold aGLst at h
    split at h
    · rename_i ds e
      obtain ⟨l, xs, rfl, h1, h2⟩ := lstA_ok r.b rv e
      exact ⟨l, xs, rfl, SqL.of h1, h2.len.trans h.1, a, L, Mo, ds, AQ, r, h2, k, h.2⟩
    · exact h.elim
def aAsg (te : ATE) (g : ATG) : ATS := fun D a => te a fun x m => g x m a.g fun g' => D.nx ⟨g', m⟩
theorem asg_imp {C : Ct} {te : ATE} {g : ATG} (D : Ends) (σ : List (Option V)) (H : Hp) (h : lftS C (aAsg te g) D σ H) : tAsg (lft C te) (lftG C vs g) D σ H := by
  obtain ⟨a, L, Mo, AD, r, b, h⟩ := h
  exact ⟨a, L, Mo, _, r, fun x m1 v L1 Mo1 H1 h1 b1 v1 e1 => ⟨⟨a.g, m1⟩, L1, Mo1, x, _, r.next b1 e1, v1, fun g' σ' hg r' _ => b.nx _ _ _ _ _ hg r', h1⟩, h⟩
theorem qs_asg {tg e : Expr} {te : ATE} {g : ATG} (he : QE X e te) (hg : QG X vs tg g) (hs : swapsWithSole [tg] e pos.line X.env = pure false := by rfl) (hw : swappedStores [tg] e X.env = pure none := by rfl)
    (h1 : (assignEach [tg] X.env).map (·.2) = [assign tg X.env] := by rfl) : QS X (.Assign [tg] e pos) (aAsg te g) := fun C hK => PS.imp (ps_asg (he C hK) (hg C hK) hs hw h1) asg_imp
def aSet (i : Nat) (te : ATE) : ATS := fun D a => te a fun x m => D.nx ⟨a.g.set i (some x), m⟩
theorem qs_set {i : Nat} {x : Str} {e : Expr} {te : ATE} {pos' : Pos} (hN : X.N.Nodup) (hi : X.N[i]? = some x) (hx : Loc X.env.scope x) (he : QE X e te) (hs : swapsWith e (some (.Name x pos')) pos.line X.env = pure false := by rfl) (hf : X.fn x = true ∨ X.env.scope.names.lookup x = some .local := by first | exact .inl rfl | exact .inr rfl | assumption) :
    QS X (.Assign [.Name x pos'] e pos) (aSet i te) := fun C hK => PS.imp (ps_set hN hi hx (he C hK) hs hf) fun D σ H ⟨a, L, Mo, AD, r, b, h⟩ =>
  ⟨a, L, Mo, _, r, fun x m1 v L1 Mo1 H1 h1 b1 v1 e1 => b.nx _ _ _ _ _ h1 ((r.next b1 e1).set i v1), h⟩
def aPar (i j : Nat) (ta : ATA) : ATS := fun D a => ta a fun xs m => match xs with
  | [x, y] => D.nx ⟨(a.g.set i (some x)).set j (some y), m⟩
  | _ => False
theorem qs_par {i j : Nat} {x y : Str} {a b : Expr} {ta : ATA} {px py pt : Pos} {kt k2 pt2} (hc : X.calm = true) (hN : X.N.Nodup) (hi : X.N[i]? = some x) (hj : X.N[j]? = some y) (hij : i ≠ j)
    (hx : X.env.scope.names.lookup x = some .local) (hy : X.env.scope.names.lookup y = some .local) (ha : QA X [a, b] ta)
    (hw : swappedStores [.Tuple [.Name x px, .Name y py] kt pt] (.Tuple [a, b] k2 pt2) X.env = pure (some [x, y]))
    (hs : swapsWithSole [.Tuple [.Name x px, .Name y py] kt pt] (.Tuple [a, b] k2 pt2) pos.line X.env = pure false := by rfl) :
    QS X (.Assign [.Tuple [.Name x px, .Name y py] kt pt] (.Tuple [a, b] k2 pt2) pos) (aPar i j ta) := fun C hK => PS.imp (ps_par hc hN hi hj hij hx hy (ha C hK) hw hs) fun D σ H ⟨a, L, Mo, AD, r, b, h⟩ => by
  refine ⟨a, L, Mo, _, r, fun xs m1 vs L1 Mo1 H1 h1 b1 v1 e1 => ?_, h⟩
  split at h1
  · obtain ⟨v, w, rfl, q1, q2⟩ := av2 v1
    exact ⟨v, w, rfl, b.nx _ _ _ _ _ h1 (((r.next b1 e1).set i q1).set j q2)⟩
  · exact h1.elim
/-- x += e, ints -/
def aAugI (i : Nat) (f : Int → Int → Int) (te : ATE) : ATS := fun D a => match slotA a.g i with
  | some (.d (.int k)) => te a fun y m => match y with
    | .d (.int j) => D.nx ⟨a.g.set i (some (.d (.int (f k j)))), m⟩
    | _ => False
  | _ => False
theorem qs_augI {i : Nat} {x : Str} {e : Expr} {te : ATE} {op : Operator} {f : Int → Int → Int} {pos' : Pos} (hN : X.N.Nodup) (hi : X.N[i]? = some x) (hx : Loc X.env.scope x) (he : QE X e te) (ho : PIp X op (ipI f)) (hf : X.fn x = true ∨ X.env.scope.names.lookup x = some .local := by first | exact .inl rfl | exact .inr rfl | assumption) :
    QS X (.AugAssign (.Name x pos') op e pos) (aAugI i f te) := fun C hK => PS.imp (ps_aug hN hi hx (he C hK) ho hf) fun D σ H ⟨a, L, Mo, AD, r, b, h⟩ => by
  unfold aAugI at h
  split at h
  · rename_i k e
    obtain ⟨v, h1, h2⟩ := r.sl i _ (slotA_get e)
    refine ⟨v, h1, a, L, Mo, _, r, fun y m1 w L1 Mo1 H1 h1 b1 v1 e1 => ?_, h⟩
    split at h1
    · exact ⟨_, _, dq_int h2, dq_int v1, b.nx _ _ _ _ _ h1 ((r.next b1 e1).set i (.int _))⟩
    · exact h1.elim
  · exact h.elim
end

/-! ### dropping local objects -/
def fzV (n : Nat) (m : Mm) : AV → Option AV
  | .o j => if j < n then some (.o j) else match m.o[j]? with
    | some (.l ds) => some (.d (.list ds))
    | some (.kd kvs) => some (.d (.dict (kvD kvs)))
    | some (.td kvs) => some (.dt kvs)
    | none => none
  | x => some x
def fzS (n : Nat) (m : Mm) : Option AV → Option AV
  | some x => fzV n m x
  | none => none
def clr (g : List (Option AV)) (fs : List Nat) : List (Option AV) := fs.foldr (fun v g => g.set v none) g
def norm (n : Nat) (fs : List Nat) (a : AS) : AS := ⟨clr (a.g.map (fzS n a.m)) fs, ⟨a.m.s, a.m.o.take n⟩⟩
section
variable {C : Ct} {m : Mm} {a : AS} {L Mo : List Addr} {σ : List (Option V)} {H : Hp}
theorem mem_zlm {n : Nat} {x : Addr} (h : x ∈ C.Z ++ (L ++ Mo.take n)) : x ∈ C.Z ++ (L ++ Mo) := by
  simp only [List.mem_append] at h ⊢
  rcases h with h | h | h
  · exact .inl h
  · exact .inr (.inl h)
  · exact .inr (.inr (List.mem_of_mem_take h))
theorem hd_take (n : Nat) : Same (C.hd L Mo H) (C.hd L (Mo.take n) H) := fun x o h => by
  obtain ⟨h1, h2⟩ := hid_some h
  rw [Ct.hd, hid_of (fun z => h1 (mem_zlm z))]; exact h2
theorem B.take (b : B C m L Mo H) (n : Nat) : B C ⟨m.s, m.o.take n⟩ L (Mo.take n) H := by
  refine ⟨?_, b.sr, paired_take n (paired_impM b.ob fun o l _ q => q.mono (hd_take n) rfl), b.kp, b.nl, fun x hx => b.no x (List.mem_of_mem_take hx), b.zt, b.l0⟩
  exact b.nd.sublist ((List.Sublist.refl _).append ((List.Sublist.refl _).append (List.take_sublist _ _)))
theorem AVR.fz {n : Nat} {av av' : AV} {v : V} (b : B C m L Mo H) (r : AVR C L Mo H av v) (h : fzV n m av = some av') : AVR C L (Mo.take n) H av' v := by
  cases av with
  | d x => cases h; exact Dq.mono (hd_take n) _ _ r
  | src => cases h; exact r
  | cells => cases h; exact r
  | scr ns =>
    cases h
    obtain ⟨a, rfl, q⟩ := r
    exact ⟨a, rfl, (hd_take n).seq q⟩
  | kt ns =>
    cases h
    obtain ⟨a, rfl, q⟩ := r
    exact ⟨a, rfl, hd_take n _ _ q⟩
  | dt ns =>
    cases h
    obtain ⟨a, ys, rfl, q, q2⟩ := r
    exact ⟨a, ys, rfl, hd_take n _ _ q, q2.mono (hd_take n)⟩
  | ty n => cases h; exact r
  | ad n => cases h; exact r
  | o j =>
    simp only [fzV] at h
    split at h
    · rename_i hj
      cases h
      obtain ⟨l, h1, rfl⟩ := r
      exact ⟨l, by rw [List.getElem?_take_of_lt hj]; exact h1, rfl⟩
    · rename_i hj
      obtain ⟨l, h1, rfl⟩ := r
      have up : ∀ u, H l = some u → C.hd L (Mo.take n) H l = some u := fun u h3 => by
        have hm : l ∈ Mo.drop n := by
          have : (Mo.drop n)[j - n]? = some l := by rw [List.getElem?_drop]; rw [show n + (j - n) = j by omega]; exact h1
          exact List.mem_of_getElem? this
        rw [Ct.hd, hid_of]
        · exact h3
        · intro z
          have nd := b.nd
          have e2 : C.Z ++ (L ++ Mo) = (C.Z ++ (L ++ Mo.take n)) ++ Mo.drop n := by simp [List.append_assoc]
          rw [e2] at nd
          exact (List.nodup_append.mp nd).2.2 l z l hm rfl
      split at h
      · rename_i ds e
        cases h
        obtain ⟨l', h2, xs, h3, h4⟩ := paired_at b.ob e
        rw [h1] at h2; cases h2
        exact Dq.lst (xs := xs) (up _ h3) (DqAll.mono (hd_take n) _ _ h4)
      · rename_i ds e
        cases h
        obtain ⟨l', h2, xs, h3, h4⟩ := paired_at b.ob e
        rw [h1] at h2; cases h2
        exact Dq.dk (ys := xs) (up _ h3) (KQ.toK (h4.mono (hd_take n)))
      · rename_i ds e
        cases h
        obtain ⟨l', h2, xs, h3, h4⟩ := paired_at b.ob e
        rw [h1] at h2; cases h2
        exact ⟨_, xs, rfl, up _ h3, h4.mono (hd_take n)⟩
      · cases h
theorem R.clr (r : R C a L Mo σ H) (fs : List Nat) : R C ⟨QL.clr a.g fs, a.m⟩ L Mo σ H := by
  induction fs with
  | nil => exact r
  | cons v fs ih =>
    refine ⟨r.b, by have := ih.ln; simpa [QL.clr] using this, fun i av e => ?_⟩
    have e' : ((QL.clr a.g fs).set v none)[i]? = some (some av) := e
    by_cases hv : v = i
    · subst hv
      by_cases hl : v < (QL.clr a.g fs).length
      · rw [List.getElem?_set_self hl] at e'; cases e'
      · rw [List.getElem?_eq_none_iff.mpr (by rw [List.length_set]; omega)] at e'; cases e'
    · rw [List.getElem?_set_ne hv] at e'
      exact ih.sl i av e'
theorem R.norm (r : R C a L Mo σ H) (n : Nat) (fs : List Nat) : R C (norm n fs a) L (Mo.take n) σ H := by
  suffices r0 : R C ⟨a.g.map (fzS n a.m), ⟨a.m.s, a.m.o.take n⟩⟩ L (Mo.take n) σ H from r0.clr fs
  refine ⟨r.b.take n, by simp [r.ln], fun i av e => ?_⟩
  have e' : (a.g.map (fzS n a.m))[i]? = some (some av) := e
  rw [List.getElem?_map] at e'
  cases q : a.g[i]? with
  | none => rw [q] at e'; cases e'
  | some o =>
    rw [q] at e'
    have e2 : fzS n a.m o = some av := Option.some.inj e'
    cases o with
    | none => cases e2
    | some x =>
      obtain ⟨v, h1, h2⟩ := r.sl i x q
      exact ⟨v, h1, h2.fz r.b e2⟩
end

/-! ### a context that starts here -/
def Ct.here (C : Ct) (L Mo : List Addr) (H : Hp) : Ct := ⟨C.K, C.Z, L, hid Mo H⟩
section
variable {C : Ct} {m m' : Mm} {a : AS} {L Mo L' Mo' : List Addr} {σ : List (Option V)} {H H' : Hp}
theorem B.here (b : B C m L Mo H) : B (C.here L Mo H) m L Mo H := by
  have nd := b.nd
  refine ⟨b.nd, b.sr, b.ob, fun x u h _ => (hid_some h).2, fun x h => .inl h, fun x hx => ⟨if_pos hx, fun z => ?_⟩, fun z hz => ⟨?_, fun q => ?_⟩, .inr rfl⟩
  · have q := (List.nodup_append.mp nd).2.1
    exact (List.nodup_append.mp q).2.2 x z x hx rfl
  · obtain ⟨u, hu⟩ := b.there (List.mem_append_left _ hz)
    refine ⟨u, ?_⟩
    show hid Mo H z = some u
    rw [hid_of (fun q => (List.nodup_append.mp nd).2.2 z hz z (List.mem_append_right _ q) rfl)]; exact hu
  · exact (List.nodup_append.mp nd).2.2 z hz z (List.mem_append_left _ q) rfl
theorem B.back (b : B C m L Mo H) (b' : B (C.here L Mo H) m' L' Mo' H') : B C m' L' Mo' H' := by
  refine ⟨b'.nd, b'.sr, b'.ob, fun x u h hl => ?_, fun x hx => ?_, fun x hx => ?_, b.zt, ?_⟩
  · have h1 := b.kp x u h hl
    refine b'.kp x u ?_ fun z => ?_
    · show hid Mo H x = some u
      rw [hid_of (fun z => by rw [(b.no x z).1] at h; cases h)]; exact h1
    · rcases b.nl x z with q | q
      · exact hl q
      · rw [q] at h; cases h
  · rcases b'.nl x hx with z | z
    · exact b.nl x z
    · have z' : hid Mo H x = none := z
      by_cases hm : x ∈ Mo
      · exact .inr (b.no x hm).1
      · rw [hid_of hm] at z'; exact .inr (b.fresh0 z')
  · obtain ⟨z1, z2⟩ := b'.no x hx
    have z' : hid Mo H x = none := z1
    by_cases hm : x ∈ Mo
    · exact b.no x hm
    · rw [hid_of hm] at z'; exact ⟨b.fresh0 z', b.freshL z'⟩
  · rcases b.l0 with q | q
    · exact .inl q
    · rcases b'.l0 with z | z
      · exact .inl (q.symm.trans z)
      · exact .inr (z.trans q)
theorem hereSame (b' : B (C.here L Mo H) m' L' Mo' H') : Same (C.hd L Mo H) ((C.here L Mo H).hd L' Mo' H') := fun x o h => by
  obtain ⟨h1, h2⟩ := hid_some h
  have hx : hid Mo H x = some o := by rw [hid_of (fun z => h1 (by simp [z]))]; exact h2
  have n1 : x ∉ L := fun z => h1 (by simp [z])
  have n2 : x ∉ L' := fun z => by
    rcases b'.nl x z with q | q
    · exact n1 q
    · rw [show (C.here L Mo H).H0 x = some o from hx] at q; cases q
  have n3 : x ∉ Mo' := fun z => by
    have q := (b'.no x z).1
    rw [show (C.here L Mo H).H0 x = some o from hx] at q; cases q
  rw [Ct.hd, hid_of (fun z => by
    simp only [List.mem_append] at z
    rcases z with z | z | z
    · exact h1 (by simp only [List.mem_append]; exact .inl z)
    · exact n2 z
    · exact n3 z)]
  exact b'.kp x o hx n1
theorem AVR.here {av : AV} {v : V} (h : AVR C L Mo H av v) : AVR (C.here L Mo H) L Mo H av v := by
  cases av with
  | d x => exact h
  | o j => exact h
  | src => exact h
  | cells => exact h
  | scr ns => exact h
  | kt ns => exact h
  | dt ns => exact h
  | ty ns => exact h
  | ad ns => exact h
theorem AVR.unhere {av : AV} {v : V} (h : AVR (C.here L Mo H) L' Mo' H' av v) : AVR C L' Mo' H' av v := by
  cases av with
  | d x => exact h
  | o j => exact h
  | src => exact h
  | cells => exact h
  | scr ns => exact h
  | kt ns => exact h
  | dt ns => exact h
  | ty ns => exact h
  | ad ns => exact h
theorem R.here (r : R C a L Mo σ H) : R (C.here L Mo H) a L Mo σ H := ⟨r.b.here, r.ln, fun i av e => let ⟨v, h1, h2⟩ := r.sl i av e; ⟨v, h1, h2.here⟩⟩
theorem R.back {a' : AS} {σ' : List (Option V)} (b : B C m L Mo H) (r : R (C.here L Mo H) a' L' Mo' σ' H') : R C a' L' Mo' σ' H' := ⟨b.back r.b, r.ln, fun i av e => let ⟨v, h1, h2⟩ := r.sl i av e; ⟨v, h1, h2.unhere⟩⟩
end
end QL

namespace QL
open PySem PySem.Spec PyProof.Rows L2

/-! ### what is walked -/
def ItemsOk (C : Ct) (J : It) (L Mo : List Addr) (H : Hp) (ds : List D) : Prop := ∀ (C2 : Ct) (L1 Mo1 : List Addr) (H1 : Hp) (m1 : Mm), C2.K = C.K → B C2 m1 L1 Mo1 H1 → Same (C.hd L Mo H) (C2.hd L1 Mo1 H1) →
  (∀ (i : Nat) (d : D), ds[i]? = some d → J.go i H1 ∧ ∀ x H2, J.yld i H1 x H2 → B C2 m1 L1 Mo1 H2 ∧ X2 C2 L1 Mo1 H1 L1 Mo1 H2 ∧ Dq C.K (C2.hd L1 Mo1 H2) x d) ∧ J.stop ds.length H1
abbrev AIt := AS → (List D → Mm → Prop) → Prop
def lftI (C : Ct) (t : AIt) : TI := fun σ H R' => ∃ a L Mo AQ, R C a L Mo σ H ∧ (∀ ds m' L' Mo' H' J, AQ ds m' → B C m' L' Mo' H' → X2 C L Mo H L' Mo' H' → ItemsOk C J L' Mo' H' ds → R' J H') ∧ t a AQ
theorem PI.imp {X : Cx} {tg e : Expr} {t t' : TI} (h : PI X tg e t) (i : ∀ σ H Q, t' σ H Q → t σ H Q) : PI X tg e t' := ⟨fun pins s σ H Q I q => h.run pins s σ H Q I (i σ H Q q)⟩
def QI (X : Cx) (tg e : Expr) (t : AIt) : Prop := ∀ C : Ct, C.K = X.K → PI X tg e (lftI C t)
def rngD (lo : Int) (n : Nat) : List D := (List.range n).map fun k => .int (lo + (k : Nat))
theorem rngD_len (lo : Int) (n : Nat) : (rngD lo n).length = n := by simp [rngD]
theorem rngD_at {lo : Int} {n i : Nat} {d : D} (h : (rngD lo n)[i]? = some d) : i < n ∧ d = .int (lo + i) := by
  unfold rngD at h
  rw [List.getElem?_map] at h
  cases e : (List.range n)[i]? with
  | none => rw [e] at h; cases h
  | some j =>
    rw [e] at h
    have h1 := List.getElem?_eq_some_iff.mp e
    obtain ⟨h2, h3⟩ := h1
    rw [List.getElem_range] at h3
    subst h3
    exact ⟨by simpa using h2, (Option.some.inj h).symm⟩
theorem items_rng {C : Ct} {L Mo : List Addr} {H : Hp} (lo : Int) (n : Nat) : ItemsOk C (Itr lo n) L Mo H (rngD lo n) := fun C2 L1 Mo1 H1 m1 hK b sm =>
  ⟨fun i d h => ⟨(rngD_at h).1, fun x H2 ⟨e1, e2⟩ => by subst e1; rw [e2, (rngD_at h).2]; exact ⟨b, X2.refl, .int _⟩⟩, by show n ≤ _; rw [rngD_len]; exact Nat.le_refl _⟩
theorem items_lst {C : Ct} {L Mo : List Addr} {H : Hp} {a : Addr} {xs : List V} {ds : List D} (h : C.hd L Mo H a = some (.lst xs)) (hx : DqAll C.K (C.hd L Mo H) xs ds) : ItemsOk C (Itl C.K a) L Mo H ds := fun C2 L1 Mo1 H1 m1 hK b sm => by
  have q : SqL C.K H1 a xs := SqL.of (hid_some (sm _ _ h)).2
  refine ⟨fun i d e => ?_, xs, q, by rw [hx.len]; exact Nat.le_refl _⟩
  obtain ⟨v, h1, h2⟩ := hx.at e
  refine ⟨⟨xs, v, q, h1⟩, fun x H2 ⟨e1, e2⟩ => ?_⟩
  subst e1
  have := e2 xs q
  rw [h1] at this; cases this
  exact ⟨b, X2.refl, Dq.mono sm _ _ h2⟩
theorem items_tup {C : Ct} {L Mo : List Addr} {H : Hp} {a : Addr} {xs : List V} {ds : List D} (h : SqT C.K (C.hd L Mo H) a xs) (hx : DqAll C.K (C.hd L Mo H) xs ds) : ItemsOk C (Itt C.K a) L Mo H ds := fun C2 L1 Mo1 H1 m1 hK b sm => by
  have q : SqT C.K H1 a xs := same_tup hid_same (same_tup sm h)
  refine ⟨fun i d e => ?_, xs, q, by rw [hx.len]; exact Nat.le_refl _⟩
  obtain ⟨v, h1, h2⟩ := hx.at e
  refine ⟨⟨xs, v, q, h1⟩, fun x H2 ⟨e1, e2⟩ => ?_⟩
  subst e1
  have := e2 xs q
  rw [h1] at this; cases this
  exact ⟨b, X2.refl, Dq.mono sm _ _ h2⟩
section
variable {X : Cx} {tg e : Expr} {te : ATE}
def Rg (j : Int) : Prop := -(2 ^ 62) ≤ j ∧ j < 2 ^ 62
def aRng1 (t : ATA) : AIt := fun a Q => t a fun avs m => match avs with
  | [.d (.int j)] => Rg j ∧ Q (rngD 0 j.toNat) m
  | _ => False
def aRng2 (t : ATA) : AIt := fun a Q => t a fun avs m => match avs with
  | [.d (.int i), .d (.int j)] => Rg i ∧ Rg j ∧ Q (rngD i (j - i).toNat) m
  | _ => False
theorem qi_range1 {a : Expr} {ta : ATA} {p pos : Pos} (hg : Gl X "range") (hm : X.mg "range" = none) (ha : QA X [a] ta) (hs : starEach [a] X.env = [(false, eval a X.env)] := by rfl) : QI X tg (.Call (.Name "range" p) [a] [] pos) (aRng1 ta) := fun C hK =>
  PI.imp (pi_range1 hg hm (ha C hK) hs) fun σ H R' ⟨a, L, Mo, AQ, r, k, h⟩ => by
    refine ⟨a, L, Mo, _, r, fun xs m1 vs L1 Mo1 H1 h1 b1 v1 e1 => ?_, h⟩
    split at h1
    · obtain ⟨v, rfl, q⟩ := av1 v1
      exact ⟨_, by rw [dq_int q], h1.1.1, h1.1.2, k _ _ _ _ _ _ h1.2 b1 e1 (items_rng _ _)⟩
    · exact h1.elim
theorem qi_range2 {a b : Expr} {ta : ATA} {p pos : Pos} (hg : Gl X "range") (hm : X.mg "range" = none) (ha : QA X [a, b] ta) (hs : starEach [a, b] X.env = [(false, eval a X.env), (false, eval b X.env)] := by rfl) (hs2 : starEach [b] X.env = [(false, eval b X.env)] := by rfl) :
    QI X tg (.Call (.Name "range" p) [a, b] [] pos) (aRng2 ta) := fun C hK =>
  PI.imp (pi_range2 hg hm (ha C hK) hs hs2) fun σ H R' ⟨a, L, Mo, AQ, r, k, h⟩ => by
    refine ⟨a, L, Mo, _, r, fun xs m1 vs L1 Mo1 H1 h1 b1 v1 e1 => ?_, h⟩
    split at h1
    · obtain ⟨v, w, rfl, q, q'⟩ := av2 v1
      exact ⟨_, _, by rw [dq_int q, dq_int q'], ⟨h1.1.1, h1.1.2, h1.2.1.1, h1.2.1.2⟩, k _ _ _ _ _ _ h1.2.2 b1 e1 (items_rng _ _)⟩
    · exact h1.elim
def aItT (te : ATE) : AIt := fun a Q => te a fun x m => match x with
  | .d (.tuple ds) => Q ds m
  | _ => False
def aItL (te : ATE) : AIt := fun a Q => te a fun x m => match x with
  | .d (.list ds) => Q ds m
  | _ => False
theorem qi_tup (h : QE X e te) : QI X tg e (aItT te) := fun C hK => PI.imp (pi_tup (h C hK)) fun σ H R' ⟨a, L, Mo, AQ, r, k, h⟩ => by
  refine ⟨a, L, Mo, _, r, fun x m1 v L1 Mo1 H1 h1 b1 v1 e1 => ?_, h⟩
  split at h1
  · cases v1 with
    | tup q1 q2 => exact ⟨_, rfl, ⟨_, hK ▸ same_tup hid_same q1⟩, k _ _ _ _ _ _ h1 b1 e1 (hK ▸ items_tup q1 q2)⟩
  · exact h1.elim
theorem qi_lst (h : QE X e te) : QI X tg e (aItL te) := fun C hK => PI.imp (pi_list (h C hK)) fun σ H R' ⟨a, L, Mo, AQ, r, k, h⟩ => by
  refine ⟨a, L, Mo, _, r, fun x m1 v L1 Mo1 H1 h1 b1 v1 e1 => ?_, h⟩
  split at h1
  · cases v1 with
    | lst q1 q2 => exact ⟨_, rfl, ⟨_, SqL.of (hid_some q1).2⟩, k _ _ _ _ _ _ h1 b1 e1 (hK ▸ items_lst q1 q2)⟩
  · exact h1.elim
end

/-! ### for -/
def aForL (n : Nat) (fs : List Nat) (g : ATG) (tb : ATS) (E : AEnds) : List D → AS → Prop
  | [], a => E.nx a
  | d :: r, a => g (.d d) a.m a.g fun g' => tb { E with nx := fun a2 => aForL n fs g tb E r (norm n fs a2), ct := fun a2 => aForL n fs g tb E r (norm n fs a2), bk := fun a2 => E.nx (norm n fs a2) } ⟨g', a.m⟩
def aFor (fs : List Nat) (ti : AIt) (g : ATG) (tb : ATS) : ATS := fun E a => ti a fun ds m => aForL m.o.length fs g tb E ds ⟨clr a.g fs, m⟩
section
variable {X : Cx} {pos : Pos} {vs : List Nat}
theorem Bel.here {C : Ct} {AD : AEnds} {E : Ends} {m : Mm} {L Mo : List Addr} {H : Hp} (b : Bel C AD E) (bb : B C m L Mo H) : Bel (C.here L Mo H) AD E :=
  ⟨fun a L' Mo' σ' H' q r => b.nx _ _ _ _ _ q (R.back bb r), fun av m' L' Mo' H' v q b' rv => b.rt _ _ _ _ _ _ q (bb.back b') rv.unhere, fun a L' Mo' σ' H' q r => b.bk _ _ _ _ _ q (R.back bb r), fun a L' Mo' σ' H' q r => b.ct _ _ _ _ _ q (R.back bb r)⟩
theorem drop_at {ds : List D} {i : Nat} {d : D} {r : List D} (h : ds.drop i = d :: r) : ds[i]? = some d ∧ ds.drop (i + 1) = r := by
  have h1 : (ds.drop i)[0]? = some d := by rw [h]; rfl
  rw [List.getElem?_drop] at h1
  refine ⟨by simpa using h1, ?_⟩
  have : (ds.drop i).drop 1 = r := by rw [h]; rfl
  rw [List.drop_drop] at this
  exact this
theorem qs_for (fs : List Nat) {tg iter : Expr} {body : List Stmt} {ti : AIt} {g : ATG} {tb : ATS} (hp : PassesOwn (model X.prog X.w) X.A X.env X.xe) (hc : X.calm = true) (hi : QI X tg iter ti) (hg : QG X vs tg g) (hb : QSs X body tb)
    (hs : ∀ x, foldedSetIterable iter X.env x = pure x := by intro _; rfl) : QS X (.For tg iter body [] pos) (aFor fs ti g tb) := fun C hK => by
  -- the body's reading is taken in a context that starts at the loop: one for each start
  refine ⟨fun pins s σ H E I h => ?_⟩
  obtain ⟨a, L, Mo, AD, r, bel, h⟩ := h
  -- the iterable first
  have key : ∀ (L' Mo' : List Addr) (H' : Hp) (m' : Mm), B C m' L' Mo' H' → PSs X body (lftS (C.here L' Mo' H') tb) ∧ PG X tg (lftG (C.here L' Mo' H') vs g) := fun L' Mo' H' m' _ => ⟨hb (C.here L' Mo' H') hK, hg (C.here L' Mo' H') hK⟩
  -- one reading for all: the context is chosen within
  have hb' : PSs X body (fun D σ H => ∃ L' Mo' H', lftS (C.here L' Mo' H') tb D σ H) := ⟨fun pins s σ H Q I ⟨L', Mo', H', q⟩ => (hb (C.here L' Mo' H') hK).run pins s σ H Q I q⟩
  have hg' : PG X tg (fun v σ H Q => ∃ L' Mo' H', lftG (C.here L' Mo' H') vs g v σ H Q) := ⟨fun pins s σ H v u Q I rv ⟨L', Mo', H', q⟩ => (hg (C.here L' Mo' H') hK).run pins s σ H v u Q I rv q⟩
  refine (ps_for hp hc (hi C hK) hg' hb' hs).run pins s σ H E I ?_
  refine ⟨a, L, Mo, _, r, fun ds m' L' Mo' H' J q b' x ok => ?_, h⟩
  have q' : aForL m'.o.length fs g tb AD ds ⟨clr a.g fs, m'⟩ := q
  have bel' := bel.here b'
  refine ⟨fun i k σ1 H1 => ∃ a1 L1 Mo1, R (C.here L' Mo' H') a1 L1 Mo1 σ1 H1 ∧ aForL m'.o.length fs g tb AD (ds.drop i) a1 ∧ i + k = ds.length, ⟨ds.length, ⟨clr a.g fs, m'⟩, L', Mo', (r.next b' x).here.clr fs, by simpa using q', by omega⟩, ?_⟩
  rintro i k σ1 H1 ⟨a1, L1, Mo1, r1, h1, e1⟩
  have okk := ok (C.here L' Mo' H') L1 Mo1 H1 a1.m rfl r1.b (hereSame r1.b)
  cases hd : ds.drop i with
  | nil =>
    have hl : ds.length ≤ i := List.drop_eq_nil_iff.mp hd
    have : i = ds.length := by omega
    rw [hd] at h1
    subst this
    exact .inl ⟨okk.2, bel'.nx _ _ _ _ _ h1 r1⟩
  | cons d rr =>
    rw [hd] at h1
    obtain ⟨hat, hdr⟩ := drop_at hd
    obtain ⟨hgo, hyl⟩ := okk.1 i d hat
    refine .inr ⟨hgo, fun σ2 H2 => ∃ a2 L2 Mo2, R (C.here L' Mo' H') a2 L2 Mo2 σ2 H2 ∧ aForL m'.o.length fs g tb AD rr (norm m'.o.length fs a2), ?_, ?_⟩
    · rintro σ2 H2 ⟨a2, L2, Mo2, r2, h2⟩
      have hlt : i < ds.length := (List.getElem?_eq_some_iff.mp hat).1
      exact ⟨k - 1, by omega, norm m'.o.length fs a2, L2, _, r2.norm _ _, by rw [hdr]; exact h2, by omega⟩
    · intro y H2 hy
      obtain ⟨b2, x2, dq⟩ := hyl y H2 hy
      refine ⟨L', Mo', H', a1, L1, Mo1, .d d, _, r1.next b2 x2, dq, fun g' σ' hg2 r' _ => ⟨L', Mo', H', ⟨g', a1.m⟩, L1, Mo1, _, r', ?_, hg2⟩, h1⟩
      exact ⟨fun a2 L2 Mo2 σ2 H2 q r => ⟨a2, L2, Mo2, r, q⟩, bel'.rt, fun a2 L2 Mo2 σ2 H2 q r => bel'.nx _ _ _ _ _ q (r.norm _ _), fun a2 L2 Mo2 σ2 H2 q r => ⟨a2, L2, Mo2, r, q⟩⟩
/-! ### while -/
def aWhile (fs : List Nat) (c : ATT) (tb : ATS) : ATS := fun E a0 => ∃ (I : AS → Prop) (μ : AS → Nat), I ⟨clr a0.g fs, a0.m⟩ ∧ ∀ a, I a → c a fun b m => if b = true then
  tb { E with nx := fun a2 => I (norm a0.m.o.length fs a2) ∧ μ (norm a0.m.o.length fs a2) < μ a, ct := fun a2 => I (norm a0.m.o.length fs a2) ∧ μ (norm a0.m.o.length fs a2) < μ a, bk := fun a2 => E.nx (norm a0.m.o.length fs a2) } ⟨a.g, m⟩ else E.nx ⟨a.g, m⟩
theorem qs_while (fs : List Nat) {c : Expr} {body : List Stmt} {tc : ATT} {tb : ATS} (hp : PassesOwn (model X.prog X.w) X.A X.env X.xe) (hc : QT X c tc) (hb : QSs X body tb) : QS X (.While c body [] pos) (aWhile fs tc tb) := fun C hK =>
  PS.imp (ps_while hp (hc C hK) (hb C hK)) fun E σ H ⟨a0, L, Mo, AD, r, bel, I, μ, h0, hs⟩ => by
    refine ⟨fun k σ1 H1 => ∃ a L1 Mo1, R C a L1 Mo1 σ1 H1 ∧ I a ∧ μ a = k, ⟨_, ⟨clr a0.g fs, a0.m⟩, L, Mo, r.clr fs, h0, rfl⟩, ?_⟩
    rintro k σ1 H1 ⟨a, L1, Mo1, r1, h1, rfl⟩
    refine ⟨a, L1, Mo1, _, r1, fun b m2 L2 Mo2 H2 h2 b2 x2 => ?_, hs a h1⟩
    cases b with
    | true =>
      rw [if_pos rfl] at h2 ⊢
      refine ⟨fun σ' H' => ∃ a2 L' Mo', R C a2 L' Mo' σ' H' ∧ I (norm a0.m.o.length fs a2) ∧ μ (norm a0.m.o.length fs a2) < μ a, ?_, ?_⟩
      · rintro σ' H' ⟨a2, L', Mo', r', q1, q2⟩
        exact ⟨_, q2, norm a0.m.o.length fs a2, L', _, r'.norm _ _, q1, rfl⟩
      · exact ⟨⟨a.g, m2⟩, L2, Mo2, { AD with nx := fun a2 => I (norm a0.m.o.length fs a2) ∧ μ (norm a0.m.o.length fs a2) < μ a, ct := fun a2 => I (norm a0.m.o.length fs a2) ∧ μ (norm a0.m.o.length fs a2) < μ a, bk := fun a2 => AD.nx (norm a0.m.o.length fs a2) }, r1.next b2 x2, ⟨fun a2 L' Mo' σ' H' q r => ⟨a2, L', Mo', r, q⟩, bel.rt, fun a2 L' Mo' σ' H' q r => bel.nx _ _ _ _ _ q (r.norm _ _), fun a2 L' Mo' σ' H' q r => ⟨a2, L', Mo', r, q⟩⟩, h2⟩
    | false =>
      rw [if_neg Bool.false_ne_true] at h2 ⊢
      exact bel.nx _ _ _ _ _ h2 (r1.next b2 x2)
end
end QL

namespace QL
open PySem PySem.Spec PyProof.Rows L2

/-! ### comprehensions: the new list stands at p, hidden, while it is made -/
def Ct.mk' (C : Ct) (L Mo : List Addr) (H : Hp) (p : Addr) (acc : List V) : Ct := ⟨C.K, C.Z ++ [p], L, upd (hid Mo H) p (.lst acc)⟩
section
variable {C : Ct} {m m' : Mm} {a : AS} {L Mo L' Mo' : List Addr} {σ : List (Option V)} {H H' : Hp} {p : Addr} {acc acc' : List V}
theorem mk_hd0 (hp : H p = none) : (C.mk' L Mo H p acc).hd L Mo (upd H p (.lst acc)) = C.hd L Mo H := by
  funext x
  show hid ((C.Z ++ [p]) ++ (L ++ Mo)) (upd H p (.lst acc)) x = hid (C.Z ++ (L ++ Mo)) H x
  unfold hid
  by_cases h : x = p
  · subst h
    rw [if_pos (by grind)]
    by_cases h2 : x ∈ C.Z ++ (L ++ Mo)
    · rw [if_pos h2]
    · rw [if_neg h2, hp]
  · by_cases h2 : x ∈ C.Z ++ (L ++ Mo)
    · rw [if_pos h2, if_pos (by grind)]
    · rw [if_neg h2, if_neg (by grind), upd_ne h]
theorem AVR.same {C2 : Ct} {av : AV} {v : V} (h : AVR C L Mo H av v) (hK : C2.K = C.K) (e : Same (C.hd L Mo H) (C2.hd L Mo H')) : AVR C2 L Mo H' av v := by
  cases av with
  | d x => rw [AVR, hK]; exact Dq.mono e _ _ h
  | o j => exact h
  | src => exact h
  | cells => exact h
  | scr ns =>
    obtain ⟨a, rfl, q⟩ := h
    exact ⟨a, rfl, by rw [hK]; exact e.seq q⟩
  | kt ns =>
    obtain ⟨a, rfl, q⟩ := h
    exact ⟨a, rfl, e _ _ q⟩
  | dt ns =>
    obtain ⟨a, ys, rfl, q, q2⟩ := h
    exact ⟨a, ys, rfl, e _ _ q, by rw [hK]; exact q2.mono e⟩
  | ty n => exact h
  | ad n => exact h
theorem B.mk0 (b : B C m L Mo H) (hp : H p = none) : B (C.mk' L Mo H p []) m L Mo (upd H p (.lst [])) := by
  have hf := b.fresh hp
  have nd := b.nd
  have b' := b.alloc (ho := .lst []) hp
  refine ⟨?_, b'.sr, paired_impM b.ob fun o l hl q => q.mono (by show Same _ ((C.mk' L Mo H p []).hd L Mo _); rw [mk_hd0 hp]; exact Same.refl _) (upd_ne fun e => hf (by grind)), fun x u h _ => ?_, fun x h => .inl h, fun x hx => ⟨?_, ?_⟩, fun z hz => ?_, .inr rfl⟩
  · show ((C.Z ++ [p]) ++ (L ++ Mo)).Nodup
    grind
  · have h' : upd (hid Mo H) p (.lst []) x = some u := h
    by_cases e : x = p
    · subst e; rw [upd_same] at h' ⊢; exact h'
    · rw [upd_ne e] at h' ⊢; exact (hid_some h').2
  · show upd (hid Mo H) p (.lst []) x = none
    rw [upd_ne (fun e => hf (by grind))]; exact if_pos hx
  · show x ∉ L
    intro z
    have q := (List.nodup_append.mp nd).2.1
    exact (List.nodup_append.mp q).2.2 x z x hx rfl
  · have hz' : z ∈ C.Z ++ [p] := hz
    show (∃ u, upd (hid Mo H) p (.lst []) z = some u) ∧ z ∉ L
    by_cases e : z = p
    · subst e; exact ⟨⟨_, upd_same⟩, fun q => hf (by grind)⟩
    · have hz2 : z ∈ C.Z := by grind
      obtain ⟨u, hu⟩ := b.there (List.mem_append_left _ hz2)
      refine ⟨⟨u, ?_⟩, fun q => (List.nodup_append.mp nd).2.2 z hz2 z (List.mem_append_left _ q) rfl⟩
      rw [upd_ne e, hid_of (fun q => (List.nodup_append.mp nd).2.2 z hz2 z (List.mem_append_right _ q) rfl)]; exact hu
theorem mk_at (b' : B (C.mk' L Mo H p acc) m' L' Mo' H') (hL : p ∉ L) : H' p = some (.lst acc) := b'.kp p _ (show upd (hid Mo H) p (.lst acc) p = some (.lst acc) from upd_same) hL
theorem mk_sameS (hp : H p = none) (b' : B (C.mk' L Mo H p acc) m' L' Mo' H') : Same (C.hd L Mo H) ((C.mk' L Mo H p acc).hd L' Mo' H') := fun x o h => by
  obtain ⟨h1, h2⟩ := hid_some h
  have ne : x ≠ p := ne_of_none h2 hp
  have hx : (C.mk' L Mo H p acc).H0 x = some o := by
    show upd (hid Mo H) p (.lst acc) x = some o
    rw [upd_ne ne, hid_of (fun z => h1 (by grind))]; exact h2
  have n1 : x ∉ L := fun z => h1 (by grind)
  have n2 : x ∉ L' := fun z => by
    rcases b'.nl x z with q | q
    · exact n1 q
    · rw [hx] at q; cases q
  have n3 : x ∉ Mo' := fun z => by
    have q := (b'.no x z).1
    rw [hx] at q; cases q
  have n4 : x ∉ (C.mk' L Mo H p acc).Z := by
    show x ∉ C.Z ++ [p]
    grind
  rw [Ct.hd, hid_of (by grind)]
  exact b'.kp x o hx n1
theorem B.mkStep (b : B C m L Mo H) (hp : H p = none) (b' : B (C.mk' L Mo H p acc) m' L' Mo' H') : B (C.mk' L Mo H p acc') m' L' Mo' (upd H' p (.lst acc')) := by
  have hf := b.fresh hp
  have hpZ : p ∈ (C.mk' L Mo H p acc).Z := by show p ∈ C.Z ++ [p]; simp
  have nd := b'.nd
  have np : p ∉ L' ++ Mo' := fun z => (List.nodup_append.mp nd).2.2 p hpZ p z rfl
  have e : (C.mk' L Mo H p acc').hd L' Mo' (upd H' p (.lst acc')) = (C.mk' L Mo H p acc).hd L' Mo' H' := by
    have := hd_updIn (C := C.mk' L Mo H p acc) (L := L') (Mo := Mo') (H := H') (ho := .lst acc') (x := p) (List.mem_append_left _ hpZ)
    exact this
  refine ⟨nd, srcAt_upd b'.sr fun z => np (by grind), paired_impM b'.ob fun o l hl q => q.mono (by rw [e]; exact Same.refl _) (upd_ne fun z => np (by grind)), fun x u h hl => ?_, fun x hx => ?_, fun x hx => ?_, fun z hz => ?_, b'.l0⟩
  · have h' : upd (hid Mo H) p (.lst acc') x = some u := h
    by_cases ex : x = p
    · subst ex; rw [upd_same] at h' ⊢; exact h'
    · rw [upd_ne ex] at h' ⊢
      exact b'.kp x u (show upd (hid Mo H) p (.lst acc) x = some u by rw [upd_ne ex]; exact h') hl
  · rcases b'.nl x hx with z | z
    · exact .inl z
    · have z' : upd (hid Mo H) p (.lst acc) x = none := z
      refine .inr (show upd (hid Mo H) p (.lst acc') x = none from ?_)
      have ex : x ≠ p := fun q => by subst q; rw [upd_same] at z'; cases z'
      rw [upd_ne ex] at z' ⊢; exact z'
  · obtain ⟨z, w⟩ := b'.no x hx
    have z' : upd (hid Mo H) p (.lst acc) x = none := z
    refine ⟨show upd (hid Mo H) p (.lst acc') x = none from ?_, w⟩
    have ex : x ≠ p := fun q => by subst q; rw [upd_same] at z'; cases z'
    rw [upd_ne ex] at z' ⊢; exact z'
  · obtain ⟨⟨u, z1⟩, w⟩ := b'.zt z hz
    refine ⟨?_, w⟩
    by_cases ex : z = p
    · subst ex; exact ⟨_, upd_same⟩
    · have z' : upd (hid Mo H) p (.lst acc) z = some u := z1
      rw [upd_ne ex] at z'
      exact ⟨u, show upd (hid Mo H) p (.lst acc') z = some u by rw [upd_ne ex]; exact z'⟩
theorem B.mkEnd (b : B C m L Mo H) (hp : H p = none) (b' : B (C.mk' L Mo H p acc) m' L' Mo' H') : B C m' L' Mo' H' := by
  have hf := b.fresh hp
  have hm : ∀ x, (C.mk' L Mo H p acc).H0 x = none → x ≠ p ∧ hid Mo H x = none := fun x z => by
    have z' : upd (hid Mo H) p (.lst acc) x = none := z
    have ex : x ≠ p := fun q => by subst q; rw [upd_same] at z'; cases z'
    rw [upd_ne ex] at z'; exact ⟨ex, z'⟩
  have fre : ∀ x, (C.mk' L Mo H p acc).H0 x = none → C.H0 x = none ∧ x ∉ C.L0 := fun x z => by
    obtain ⟨_, z'⟩ := hm x z
    by_cases q : x ∈ Mo
    · exact b.no x q
    · rw [hid_of q] at z'; exact ⟨b.fresh0 z', b.freshL z'⟩
  have hs : Same ((C.mk' L Mo H p acc).hd L' Mo' H') (C.hd L' Mo' H') := fun x o h => by
    obtain ⟨h1, h2⟩ := hid_some h
    have : x ∉ (C.Z ++ [p]) ++ (L' ++ Mo') := h1
    rw [Ct.hd, hid_of (by grind)]; exact h2
  refine ⟨?_, b'.sr, paired_impM b'.ob fun o l hl q => q.mono hs rfl, fun x u h hl => ?_, fun x hx => ?_, fun x hx => fre x (b'.no x hx).1, b.zt, ?_⟩
  · have nd : ((C.Z ++ [p]) ++ (L' ++ Mo')).Nodup := b'.nd
    grind
  · have h1 := b.kp x u h hl
    refine b'.kp x u ?_ fun z => ?_
    · show upd (hid Mo H) p (.lst acc) x = some u
      rw [upd_ne (ne_of_none h1 hp), hid_of (fun z => by rw [(b.no x z).1] at h; cases h)]; exact h1
    · rcases b.nl x z with q | q
      · exact hl q
      · rw [q] at h; cases h
  · rcases b'.nl x hx with z | z
    · exact b.nl x z
    · exact .inr (fre x z).1
  · rcases b.l0 with q | q
    · exact .inl q
    · rcases b'.l0 with z | z
      · exact .inl (q.symm.trans z)
      · exact .inr (z.trans q)
theorem mk_out (b' : B (C.mk' L Mo H p acc) m' L' Mo' H') : Same ((C.mk' L Mo H p acc).hd L' Mo' H') (C.hd L' Mo' H') := fun x o h => by
  obtain ⟨h1, h2⟩ := hid_some h
  have : x ∉ (C.Z ++ [p]) ++ (L' ++ Mo') := h1
  rw [Ct.hd, hid_of (by grind)]; exact h2
theorem R.wiped (r : R C a L Mo σ H) (vs : List Nat) : R C ⟨vs.foldr (fun v g => g.set v none) a.g, a.m⟩ L Mo (wipe σ vs) H := by
  induction vs with
  | nil => exact r
  | cons v vs ih =>
    refine ⟨r.b, by rw [wipe_length]; have := ih.ln; rw [wipe_length] at this; simpa using this, fun i av e => ?_⟩
    have e' : ((vs.foldr (fun v g => g.set v none) a.g).set v none)[i]? = some (some av) := e
    by_cases hv : v = i
    · subst hv
      by_cases hl : v < (vs.foldr (fun v g => g.set v none) a.g).length
      · rw [List.getElem?_set_self hl] at e'; cases e'
      · rw [List.getElem?_eq_none_iff.mpr (by rw [List.length_set]; omega)] at e'; cases e'
    · rw [List.getElem?_set_ne hv] at e'
      obtain ⟨w, h1, h2⟩ := ih.sl i av e'
      exact ⟨w, by show ((wipe σ vs).set v none)[i]? = _; rw [List.getElem?_set_ne hv]; exact h1, h2⟩
end
theorem wipe_wipe {σ : List (Option V)} {vs : List Nat} : wipe (wipe σ vs) vs = wipe σ vs := by
  apply List.ext_getElem?
  intro j
  rw [wipe_get, wipe_length, wipe_get]
  by_cases hj : j ∈ vs
  · rw [if_pos hj, if_pos hj]
  · rw [if_neg hj, if_neg hj]
def awipe (g : List (Option AV)) (vs : List Nat) : List (Option AV) := vs.foldr (fun v g => g.set v none) g
def aYes : ATT := fun a Q => Q true a.m
def QTs (X : Cx) (e : List Expr) (t : ATT) : Prop := ∀ C : Ct, C.K = X.K → PTs X e (lftT C t)
theorem PTs.imp {X : Cx} {e : List Expr} {t t' : TT} (h : PTs X e t) (i : ∀ σ H Q, t' σ H Q → t σ H Q) : PTs X e t' := ⟨fun pins s σ H Q I q => h.run pins s σ H Q I (i σ H Q q)⟩
theorem qts_nil {X : Cx} : QTs X [] aYes := fun C hK => PTs.imp pts_nil fun σ H Q ⟨a, L, Mo, AQ, r, k, h⟩ => k _ _ _ _ _ h r.b X2.refl
theorem qts_one {X : Cx} {c : Expr} {t : ATT} (h : QT X c t) : QTs X [c] t := fun C hK => pts_one (h C hK)
def aLcL (g : ATG) (tt : ATT) (te : ATE) (g0 : List (Option AV)) : List D → List D → Mm → (List D → Mm → Prop) → Prop
  | [], acc, m, Q => Q acc m
  | d :: r, acc, m, Q => g (.d d) m g0 fun g' => tt ⟨g', m⟩ fun b m1 => if b = true then te ⟨g', m1⟩ fun y m2 => (match y with
    | .d e => aLcL g tt te g0 r (acc ++ [e]) m2 Q
    | _ => False) else aLcL g tt te g0 r acc m1 Q
def aLc (ti : AIt) (g : ATG) (tt : ATT) (te : ATE) (vs : List Nat) : ATE := fun a Q => ti a fun ds m => ds.length ≤ 1000000 ∧ aLcL g tt te (awipe a.g vs) ds [] m fun acc m' => Q (.d (.list acc)) m'
section
variable {X : Cx} {elt tg iter : Expr} {ifs : List Expr} {scope : Scope} {own : List (Str × Nat)} {pos : Pos} {ti : AIt} {g : ATG} {tt : ATT} {te : ATE}
/-- the block's readings for any context -/
def exG (K : PySem.W.Frag) (vs : List Nat) (g : ATG) : TG := fun v σ H Q => ∃ C : Ct, C.K = K ∧ lftG C vs g v σ H Q
def exT (K : PySem.W.Frag) (t : ATT) : TT := fun σ H Q => ∃ C : Ct, C.K = K ∧ lftT C t σ H Q
def exE (K : PySem.W.Frag) (t : ATE) : TE := fun σ H Q => ∃ C : Ct, C.K = K ∧ lft C t σ H Q
theorem QG.ex {Y : Cx} {vs : List Nat} {e : Expr} {K : PySem.W.Frag} (h : QG Y vs e g) (hK : Y.K = K) : PG Y e (exG K vs g) := ⟨fun pins s σ H v u Q I rv ⟨C, e1, q⟩ => (h C (e1.trans hK.symm)).run pins s σ H v u Q I rv q⟩
theorem QTs.ex {Y : Cx} {e : List Expr} {K : PySem.W.Frag} (h : QTs Y e tt) (hK : Y.K = K) : PTs Y e (exT K tt) := ⟨fun pins s σ H Q I ⟨C, e1, q⟩ => (h C (e1.trans hK.symm)).run pins s σ H Q I q⟩
theorem QE.ex {Y : Cx} {e : Expr} {K : PySem.W.Frag} (h : QE Y e te) (hK : Y.K = K) : PE Y e (exE K te) := ⟨fun pins s σ H Q I ⟨C, e1, q⟩ => (h C (e1.trans hK.symm)).run pins s σ H Q I q⟩
theorem lc_imp {C : Ct} (hK : C.K = X.K) (σ : List (Option V)) (H : Hp) (Q : VK) (h : lft C (aLc ti g tt te (own.map (·.2))) σ H Q) : tLc (lftI C ti) (exG X.K (own.map (·.2)) g) (exT X.K tt) (exE X.K te) (own.map (·.2)) σ H Q := by
  obtain ⟨a, L, Mo, AQ, r, k, h⟩ := h
  refine ⟨a, L, Mo, _, r, fun ds m1 L1 Mo1 H1 J q b1 x1 ok => ?_, h⟩
  obtain ⟨hsz, q⟩ := q
  intro p hp
  have hL : p ∉ L1 := fun z => b1.fresh hp (by simp [z])
  refine ⟨fun i n H2 => ∃ (acc : List V) (da : List D) (m2 : Mm) (L2 Mo2 : List Addr), R (C.mk' L1 Mo1 H1 p acc) ⟨awipe a.g (own.map (·.2)), m2⟩ L2 Mo2 (wipe σ (own.map (·.2))) H2 ∧ DqAll C.K ((C.mk' L1 Mo1 H1 p acc).hd L2 Mo2 H2) acc da ∧
    (L1 = [] ∨ L2 = L1) ∧ Mo1 <+: Mo2 ∧ aLcL g tt te (awipe a.g (own.map (·.2))) (ds.drop i) da m2 (fun acc m' => AQ (.d (.list acc)) m') ∧ i + n = ds.length ∧ acc.length ≤ i, ⟨ds.length, ?_⟩, ?_⟩
  · have r1 : R C ⟨a.g, m1⟩ L1 Mo1 σ H1 := r.next b1 x1
    have r2 : R (C.mk' L1 Mo1 H1 p []) ⟨a.g, m1⟩ L1 Mo1 σ (upd H1 p (.lst [])) := ⟨b1.mk0 hp, r1.ln, fun i av e => let ⟨v, h1, h2⟩ := r1.sl i av e; ⟨v, h1, h2.same rfl (by rw [mk_hd0 hp]; exact Same.refl _)⟩⟩
    exact ⟨[], [], m1, L1, Mo1, r2.wiped _, .nil, .inr rfl, List.prefix_rfl, by simpa using q, by omega, Nat.le_refl _⟩
  · rintro i n H2 ⟨acc, da, m2, L2, Mo2, r2, dq2, pl, po, q2, e2, hla⟩
    have okk := ok (C.mk' L1 Mo1 H1 p acc) L2 Mo2 H2 m2 rfl r2.b (mk_sameS hp r2.b)
    cases hd : ds.drop i with
    | nil =>
      have hl : ds.length ≤ i := List.drop_eq_nil_iff.mp hd
      have : i = ds.length := by omega
      rw [hd] at q2
      subst this
      refine .inl ⟨okk.2, ?_⟩
      have hat := mk_at r2.b hL
      have bb := b1.mkEnd hp r2.b
      have hnp : p ∉ C.Z ++ (L2 ++ Mo2) := by
        have nd : ((C.Z ++ [p]) ++ (L2 ++ Mo2)).Nodup := r2.b.nd
        grind
      exact k _ _ _ _ _ _ q2 bb (Dq.lst (by rw [Ct.hd, hid_of hnp]; exact hat) (DqAll.mono (mk_out r2.b) _ _ dq2)) (x1.trans ⟨pl, po, (mk_sameS hp r2.b).trans (mk_out r2.b)⟩)
    | cons d rr =>
      rw [hd] at q2
      obtain ⟨hat, hdr⟩ := drop_at hd
      obtain ⟨hgo, hyl⟩ := okk.1 i d hat
      have hlt : i < ds.length := (List.getElem?_eq_some_iff.mp hat).1
      refine .inr ⟨hgo, fun H3 => ∃ (acc : List V) (da : List D) (m3 : Mm) (L3 Mo3 : List Addr), R (C.mk' L1 Mo1 H1 p acc) ⟨awipe a.g (own.map (·.2)), m3⟩ L3 Mo3 (wipe σ (own.map (·.2))) H3 ∧ DqAll C.K ((C.mk' L1 Mo1 H1 p acc).hd L3 Mo3 H3) acc da ∧
        (L1 = [] ∨ L3 = L1) ∧ Mo1 <+: Mo3 ∧ aLcL g tt te (awipe a.g (own.map (·.2))) rr da m3 (fun acc m' => AQ (.d (.list acc)) m') ∧ acc.length ≤ i + 1, ?_, ?_⟩
      · rintro H3 ⟨acc3, da3, m3, L3, Mo3, r3, dq3, pl3, po3, q3, hl3⟩
        exact ⟨n - 1, by omega, acc3, da3, m3, L3, Mo3, r3, dq3, pl3, po3, by rw [hdr]; exact q3, by omega, hl3⟩
      · intro y H3 hy
        obtain ⟨b3, x3, dq3⟩ := hyl y H3 hy
        have r3 := r2.next b3 x3
        have q3 : g (.d d) m2 (awipe a.g (own.map (·.2))) (fun g' => tt ⟨g', m2⟩ fun b m1 => if b = true then te ⟨g', m1⟩ fun y m2 => (match y with
          | .d e => aLcL g tt te (awipe a.g (own.map (·.2))) rr (da ++ [e]) m2 (fun acc m' => AQ (.d (.list acc)) m')
          | _ => False) else aLcL g tt te (awipe a.g (own.map (·.2))) rr da m1 (fun acc m' => AQ (.d (.list acc)) m')) := q2
        refine ⟨C.mk' L1 Mo1 H1 p acc, hK, ⟨awipe a.g (own.map (·.2)), m2⟩, L2, Mo2, .d d, _, r3, dq3, fun g' σ' hg2 r' hw => ⟨by rw [hw]; exact wipe_wipe, ?_⟩, q3⟩
        refine ⟨C.mk' L1 Mo1 H1 p acc, hK, ⟨g', m2⟩, L2, Mo2, _, r', fun b m4 L4 Mo4 H4 h4 b4 x4 => ?_, hg2⟩
        have pl4 : L1 = [] ∨ L4 = L1 := by
          rcases pl with z | z
          · exact .inl z
          · rcases x4.pl with w | w
            · exact .inl (z ▸ w)
            · exact .inr (w.trans z)
        have po4 : Mo1 <+: Mo4 := po.trans x4.po
        have dq4 : DqAll C.K ((C.mk' L1 Mo1 H1 p acc).hd L4 Mo4 H4) acc da := DqAll.mono (x3.sm.trans x4.sm) _ _ dq2
        have r4 := r3.next b4 x4
        show if b = true then _ else _
        cases b with
        | false =>
          rw [if_neg Bool.false_ne_true] at h4 ⊢
          exact ⟨acc, da, m4, L4, Mo4, r4, dq4, pl4, po4, h4, by omega⟩
        | true =>
          rw [if_pos rfl] at h4 ⊢
          refine ⟨C.mk' L1 Mo1 H1 p acc, hK, ⟨g', m4⟩, L4, Mo4, _, r'.next b4 x4, fun y5 m5 v5 L5 Mo5 H5 h5 b5 v5r x5 => ?_, h4⟩
          split at h5
          · rename_i e
            have hL5 := mk_at b5 hL
            have dq5 : DqAll C.K ((C.mk' L1 Mo1 H1 p acc).hd L5 Mo5 H5) acc da := DqAll.mono x5.sm _ _ dq4
            have pz : p ∈ (C.mk' L1 Mo1 H1 p acc).Z := by show p ∈ C.Z ++ [p]; simp
            have ehd : (C.mk' L1 Mo1 H1 p (acc ++ [v5])).hd L5 Mo5 (upd H5 p (.lst (acc ++ [v5]))) = (C.mk' L1 Mo1 H1 p acc).hd L5 Mo5 H5 :=
              hd_updIn (C := C.mk' L1 Mo1 H1 p acc) (L := L5) (Mo := Mo5) (H := H5) (ho := .lst (acc ++ [v5])) (x := p) (List.mem_append_left _ pz)
            have r5 := r4.next b5 x5
            refine ⟨acc, hL5, Nat.lt_of_le_of_lt hla (Nat.lt_of_lt_of_le hlt (Nat.le_trans hsz (by decide))), acc ++ [v5], da ++ [e], m5, L5, Mo5, ?_, ?_, ?_, po4.trans x5.po, h5, by simp; omega⟩
            · exact ⟨B.mkStep b1 hp b5, r5.ln, fun i av e => let ⟨v, h1, h2⟩ := r5.sl i av e; ⟨v, h1, h2.same rfl (by rw [ehd]; exact Same.refl _)⟩⟩
            · rw [ehd]; exact dq5.app (.cons v5r .nil)
            · rcases pl4 with z | z
              · exact .inl z
              · rcases x5.pl with w | w
                · exact .inl (z ▸ w)
                · exact .inr (w.trans z)
          · exact h5.elim
end
end QL

namespace QL
open PySem PySem.Spec PyProof.Rows L2

section
variable {X : Cx} {elt tg iter : Expr} {ifs : List Expr} {scope : Scope} {own : List (Str × Nat)} {pos : Pos} {ti : AIt} {g : ATG} {tt : ATT} {te : ATE}
theorem q_lc (hc : X.calm = true) (hN : X.N.Nodup) (hi : QI X tg iter ti) (ok : BlkOk X.N X.env.scope scope own)
    (hg : ∀ (s : Shared) (H : Hp) (Ca : Addr) (cl : List (Str × Addr)) (fp : List Addr), QG (X.blk s H scope (compEnvC scope cl Ca X.env) fp) (own.map (·.2)) tg g)
    (ht : ∀ (s : Shared) (H : Hp) (Ca : Addr) (cl : List (Str × Addr)) (fp : List Addr), QTs (X.blk s H scope (compEnvC scope cl Ca X.env) fp) ifs tt)
    (he : ∀ (s : Shared) (H : Hp) (Ca : Addr) (cl : List (Str × Addr)) (fp : List Addr), QE (X.blk s H scope (compEnvC scope cl Ca X.env) fp) elt te) (hs : ∀ x, foldedSetIterable iter X.env x = pure x := by intro _; rfl) :
    QE X (.ListComp elt [⟨tg, iter, ifs, 0⟩] scope pos) (aLc ti g tt te (own.map (·.2))) := fun C hK =>
  PE.imp (pe_lc hc hN (hi C hK) ok (fun s H Ca cl fp => (hg s H Ca cl fp).ex rfl) (fun s H Ca cl fp => (ht s H Ca cl fp).ex rfl) (fun s H Ca cl fp => (he s H Ca cl fp).ex rfl) hs) (lc_imp hK)
theorem qs_setLc {i : Nat} {y : Str} {py : Pos} {spos : Pos} (hc : X.calm = true) (hN : X.N.Nodup) (hy : X.N[i]? = some y) (hyl : X.env.scope.names.lookup y = some .local)
    (hsw : swapsWith (.ListComp elt [⟨tg, iter, ifs, 0⟩] scope pos) (some (.Name y py)) spos.line X.env = pure true) (hi : QI X tg iter ti) (ok : BlkOk X.N X.env.scope scope own)
    (hg : ∀ (s : Shared) (H : Hp) (Ca : Addr) (cl : List (Str × Addr)) (fp : List Addr), QG (X.blk s H scope (compEnvC scope cl Ca X.env) fp) (own.map (·.2)) tg g)
    (ht : ∀ (s : Shared) (H : Hp) (Ca : Addr) (cl : List (Str × Addr)) (fp : List Addr), QTs (X.blk s H scope (compEnvC scope cl Ca X.env) fp) ifs tt)
    (he : ∀ (s : Shared) (H : Hp) (Ca : Addr) (cl : List (Str × Addr)) (fp : List Addr), QE (X.blk s H scope (compEnvC scope cl Ca X.env) fp) elt te) (hs : ∀ x, foldedSetIterable iter X.env x = pure x := by intro _; rfl) :
    QS X (.Assign [.Name y py] (.ListComp elt [⟨tg, iter, ifs, 0⟩] scope pos) spos) (aSet i (aLc ti g tt te (own.map (·.2)))) := fun C hK =>
  PS.imp (ps_setLc hc hN hy hyl hsw (hi C hK) ok (fun s H Ca cl fp => (hg s H Ca cl fp).ex rfl) (fun s H Ca cl fp => (ht s H Ca cl fp).ex rfl) (fun s H Ca cl fp => (he s H Ca cl fp).ex rfl) hs) fun E σ H ⟨a, L, Mo, AD, r, b, h⟩ =>
    lc_imp hK σ H _ ⟨a, L, Mo, _, r, fun x m1 v L1 Mo1 H1 h1 b1 v1 e1 => b.nx _ _ _ _ _ h1 ((r.next b1 e1).set i v1), h⟩
end

/-! ### defs, called where no repr is under way -/
structure FnG (P : Program) (w : World) (K : PySem.W.Frag) (mg : Str → Option Value) (base : Heap) (CX : CXT) (k : Nat) (f : Addr) (fd : FuncData) (ps : List Str) (sp : Sp) : Prop where
  len : ∀ vs H Q E, sp vs H Q E → vs.length = ps.length
  run : ∀ (A : Around) (outer : List Env) (s : Shared) (H : Hp) (args : Args) (us : List Value) (vs : List V) (Q : VK) (E : XK),
    Room k A → A.guards = some [] → Env0 P w K mg base A outer s H → BindsTo s fd args (ps.zip us) → Vals vs us → sp vs H Q E →
      codeAny (model P w) A (.call (.ref f) args) (CR CX outer P w H s Q E) s
theorem FnG.of {P : Program} {w : World} {K : PySem.W.Frag} {mg : Str → Option Value} {base : Heap} {CX : CXT} {k : Nat} {f : Addr} {fd : FuncData} {ps : List Str} {sp : Sp} (F : FnOk P w K mg base CX k f fd ps sp) : FnG P w K mg base CX k f fd ps sp :=
  ⟨F.len, fun A outer s H args us vs Q E hr _ e0 hb hv hs => F.run A outer s H args us vs Q E hr e0 hb hv hs⟩
theorem FnG.mono {P : Program} {w : World} {K : PySem.W.Frag} {mg : Str → Option Value} {base : Heap} {CX : CXT} {j k : Nat} {f : Addr} {fd : FuncData} {ps : List Str} {sp : Sp} (F : FnG P w K mg base CX j f fd ps sp) (h : j ≤ k) : FnG P w K mg base CX k f fd ps sp :=
  ⟨F.len, fun A outer s H args us vs Q E hr hg e0 hb hv hs => F.run A outer s H args us vs Q E (hr.mono h) hg e0 hb hv hs⟩
section
variable {P : Program} {w : World} {K : PySem.W.Frag} {mg : Str → Option Value} {base : Heap} {CX : CXT}
theorem Fun.okG {x qual : Str} {st : Stmt} {f : Addr} {fd : FuncData} {N ps : List Str} {k : Nat} {sp : Sp} (F : Fun K x qual st f fd) (S : FnScope N ps (defScope st)) (len : ∀ vs H Q E, sp vs H Q E → vs.length = ps.length)
    (hbody : ∀ (cdv : Value) (A : Around) (outer : List Env) (s : Shared) (H : Hp) (vs : List V) (Q : VK) (E : XK), Room k (A.deeper (envOfC qual (defScope st) s.heap.objs.size f cdv)) → A.guards = some [] → sp vs H Q E →
      ∃ t, PSs (cxOf CX P w K mg base N qual (defScope st) f cdv A outer s H E) (defBody st) t ∧ t { nx := fun _ H' => Q .non H', rt := Q } (start N vs) H) : FnG P w K mg base CX (k + 1) f fd ps sp := by
  obtain ⟨oc, od, kV, doc, pm, an, cdv, ct, osl, rfl, lk, hcd⟩ := F.ex
  constructor
  · exact len
  · intro A outer s H args us vs Q E hr hgd e0 hb r hsp
    have hl := len vs H Q E hsp
    have inS : K.In s.heap := e0.mod.kin.keeps (fun b o e => (e0.bs b o e).1)
    have noLim : s.heap.NoLimit := e0.mod.nolimit.keeps (fun b o e => (e0.bs b o e).1)
    have kinds : ∀ y ∈ ps.zip us, (defScope st).names.lookup y.1 = some .local ∨
        ((defScope st).names.lookup y.1 = some .cell ∧ ((cellsFrom (s.heap.objs.size + 1) (defScope st).names []).lookup y.1).isSome = true) := by
      intro ⟨n, v⟩ hy
      cases S.par n (List.of_mem_zip hy).1 with
      | inl q => exact .inl q
      | inr q => exact .inr ⟨q, PySem.W.cellsFrom_some _ _ _ (.inl q)⟩
    apply codeAny_call_function hr.depth (inS _ _ lk) rfl S.co S.gen rfl (PySem.W.codeRec_of inS hcd)
    apply hb
    apply wpAny_newFunctionEnv_cells S.kind kinds
    intro env he s1 x
    subst he
    refine ⟨noLim.keeps x.toInCall.keep, codeAny_func ?_⟩
    obtain ⟨t, ht, hq⟩ := hbody cdv A outer s H vs Q E (hr.deeper _) hgd hsp
    have I := inv_start (CX := CX) (P := P) (w := w) (K := K) (mg := mg) (base := base) (N := N) (qual := qual) (f := f) (cd := cdv) (E := E) S hr.hd e0 hl r x
    apply wpAny_mono (ht.run [] s1 (start N vs) H _ I hq)
    · intro fl s' hs
      cases fl with
      | ret u =>
        obtain ⟨v, σ', H', J, rv, q⟩ := hs
        exact ⟨v, H', J.os, J.bare, J.base, J.hok, rv, q⟩
      | next =>
        obtain ⟨σ', H', J, q⟩ := hs
        exact ⟨V.non, H', J.os, J.bare, J.base, J.hok, rfl, q⟩
      | brk =>
        obtain ⟨σ', H', J, q⟩ := hs
        exact q.elim
      | cont =>
        obtain ⟨σ', H', J, q⟩ := hs
        exact q.elim
    · intro e s' hs
      exact hs
end
section
variable {X : Cx} {CX : CXT} {k : Nat} {f : Addr} {fd : FuncData} {ps : List Str} {sp : Sp} {E : XK} {x : Str} {p pos : Pos} {e : Expr} {es : List Expr} {t : TA}
theorem run_g {pins : List (Addr × Obj)} {σ : List (Option V)} {H : Hp} {s : Shared} {Q : VK} {us : List Value} {vs : List V} (F : FnG X.prog X.w X.K X.mg X.base CX k f fd ps sp) (hr : Room k X.A) (hgd : X.A.guards = some []) (hb : Binds X.K fd ps []) (hx : Passes CX X E)
    (I : Inv X pins σ H s) (r : Vals vs us) (h : sp vs H Q E) : wpAny (model X.prog X.w) X.A (call (.ref f) us) (EP X pins σ Q) X.xe s := by
  have hl : us.length = ps.length := by rw [← r.length]; exact F.len _ _ _ _ h
  have hbt := hb s us I.kIn (by simpa using hl)
  rw [List.append_nil] at hbt
  apply wpAny_call
  apply codeAny_mono (F.run X.A X.stack s H ⟨us, []⟩ us vs Q E hr hgd I.env0 hbt r h)
  intro res s' hq
  cases res with
  | error e => exact hx pins σ H s e s' I hq
  | ok fl =>
    cases fl with
    | ret u => exact I.after hq
    | next => exact hq.elim
    | brk => exact hq.elim
    | cont => exact hq.elim
theorem pe_g (F : FnG X.prog X.w X.K X.mg X.base CX k f fd ps sp) (hr : Room k X.A) (hgd : X.A.guards = some []) (hg : Gl X x) (hm : X.mg x = some (.ref f)) (hk : PySem.W.keepIn X.K (.ref f) = true) (hb : Binds X.K fd ps []) (hx : Passes CX X E)
    (ha : PA X (e :: es) t) (hdb : (x == ("__debug__" : Str)) = false := by decide) (he : starEach (e :: es) X.env = (false, eval e X.env) :: starEach es X.env := by rfl) (hpl : (backTo pos (starEach es X.env)).any (·.1) = false := by rfl) :
    PE X (.Call (.Name x p) (e :: es) [] pos) (fun σ H Q => t σ H fun vs H1 => sp vs H1 Q E) := by
  constructor
  intro pins s σ H Q I h
  apply wpAny_Call_Name_kw
  refine ld_glob I hg hm ?_ hdb
  refine PySem.W.callWith_K (h₀ := X.base) I.ok.mod.kin hk ?_ he hpl
  apply thn (ha.run pos pins s σ H _ I h)
  intro us s1 ⟨vs, H1, I1, r, q⟩
  exact ⟨I1.kIn, run_g F hr hgd hb hx I1 r q⟩
theorem pe_g0 (F : FnG X.prog X.w X.K X.mg X.base CX k f fd ps sp) (hr : Room k X.A) (hgd : X.A.guards = some []) (hg : Gl X x) (hm : X.mg x = some (.ref f)) (hk : PySem.W.keepIn X.K (.ref f) = true) (hb : Binds X.K fd ps []) (hx : Passes CX X E)
    (hdb : (x == ("__debug__" : Str)) = false := by decide) : PE X (.Call (.Name x p) [] [] pos) (fun σ H Q => sp [] H Q E) := by
  constructor
  intro pins s σ H Q I h
  apply wpAny_Call_Name_kw
  refine ld_glob I hg hm ?_ hdb
  exact PySem.W.callWith_K0 I.kIn hk (run_g (us := []) F hr hgd hb hx I .nil h)
end

/-! ### an abstract def -/
abbrev AFn := List AV → Option Src → (AV → Option Src → Prop) → Prop
structure Entry (K : PySem.W.Frag) (Z L : List Addr) (s : Option Src) (H : Hp) : Prop where
  nd : (Z ++ L).Nodup
  sr : SrcAt H s L
  zt : ∀ z ∈ Z, ∃ u, H z = some u
theorem Entry.b {K : PySem.W.Frag} {Z L : List Addr} {s : Option Src} {H : Hp} (e : Entry K Z L s H) : B ⟨K, Z, L, H⟩ ⟨s, []⟩ L [] H :=
  ⟨by simpa using e.nd, e.sr, .nil, fun _ _ h _ => h, fun _ h => .inl h, fun _ h => (by cases h), fun z hz => ⟨e.zt z hz, fun q => (List.nodup_append.mp e.nd).2.2 z hz z q rfl⟩, .inr rfl⟩
def spOf (K : PySem.W.Frag) (n : Nat) (fn : AFn) : Sp := fun vs H Q _ => vs.length = n ∧ ∃ (Z L : List Addr) (s : Option Src) (avs : List AV) (AQ : AV → Option Src → Prop), Entry K Z L s H ∧ AVRs ⟨K, Z, L, H⟩ L [] H avs vs ∧
  (∀ av s' v L' H', AQ av s' → B ⟨K, Z, L, H⟩ ⟨s', []⟩ L' [] H' → AVR ⟨K, Z, L, H⟩ L' [] H' av v → Q v H') ∧ fn avs s AQ
/-- what a def's body is to reach -/
def endsA (AQ : AV → Option Src → Prop) : AEnds where
  nx := fun a => AQ (.d .none) a.m.s
  rt := fun av m => match fzV 0 m av with
    | some x => AQ x m.s
    | none => False
def startA (N : List Str) (avs : List AV) : List (Option AV) := avs.map some ++ List.replicate (N.length - avs.length) none
section
variable {P : Program} {w : World} {K : PySem.W.Frag} {mg : Str → Option Value} {base : Heap} {CX : CXT}
theorem start_rel {C : Ct} {L Mo : List Addr} {H : Hp} {N : List Str} {avs : List AV} {vs : List V} (r : AVRs C L Mo H avs vs) (i : Nat) (av : AV) (h : (startA N avs)[i]? = some (some av)) : ∃ v, (L2.start N vs)[i]? = some (some v) ∧ AVR C L Mo H av v := by
  unfold startA at h
  unfold L2.start
  have hl := Paired.length r
  by_cases hi : i < avs.length
  · rw [List.getElem?_append_left (by simpa using hi), List.getElem?_map] at h
    cases e : avs[i]? with
    | none => rw [e] at h; cases h
    | some x =>
      rw [e] at h
      have hx : x = av := Option.some.inj (Option.some.inj h)
      subst hx
      obtain ⟨v, h1, h2⟩ := paired_at r e
      exact ⟨v, by rw [List.getElem?_append_left (by simp; omega), List.getElem?_map, h1]; rfl, h2⟩
  · rw [List.getElem?_append_right (by simpa using hi)] at h
    have := List.mem_of_getElem? h
    simp at this
theorem fn_okA {x qual : Str} {st : Stmt} {f : Addr} {fd : FuncData} {N ps : List Str} {k n : Nat} {fn : AFn} {t : ATS} (F : Fun K x qual st f fd) (S : FnScope N ps (defScope st)) (hn : ps.length = n)
    (hbody : ∀ (cdv : Value) (A : Around) (outer : List Env) (s : Shared) (H : Hp) (E : XK), Room k (A.deeper (envOfC qual (defScope st) s.heap.objs.size f cdv)) → (A.deeper (envOfC qual (defScope st) s.heap.objs.size f cdv)).guards = some [] →
      QSs (cxOf CX P w K mg base N qual (defScope st) f cdv A outer s H E).nox (defBody st) t)
    (hf : ∀ avs s AQ, fn avs s AQ → t (endsA AQ) ⟨startA N avs, ⟨s, []⟩⟩) : FnG P w K mg base CX (k + 1) f fd ps (spOf K n fn) := by
  refine Fun.okG F S (fun vs H Q E h => h.1.trans hn.symm) fun cdv A outer s H vs Q E hr hgd h => ?_
  obtain ⟨hl, Z, L, sr, avs, AQ, en, rv, hQ, hfn⟩ := h
  have hb := hbody cdv A outer s H E hr hgd
  refine ⟨_, (hb ⟨K, Z, L, H⟩ rfl).nox, ⟨startA N avs, ⟨sr, []⟩⟩, L, [], endsA AQ, ⟨en.b, ?_, fun i av e => start_rel rv i av e⟩, ⟨fun a L' Mo' σ' H' q r => ?_, fun av m L' Mo' H' v q b' r => ?_, fun _ _ _ _ _ q _ => q.elim, fun _ _ _ _ _ q _ => q.elim⟩, hf avs sr AQ hfn⟩
  · have := Paired.length rv
    simp [startA, L2.start, this]
  · exact hQ _ _ _ _ _ q (r.b.take 0) .non
  · have q' : (match fzV 0 m av with | some x => AQ x m.s | none => False) := q
    split at q'
    · rename_i x e
      exact hQ _ _ _ _ _ q' (b'.take 0) (r.fz b' e)
    · exact q'.elim
end
/-- no local object among the arguments -/
def argsOk : List AV → Bool
  | [] => true
  | .o _ :: _ => false
  | .cells :: _ => false
  | _ :: r => argsOk r
def aFn (n : Nat) (fn : AFn) (t : ATA) : ATE := fun a Q => t a fun avs m => avs.length = n ∧ argsOk avs = true ∧ fn avs m.s fun av s' => Q av ⟨s', m.o⟩
section
variable {X : Cx} {CX : CXT} {k n : Nat} {f : Addr} {fd : FuncData} {ps : List Str} {fn : AFn} {E : XK} {x : Str} {p pos : Pos} {e : Expr} {es : List Expr} {t : ATA}
theorem hid_congr {Z Z' : List Addr} {H : Hp} (h : ∀ a, a ∈ Z ↔ a ∈ Z') : hid Z H = hid Z' H := by
  funext a
  unfold hid
  by_cases q : a ∈ Z
  · rw [if_pos q, if_pos ((h a).mp q)]
  · rw [if_neg q, if_neg fun z => q ((h a).mpr z)]
theorem fn_imp {C : Ct} {m : Mm} {L Mo : List Addr} {H : Hp} {avs : List AV} {vs : List V} {AQ : AV → Mm → Prop} {Q : VK} (hl : vs.length = n) (b : B C m L Mo H) (r : AVRs C L Mo H avs vs) (k : Cont C L Mo H AQ Q) (ok : argsOk avs = true) (h : fn avs m.s fun av s' => AQ av ⟨s', m.o⟩) : spOf C.K n fn vs H Q E := by
  have hh : ∀ (L' : List Addr) (H' : Hp), hid ((C.Z ++ Mo) ++ (L' ++ [])) H' = C.hd L' Mo H' := fun L' H' => hid_congr fun a => by grind
  have nd := b.nd
  refine ⟨hl, C.Z ++ Mo, L, m.s, avs, _, ⟨by grind, b.sr, fun z hz => b.there (by grind)⟩, ?_, fun av s' v L' H' q b' rv => ?_, h⟩
  · have go : ∀ (avs : List AV) (vs : List V), AVRs C L Mo H avs vs → argsOk avs = true → AVRs ⟨C.K, C.Z ++ Mo, L, H⟩ L [] H avs vs := by
      intro avs vs r ok
      induction r with
      | nil => exact .nil
      | cons q t ih =>
        rename_i a v l l'
        cases a with
        | o j => simp [argsOk] at ok
        | d y => exact .cons (by show Dq C.K (hid ((C.Z ++ Mo) ++ (L ++ [])) H) v y; rw [hh]; exact q) (ih (by simpa [argsOk] using ok))
        | src => exact .cons q (ih (by simpa [argsOk] using ok))
        | cells => simp [argsOk] at ok
        | kt ns =>
          obtain ⟨c, e1, e2⟩ := q
          exact .cons ⟨c, e1, by show hid ((C.Z ++ Mo) ++ (L ++ [])) H c = _; rw [hh]; exact e2⟩ (ih (by simpa [argsOk] using ok))
        | dt ns =>
          obtain ⟨c, ys, e1, e2, e3⟩ := q
          exact .cons ⟨c, ys, e1, by show hid ((C.Z ++ Mo) ++ (L ++ [])) H c = _; rw [hh]; exact e2, by show KQ C.K (hid ((C.Z ++ Mo) ++ (L ++ [])) H) ys ns; rw [hh]; exact e3⟩ (ih (by simpa [argsOk] using ok))
        | ty ns => exact .cons q (ih (by simpa [argsOk] using ok))
        | ad ns => exact .cons q (ih (by simpa [argsOk] using ok))
        | scr ns =>
          obtain ⟨c, e1, e2⟩ := q
          exact .cons ⟨c, e1, by show SqL C.K (hid ((C.Z ++ Mo) ++ (L ++ [])) H) c _; rw [hh]; exact e2⟩ (ih (by simpa [argsOk] using ok))
    exact go avs vs r ok
  · have keep : ∀ a u, H a = some u → a ∉ L → H' a = some u := fun a u h1 h2 => b'.kp a u h1 h2
    have nd' : ((C.Z ++ Mo) ++ (L' ++ [])).Nodup := b'.nd
    have hs : Same (C.hd L Mo H) (C.hd L' Mo H') := fun a u h1 => by
      obtain ⟨h2, h3⟩ := hid_some h1
      have n1 : a ∉ L := fun z => h2 (by simp [z])
      have n2 : a ∉ L' := fun z => by
        rcases b'.nl a z with q | q
        · exact n1 q
        · rw [show H a = none from q] at h3; cases h3
      rw [Ct.hd, hid_of (by grind)]
      exact keep a u h3 n1
    have hL : L = [] ∨ L' = L := b'.l0
    have bb : B C ⟨s', m.o⟩ L' Mo H' := by
      refine ⟨by grind, b'.sr, paired_impM b.ob fun o l hl2 q2 => q2.mono hs ?_, fun a u h1 h2 => ?_, fun a ha => ?_, b.no, b.zt, ?_⟩
      · obtain ⟨u, hu⟩ := q2.there
        rw [hu]
        exact keep l u hu fun z => (List.nodup_append.mp (List.nodup_append.mp nd).2.1).2.2 l z l hl2 rfl
      · have h3 := b.kp a u h1 h2
        refine keep a u h3 fun z => ?_
        rcases b.nl a z with q2 | q2
        · exact h2 q2
        · rw [q2] at h1; cases h1
      · rcases b'.nl a ha with z | z
        · exact b.nl a z
        · exact .inr (b.fresh0 z)
      · rcases b.l0 with z | z
        · exact .inl z
        · rcases hL with z2 | z2
          · exact .inl (z.symm.trans z2)
          · exact .inr (z2.trans z)
    have rv' : AVR C L' Mo H' av v := by
      cases av with
      | d y =>
        have : Dq C.K (hid ((C.Z ++ Mo) ++ (L' ++ [])) H') v y := rv
        rw [hh] at this; exact this
      | o j => obtain ⟨l, h1, _⟩ := rv; simp at h1
      | src => exact rv
      | cells => exact rv
      | scr ns =>
        obtain ⟨c, e1, e2⟩ := rv
        have e3 : SqL C.K (hid ((C.Z ++ Mo) ++ (L' ++ [])) H') c (ns.map V.int) := e2
        rw [hh] at e3
        exact ⟨c, e1, e3⟩
      | kt ns =>
        obtain ⟨c, e1, e2⟩ := rv
        have e3 : hid ((C.Z ++ Mo) ++ (L' ++ [])) H' c = _ := e2
        rw [hh] at e3
        exact ⟨c, e1, e3⟩
      | dt ns =>
        obtain ⟨c, ys, e1, e2, e4⟩ := rv
        have e3 : hid ((C.Z ++ Mo) ++ (L' ++ [])) H' c = _ := e2
        have e5 : KQ C.K (hid ((C.Z ++ Mo) ++ (L' ++ [])) H') ys ns := e4
        rw [hh] at e3 e5
        exact ⟨c, ys, e1, e3, e5⟩
      | ty ns => exact rv
      | ad ns => exact rv
    exact k _ _ _ _ _ _ q bb rv' ⟨hL, List.prefix_rfl, hs⟩
theorem q_fn (F : FnG X.prog X.w X.K X.mg X.base CX k f fd ps (spOf X.K n fn)) (hr : Room k X.A) (hgd : X.A.guards = some []) (hg : Gl X x) (hm : X.mg x = some (.ref f)) (hk : PySem.W.keepIn X.K (.ref f) = true) (hb : Binds X.K fd ps []) (hx : Passes CX X E)
    (ha : QA X (e :: es) t) (hdb : (x == ("__debug__" : Str)) = false := by decide) (he : starEach (e :: es) X.env = (false, eval e X.env) :: starEach es X.env := by rfl) (hpl : (backTo pos (starEach es X.env)).any (·.1) = false := by rfl) :
    QE X (.Call (.Name x p) (e :: es) [] pos) (aFn n fn t) := fun C hK => PE.imp (pe_g F hr hgd hg hm hk hb hx (ha C hK) hdb he hpl) fun σ H Q ⟨a, L, Mo, AQ, r, k, h⟩ =>
  ⟨a, L, Mo, _, r, fun avs m1 vs L1 Mo1 H1 ⟨hl, h1⟩ b1 v1 e1 => by
    have := fn_imp (E := E) (fn := fn) (n := n) ((Paired.length v1).symm.trans hl) b1 v1 (k.aft e1) h1.1 h1.2
    rw [hK] at this
    exact this, h⟩
theorem q_fn0 (F : FnG X.prog X.w X.K X.mg X.base CX k f fd ps (spOf X.K 0 fn)) (hr : Room k X.A) (hgd : X.A.guards = some []) (hg : Gl X x) (hm : X.mg x = some (.ref f)) (hk : PySem.W.keepIn X.K (.ref f) = true) (hb : Binds X.K fd ps []) (hx : Passes CX X E)
    (hdb : (x == ("__debug__" : Str)) = false := by decide) : QE X (.Call (.Name x p) [] [] pos) (aFn 0 fn aNil) := fun C hK => PE.imp (pe_g0 F hr hgd hg hm hk hb hx hdb) fun σ H Q ⟨a, L, Mo, AQ, r, k, h⟩ => by
    have := fn_imp (E := E) (fn := fn) (n := 0) (vs := []) rfl r.b .nil k h.2.1 h.2.2
    rw [hK] at this
    exact this
end
end QL

namespace QL
open PySem PySem.Spec PyProof.Rows L2

/-! ### repr -/
/-- what repr asks of the data: ints that are shown, not too deep, not too long -/
def RepOk (d : D) : Prop := d.hasDict = false ∧ d.showable = true ∧ d.depth ≤ 64 ∧ d.shown.length ≤ sizeLine
section
variable {X : Cx}
theorem cr_repr (hg : X.A.guards = some []) (hu : X.A.units + 100 < cLine) : CallR X (.builtin "repr") (fun xs H Q => ∃ x d, xs = [x] ∧ Dq X.K H x d ∧ RepOk d ∧ Q (.str d.shown) H) := by
  intro pins s σ H xs us Q I r h
  obtain ⟨x, d, rfl, hd, ⟨hnd, hs, hdp, hl⟩, q⟩ := h
  obtain ⟨u, rfl, rx⟩ := vals1 r
  cases hd with
  | non =>
    cases rx
    exact PySem.P.repr_of_none ⟨.str _, H, I.tok _, ⟨_, rfl⟩, q⟩
  | bl b =>
    cases rx
    exact PySem.P.repr_of_bool ⟨.str _, H, I.tok _, ⟨_, rfl⟩, q⟩
  | int i =>
    obtain ⟨t, rfl⟩ := rx
    refine PySem.P.repr_of_int (by simpa [PyData.showable] using hs) ⟨.str _, H, I.tok _, ⟨_, rfl⟩, q⟩
  | str z =>
    obtain ⟨t, rfl⟩ := rx
    exact PySem.P.repr_of_str (h := ⟨.str _, H, I.tok _, ⟨_, rfl⟩, q⟩) (hsz := by simpa [PyData.shown] using hl)
  | lst h1 h2 =>
    cases rx
    obtain ⟨as, rd⟩ := Dp.reads I _ _ _ (Dq.toDp _ _ hnd (Dq.lst h1 h2)) rfl
    exact repr_of_reads' rd hs (PyData.noDict_hsm hnd) hg (by omega) (fun _ _ e => e) (fun h' u tk k => ⟨.str _, H, I.kept k, ⟨_, rfl⟩, q⟩) hl
  | tup h1 h2 =>
    cases rx
    obtain ⟨as, rd⟩ := Dp.reads I _ _ _ (Dq.toDp _ _ hnd (Dq.tup h1 h2)) rfl
    exact repr_of_reads' rd hs (PyData.noDict_hsm hnd) hg (by omega) (fun _ _ e => e) (fun h' u tk k => ⟨.str _, H, I.kept k, ⟨_, rfl⟩, q⟩) hl
  | dk h1 h2 => simp [PyData.hasDict] at hnd
def bRepr : AC1 := fun avs m Q => match avs with
  | [x] => match datA m x with
    | some d => RepOk d ∧ Q (.d (.str d.shown)) m
    | none => False
  | _ => False
theorem cq_repr (hg : X.A.guards = some []) (hu : X.A.units + 100 < cLine) : CallQ X (.builtin "repr") bRepr := by
  refine ⟨_, cr_repr hg hu, fun C L Mo H m avs vs Q AQ hK b r k hh => ?_⟩
  unfold bRepr at hh
  split at hh
  · split at hh
    · rename_i d e
      obtain ⟨v, rfl, rv⟩ := av1 r
      exact ⟨v, d, rfl, hK ▸ datA_ok b rv e, hh.1, k.ret hh.2 b (.str _)⟩
    · exact hh.elim
  · exact hh.elim

end
end QL

namespace QL
open PySem PySem.Spec PyProof.Rows L2

/-! ### a local object changes -/
section
variable {C : Ct} {m : Mm} {L Mo : List Addr} {H : Hp} {l : Addr} {j : Nat} {ho : HO} {mo : MO}
theorem B.upd (b : B C m L Mo H) (hj : Mo[j]? = some l) (ok : ∀ h, h = C.hd L Mo H → MOk C.K h (L2.upd H l ho) mo l) : B C ⟨m.s, m.o.set j mo⟩ L Mo (L2.upd H l ho) := by
  have hm : l ∈ Mo := List.mem_of_getElem? hj
  have e : C.hd L Mo (L2.upd H l ho) = C.hd L Mo H := hd_updIn (by grind)
  have nd := b.nd
  have nL : l ∉ L := fun z => (List.nodup_append.mp (List.nodup_append.mp nd).2.1).2.2 l z l hm rfl
  have hob : Paired (MOk C.K (C.hd L Mo (L2.upd H l ho)) (L2.upd H l ho)) (m.o.set j mo) Mo := by
    rw [e]
    have nMo : Mo.Nodup := (List.nodup_append.mp (List.nodup_append.mp nd).2.1).2.1
    have go : ∀ (o : List MO) (r : List Addr) (j : Nat), Paired (MOk C.K (C.hd L Mo H) H) o r → r.Nodup → r[j]? = some l → Paired (MOk C.K (C.hd L Mo H) (L2.upd H l ho)) (o.set j mo) r := by
      intro o r j q
      induction q generalizing j with
      | nil => intro _ h; simp at h
      | cons q t ih =>
        rename_i a b l1 l2
        intro nd h
        cases j with
        | zero =>
          simp at h; subst h
          refine .cons (ok _ rfl) (paired_impM t fun o x hx q => q.mono (Same.refl _) (upd_ne fun z => ?_))
          exact (List.nodup_cons.mp nd).1 (z ▸ hx)
        | succ j =>
          simp at h
          refine .cons (q.mono (Same.refl _) (upd_ne fun z => ?_)) (ih j (List.nodup_cons.mp nd).2 h)
          exact (List.nodup_cons.mp nd).1 (z ▸ List.mem_of_getElem? h)
    exact go _ _ _ b.ob nMo hj
  refine ⟨nd, srcAt_upd b.sr nL, hob, fun a u h1 h2 => ?_, b.nl, b.no, b.zt, b.l0⟩
  rw [upd_ne (fun z => by subst z; rw [(b.no _ hm).1] at h1; cases h1)]
  exact b.kp a u h1 h2
theorem X2.upd (hm : l ∈ Mo) : X2 C L Mo H L Mo (L2.upd H l ho) := ⟨.inr rfl, List.prefix_rfl, by
  rw [show C.hd L Mo (L2.upd H l ho) = C.hd L Mo H from hd_updIn (by grind)]; exact Same.refl _⟩
end
abbrev AM := AV → List AV → Mm → (AV → Mm → Prop) → Prop
def MtQ (X : Cx) (id : String) (r : AM) : Prop := ∃ r2, MtR X id r2 ∧ ∀ (C : Ct) L Mo H m x avs v vs Q AQ, C.K = X.K → B C m L Mo H → AVR C L Mo H x v → AVRs C L Mo H avs vs → Cont C L Mo H AQ Q → r x avs m AQ → r2 v vs H Q
/-- o.m(..), o a list -/
def aMt (r : AM) (to : ATE) (t : ATA) : ATE := fun a Q => to a fun x m1 => match lstA m1 x with
  | some _ => t ⟨a.g, m1⟩ fun avs m2 => r x avs m2 Q
  | none => False
def aMt0 (r : AM) (to : ATE) : ATE := fun a Q => to a fun x m1 => match lstA m1 x with
  | some _ => r x [] m1 Q
  | none => False
section
variable {X : Cx} {o e : Expr} {es : List Expr} {to : ATE} {t : ATA} {name : Str} {apos cpos : Pos} {id : String} {r : AM}
theorem q_mt (hm : MtQ X id r) (slot : Slot "list" name id) (hty : typeOf (.builtin id) = pure (.type "method_descriptor")) (ho : QE X o to) (ha : QA X (e :: es) t)
    (hbase : attributeBase o name X.env (eval o X.env) = eval o X.env := by rfl)
    (hfew : ((backTo cpos (starEach (e :: es) X.env)).all (fun x => !x.1) && (backToKw cpos (keywordEach [] X.env)).all (fun x => x.1.isSome)
      && decide ((e :: es).length + ([] : List Keyword).length + (if ([] : List Keyword).isEmpty then 0 else 1) < 30)) = true := by rfl)
    (hline : (apos.endLine == cpos.line) = true := by rfl) (hs : starEach (e :: es) X.env = (false, eval e X.env) :: starEach es X.env := by rfl) (hplain : (backTo cpos (starEach es X.env)).any (·.1) = false := by rfl) :
    QE X (.Call (.Attribute o name apos) (e :: es) [] cpos) (aMt r to t) := fun C hK => by
  obtain ⟨r2, hr, hi⟩ := hm
  refine PE.imp (pe_bm PySem.F.plainAttrs_list slot hty hr (ho C hK) (ha C hK) hbase hfew hline hs hplain) fun σ H Q ⟨a, L, Mo, AQ, rr, k, h⟩ => ?_
  refine ⟨a, L, Mo, _, rr, fun x m1 v L1 Mo1 H1 h1 b1 v1 e1 => ?_, h⟩
  split at h1
  · rename_i ds e
    obtain ⟨l, xs, rfl, h2, _⟩ := lstA_ok b1 v1 e
    exact ⟨.inl ⟨rfl, xs, SqL.of h2⟩, ⟨a.g, m1⟩, L1, Mo1, _, rr.next b1 e1, fun avs m2 vs L2 Mo2 H2 h2 b2 v2 e2 => hi C L2 Mo2 H2 m2 x avs _ vs Q AQ hK b2 (v1.mono e2) v2 (k.aft (e1.trans e2)) h2, h1⟩
  · exact h1.elim
theorem q_mt0 (hm : MtQ X id r) (slot : Slot "list" name id) (hty : typeOf (.builtin id) = pure (.type "method_descriptor")) (ho : QE X o to)
    (hbase : attributeBase o name X.env (eval o X.env) = eval o X.env := by rfl) (hline : (apos.endLine == cpos.line) = true := by rfl) :
    QE X (.Call (.Attribute o name apos) [] [] cpos) (aMt0 r to) := fun C hK => by
  obtain ⟨r2, hr, hi⟩ := hm
  refine PE.imp (pe_bm0 PySem.F.plainAttrs_list slot hty hr (ho C hK) hbase hline) fun σ H Q ⟨a, L, Mo, AQ, rr, k, h⟩ => ?_
  refine ⟨a, L, Mo, _, rr, fun x m1 v L1 Mo1 H1 h1 b1 v1 e1 => ?_, h⟩
  split at h1
  · rename_i ds e
    obtain ⟨l, xs, rfl, h2, _⟩ := lstA_ok b1 v1 e
    exact ⟨.inl ⟨rfl, xs, SqL.of h2⟩, hi C L1 Mo1 H1 m1 x [] _ [] Q AQ hK b1 v1 .nil (k.aft e1) h1⟩
  · exact h1.elim
theorem o_at {C : Ct} {m : Mm} {L Mo : List Addr} {H : Hp} {j : Nat} {v : V} {mo : MO} (b : B C m L Mo H) (r : AVR C L Mo H (.o j) v) (h : m.o[j]? = some mo) : ∃ l, v = .ref l ∧ Mo[j]? = some l ∧ MOk C.K (C.hd L Mo H) H mo l := by
  obtain ⟨l, h1, rfl⟩ := r
  obtain ⟨l', h2, h3⟩ := paired_at b.ob h
  rw [h1] at h2; cases h2
  exact ⟨l, rfl, h1, h3⟩
/-- append -/
def mApp : AM := fun x avs m Q => match x, avs with
  | .o j, [.d d] => match m.o[j]? with
    | some (.l ds) => ds.length ≤ 1000000 ∧ Q (.d .none) ⟨m.s, m.o.set j (.l (ds ++ [d]))⟩
    | _ => False
  | _, _ => False
theorem line6 {n : Nat} (h : n ≤ 1000000) : n < sizeLine := Nat.lt_of_le_of_lt h (by decide)
theorem mq_append : MtQ X "list.append" mApp := by
  refine ⟨_, mt_append, fun C L Mo H m x avs v vs Q AQ hK b r1 r2 k hh => ?_⟩
  unfold mApp at hh
  split at hh
  · split at hh
    · rename_i ds e
      obtain ⟨l, rfl, hl, xs, h3, h4⟩ := o_at b r1 e
      obtain ⟨w, rfl, rw_⟩ := av1 r2
      refine ⟨l, xs, w, rfl, rfl, h3, by rw [h4.len]; exact line6 hh.1, k _ _ _ _ _ _ hh.2 (b.upd hl fun h e => ⟨_, upd_same, by rw [e]; exact h4.app (.cons rw_ .nil)⟩) .non (X2.upd (List.mem_of_getElem? hl))⟩
    · exact hh.elim
  · exact hh.elim
/-- pop, the last -/
def mPop : AM := fun x avs m Q => match x, avs with
  | .o j, [] => match m.o[j]? with
    | some (.l ds) => match ds.getLast? with
      | some d => Q (.d d) ⟨m.s, m.o.set j (.l ds.dropLast)⟩
      | none => False
    | _ => False
  | _, _ => False
theorem mq_pop : MtQ X "list.pop" mPop := by
  refine ⟨_, mt_pop, fun C L Mo H m x avs v vs Q AQ hK b r1 r2 k hh => ?_⟩
  unfold mPop at hh
  split at hh
  · split at hh
    · rename_i ds e
      split at hh
      · rename_i d ed
        obtain ⟨l, rfl, hl, xs, h3, h4⟩ := o_at b r1 e
        cases r2
        rw [List.getLast?_eq_getElem?] at ed
        obtain ⟨y, h5, h6⟩ := h4.at ed
        have hu := X2.upd (C := C) (L := L) (H := H) (ho := .lst xs.dropLast) (List.mem_of_getElem? hl)
        refine ⟨l, xs, y, rfl, rfl, h3, by rw [h4.len]; exact h5, k _ _ _ _ _ _ hh (b.upd hl fun h e => ⟨_, upd_same, by rw [e]; exact h4.pop⟩) (Dq.mono hu.sm _ _ h6) hu⟩
      · exact hh.elim
    · exact hh.elim
  · exact hh.elim
/-- extend by a data list -/
def mExt : AM := fun x avs m Q => match x, avs with
  | .o j, [y] => match m.o[j]?, lstA m y with
    | some (.l ds), some es => ds.length + es.length ≤ 1000000 ∧ Q (.d .none) ⟨m.s, m.o.set j (.l (ds ++ es))⟩
    | _, _ => False
  | _, _ => False
theorem mq_extend : MtQ X "list.extend" mExt := by
  refine ⟨_, mt_extend, fun C L Mo H m x avs v vs Q AQ hK b r1 r2 k hh => ?_⟩
  unfold mExt at hh
  split at hh
  · split at hh
    · rename_i ds es e e2
      obtain ⟨l, rfl, hl, xs, h3, h4⟩ := o_at b r1 e
      obtain ⟨w, rfl, rw_⟩ := av1 r2
      obtain ⟨l2, zs, rfl, h5, h6⟩ := lstA_ok b rw_ e2
      refine ⟨l, l2, xs, zs, rfl, rfl, h3, h5, by rw [h4.len, h6.len]; exact Nat.le_of_lt (line6 hh.1), k _ _ _ _ _ _ hh.2 (b.upd hl fun h e => ⟨_, upd_same, by rw [e]; exact h4.app h6⟩) .non (X2.upd (List.mem_of_getElem? hl))⟩
    · exact hh.elim
  · exact hh.elim
end

/-! ### the law's source -/
section
variable {C : Ct} {m : Mm} {L Mo : List Addr} {H : Hp} {S S' : Src} {d c : Addr}
theorem B.src (b : B C m L Mo H) (hs : m.s = some S) : ∃ d c, L = [d, c] ∧ H d = some (.dK (srcKv S c)) ∧ H c = some (.lst (S.cells.map V.int)) ∧ d ≠ c := by
  have q := b.sr
  rw [hs] at q
  obtain ⟨d, c, e, h1, h2⟩ := q
  exact ⟨d, c, e, h1, h2, ne_of h1 h2 (by intro z; cases z)⟩
/-- the source's dict or list is written -/
theorem B.setS (b : B C m [d, c] Mo H) {x : Addr} {ho : HO} (hx : x = d ∨ x = c) (h : SrcAt (L2.upd H x ho) (some S') [d, c]) : B C ⟨some S', m.o⟩ [d, c] Mo (L2.upd H x ho) := by
  have hm : x ∈ [d, c] := by rcases hx with rfl | rfl <;> simp
  have e : C.hd [d, c] Mo (L2.upd H x ho) = C.hd [d, c] Mo H := hd_updIn (by grind)
  have nd := b.nd
  refine ⟨nd, h, ?_, fun a u h1 h2 => ?_, b.nl, b.no, b.zt, b.l0⟩
  · rw [e]
    refine paired_impM b.ob fun o l hl q => q.mono (Same.refl _) (upd_ne fun z => ?_)
    exact (List.nodup_append.mp (List.nodup_append.mp nd).2.1).2.2 x hm l hl z.symm
  · have h3 := b.kp a u h1 h2
    rw [upd_ne (fun z => ?_)]
    · exact h3
    · subst z
      rcases b.nl _ hm with q | q
      · exact h2 q
      · rw [q] at h1; cases h1
theorem X2.setS {x : Addr} {ho : HO} (hx : x = d ∨ x = c) : X2 C [d, c] Mo H [d, c] Mo (L2.upd H x ho) := ⟨.inr rfl, List.prefix_rfl, by
  rw [show C.hd [d, c] Mo (L2.upd H x ho) = C.hd [d, c] Mo H from hd_updIn (by rcases hx with rfl | rfl <;> simp)]; exact Same.refl _⟩
end
def isSrc : AV → Bool
  | .src => true
  | _ => false
inductive SF where
  | left | mixed | turn
def SF.name : SF → Str
  | .left => "left"
  | .mixed => "mixed"
  | .turn => "turn"
def SF.get : SF → Src → Int
  | .left, S => S.left
  | .mixed, S => S.mixed
  | .turn, S => S.turn
def SF.put : SF → Src → Int → Src
  | .left, S, i => { S with left := i }
  | .mixed, S, i => { S with mixed := i }
  | .turn, S, i => { S with turn := i }

theorem srcKv_get (f : SF) (S : Src) (c : Addr) : valV (srcKv S c) (.inr f.name) = some (.int (f.get S)) := by cases f <;> rfl
theorem srcKv_cells (S : Src) (c : Addr) : valV (srcKv S c) (.inr "cells") = some (.ref c) := rfl
theorem srcKv_put (f : SF) (S : Src) (c : Addr) (i : Int) : putK (srcKv S c) (.inr f.name) (.int i) = srcKv (f.put S i) c := by cases f <;> rfl
theorem src_d {C : Ct} {m : Mm} {L Mo : List Addr} {H : Hp} {x : AV} {v : V} {S : Src} (b : B C m L Mo H) (r : AVR C L Mo H x v) (hx : isSrc x = true) (hs : m.s = some S) :
    ∃ d c, L = [d, c] ∧ v = .ref d ∧ H d = some (.dK (srcKv S c)) ∧ H c = some (.lst (S.cells.map V.int)) ∧ d ≠ c := by
  cases x <;> simp [isSrc] at hx
  obtain ⟨d, c, e1, h1, h2, ne⟩ := b.src hs
  obtain ⟨d', c', e2, rfl⟩ := r
  rw [e1] at e2; cases e2
  exact ⟨d, c, e1, rfl, h1, h2, ne⟩
/-- source['left'] -/
def aSrcF (f : SF) (te : ATE) : ATE := fun a Q => te a fun x m => if isSrc x = true then match m.s with
  | some S => Q (.d (.int (f.get S))) m
  | none => False else False
def aSrcC (te : ATE) : ATE := fun a Q => te a fun x m => if isSrc x = true then match m.s with
  | some _ => Q .cells m
  | none => False else False
section
variable {X : Cx} {e : Expr} {te : ATE} {pos p2 : Pos} {j : Nat}
theorem q_srcF (f : SF) (hu : X.A.units + 1 < cLine) (h : QE X e te) : QE X (.Subscript e (.Constant (.str f.name) j p2) pos) (aSrcF f te) := fun C hK => PE.imp (pe_dget hu (h C hK) (pe_str (x := f.name)) (fun _ _ => rfl)) fun σ H Q ⟨a, L, Mo, AQ, r, k, h⟩ => by
  refine ⟨a, L, Mo, _, r, fun x m1 v L1 Mo1 H1 h1 b1 v1 e1 => ?_, h⟩
  split at h1
  · rename_i hx
    split at h1
    · rename_i S hs
      obtain ⟨d, c, e2, rfl, h2, h3, ne⟩ := src_d b1 v1 hx hs
      exact ⟨d, .int (f.get S), rfl, .inl ⟨_, .inr f.name, .inl h2, rfl, (srcKv_get f S c).symm⟩, (k.aft e1).ret h1 b1 (.int _)⟩
    · exact h1.elim
  · exact h1.elim
theorem q_srcC (hu : X.A.units + 1 < cLine) (h : QE X e te) : QE X (.Subscript e (.Constant (.str "cells") j p2) pos) (aSrcC te) := fun C hK => PE.imp (pe_dget hu (h C hK) (pe_str (x := "cells")) (fun _ _ => rfl)) fun σ H Q ⟨a, L, Mo, AQ, r, k, h⟩ => by
  refine ⟨a, L, Mo, _, r, fun x m1 v L1 Mo1 H1 h1 b1 v1 e1 => ?_, h⟩
  split at h1
  · rename_i hx
    split at h1
    · rename_i S hs
      obtain ⟨d, c, e2, rfl, h2, h3, ne⟩ := src_d b1 v1 hx hs
      exact ⟨d, .ref c, rfl, .inl ⟨_, .inr "cells", .inl h2, rfl, (srcKv_cells S c).symm⟩, (k.aft e1).ret h1 b1 ⟨d, c, e2, rfl⟩⟩
    · exact h1.elim
  · exact h1.elim
/-- source['left'] = e -/
def aSrcPut (f : SF) (te tv : ATE) : ATS := fun E a => tv a fun y m1 => te ⟨a.g, m1⟩ fun x m2 => if isSrc x = true then match m2.s, y with
  | some S, .d (.int i) => E.nx ⟨a.g, ⟨some (f.put S i), m2.o⟩⟩
  | _, _ => False else False
theorem qs_srcPut {value : Expr} {tv : ATE} {pos' : Pos} (f : SF) (hu : X.A.units + 1 < cLine) (h : QE X e te) (hv : QE X value tv) (hs : swapsWith value (some (.Subscript e (.Constant (.str f.name) j p2) pos')) pos.line X.env = pure false := by rfl) :
    QS X (.Assign [.Subscript e (.Constant (.str f.name) j p2) pos'] value pos) (aSrcPut f te tv) := fun C hK => PS.imp (ps_dput hu (h C hK) (pe_str (x := f.name)) (hv C hK) hs) fun D σ H ⟨a, L, Mo, AD, r, b, h⟩ => by
  refine ⟨a, L, Mo, _, r, fun y m1 w L1 Mo1 H1 h1 b1 w1 e1 => ⟨⟨a.g, m1⟩, L1, Mo1, _, r.next b1 e1, fun x m2 v L2 Mo2 H2 h2 b2 v2 e2 => ?_, h1⟩, h⟩
  split at h2
  · rename_i hx
    split at h2
    · rename_i S i hs
      obtain ⟨d, c, e3, rfl, h3, h4, ne⟩ := src_d b2 v2 hx hs
      subst e3
      have hw := dq_int w1
      subst hw
      have hsr : SrcAt (upd H2 d (.dK (srcKv (f.put S i) c))) (some (f.put S i)) [d, c] := ⟨d, c, rfl, upd_same, by rw [upd_ne ne.symm]; cases f <;> exact h4⟩
      refine ⟨d, _, rfl, .inl ⟨_, .inr f.name, h3, rfl, (show 4 < sizeLine by decide), rfl⟩, ?_⟩
      rw [srcKv_put]
      exact b.nx _ _ _ _ _ h2 ((r.next b1 e1).next b2 e2 |>.next (b2.setS (.inl rfl) hsr) (X2.setS (.inl rfl)))
    · exact h2.elim
  · exact h2.elim
/-- source['cells'].pop() -/
def mPopC : AM := fun x avs m Q => match x, avs with
  | .cells, [] => match m.s with
    | some S => match S.cells.getLast? with
      | some i => Q (.d (.int i)) ⟨some { S with cells := S.cells.dropLast }, m.o⟩
      | none => False
    | none => False
  | _, _ => False
theorem mq_popC : MtQ X "list.pop" mPopC := by
  refine ⟨_, mt_pop, fun C L Mo H m x avs v vs Q AQ hK b r1 r2 k hh => ?_⟩
  unfold mPopC at hh
  split at hh
  · split at hh
    · rename_i S hs
      split at hh
      · rename_i i ei
        cases r2
        obtain ⟨d, c, e1, h1, h2, ne⟩ := b.src hs
        obtain ⟨d', c', e2, rfl⟩ := r1
        rw [e1] at e2; cases e2
        subst e1
        rw [List.getLast?_eq_getElem?] at ei
        have hsr : SrcAt (upd H c (.lst (S.cells.map V.int).dropLast)) (some { S with cells := S.cells.dropLast }) [d, c] := ⟨d, c, rfl, by rw [upd_ne ne]; exact h1, by rw [upd_same, List.map_dropLast]⟩
        refine ⟨c, _, .int i, rfl, rfl, h2, by rw [List.length_map, List.getElem?_map, ei]; rfl, k _ _ _ _ _ _ hh (b.setS (.inr rfl) hsr) (.int _) (X2.setS (.inr rfl))⟩
      · exact hh.elim
    · exact hh.elim
  · exact hh.elim
/-- a list backwards, a new local object -/
def aRevM (te : ATE) : ATE := fun a Q => te a fun x m => match lstA m x with
  | some ds => Q (.o m.o.length) ⟨m.s, m.o ++ [.l ds.reverse]⟩
  | none => False
theorem q_revM {k : Nat} {p1 p2 p3 pos : Pos} (h : QE X e te) : QE X (.Subscript e (.Slice none none (some (.UnaryOp .USub (.Constant (.int 1) k p1) p2)) p3) pos) (aRevM te) := fun C hK => PE.imp (pe_revL (h C hK)) fun σ H Q ⟨a, L, Mo, AQ, r, k, h⟩ => by
  refine ⟨a, L, Mo, _, r, fun x m1 v L1 Mo1 H1 h1 b1 v1 e1 => ?_, h⟩
  split at h1
  · rename_i ds e
    obtain ⟨l, xs, rfl, h2, h3⟩ := lstA_ok b1 v1 e
    exact ⟨l, xs, rfl, SqL.of h2, fun p hp => (k.aft e1).lstM b1 hp h3.rev h1⟩
  · exact h1.elim
def aRev (te : ATE) : ATE := fun a Q => te a fun x m => match lstA m x with
  | some ds => Q (.d (.list ds.reverse)) m
  | none => False
theorem q_rev {k : Nat} {p1 p2 p3 pos : Pos} (h : QE X e te) : QE X (.Subscript e (.Slice none none (some (.UnaryOp .USub (.Constant (.int 1) k p1) p2)) p3) pos) (aRev te) := fun C hK => PE.imp (pe_revL (h C hK)) fun σ H Q ⟨a, L, Mo, AQ, r, k, h⟩ => by
  refine ⟨a, L, Mo, _, r, fun x m1 v L1 Mo1 H1 h1 b1 v1 e1 => ?_, h⟩
  split at h1
  · rename_i ds e
    obtain ⟨l, xs, rfl, h2, h3⟩ := lstA_ok b1 v1 e
    exact ⟨l, xs, rfl, SqL.of h2, fun p hp => (k.aft e1).lst b1 hp h3.rev h1⟩
  · exact h1.elim
/-- {'cells': .., 'left': .., 'mixed': .., 'turn': ..} -/
def aSrcNew (tc tl tm tt : ATE) : ATE := fun a Q => a.m.s = none ∧ tc ⟨a.g, ⟨none, a.m.o ++ [.kd []]⟩⟩ fun x1 m1 => tl ⟨a.g, m1⟩ fun x2 m2 => tm ⟨a.g, m2⟩ fun x3 m3 => tt ⟨a.g, m3⟩ fun x4 m4 => match x1, x2, x3, x4 with
  | .o j, .d (.int l), .d (.int mi), .d (.int tu) => m4.s = none ∧ j = a.m.o.length + 1 ∧ ∃ ns : List Int, m4.o = a.m.o ++ [.kd [], .l (ns.map PyData.int)] ∧ Q .src ⟨some ⟨ns, l, mi, tu⟩, a.m.o⟩
  | _, _, _, _ => False
theorem q_srcNew {e1 e2 e3 e4 : Expr} {t1 t2 t3 t4 : ATE} {p1 p2 p3 p4 : Pos} {j1 j2 j3 j4 : Nat} (h1 : QE X e1 t1) (h2 : QE X e2 t2) (h3 : QE X e3 t3) (h4 : QE X e4 t4) :
    QE X (.Dict [some (.Constant (.str "cells") j1 p1), some (.Constant (.str "left") j2 p2), some (.Constant (.str "mixed") j3 p3), some (.Constant (.str "turn") j4 p4)] [e1, e2, e3, e4] pos) (aSrcNew t1 t2 t3 t4) := fun C hK =>
  PE.imp (pe_disp (pps_cons pe_str (h1 C hK) (pps_cons pe_str (h2 C hK) (pps_cons pe_str (h3 C hK) (pps_cons pe_str (h4 C hK) pps_nil)))) (by rfl) (by rfl) (fun z => by cases z) (show 4 ≤ 15 by decide)) fun σ H Q ⟨a, L, Mo, AQ, r, k, hs, h⟩ => by
    intro p hp
    have hL : L = [] := by
      have q := r.b.sr
      rw [hs] at q; exact q
    subst hL
    have bA : B C ⟨none, a.m.o ++ [.kd []]⟩ [] (Mo ++ [p]) (upd H p (.dK [])) := by
      have := r.b.allocO (o := .kd []) (ho := .dK []) hp fun h' e => ⟨[], upd_same, .nil⟩
      rw [hs] at this; exact this
    have xA : X2 C [] Mo H [] (Mo ++ [p]) (upd H p (.dK [])) := X2.allocO hp
    have rA : R C ⟨a.g, ⟨none, a.m.o ++ [.kd []]⟩⟩ [] (Mo ++ [p]) σ (upd H p (.dK [])) := r.next bA xA
    refine ⟨⟨a.g, ⟨none, a.m.o ++ [.kd []]⟩⟩, [], Mo ++ [p], _, rA, fun x1 m1 v1 L1 Mo1 H1 q1 b1 r1 y1 => ?_, h⟩
    refine ⟨⟨a.g, m1⟩, L1, Mo1, _, rA.next b1 y1, fun x2 m2 v2 L2 Mo2 H2 q2 b2 r2 y2 => ?_, q1⟩
    refine ⟨⟨a.g, m2⟩, L2, Mo2, _, (rA.next b1 y1).next b2 y2, fun x3 m3 v3 L3 Mo3 H3 q3 b3 r3 y3 => ?_, q2⟩
    refine ⟨⟨a.g, m3⟩, L3, Mo3, _, ((rA.next b1 y1).next b2 y2).next b3 y3, fun x4 m4 v4 L4 Mo4 H4 q4 b4 r4 y4 => ?_, q3⟩
    split at q4
    · rename_i l mi tu
      rename_i j
      obtain ⟨es4, rfl, ns, eo, q⟩ := q4
      have hL4 : L4 = [] := by
        have z := b4.sr
        rw [es4] at z; exact z
      subst hL4
      have y14 : X2 C [] (Mo ++ [p]) (upd H p (.dK [])) [] Mo4 H4 := y1.trans (y2.trans (y3.trans y4))
      have hlen : Mo4.length = Mo.length + 2 := by
        have z := Paired.length b4.ob
        rw [eo] at z
        have z2 := Paired.length r.b.ob
        simp at z
        omega
      obtain ⟨tl, htl⟩ := y14.po
      have htl1 : tl.length = 1 := by
        have z := congrArg List.length htl
        simp at z
        omega
      obtain ⟨c, rfl⟩ := List.length_eq_one_iff.mp htl1
      subst htl
      have z2 := Paired.length r.b.ob
      -- the list
      have r1' := ((r1.mono y2).mono y3).mono y4
      obtain ⟨c', hc, rfl⟩ := r1'
      have : c' = c := by
        rw [z2, List.getElem?_append_right (by simp)] at hc
        simp at hc; exact hc.symm
      subst this
      obtain ⟨_, hc2, xs, hx1, hx2⟩ := paired_at (i := a.m.o.length + 1) (a := MO.l (ns.map PyData.int)) b4.ob (by rw [eo]; simp)
      rw [hc] at hc2; cases hc2
      obtain rfl := hx2.ints
      obtain ⟨p', hp1, ys, hp2, hp3⟩ := paired_at (i := a.m.o.length) (a := MO.kd []) b4.ob (by rw [eo]; simp)
      have : p' = p := by
        rw [z2, List.append_assoc, List.getElem?_append_right (by simp)] at hp1
        simp at hp1; exact hp1.symm
      subst this
      cases hp3
      have hv2 := dq_int (r2.mono (y3.trans y4)); have hv3 := dq_int (r3.mono y4); have hv4 := dq_int r4
      subst hv2; subst hv3; subst hv4
      have nd4 := b4.nd
      have ne : p' ≠ c' := by
        intro z; subst z
        have nd5 : (C.Z ++ ([] ++ (Mo ++ [p'] ++ [p']))).Nodup := nd4
        simp [List.nodup_append] at nd5
      refine ⟨hp2, srcKv ⟨ns, l, mi, tu⟩ c', rfl, (show 4 ≤ 15 by decide), ?_⟩
      show Q (.ref p') (upd H4 p' (.dK (srcKv ⟨ns, l, mi, tu⟩ c')))
      have e5 : C.hd [] (Mo ++ [p'] ++ [c']) (upd H4 p' (.dK (srcKv ⟨ns, l, mi, tu⟩ c'))) = C.hd [] (Mo ++ [p'] ++ [c']) H4 := hd_updIn (by simp)
      have e6 : ∀ Hh, C.hd [p', c'] Mo Hh = C.hd [] (Mo ++ [p'] ++ [c']) Hh := fun Hh => hid_congr fun x => by simp only [List.mem_append, List.mem_cons, List.not_mem_nil]; grind
      have hob : Paired (MOk C.K (C.hd [] (Mo ++ [p'] ++ [c']) H4) H4) a.m.o Mo := by
        have z := paired_take a.m.o.length b4.ob
        rw [eo, List.take_left, z2] at z
        have z3 : (Mo ++ [p'] ++ [c']).take Mo.length = Mo := by rw [List.append_assoc, List.take_left]
        rw [z3] at z
        exact z
      have nM : ∀ x ∈ Mo, x ≠ p' := fun x hx z => by
        subst z
        have nd5 : (C.Z ++ ([] ++ (Mo ++ [x] ++ [c']))).Nodup := nd4
        simp [List.nodup_append] at nd5
        grind
      have bN : B C ⟨some ⟨ns, l, mi, tu⟩, a.m.o⟩ [p', c'] Mo (upd H4 p' (.dK (srcKv ⟨ns, l, mi, tu⟩ c'))) := by
        refine ⟨?_, ⟨p', c', rfl, upd_same, by rw [upd_ne ne.symm]; exact hx1⟩, ?_, fun x u g1 g2 => ?_, fun x hx => .inr (b4.no x (by simp at hx; grind)).1, fun x hx => b4.no x (by simp [hx]), b4.zt, ?_⟩
        · have nd5 : (C.Z ++ ([] ++ (Mo ++ [p'] ++ [c']))).Nodup := nd4
          show (C.Z ++ ([p', c'] ++ Mo)).Nodup
          simp only [List.nil_append, List.append_assoc] at nd5 ⊢
          rw [List.nodup_append] at nd5 ⊢
          refine ⟨nd5.1, ?_, fun x hx y hy => nd5.2.2 x hx y (by simp at hy ⊢; grind)⟩
          have n6 := nd5.2.1
          simp [List.nodup_append] at n6 ⊢
          grind
        · rw [e6, e5]
          exact paired_impM hob fun o x hx w => w.mono (Same.refl _) (upd_ne (nM x hx))
        · have g3 := b4.kp x u g1 g2
          rw [upd_ne (fun z => by subst z; rw [(b4.no x (by simp)).1] at g1; cases g1)]
          exact g3
        · rcases b4.l0 with z | z
          · exact .inl z
          · exact .inl z.symm
      refine k _ _ _ _ _ _ q bN ⟨p', c', rfl, rfl⟩ ⟨.inl rfl, List.prefix_rfl, fun x u g => ?_⟩
      have g2 := y14.sm _ _ (xA.sm _ _ g)
      rw [e6, e5]
      exact g2
    · exact q4.elim
end
end QL

namespace QL
open PySem PySem.Spec PyProof.Rows L2

/-- the law: of any script of at most 63 ints it hands back True -/
def lawFn : AFn := fun avs s Q => ∃ ns : List Int, avs = [.scr ns] ∧ s = none ∧ ns.length ≤ 63 ∧ ∀ s', Q (.d (.bool true)) s'
theorem law_runG {P : Program} {w : World} {K : PySem.W.Frag} {mg mb : Str → Option Value} {k : Nat} {fa a : Addr} {fd : FuncData} {x : Str} {s₁ : Shared} {vs : List Value} {ns : List Int}
    (KX : K.In s₁.heap) (hns : s₁.heap.Ns mainGlobals mg) (hb : s₁.heap.Ns builtinsNs mb) (hbb : ∀ x : Str, x ≠ "__name__" → mb x = bootBuiltins x) (hlim : s₁.heap.NoLimit) (hg : s₁.gens = #[])
    (ha : s₁.heap.get? a = some { cls := .type "list", data := .seq vs.toArray }) (hi : IntsAre vs ns) (hl : ns.length ≤ 63) (hr : Room k callerA)
    (F : ∀ base : Heap, K.In base → base.Ns mainGlobals mg → FnG P w K mg base CX0 k fa fd [x] (spOf K 1 lawFn)) (hbind : ∀ (s : Shared) (u : Value), BindsTo s fd ⟨[u], []⟩ [(x, u)]) :
    codeAny (model P w) callerA (.call (.ref fa) ⟨[.ref a], []⟩) (fun r s' => r = .ok (.ret (.bool true)) ∧ OldK s₁.heap s'.heap ∧ s'.os = s₁.os ∧ AllBare s'.gens) s₁ := by
  have hvals := vals_of_ints hi
  have hlen : vs.length = ns.length := hi.length
  have main : ∀ H : Hp, Only H → SqL K H a (ns.map V.int) → HOk P w H s₁.heap → (∀ b, H b ≠ none → b = a) → (H a ≠ none → K.lookup a = none) →
      codeAny (model P w) callerA (.call (.ref fa) ⟨[.ref a], []⟩) (fun r s' => r = .ok (.ret (.bool true)) ∧ OldK s₁.heap s'.heap ∧ s'.os = s₁.os ∧ AllBare s'.gens) s₁ := by
    intro H hO hS hok hA hK
    have baseK : ∀ {b : Addr} {o : Obj}, s₁.heap.get? b = some o → H b = none → (hidT s₁.heap H).get? b = some o := fun e n => hidT_get e n
    have notDict : ∀ {b : Addr} {o : Obj} {es : Array DictEntry} {ep : Nat}, s₁.heap.get? b = some o → o.data = .dict es ep → H b = none := by
      intro b o es ep e d
      cases q : H b with
      | none => rfl
      | some u =>
        have hba := hA b (by simp [q])
        subst hba
        rw [ha] at e
        cases e
        exact nomatch (show Data.seq vs.toArray _ = Data.dict es ep from d)
    have nsB : ∀ {b : Addr} {m : Str → Option Value}, s₁.heap.Ns b m → (hidT s₁.heap H).Ns b m := by
      intro b m ⟨o, es, ep, e, d, r⟩
      exact ⟨o, es, ep, baseK e (notDict e d), d, r⟩
    have kBase : K.In (hidT s₁.heap H) := by
      intro b o e
      apply baseK (KX b o e)
      cases q : H b with
      | none => rfl
      | some u =>
        have hba := hA b (by simp [q])
        subst hba
        rw [hK (by simp [q])] at e
        cases e
    obtain ⟨mc, lim1, lim2⟩ := hlim
    have hM : Mod K mg (hidT s₁.heap H) := ⟨kBase, nsB hns, ⟨mb, nsB hb, hbb⟩, ⟨mc, nsB lim1, lim2⟩⟩
    have env : Env0 P w K mg (hidT s₁.heap H) callerA [] s₁ H :=
      { frames := rfl, mod := hM, bs := fun b o e => of_hidT e, bsz := Nat.le_of_eq (hidT_size _ _), funs := trivial, frf := fun b hb => absurd (show b ∈ ([] : List Addr) from hb) (by simp), hok := hok, bare := .of_eq hg }
    have want : spOf K 1 lawFn [.ref a] H (fun v _ => v = .bl true) (fun _ _ _ => False) := by
      refine ⟨rfl, [], [], none, [.scr ns], fun av _ => av = .d (.bool true), ⟨List.nodup_nil, rfl, fun z hz => by cases hz⟩, .cons ⟨a, rfl, ?_⟩ .nil, ?_, ns, rfl, rfl, hl, fun _ => rfl⟩
      · have e : hid ([] ++ ([] ++ [])) H = H := by funext b; simp [hid]
        show SqL K (hid ([] ++ ([] ++ [])) H) a _
        rw [e]; exact hS
      · rintro av s' v L' H' rfl b r
        exact dq_bl r
    apply codeAny_mono ((F _ kBase (nsB hns)).run callerA [] s₁ H ⟨[.ref a], []⟩ [.ref a] [.ref a] _ _ hr rfl env (hbind s₁ (.ref a)) (.cons rfl .nil) want)
    intro r s' h
    cases r with
    | error e => exact False.elim h
    | ok fl =>
      cases fl with
      | next => exact h.elim
      | brk => exact h.elim
      | cont => exact h.elim
      | ret u =>
        obtain ⟨v, H', os, bare, un, hok', rel, q⟩ := h
        have q' : v = .bl true := q
        subst q'
        have hu : u = Value.bool true := rel
        subst hu
        refine ⟨rfl, OldK.of_keep ?_, os, bare⟩
        intro b o e
        cases q : H b with
        | none => exact un.keep b o e q (fun z => absurd (show b ∈ ([] : List Addr) from z) (by simp)) (by simp)
        | some u =>
          cases hO b with
          | inl z => rw [q] at z; cases z
          | inr z =>
            obtain ⟨ob, xs, z⟩ := z
            have z2 := un.frzs b ob _ z
            have e1 := (hok b _ z).1
            have e2 := (hok' b _ z2).1
            rw [e] at e1
            cases e1
            exact e2
  have hsz : ns.length ≤ sizeLine := Nat.le_trans hl (by decide)
  cases hk : K.lookup a with
  | some o =>
    have e := KX a o hk
    rw [ha] at e
    cases e
    exact main (fun _ => none) (fun _ => .inl rfl) (.inr ⟨_, vs.toArray, _, hk, rfl, rfl, rfl, by rw [List.size_toArray, hlen]; exact hsz, by simpa using hvals⟩)
      (fun b u z => nomatch (show (none : Option HO) = some u from z)) (fun b z => absurd rfl z) (fun z => absurd rfl z)
  | none =>
    have hat : (fun b => if b = a then some (HO.frz { cls := .type "list", data := .seq vs.toArray } (.lst (ns.map V.int))) else none : Hp) a = some (HO.frz { cls := .type "list", data := .seq vs.toArray } (.lst (ns.map V.int))) := if_pos rfl
    apply main (fun b => if b = a then some (.frz { cls := .type "list", data := .seq vs.toArray } (.lst (ns.map V.int))) else none)
    · intro b
      by_cases hb : b = a
      · exact .inr ⟨_, _, if_pos hb⟩
      · exact .inl (if_neg hb)
    · exact .inl (.inr ⟨_, hat⟩)
    · intro b u z
      by_cases hb : b = a
      · have z' := (if_pos hb).symm.trans z
        cases z'
        subst hb
        exact ⟨ha, by simpa using hsz, vs, _, hvals, ha⟩
      · exact nomatch ((if_neg hb).symm.trans z)
    · intro b z
      by_cases hb : b = a
      · exact hb
      · exact absurd (if_neg hb) z
    · intro _
      exact hk
theorem walkG {l : PySem.W.OpenLaw} {k : Nat} {q : Program} {loose : List Str} {XP : (Str → Option Value) → Heap → Prop} {YP : World → Heap → Prop} {d : DefRec} {K : Params → PySem.W.Frag} {x : Str}
    (hn : l.most = some 63) (hdf : d.params.defaults = []) (hr : Room k callerA)
    (hY : ∀ (w : World) (h : Heap), YP w h → (K w.params).In h)
    (F : ∀ (w : World) (mg : Str → Option Value) (fa : Addr) (h : Heap), (K w.params).In h → h.Ns mainGlobals mg → mg d.name = some (.ref fa) →
      ∃ fd : FuncData, (∀ (s : Shared) (u : Value), BindsTo s fd ⟨[u], []⟩ [(x, u)]) ∧
        ∀ base : Heap, (K w.params).In base → base.Ns mainGlobals mg → FnG l.prog w (K w.params) mg base CX0 k fa fd [x] (spOf (K w.params) 1 lawFn)) :
    PySem.W.WalkO q loose XP YP l.row.toRowW d [] (fun f vs => PySem.call f vs) := by
  apply Att.attach_call hn hdf
  intro w s₀ s₁ mg mb fa o pm cd doc a vs ns G Y ho hd hcd hmg hobj hints hlen hg
  have kIn := hY w _ Y
  obtain ⟨fd, hb, hF⟩ := F w mg fa _ kIn G.T.g hmg
  exact law_runG kIn G.T.g G.T.b G.T.builtins G.T.nolimit hg hobj hints hlen hr hF hb
end QL

namespace QL
open PySem PySem.Spec PyProof.Rows L2

/-! ### short words for printed terms -/
abbrev allv : List Nat := List.range 40
theorem qv {X : Cx} (i : Nat) {x : Str} {pos : Pos} (hN : X.N[i]? = some x := by rfl) (hv : Vis X.env.scope x := by first | exact Or.inl rfl | exact Or.inr (Or.inl rfl) | exact Or.inr (Or.inr rfl)) (hd : (x == ("__debug__" : Str)) = false := by decide)
    (hcd : (x == ("__classdict__" : Str)) = false := by decide) : QE X (.Name x pos) (aVar i) := q_var hN hv hd hcd
/-- a module's constant -/
def ConstAt (K : PySem.W.Frag) (mg : Str → Option Value) (x : Str) (d : D) : Prop := ∃ (v : V) (u : Value), mg x = some u ∧ RelV v u ∧ ∀ H, Dq K H v d
theorem q_const {X : Cx} {x : Str} {d : D} {pos : Pos} (h : ConstAt X.K X.mg x d) (hg : Gl X x := by rfl) (hdb : (x == ("__debug__" : Str)) = false := by decide) : QE X (.Name x pos) (aC d) := by
  obtain ⟨v, u, h1, h2, h3⟩ := h
  exact q_glob hg h1 h2 h3 hdb
/-- a def of the text -/
def DefAt (K : PySem.W.Frag) (mg : Str → Option Value) (x : Str) (st : Stmt) (ps : List Str) : Prop := ∃ (f : Addr) (fd : FuncData), mg x = some (.ref f) ∧ Fun K x x st f fd ∧ Binds K fd ps []
/-- a def that keeps its promise -/
def Callee (P : Program) (w : World) (K : PySem.W.Frag) (mg : Str → Option Value) (base : Heap) (x : Str) (k n : Nat) (fn : AFn) : Prop :=
  ∃ (f : Addr) (fd : FuncData) (ps : List Str), mg x = some (.ref f) ∧ PySem.W.keepIn K (.ref f) = true ∧ Binds K fd ps [] ∧ FnG P w K mg base CX0 k f fd ps (spOf K n fn)
section
variable {P : Program} {w : World} {K : PySem.W.Frag} {mg : Str → Option Value} {base : Heap}
theorem DefAt.callee {x : Str} {st : Stmt} {ps N : List Str} {k n : Nat} {fn : AFn} {t : ATS} (Df : DefAt K mg x st ps) (S : FnScope N ps (defScope st)) (hn : ps.length = n)
    (hbody : ∀ (f : Addr) (cdv : Value) (A : Around) (outer : List Env) (s : Shared) (H : Hp) (E : XK), Room k (A.deeper (envOfC x (defScope st) s.heap.objs.size f cdv)) → (A.deeper (envOfC x (defScope st) s.heap.objs.size f cdv)).guards = some [] →
      QSs (cxOf CX0 P w K mg base N x (defScope st) f cdv A outer s H E).nox (defBody st) t)
    (hf : ∀ avs s AQ, fn avs s AQ → t (endsA AQ) ⟨startA N avs, ⟨s, []⟩⟩) : Callee P w K mg base x (k + 1) n fn := by
  obtain ⟨f, fd, h1, h2, h3⟩ := Df
  exact ⟨f, fd, ps, h1, h2.kp, h3, fn_okA h2 S hn (hbody f) hf⟩
theorem Callee.imp {x : Str} {k n : Nat} {fn fn' : AFn} (c : Callee P w K mg base x k n fn) (h : ∀ avs s Q, fn' avs s Q → fn avs s Q) : Callee P w K mg base x k n fn' := by
  obtain ⟨f, fd, ps, h1, h2, h3, F⟩ := c
  exact ⟨f, fd, ps, h1, h2, h3, ⟨fun vs H Q E ⟨e, Z, L, s, avs, AQ, q1, q2, q3, q4⟩ => F.len vs H Q E ⟨e, Z, L, s, avs, AQ, q1, q2, q3, h _ _ _ q4⟩,
    fun A outer s H args us vs Q E hr hg e0 hb hv ⟨e, Z, L, s', avs, AQ, q1, q2, q3, q4⟩ => F.run A outer s H args us vs Q E hr hg e0 hb hv ⟨e, Z, L, s', avs, AQ, q1, q2, q3, h _ _ _ q4⟩⟩⟩
end
section
variable {X : Cx} {k n : Nat} {fn : AFn} {x : Str} {p pos : Pos} {e : Expr} {es : List Expr} {t : ATA}
theorem q_call (c : Callee X.prog X.w X.K X.mg X.base x k n fn) (hr : Room k X.A) (hgd : X.A.guards = some []) (ha : QA X (e :: es) t) (hg : Gl X x := by rfl) (hdb : (x == ("__debug__" : Str)) = false := by decide)
    (he : starEach (e :: es) X.env = (false, eval e X.env) :: starEach es X.env := by rfl) (hpl : (backTo pos (starEach es X.env)).any (·.1) = false := by rfl) : QE X (.Call (.Name x p) (e :: es) [] pos) (aFn n fn t) := by
  obtain ⟨f, fd, ps, h1, h2, h3, F⟩ := c
  exact q_fn F hr hgd hg h1 h2 h3 pass0 ha hdb he hpl
theorem q_call0 (c : Callee X.prog X.w X.K X.mg X.base x k 0 fn) (hr : Room k X.A) (hgd : X.A.guards = some []) (hg : Gl X x := by rfl) (hdb : (x == ("__debug__" : Str)) = false := by decide) : QE X (.Call (.Name x p) [] [] pos) (aFn 0 fn aNil) := by
  obtain ⟨f, fd, ps, h1, h2, h3, F⟩ := c
  exact q_fn0 F hr hgd hg h1 h2 h3 pass0 hdb
/-- the script, walked -/
def aItS (te : ATE) : AIt := fun a Q => te a fun x m => match x with
  | .scr ns => Q (ns.map PyData.int) m
  | _ => False
theorem items_scr {C : Ct} {L Mo : List Addr} {H : Hp} {a : Addr} {ns : List Int} (h : SqL C.K (C.hd L Mo H) a (ns.map V.int)) : ItemsOk C (Itl C.K a) L Mo H (ns.map PyData.int) := fun C2 L1 Mo1 H1 m1 hK b sm => by
  have q : SqL C.K H1 a (ns.map V.int) := hid_same.seq (sm.seq h)
  refine ⟨fun i d e => ?_, _, q, by simp⟩
  obtain ⟨v, h1, h2⟩ := (DqAll.ofInts (K := C.K) (H := H) ns).at e
  refine ⟨⟨_, v, q, h1⟩, fun x H2 ⟨e1, e2⟩ => ?_⟩
  subst e1
  have := e2 _ q
  rw [h1] at this; cases this
  rw [List.getElem?_map] at e
  cases e3 : ns[i]? with
  | none => rw [e3] at e; cases e
  | some z =>
    rw [e3] at e
    cases e
    cases h2
    exact ⟨b, X2.refl, .int _⟩
theorem qi_scr {tg e : Expr} {te : ATE} (h : QE X e te) : QI X tg e (aItS te) := fun C hK => PI.imp (pi_list (h C hK)) fun σ H R' ⟨a, L, Mo, AQ, r, k, h⟩ => by
  refine ⟨a, L, Mo, _, r, fun x m1 v L1 Mo1 H1 h1 b1 v1 e1 => ?_, h⟩
  split at h1
  · obtain ⟨l, rfl, q⟩ := v1
    exact ⟨_, rfl, ⟨_, hK ▸ hid_same.seq q⟩, k _ _ _ _ _ _ h1 b1 e1 (hK ▸ items_scr q)⟩
  · exact h1.elim
end
theorem bt_len : bootBuiltins "len" = some (.builtin "len") := by decide +kernel
theorem bt_abs : bootBuiltins "abs" = some (.builtin "abs") := by decide +kernel
theorem bt_int : bootBuiltins "int" = some (.type "int") := by decide +kernel
theorem bt_tuple : bootBuiltins "tuple" = some (.type "tuple") := by decide +kernel
theorem bt_list : bootBuiltins "list" = some (.type "list") := by decide +kernel
theorem bt_dict : bootBuiltins "dict" = some (.type "dict") := by decide +kernel
theorem bt_str : bootBuiltins "str" = some (.type "str") := by decide +kernel
theorem bt_max : bootBuiltins "max" = some (.builtin "max") := by decide +kernel
theorem bt_min : bootBuiltins "min" = some (.builtin "min") := by decide +kernel
theorem bt_sum : bootBuiltins "sum" = some (.builtin "sum") := by decide +kernel
theorem bt_repr : bootBuiltins "repr" = some (.builtin "repr") := by decide +kernel
theorem bt_sorted : bootBuiltins "sorted" = some (.builtin "sorted") := by decide +kernel
theorem bt_all : bootBuiltins "all" = some (.builtin "all") := by decide +kernel
theorem bt_any : bootBuiltins "any" = some (.builtin "any") := by decide +kernel
theorem bt_isinstance : bootBuiltins "isinstance" = some (.builtin "isinstance") := by decide +kernel
end QL

namespace QL
open PySem PySem.Spec PyProof.Rows L2

/-! ### slices -/
abbrev ATO := AS → (Option Int → Mm → Prop) → Prop
def lftO (C : Ct) (t : ATO) : TO := fun σ H Q => ∃ a L Mo AQ, R C a L Mo σ H ∧ (∀ i m' L' Mo' H', AQ i m' → B C m' L' Mo' H' → X2 C L Mo H L' Mo' H' → Q i H') ∧ t a AQ
theorem PO.imp {X : Cx} {e : Option Expr} {t t' : TO} (h : PO X e t) (i : ∀ σ H Q, t' σ H Q → t σ H Q) : PO X e t' := ⟨fun pins s σ H Q I q => h.run pins s σ H Q I (i σ H Q q)⟩
def QO (X : Cx) (e : Option Expr) (t : ATO) : Prop := ∀ C : Ct, C.K = X.K → PO X e (lftO C t)
def aNoPart : ATO := fun a Q => Q none a.m
def aPart (t : ATE) : ATO := fun a Q => t a fun x m => match x with
  | .d (.int i) => Q (some i) m
  | _ => False
def cutD (ds : List D) (lo hi : Option Int) : List D := (ds.drop (HT.sIx ds.length 0 lo)).take (HT.sIx ds.length ds.length hi - HT.sIx ds.length 0 lo)
def aSlice (te : ATE) (tl th : ATO) : ATE := fun a Q => te a fun x m1 => tl ⟨a.g, m1⟩ fun lo m2 => th ⟨a.g, m2⟩ fun hi m3 => match tupA x with
  | some ds => Q (.d (.tuple (cutD ds lo hi))) m3
  | none => match lstA m3 x with
    | some ds => Q (.d (.list (cutD ds lo hi))) m3
    | none => False
section
variable {X : Cx} {e : Expr} {te : ATE} {lo hi : Option Expr} {tl th : ATO} {pos p2 : Pos}
theorem qo_none : QO X none aNoPart := fun C hK => PO.imp po_none fun σ H Q ⟨a, L, Mo, AQ, r, k, h⟩ => k _ _ _ _ _ h r.b X2.refl
theorem qo_some {e : Expr} (h : QE X e te) : QO X (some e) (aPart te) := fun C hK => PO.imp (po_some (h C hK)) fun σ H Q ⟨a, L, Mo, AQ, r, k, h⟩ => by
  refine ⟨a, L, Mo, _, r, fun x m1 v L1 Mo1 H1 h1 b1 v1 e1 => ?_, h⟩
  split at h1
  · exact ⟨_, dq_int v1, k _ _ _ _ _ h1 b1 e1⟩
  · exact h1.elim
theorem tupA_eq {x : AV} {ds : List D} (h : tupA x = some ds) : x = .d (.tuple ds) := by
  cases x with
  | d y => cases y <;> simp [tupA] at h; subst h; rfl
  | o j => simp [tupA] at h
  | src => simp [tupA] at h
  | cells => simp [tupA] at h
  | scr ns => simp [tupA] at h
  | kt ns => simp [tupA] at h
  | dt ns => simp [tupA] at h
  | ty ns => simp [tupA] at h
  | ad ns => simp [tupA] at h
theorem cut_ok {K : PySem.W.Frag} {H : Hp} {xs : List V} {ds : List D} {lo hi : Option Int} (h : DqAll K H xs ds) : DqAll K H (cutV xs lo hi) (cutD ds lo hi) := by
  unfold cutV cutD
  rw [h.len]
  exact (h.drop _).take _
theorem q_slice (h : QE X e te) (hl : QO X lo tl) (hu : QO X hi th) : QE X (.Subscript e (.Slice lo hi none p2) pos) (aSlice te tl th) := fun C hK =>
  PE.imp (pe_slice (SlR.or sl_tupA sl_list) (h C hK) (hl C hK) (hu C hK)) fun σ H Q ⟨a, L, Mo, AQ, r, k, h⟩ => by
  refine ⟨a, L, Mo, _, r, fun x m1 v L1 Mo1 H1 h1 b1 v1 e1 => ⟨⟨a.g, m1⟩, L1, Mo1, _, r.next b1 e1, fun l m2 L2 Mo2 H2 h2 b2 e2 => ⟨⟨a.g, m2⟩, L2, Mo2, _, (r.next b1 e1).next b2 e2, fun u m3 L3 Mo3 H3 h3 b3 e3 => ?_, h2⟩, h1⟩, h⟩
  have v3 := (v1.mono e2).mono e3
  have kk := k.aft (e1.trans (e2.trans e3))
  split at h3
  · rename_i ds e
    obtain ⟨l', xs, rfl, q1, q2⟩ := tupA_ok v3 e
    refine .inl ⟨l', xs, rfl, hK ▸ q1, fun hw => ?_, fun _ p hp => kk.tup b3 hp (cut_ok q2) h3⟩
    have : cutD ds l u = ds := by
      unfold cutD
      rw [← q2.len, hw.1, hw.2]
      simp [q2.len]
    rw [this] at h3
    rw [tupA_eq e] at v3
    exact kk.ret h3 b3 v3
  · split at h3
    · rename_i ds e
      obtain ⟨l', xs, rfl, q1, q2⟩ := lstA_ok b3 v3 e
      exact .inr ⟨l', xs, rfl, SqL.of q1, fun p hp => kk.lst b3 hp (cut_ok q2) h3⟩
    · exact h3.elim
end

/-! ### dicts by ints and texts, as local objects -/
def putD {κ : Type} [DecidableEq κ] (kvs : List (κ × D)) (k : κ) (v : D) : List (κ × D) :=
  if (kvs.any fun kv => decide (kv.1 = k)) = true then kvs.map (fun kv => if kv.1 = k then (kv.1, v) else kv) else kvs ++ [(k, v)]
def valD {κ : Type} [DecidableEq κ] (kvs : List (κ × D)) (k : κ) : Option D := (kvs.find? fun kv => decide (kv.1 = k)).map (·.2)
section
variable {κ : Type} [DecidableEq κ] {K : PySem.W.Frag} {h : Hp}
theorem KQ.any {ys : List (κ × V)} {kvs : List (κ × D)} (q : KQ K h ys kvs) (k : κ) : (ys.any fun kv => decide (kv.1 = k)) = (kvs.any fun kv => decide (kv.1 = k)) := by
  induction q with
  | nil => rfl
  | cons a b ih => rw [List.any_cons, List.any_cons, ih, a.1]
theorem KQ.mapPut {k : κ} {v : V} {d : D} (r : Dq K h v d) {l : List (κ × V)} {l' : List (κ × D)} (q : KQ K h l l') : KQ K h (l.map fun kv => if kv.1 = k then (kv.1, v) else kv) (l'.map fun kv => if kv.1 = k then (kv.1, d) else kv) := by
  induction q with
  | nil => exact .nil
  | cons a b ih =>
    rename_i p p' l l'
    obtain ⟨e, f⟩ := a
    rw [List.map_cons, List.map_cons]
    refine .cons ?_ ih
    by_cases hk : p.1 = k
    · simp only [if_pos hk, if_pos (e ▸ hk : p'.1 = k)]; exact ⟨e, r⟩
    · simp only [if_neg hk, if_neg (fun z => hk (e.trans z) : ¬ p'.1 = k)]; exact ⟨e, f⟩
theorem KQ.put {ys : List (κ × V)} {kvs : List (κ × D)} {k : κ} {v : V} {d : D} (q : KQ K h ys kvs) (r : Dq K h v d) : KQ K h (putK ys k v) (putD kvs k d) := by
  unfold putK putD
  rw [q.any k]
  split
  · exact q.mapPut r
  · exact paired_app q (.cons ⟨rfl, r⟩ .nil)
theorem KQ.val {ys : List (κ × V)} {kvs : List (κ × D)} (q : KQ K h ys kvs) (k : κ) : (valV ys k = none ∧ valD kvs k = none) ∨ ∃ v d, valV ys k = some v ∧ valD kvs k = some d ∧ Dq K h v d := by
  induction q with
  | nil => exact .inl ⟨rfl, rfl⟩
  | cons a b ih =>
    rename_i p p' l l'
    obtain ⟨e, f⟩ := a
    by_cases hk : p.1 = k
    · have hk' : p'.1 = k := e ▸ hk
      exact .inr ⟨p.2, p'.2, by simp [valV, List.find?_cons, hk], by simp [valD, List.find?_cons, hk'], f⟩
    · have hk' : ¬ p'.1 = k := fun z => hk (e.trans z)
      have e1 : valV (p :: l) k = valV l k := by simp [valV, List.find?_cons, hk]
      have e2 : valD (p' :: l') k = valD l' k := by simp [valD, List.find?_cons, hk']
      rw [e1, e2]; exact ih
theorem KQ.keys {ys : List (κ × V)} {kvs : List (κ × D)} (q : KQ K h ys kvs) : ys.map (·.1) = kvs.map (·.1) := by
  induction q with
  | nil => rfl
  | cons a b ih => simp [ih, a.1]
theorem KQ.length {ys : List (κ × V)} {kvs : List (κ × D)} (q : KQ K h ys kvs) : ys.length = kvs.length := Paired.length q
end
def mergeD (kvs more : List (Key × D)) : List (Key × D) := more.foldl (fun acc kv => putD acc kv.1 kv.2) kvs
theorem KQ.merge {K : PySem.W.Frag} {h : Hp} : ∀ {more : List (Key × V)} {md : List (Key × D)} {ys : List (Key × V)} {kvs : List (Key × D)}, KQ K h more md → KQ K h ys kvs → KQ K h (mergeK ys more) (mergeD kvs md)
  | _, _, _, _, .nil, q => q
  | _, _, _, _, .cons a t, q => by
    rename_i p p' l l'
    have := KQ.merge t (q.put (k := p.1) a.2)
    show KQ K h (mergeK (putK _ p.1 p.2) l) (mergeD (putD _ p'.1 p'.2) l')
    rw [← a.1]; exact this
def keyD : D → Option Key
  | .int i => some (.inl i)
  | .str x => some (.inr x)
  | _ => none
def pairsD : List D → Option (List (Key × D))
  | [] => some []
  | .tuple [k, v] :: r => match keyD k, pairsD r with
    | some k, some l => some ((k, v) :: l)
    | _, _ => none
  | _ => none
theorem keyD_ok {K : PySem.W.Frag} {h : Hp} {v : V} {d : D} {k : Key} (r : Dq K h v d) (e : keyD d = some k) : v = kV k := by
  cases d <;> simp [keyD] at e
  · subst e; exact dq_int r
  · subst e; exact dq_str r
theorem pairsD_ok {K : PySem.W.Frag} {h : Hp} : ∀ {ds : List D} {xs : List V} {kvs : List (Key × D)}, DqAll K h xs ds → pairsD ds = some kvs → ∃ (ps : List Addr) (ys : List (Key × V)), xs = ps.map V.ref ∧ Paired (fun p kv => SqT K h p [kV kv.1, kv.2]) ps ys ∧ KQ K h ys kvs
  | [], _, _, r, e => by cases e; cases r; exact ⟨[], [], rfl, .nil, .nil⟩
  | d :: ds, _, _, r, e => by
    cases r with
    | cons r1 r2 =>
      unfold pairsD at e
      split at e
      · rename_i h1; cases h1
      · rename_i k v rr h1
        cases h1
        split at e
        · rename_i k' l e1 e2
          cases e
          obtain ⟨ps, ys, rfl, h2, h3⟩ := pairsD_ok r2 e2
          cases r1 with
          | tup q1 q2 =>
            cases q2 with
            | cons q3 q4 =>
              cases q4 with
              | cons q5 q6 =>
                cases q6
                have hk := keyD_ok q3 e1
                subst hk
                exact ⟨_ :: ps, (k', _) :: ys, rfl, .cons q1 h2, .cons ⟨rfl, q5⟩ h3⟩
        · cases e
      · cases e
section
variable {X : Cx}
/-- dict(pairs) -/
def bDict : AC1 := fun avs m Q => match avs with
  | [x] => match lstA m x with
    | some ds => match pairsD ds with
      | some kvs => Q (.o m.o.length) ⟨m.s, m.o ++ [.kd (mergeD [] kvs)]⟩
      | none => False
    | none => False
  | _ => False
theorem cq_dict (hc : X.calm = true) : CallQ X (.type "dict") bDict := by
  refine ⟨_, call_dictP hc, fun C L Mo H m avs vs Q AQ hK b r k hh => ?_⟩
  unfold bDict at hh
  split at hh
  · split at hh
    · rename_i ds e
      split at hh
      · rename_i kvs e2
        obtain ⟨v, rfl, rv⟩ := av1 r
        obtain ⟨l, xs, rfl, h1, h2⟩ := lstA_ok b rv e
        obtain ⟨ps, ys, rfl, h3, h4⟩ := pairsD_ok h2 e2
        refine ⟨l, ps, ys, rfl, SqL.of h1, hK ▸ Paired.mapP h3 fun a c q => same_tup hid_same q, fun p hp => ?_⟩
        exact k _ _ _ _ _ _ hh (b.allocO (o := .kd (mergeD [] kvs)) hp fun h' e => ⟨_, upd_same, (KQ.merge h4 .nil).mono e⟩) ⟨p, by rw [Paired.length b.ob]; simp, rfl⟩ (X2.allocO hp)
      · exact hh.elim
    · exact hh.elim
  · exact hh.elim
/-- sorted(d), the keys ints -/
def intKeys : List (Key × D) → Option (List Int)
  | [] => some []
  | (.inl i, _) :: r => match intKeys r with
    | some l => some (i :: l)
    | none => none
  | _ => none
theorem intKeys_ok : ∀ {kvs : List (Key × D)} {ks : List Int}, intKeys kvs = some ks → kvs.map (·.1) = ks.map Sum.inl
  | [], _, e => by cases e; rfl
  | (.inl i, _) :: r, _, e => by
    simp only [intKeys] at e
    split at e
    · rename_i l e2; cases e; simp [intKeys_ok e2]
    · cases e
  | (.inr x, _) :: r, _, e => by simp [intKeys] at e
def bSortD : AC1 := fun avs m Q => match avs with
  | [.o j] => match m.o[j]? with
    | some (.kd kvs) => match intKeys kvs with
      | some ks => ks.length < 64 ∧ ∀ ns : List Int, ns.Perm ks → ns.Pairwise (· ≤ ·) → Q (.d (.list (ns.map PyData.int))) m
      | none => False
    | _ => False
  | _ => False
theorem cq_sortD (hc : X.calm = true) : CallQ X (.builtin "sorted") bSortD := by
  refine ⟨_, call_sortedDI hc, fun C L Mo H m avs vs Q AQ hK b r k hh => ?_⟩
  unfold bSortD at hh
  split at hh
  · split at hh
    · rename_i kvs e
      split at hh
      · rename_i ks e2
        obtain ⟨v, rfl, rv⟩ := av1 r
        obtain ⟨l, rfl, hl, ys, h3, h4⟩ := o_at b rv e
        exact ⟨l, ys, ks, rfl, .inl h3, h4.keys.trans (intKeys_ok e2), hh.1, fun ns p h5 h6 hp => k.lst b hp (DqAll.ofInts ns) (hh.2 ns h5 h6)⟩
      · exact hh.elim
    · exact hh.elim
  · exact hh.elim
end

/-! ### for the pure side -/
theorem endsA_nx (AQ : AV → Option Src → Prop) (a : AS) : (endsA AQ).nx a = AQ (.d .none) a.m.s := rfl
theorem endsA_rt_d (AQ : AV → Option Src → Prop) (x : D) (m : Mm) : (endsA AQ).rt (.d x) m = AQ (.d x) m.s := rfl
theorem endsA_rt_src (AQ : AV → Option Src → Prop) (m : Mm) : (endsA AQ).rt .src m = AQ .src m.s := rfl
theorem endsA_rt_o (AQ : AV → Option Src → Prop) (j : Nat) (s : Option Src) (o : List MO) (ds : List D) (h : o[j]? = some (.l ds)) : (endsA AQ).rt (.o j) ⟨s, o⟩ = AQ (.d (.list ds)) s := by
  simp [endsA, fzV, h]
theorem endsA_rt_kd (AQ : AV → Option Src → Prop) (j : Nat) (s : Option Src) (o : List MO) (ds : List (Key × D)) (h : o[j]? = some (.kd ds)) : (endsA AQ).rt (.o j) ⟨s, o⟩ = AQ (.d (.dict (kvD ds))) s := by
  simp [endsA, fzV, h]
theorem endsA_rt_td (AQ : AV → Option Src → Prop) (j : Nat) (s : Option Src) (o : List MO) (ds : List (List Key × D)) (h : o[j]? = some (.td ds)) : (endsA AQ).rt (.o j) ⟨s, o⟩ = AQ (.dt ds) s := by
  simp [endsA, fzV, h]
/-- one turn of a comprehension -/
def stepC (g : ATG) (tt : ATT) (te : ATE) (g0 : List (Option AV)) (d : D) (m : Mm) (K : Option D → Mm → Prop) : Prop := g (.d d) m g0 fun g' => tt ⟨g', m⟩ fun b m1 => if b = true then te ⟨g', m1⟩ fun y m2 => (match y with
  | .d e => K (some e) m2
  | _ => False) else K none m1
theorem aLcL_step {g : ATG} {tt : ATT} {te : ATE} {g0 : List (Option AV)} {d : D} {r acc : List D} {m : Mm} {Q : List D → Mm → Prop}
    (h : stepC g tt te g0 d m fun o m2 => match o with | some e => aLcL g tt te g0 r (acc ++ [e]) m2 Q | none => aLcL g tt te g0 r acc m2 Q) : aLcL g tt te g0 (d :: r) acc m Q := h
theorem aLcL_pure0 {g : ATG} {tt : ATT} {te : ATE} {g0 : List (Option AV)} {m : Mm} {Q : List D → Mm → Prop} (f : D → Option D) : ∀ (ds acc : List D), (∀ d ∈ ds, ∀ K, K (f d) m → stepC g tt te g0 d m K) → Q (acc ++ ds.filterMap f) m → aLcL g tt te g0 ds acc m Q
  | [], acc, _, h => by simpa [aLcL] using h
  | d :: r, acc, hs, h => by
    refine aLcL_step (hs d List.mem_cons_self _ ?_)
    cases e : f d with
    | none => exact aLcL_pure0 f r acc (fun d' hd => hs d' (List.mem_cons_of_mem _ hd)) (by simpa [List.filterMap_cons, e] using h)
    | some y => exact aLcL_pure0 f r (acc ++ [y]) (fun d' hd => hs d' (List.mem_cons_of_mem _ hd)) (by simpa [List.filterMap_cons, e] using h)
/-- a comprehension that reckons -/
theorem aLcL_pure {g : ATG} {tt : ATT} {te : ATE} {g0 : List (Option AV)} {m : Mm} {Q : List D → Mm → Prop} {ds : List D} (f : D → Option D) (hs : ∀ d ∈ ds, ∀ K, K (f d) m → stepC g tt te g0 d m K) (h : Q (ds.filterMap f) m) : aLcL g tt te g0 ds [] m Q :=
  aLcL_pure0 f ds [] hs h
/-- a comprehension with an invariant -/
theorem aLcL_inv0 {g : ATG} {tt : ATT} {te : ATE} {g0 : List (Option AV)} {Q : List D → Mm → Prop} (I : Nat → List D → Mm → Prop) : ∀ (ds : List D) (i : Nat) (acc : List D) (m : Mm), I i acc m → (∀ (j : Nat) (d : D) acc m K, d ∈ ds → I j acc m → (∀ e m', I (j + 1) (acc ++ [e]) m' → K (some e) m') → (∀ m', I (j + 1) acc m' → K none m') → stepC g tt te g0 d m K) →
    (∀ acc m, I (i + ds.length) acc m → Q acc m) → aLcL g tt te g0 ds acc m Q
  | [], i, acc, m, h, _, hq => hq acc m (by simpa using h)
  | d :: r, i, acc, m, h, hs, hq => aLcL_step (hs i d acc m _ List.mem_cons_self h
      (fun e m' h' => aLcL_inv0 I r (i + 1) _ m' h' (fun j d' acc m K hd => hs j d' acc m K (List.mem_cons_of_mem _ hd)) fun acc m q => hq acc m (by rw [List.length_cons, show i + (r.length + 1) = i + 1 + r.length by omega]; exact q))
      (fun m' h' => aLcL_inv0 I r (i + 1) _ m' h' (fun j d' acc m K hd => hs j d' acc m K (List.mem_cons_of_mem _ hd)) fun acc m q => hq acc m (by rw [List.length_cons, show i + (r.length + 1) = i + 1 + r.length by omega]; exact q)))
theorem aLcL_inv {g : ATG} {tt : ATT} {te : ATE} {g0 : List (Option AV)} {Q : List D → Mm → Prop} {ds : List D} {m : Mm} (I : Nat → List D → Mm → Prop) (h0 : I 0 [] m) (hs : ∀ (j : Nat) (d : D) acc m K, d ∈ ds → I j acc m → (∀ e m', I (j + 1) (acc ++ [e]) m' → K (some e) m') → (∀ m', I (j + 1) acc m' → K none m') → stepC g tt te g0 d m K)
    (hq : ∀ acc m, I ds.length acc m → Q acc m) : aLcL g tt te g0 ds [] m Q := aLcL_inv0 I ds 0 [] m h0 hs fun acc m q => hq acc m (by simpa using q)
theorem aForL_nil {n : Nat} {fs : List Nat} {g : ATG} {tb : ATS} {E : AEnds} {a : AS} (h : E.nx a) : aForL n fs g tb E [] a := h
end QL

namespace QL
open PySem PySem.Spec PyProof.Rows L2
/-! ### lists of anything told as data -/
def intR (lo : Int) (n : Nat) : List Int := (List.range n).map fun k : Nat => lo + (k : Int)
theorem rngD_eq (lo : Int) (n : Nat) : rngD lo n = (intR lo n).map PyData.int := by
  unfold rngD intR
  rw [List.map_map]
  rfl
theorem mem_intR {lo : Int} {n : Nat} {i : Int} (h : i ∈ intR lo n) : lo ≤ i ∧ i < lo + n := by
  obtain ⟨k, h1, rfl⟩ := List.mem_map.mp h
  have := List.mem_range.mp h1
  omega
theorem intR_len (lo : Int) (n : Nat) : (intR lo n).length = n := by simp [intR]
theorem aLcL_map {β : Type} {g : ATG} {tt : ATT} {te : ATE} {g0 : List (Option AV)} {m : Mm} {Q : List D → Mm → Prop} {xs : List β} (e : β → D) (c : β → Bool) (v : β → D)
    (hs : ∀ x ∈ xs, ∀ K, K (if c x = true then some (v x) else none) m → stepC g tt te g0 (e x) m K) (h : Q ((xs.filter c).map v) m) : aLcL g tt te g0 (xs.map e) [] m Q := by
  have go : ∀ (xs : List β) (acc : List D), (∀ x ∈ xs, ∀ K, K (if c x = true then some (v x) else none) m → stepC g tt te g0 (e x) m K) → Q (acc ++ (xs.filter c).map v) m → aLcL g tt te g0 (xs.map e) acc m Q := by
    intro xs
    induction xs with
    | nil => intro acc _ h; simpa [aLcL] using h
    | cons x xs ih =>
      intro acc hs h
      rw [List.map_cons]
      refine aLcL_step (hs x List.mem_cons_self _ ?_)
      by_cases hc : c x = true
      · simp only [hc, if_true]
        exact ih _ (fun y hy => hs y (List.mem_cons_of_mem _ hy)) (by simpa [List.filter_cons, hc] using h)
      · simp only [hc, if_false]
        exact ih _ (fun y hy => hs y (List.mem_cons_of_mem _ hy)) (by simpa [List.filter_cons, hc] using h)
  exact go xs [] hs (by simpa using h)
/-- .. without a test -/
theorem aLcL_all {β : Type} {g : ATG} {tt : ATT} {te : ATE} {g0 : List (Option AV)} {m : Mm} {Q : List D → Mm → Prop} {xs : List β} (e : β → D) (v : β → D)
    (hs : ∀ x ∈ xs, ∀ K, K (some (v x)) m → stepC g tt te g0 (e x) m K) (h : Q (xs.map v) m) : aLcL g tt te g0 (xs.map e) [] m Q :=
  by
    have e1 : xs.filter (fun _ => true) = xs := List.filter_eq_self.mpr (by simp)
    exact aLcL_map e (fun _ => true) v (fun x hx K hK => hs x hx K (by simpa using hK)) (by rw [e1]; exact h)
/-- a for that keeps an invariant and does not leave: behind i items I i holds -/
theorem sub64 : (9223372036854775808 : Int) = 2 ^ 63 := by decide
theorem Rg.of {j : Int} (h1 : -4611686018427387904 ≤ j) (h2 : j < 4611686018427387904) : Rg j := ⟨by simpa using h1, by simpa using h2⟩
theorem MulOk.l {i j : Int} (h1 : -18446744073709551616 < i) (h2 : i < 18446744073709551616) : MulOk i j := .inl (.inl ⟨by simpa using h1, by simpa using h2⟩)
theorem MulOk.r {i j : Int} (h1 : -18446744073709551616 < j) (h2 : j < 18446744073709551616) : MulOk i j := .inl (.inr ⟨by simpa using h1, by simpa using h2⟩)
/-! data of plain things -/
theorem shaped_int (i : Int) : SeqAt.shaped (.int i) = true := rfl
end QL

namespace QL
open PySem PySem.Spec PyProof.Rows L2
/-! ### what repr asks, made easy -/
mutual
def IntsB : D → Prop
  | .none => True
  | .bool _ => True
  | .int i => i.natAbs.log2 < 1900
  | .str x => ∀ c ∈ x.cps.toList, c < 16 ^ 8
  | .list xs => IntsBs xs
  | .tuple xs => IntsBs xs
  | .dict _ => False
def IntsBs : List D → Prop
  | [] => True
  | x :: xs => IntsB x ∧ IntsBs xs
end
mutual
theorem IntsB.show_ : ∀ d : D, IntsB d → d.showable = true ∧ d.leavesShort 2000 = true
  | .none, _ => ⟨rfl, rfl⟩
  | .bool _, _ => ⟨rfl, rfl⟩
  | .int i, h => by
    have h' : i.natAbs.log2 < 1900 := h
    refine ⟨by simp [PyData.showable]; omega, ?_⟩
    have e := int_text_length_le (k := 1900) (by decide) h'
    simp only [PyData.leavesShort, decide_eq_true_eq]
    show (Str.ofString (toString i)).length ≤ 2000
    rw [PySem.ofString_length]; omega
  | .str x, h => by
    refine ⟨rfl, ?_⟩
    simp only [PyData.leavesShort, List.all_eq_true, decide_eq_true_eq]
    exact h
  | .list xs, h => by
    obtain ⟨h1, h2⟩ := IntsBs.show_ xs h
    exact ⟨by simpa [PyData.showable] using h1, by simpa [PyData.leavesShort] using h2⟩
  | .tuple xs, h => by
    obtain ⟨h1, h2⟩ := IntsBs.show_ xs h
    exact ⟨by simpa [PyData.showable] using h1, by simpa [PyData.leavesShort] using h2⟩
  | .dict _, h => h.elim
theorem IntsBs.show_ : ∀ ds : List D, IntsBs ds → PyData.showableAll ds = true ∧ PyData.leavesShortAll 2000 ds = true
  | [], _ => ⟨rfl, rfl⟩
  | d :: ds, h => by
    obtain ⟨h1, h2⟩ := IntsB.show_ d h.1
    obtain ⟨h3, h4⟩ := IntsBs.show_ ds h.2
    exact ⟨by simp [PyData.showableAll, h1, h3], by simp [PyData.leavesShortAll, h2, h4]⟩
end
mutual
theorem IntsB.noDict : ∀ d : D, IntsB d → d.hasDict = false
  | .none, _ => by simp [PyData.hasDict]
  | .bool _, _ => by simp [PyData.hasDict]
  | .int _, _ => by simp [PyData.hasDict]
  | .str _, _ => by simp [PyData.hasDict]
  | .list xs, h => by simp only [PyData.hasDict]; exact IntsBs.noDict xs h
  | .tuple xs, h => by simp only [PyData.hasDict]; exact IntsBs.noDict xs h
  | .dict _, h => h.elim
theorem IntsBs.noDict : ∀ ds : List D, IntsBs ds → PyData.hasDictAll ds = false
  | [], _ => by simp [PyData.hasDictAll]
  | d :: ds, h => by simp [PyData.hasDictAll, IntsB.noDict d h.1, IntsBs.noDict ds h.2]
end
theorem RepOk.of {d : D} (h : IntsB d) (hd : d.depth ≤ 64) (hb : d.bulk ≤ 8000) : RepOk d := by
  obtain ⟨h1, h2⟩ := h.show_
  refine ⟨h.noDict, h1, hd, ?_⟩
  have e := PyData.shown_le_bulk 2000 (by decide) d h2
  rw [sizeLine_eq]
  omega
/-- an int of up to 1899 bits -/
theorem log_small {i : Int} (h : i.natAbs < 2 ^ 1899) : i.natAbs.log2 < 1900 := by
  by_cases h0 : i.natAbs = 0
  · rw [h0]; decide
  · have := (Nat.log2_lt h0).mpr h
    omega
theorem log_64 {i : Int} (h1 : -18446744073709551616 < i) (h2 : i < 18446744073709551616) : i.natAbs.log2 < 1900 := by
  have e : (2 : Nat) ^ 64 = 18446744073709551616 := by decide
  have h : i.natAbs < 2 ^ 64 := by omega
  exact log_small (Nat.lt_of_lt_of_le h (Nat.pow_le_pow_right (by decide) (by decide)))
end QL

namespace QL
open PySem PySem.Spec PyProof.Rows L2

/-! ### dicts as data and as local objects -/
def unK : List (D × D) → List (Key × D)
  | [] => []
  | (k, d) :: r => match keyD k with
    | some k => (k, d) :: unK r
    | none => unK r
theorem keyD_kD (k : Key) : keyD (kD k) = some k := by cases k <;> rfl
theorem unK_kvD : ∀ kvs : List (Key × D), unK (kvD kvs) = kvs
  | [] => rfl
  | (k, d) :: r => by
    show unK ((kD k, d) :: kvD r) = _
    unfold unK
    rw [keyD_kD, unK_kvD r]
theorem DqK.un {K : PySem.W.Frag} {h : Hp} : ∀ {kvs : List (D × D)} {ys : List (Key × V)}, DqK K h ys kvs → KQ K h ys (unK kvs)
  | [], _, q => by cases q; exact .nil
  | (k, d) :: r, _, q => by
    cases q with
    | cons q1 q2 =>
      unfold unK
      rw [keyD_kD]
      exact .cons ⟨rfl, q1⟩ (DqK.un q2)
/-- a dict by ints and texts -/
def dkA (m : Mm) : AV → Option (List (Key × D))
  | .d (.dict kvs) => some (unK kvs)
  | .o j => match m.o[j]? with
    | some (.kd kvs) => some kvs
    | _ => none
  | _ => none
/-- a dict by tuples -/
def dtA (m : Mm) : AV → Option (List (List Key × D))
  | .dt kvs => some kvs
  | .o j => match m.o[j]? with
    | some (.td kvs) => some kvs
    | _ => none
  | _ => none
def keyA : AV → Option Key
  | .d d => keyD d
  | _ => none
section
variable {C : Ct} {m : Mm} {L Mo : List Addr} {H : Hp} {x : AV} {v : V}
theorem dkA_ok {kvs : List (Key × D)} (b : B C m L Mo H) (r : AVR C L Mo H x v) (h : dkA m x = some kvs) : ∃ l ys, v = .ref l ∧ H l = some (.dK ys) ∧ KQ C.K (C.hd L Mo H) ys kvs := by
  cases x with
  | d y =>
    cases y <;> simp [dkA] at h
    subst h
    cases r with
    | dk h1 h2 => exact ⟨_, _, rfl, (hid_some h1).2, DqK.un h2⟩
  | o j =>
    simp only [dkA] at h
    split at h
    · rename_i kvs' e
      cases h
      obtain ⟨l, rfl, _, ys, h3, h4⟩ := o_at b r e
      exact ⟨l, ys, rfl, h3, h4⟩
    · cases h
  | src => simp [dkA] at h
  | cells => simp [dkA] at h
  | scr ns => simp [dkA] at h
  | kt ns => simp [dkA] at h
  | dt ns => simp [dkA] at h
  | ty ns => simp [dkA] at h
  | ad ns => simp [dkA] at h
theorem dtA_ok {kvs : List (List Key × D)} (b : B C m L Mo H) (r : AVR C L Mo H x v) (h : dtA m x = some kvs) : ∃ l ys, v = .ref l ∧ H l = some (.dT ys) ∧ KQ C.K (C.hd L Mo H) ys kvs := by
  cases x with
  | d y => simp [dtA] at h
  | o j =>
    simp only [dtA] at h
    split at h
    · rename_i kvs' e
      cases h
      obtain ⟨l, rfl, _, ys, h3, h4⟩ := o_at b r e
      exact ⟨l, ys, rfl, h3, h4⟩
    · cases h
  | src => simp [dtA] at h
  | cells => simp [dtA] at h
  | scr ns => simp [dtA] at h
  | kt ns => simp [dtA] at h
  | ty ns => simp [dtA] at h
  | ad ns => simp [dtA] at h
  | dt ns =>
    simp [dtA] at h
    subst h
    obtain ⟨a, ys, rfl, h1, h2⟩ := r
    exact ⟨a, ys, rfl, (hid_some h1).2, h2⟩
theorem keyA_ok {k : Key} (r : AVR C L Mo H x v) (h : keyA x = some k) : v = kV k := by
  cases x with
  | d y => exact keyD_ok r h
  | o j => simp [keyA] at h
  | src => simp [keyA] at h
  | cells => simp [keyA] at h
  | scr ns => simp [keyA] at h
  | kt ns => simp [keyA] at h
  | dt ns => simp [keyA] at h
  | ty ns => simp [keyA] at h
  | ad ns => simp [keyA] at h
def OptQ (K : PySem.W.Frag) (h : Hp) : Option V → Option D → Prop
  | some v, some d => Dq K h v d
  | none, none => True
  | _, _ => False
theorem KQ.opt {κ : Type} [DecidableEq κ] {K : PySem.W.Frag} {h : Hp} {ys : List (κ × V)} {kvs : List (κ × D)} (q : KQ K h ys kvs) (k : κ) : OptQ K h (valV ys k) (valD kvs k) := by
  rcases q.val k with ⟨q1, q2⟩ | ⟨z, d, q1, q2, q3⟩
  · rw [q1, q2]; trivial
  · rw [q1, q2]; exact q3
theorem OptQ.some_ {K : PySem.W.Frag} {h : Hp} {o : Option V} {d : D} (q : OptQ K h o (some d)) : ∃ z, o = some z ∧ Dq K h z d := by
  cases o with
  | none => exact q.elim
  | some z => exact ⟨z, rfl, q⟩
theorem OptQ.none_ {K : PySem.W.Frag} {h : Hp} {o : Option V} (q : OptQ K h o none) : o = none := by
  cases o with
  | none => rfl
  | some z => exact q.elim
theorem OptQ.isSome {K : PySem.W.Frag} {h : Hp} {o : Option V} {d : Option D} (q : OptQ K h o d) : o.isSome = d.isSome := by
  cases d with
  | none => rw [q.none_]; rfl
  | some d => obtain ⟨z, rfl, _⟩ := q.some_; rfl
/-- what a look at a key finds -/
def lookA (m : Mm) (x y : AV) : Option (Option D) := match dkA m x with
  | some kvs => match keyA y with
    | some k => some (valD kvs k)
    | none => none
  | none => match dtA m x with
    | some kvs => match y with
      | .kt ks => some (valD kvs ks)
      | _ => none
    | none => none
theorem lookA_ok {y : AV} {w : V} {o : Option D} (b : B C m L Mo H) (r1 : AVR C L Mo H x v) (r2 : AVR C L Mo H y w) (h : lookA m x y = some o) :
    ∃ a o', v = .ref a ∧ DGet H a w o' ∧ OptQ C.K (C.hd L Mo H) o' o := by
  unfold lookA at h
  split at h
  · rename_i kvs e
    split at h
    · rename_i k ek
      cases h
      obtain ⟨l, ys, rfl, h3, h4⟩ := dkA_ok b r1 e
      have hk := keyA_ok r2 ek
      subst hk
      exact ⟨l, _, rfl, DGet.k h3, h4.opt k⟩
    · cases h
  · split at h
    · rename_i kvs e
      split at h
      · rename_i ks
        cases h
        obtain ⟨l, ys, rfl, h3, h4⟩ := dtA_ok b r1 e
        obtain ⟨b', rfl, h5⟩ := r2
        exact ⟨l, _, rfl, DGet.t h3 (hid_some h5).2, h4.opt ks⟩
      · cases h
    · cases h
end
section
variable {X : Cx} {o i e f value : Expr} {pos pos' apos cpos : Pos} {td ty tv tx : ATE}
/-- d[y] -/
def aDix : AR2 := fun x y m Q => match lookA m x y with
  | some (some d) => Q (.d d) m
  | _ => False
theorem q_dix (hu : X.A.units + 1 < cLine) (ho : QE X o td) (hi : QE X i ty) (hs : NoSl i := by intro _ _; rfl) : QE X (.Subscript o i pos) (aBin aDix td ty) := fun C hK => PE.imp (pe_dget hu (ho C hK) (hi C hK) hs) fun σ H Q ⟨a, L, Mo, AQ, r, k, h⟩ => by
  refine ⟨a, L, Mo, _, r, fun x m1 v L1 Mo1 H1 h1 b1 v1 e1 => ⟨⟨a.g, m1⟩, L1, Mo1, _, r.next b1 e1, fun y m2 w L2 Mo2 H2 h2 b2 w2 e2 => ?_, h1⟩, h⟩
  have h2' : (match lookA m2 x y with | some (some d) => AQ (.d d) m2 | _ => False) := h2
  split at h2'
  · rename_i d e
    obtain ⟨l, o', rfl, g, q⟩ := lookA_ok b2 (v1.mono e2) w2 e
    obtain ⟨z, rfl, q⟩ := q.some_
    exact ⟨l, z, rfl, g, ((k.aft e1).aft e2).ret h2' b2 q⟩
  · exact h2'.elim
/-- y in d -/
def aDin : AR2 := fun y x m Q => match lookA m x y with
  | some o => Q (.d (.bool o.isSome)) m
  | none => False
def aDnin : AR2 := fun y x m Q => match lookA m x y with
  | some o => Q (.d (.bool (!o.isSome))) m
  | none => False
theorem op_din (hu : X.A.units + 1 < cLine) : OpR X (compareOp .In) (fun y x H Q => ∃ a o, x = .ref a ∧ DGet H a y o ∧ Q (.bl o.isSome) H) := by
  intro pins s σ H y x v u Q I ry rx h
  obtain ⟨a, ov, ex, g, q2⟩ := h
  subst ex
  obtain rfl : u = Value.ref a := rx
  exact d_in hu I g ry fun s3 I3 => ⟨.bl ov.isSome, H, I3, rfl, q2⟩
theorem op_dnin (hu : X.A.units + 1 < cLine) : OpR X (compareOp .NotIn) (fun y x H Q => ∃ a o, x = .ref a ∧ DGet H a y o ∧ Q (.bl (!o.isSome)) H) := by
  intro pins s σ H y x v u Q I ry rx h
  obtain ⟨a, ov, ex, g, q2⟩ := h
  subst ex
  obtain rfl : u = Value.ref a := rx
  exact d_notIn hu I g ry fun s3 I3 => ⟨.bl (!ov.isSome), H, I3, rfl, q2⟩
theorem oq_din (hu : X.A.units + 1 < cLine) : OpQ X (compareOp .In) aDin := by
  refine ⟨_, op_din hu, fun C L Mo H m y x w v Q AQ hK b r2 r1 k hh => ?_⟩
  unfold aDin at hh
  split at hh
  · rename_i o e
    obtain ⟨l, o', rfl, g, q⟩ := lookA_ok b r1 r2 e
    refine ⟨l, o', rfl, g, ?_⟩
    rw [q.isSome]
    exact k.ret hh b (.bl _)
  · exact hh.elim
theorem oq_dnin (hu : X.A.units + 1 < cLine) : OpQ X (compareOp .NotIn) aDnin := by
  refine ⟨_, op_dnin hu, fun C L Mo H m y x w v Q AQ hK b r2 r1 k hh => ?_⟩
  unfold aDnin at hh
  split at hh
  · rename_i o e
    obtain ⟨l, o', rfl, g, q⟩ := lookA_ok b r1 r2 e
    refine ⟨l, o', rfl, g, ?_⟩
    rw [q.isSome]
    exact k.ret hh b (.bl _)
  · exact hh.elim
/-- d.get(y, z) -/
def isDictA (m : Mm) (x : AV) : Bool := (dkA m x).isSome || (dtA m x).isSome
theorem isDictA_ok {C : Ct} {m : Mm} {L Mo : List Addr} {H : Hp} {x : AV} {v : V} (b : B C m L Mo H) (r : AVR C L Mo H x v) (h : isDictA m x = true) : ∃ a, v = .ref a ∧ IsD H a := by
  unfold isDictA at h
  cases e : dkA m x with
  | some kvs =>
    obtain ⟨l, ys, rfl, h3, _⟩ := dkA_ok b r e
    exact ⟨l, rfl, .inl ⟨ys, .inl h3⟩⟩
  | none =>
    cases e2 : dtA m x with
    | some kvs =>
      obtain ⟨l, ys, rfl, h3, _⟩ := dtA_ok b r e2
      exact ⟨l, rfl, .inr ⟨ys, .inl h3⟩⟩
    | none => rw [e, e2] at h; simp at h
def aDget (td ty tx : ATE) : ATE := fun a Q => td a fun x m1 => isDictA m1 x = true ∧ ty ⟨a.g, m1⟩ fun y m2 => tx ⟨a.g, m2⟩ fun z m3 => match lookA m3 x y with
  | some (some d) => Q (.d d) m3
  | some none => Q z m3
  | none => False
theorem q_dget (hu : X.A.units + 1 < cLine) (ho : QE X o td) (he : QE X e ty) (hf : QE X f tx) (m : M2 X o "get" apos e f cpos := by exact ⟨rfl, rfl, rfl, rfl⟩) : QE X (.Call (.Attribute o "get" apos) [e, f] [] cpos) (aDget td ty tx) := fun C hK =>
  PE.imp (pe_dget2 hu (ho C hK) (he C hK) (hf C hK) m) fun σ H Q ⟨a, L, Mo, AQ, r, k, h⟩ => by
    refine ⟨a, L, Mo, _, r, fun x m1 v L1 Mo1 H1 ⟨h0, h1⟩ b1 v1 e1 => ?_, h⟩
    obtain ⟨l, rfl, hd⟩ := isDictA_ok b1 v1 h0
    refine ⟨l, rfl, hd, ⟨a.g, m1⟩, L1, Mo1, _, r.next b1 e1, fun y m2 w L2 Mo2 H2 h2 b2 w2 e2 => ⟨⟨a.g, m2⟩, L2, Mo2, _, (r.next b1 e1).next b2 e2, fun z m3 w' L3 Mo3 H3 h3 b3 w3 e3 => ?_, h2⟩, h1⟩
    have h3' : (match lookA m3 x y with | some (some d) => AQ (.d d) m3 | some none => AQ z m3 | none => False) := h3
    split at h3'
    · rename_i d e
      obtain ⟨l', o', hl, g, q⟩ := lookA_ok b3 ((v1.mono e2).mono e3) (w2.mono e3) e
      obtain ⟨z', rfl, q⟩ := q.some_
      cases hl
      exact ⟨_, g, (((k.aft e1).aft e2).aft e3).ret h3' b3 q⟩
    · rename_i e
      obtain ⟨l', o', hl, g, q⟩ := lookA_ok b3 ((v1.mono e2).mono e3) (w2.mono e3) e
      cases hl
      have q' : o' = none := q.none_
      subst q'
      exact ⟨_, g, (((k.aft e1).aft e2).aft e3).ret h3' b3 w3⟩
    · exact h3'.elim
/-- d[y] = v, d a local object -/
def aDput (td ty tv : ATE) : ATS := fun E a => tv a fun v m1 => td ⟨a.g, m1⟩ fun x m2 => ty ⟨a.g, m2⟩ fun y m3 => match x, v with
  | .o j, .d d => match m3.o[j]? with
    | some (.kd kvs) => match keyA y with
      | some k => kvs.length ≤ 1000000 ∧ E.nx ⟨a.g, ⟨m3.s, m3.o.set j (.kd (putD kvs k d))⟩⟩
      | none => False
    | some (.td kvs) => match y with
      | .kt ks => kvs.length ≤ 1000000 ∧ E.nx ⟨a.g, ⟨m3.s, m3.o.set j (.td (putD kvs ks d))⟩⟩
      | _ => False
    | _ => False
  | _, _ => False
theorem qs_dput (hu : X.A.units + 1 < cLine) (ho : QE X o td) (hi : QE X i ty) (hv : QE X value tv) (hs : swapsWith value (some (.Subscript o i pos')) pos.line X.env = pure false := by rfl) :
    QS X (.Assign [.Subscript o i pos'] value pos) (aDput td ty tv) := fun C hK => PS.imp (ps_dput hu (ho C hK) (hi C hK) (hv C hK) hs) fun D σ H ⟨a, L, Mo, AD, r, b, h⟩ => by
  refine ⟨a, L, Mo, _, r, fun v m1 w L1 Mo1 H1 h1 b1 w1 e1 => ⟨⟨a.g, m1⟩, L1, Mo1, _, r.next b1 e1, fun x m2 u L2 Mo2 H2 h2 b2 v2 e2 => ⟨⟨a.g, m2⟩, L2, Mo2, _, (r.next b1 e1).next b2 e2, fun y m3 z L3 Mo3 H3 h3 b3 z3 e3 => ?_, h2⟩, h1⟩, h⟩
  have r3 := ((r.next b1 e1).next b2 e2).next b3 e3
  split at h3
  · rename_i j d
    have hw : Dq C.K (C.hd L3 Mo3 H3) w d := (w1.mono e2).mono e3
    split at h3
    · rename_i kvs e
      split at h3
      · rename_i k ek
        obtain ⟨l, rfl, hl, ys, h4, h5⟩ := o_at b3 (v2.mono e3) e
        have hk := keyA_ok z3 ek
        subst hk
        refine ⟨l, _, rfl, DPut.k h4 (by rw [h5.length]; exact line6 h3.1), b.nx _ _ _ _ _ h3.2 (r3.next (b3.upd hl fun h e => ⟨_, upd_same, by rw [e]; exact h5.put hw⟩) (X2.upd (List.mem_of_getElem? hl)))⟩
      · exact h3.elim
    · rename_i kvs e
      split at h3
      · rename_i ks
        obtain ⟨l, rfl, hl, ys, h4, h5⟩ := o_at b3 (v2.mono e3) e
        obtain ⟨b', rfl, h6⟩ := z3
        refine ⟨l, _, rfl, DPut.t h4 (hid_some h6).2 (by rw [h5.length]; exact line6 h3.1), b.nx _ _ _ _ _ h3.2 (r3.next (b3.upd hl fun h e => ⟨_, upd_same, by rw [e]; exact h5.put hw⟩) (X2.upd (List.mem_of_getElem? hl)))⟩
      · exact h3.elim
    · exact h3.elim
  · exact h3.elim
/-- {} -/
def aDnewK : ATE := fun a Q => Q (.o a.m.o.length) ⟨a.m.s, a.m.o ++ [.kd []]⟩
def aDnewT : ATE := fun a Q => Q (.o a.m.o.length) ⟨a.m.s, a.m.o ++ [.td []]⟩
theorem q_dnewK : QE X (.Dict [] [] pos) aDnewK := fun C hK => PE.imp pe_dnewK fun σ H Q ⟨a, L, Mo, AQ, r, k, h⟩ p hp =>
  k _ _ _ _ _ _ h (r.b.allocO (o := .kd []) hp fun h' e => ⟨[], upd_same, .nil⟩) ⟨p, by rw [Paired.length r.b.ob]; simp, rfl⟩ (X2.allocO hp)
theorem q_dnewT : QE X (.Dict [] [] pos) aDnewT := fun C hK => PE.imp pe_dnewT fun σ H Q ⟨a, L, Mo, AQ, r, k, h⟩ p hp =>
  k _ _ _ _ _ _ h (r.b.allocO (o := .td []) hp fun h' e => ⟨[], upd_same, .nil⟩) ⟨p, by rw [Paired.length r.b.ob]; simp, rfl⟩ (X2.allocO hp)
/-- a tuple that is to be a key -/
def keysD : List D → Option (List Key)
  | [] => some []
  | d :: r => match keyD d, keysD r with
    | some k, some l => some (k :: l)
    | _, _ => none
theorem keysD_ok {K : PySem.W.Frag} {h : Hp} : ∀ {ds : List D} {vs : List V} {ks : List Key}, DqAll K h vs ds → keysD ds = some ks → vs = ks.map kV
  | [], _, _, q, e => by cases q; cases e; rfl
  | d :: r, _, _, q, e => by
    cases q with
    | cons q1 q2 =>
      simp only [keysD] at e
      split at e
      · rename_i k l e1 e2
        cases e
        rw [List.map_cons, keyD_ok q1 e1, keysD_ok q2 e2]
      · cases e
theorem keysD_kD : ∀ ks : List Key, keysD (ks.map kD) = some ks
  | [] => rfl
  | k :: r => by
    rw [List.map_cons]
    unfold keysD
    rw [keyD_kD, keysD_kD r]
def bTupleK : AC1 := fun avs m Q => match avs with
  | [x] => match lstA m x with
    | some ds => match keysD ds with
      | some ks => Q (.kt ks) m
      | none => False
    | none => False
  | _ => False
theorem cq_tupleK : CallQ X (.type "tuple") bTupleK := by
  refine ⟨_, call_tuple_of, fun C L Mo H m avs vs Q AQ hK b r k hh => ?_⟩
  unfold bTupleK at hh
  split at hh
  · split at hh
    · rename_i ds e
      split at hh
      · rename_i ks ek
        obtain ⟨v, rfl, rv⟩ := av1 r
        obtain ⟨l, xs, rfl, h1, h2⟩ := lstA_ok b rv e
        have := keysD_ok h2 ek
        subst this
        exact ⟨l, _, rfl, .inl ⟨SqL.of h1, fun p hp => k _ _ _ _ _ _ hh (b.alloc hp) ⟨p, rfl, hd_new b hp⟩ (X2.alloc hp)⟩⟩
      · exact hh.elim
    · exact hh.elim
  · exact hh.elim
variable {es : List Expr} {tr : ATA}
def aTupK (t : ATA) : ATE := fun a Q => t a fun avs m => match datas avs with
  | some ds => match keysD ds with
    | some ks => ds.length ≤ 1000 ∧ Q (.kt ks) m
    | none => False
  | none => False
theorem q_tupK {x1} (h : QA X es tr) : QE X (.Tuple es x1 pos) (aTupK tr) := fun C hK => PE.imp (pe_tup (h C hK)) fun σ H Q ⟨a, L, Mo, AQ, r, k, h⟩ => by
  refine ⟨a, L, Mo, _, r, fun xs m1 vs L1 Mo1 H1 h1 b1 v1 e1 => ?_, h⟩
  have h1' : (match datas xs with | some ds => (match keysD ds with | some ks => ds.length ≤ 1000 ∧ AQ (.kt ks) m1 | none => False) | none => False) := h1
  split at h1'
  · rename_i ds e
    split at h1'
    · rename_i ks ek
      have q := datas_ok v1 e
      have := keysD_ok q ek
      subst this
      exact ⟨line1000 (by rw [q.len]; exact h1'.1), fun p hp => (k.aft e1) _ _ _ _ _ _ h1'.2 (b1.alloc hp) ⟨p, rfl, hd_new b1 hp⟩ (X2.alloc hp)⟩
    · exact h1'.elim
  · exact h1'.elim
end
end QL

namespace QL
open PySem PySem.Spec PyProof.Rows L2 RZ

/-! ### zip, enumerate -/
def zipD (xs ys : List D) : List D := (xs.zip ys).map fun p => .tuple [p.1, p.2]
theorem zipD_at {xs ys : List D} {i : Nat} {d : D} (h : (zipD xs ys)[i]? = some d) : ∃ x y, xs[i]? = some x ∧ ys[i]? = some y ∧ d = .tuple [x, y] := by
  unfold zipD at h
  rw [List.getElem?_map] at h
  cases e : (xs.zip ys)[i]? with
  | none => rw [e] at h; cases h
  | some p =>
    rw [e] at h
    obtain ⟨h1, h2⟩ := List.getElem?_zip_eq_some.mp e
    exact ⟨p.1, p.2, h1, h2, (Option.some.inj h).symm⟩
theorem zipD_len (xs ys : List D) : (zipD xs ys).length = min xs.length ys.length := by simp [zipD]
theorem items_zipL {C : Ct} {L Mo : List Addr} {H : Hp} {a b : Addr} {xs ys : List V} {ds es : List D} (h : C.hd L Mo H a = some (.lst xs)) (hx : DqAll C.K (C.hd L Mo H) xs ds) (g : C.hd L Mo H b = some (.lst ys)) (hy : DqAll C.K (C.hd L Mo H) ys es) :
    ItemsOk C (Itz C.K a b) L Mo H (zipD ds es) := fun C2 L1 Mo1 H1 m1 hK bb sm => by
  have q : SqL C.K H1 a xs := SqL.of (hid_some (sm _ _ h)).2
  have q' : SqL C.K H1 b ys := SqL.of (hid_some (sm _ _ g)).2
  refine ⟨fun i d e => ?_, xs, ys, q, q', by rw [zipD_len, hx.len, hy.len]; omega⟩
  obtain ⟨x, y, e1, e2, rfl⟩ := zipD_at e
  obtain ⟨v, h1, h2⟩ := hx.at e1
  obtain ⟨w, h3, h4⟩ := hy.at e2
  refine ⟨⟨xs, ys, v, w, q, q', h1, h3⟩, fun z H2 ⟨T, v', w', e3, hT, e4, f1, f2⟩ => ?_⟩
  subst e3; subst e4
  have f1 := f1 xs q
  have f2 := f2 ys q'
  rw [h1] at f1; cases f1
  rw [h3] at f2; cases f2
  refine ⟨bb.alloc hT, X2.alloc hT, .tup (SqT.of (hd_new bb hT)) (.cons (Dq.mono (hd_upd hT) _ _ (Dq.mono sm _ _ h2)) (.cons (Dq.mono (hd_upd hT) _ _ (Dq.mono sm _ _ h4)) .nil))⟩
theorem items_zipT {C : Ct} {L Mo : List Addr} {H : Hp} {a b : Addr} {xs ys : List V} {ds es : List D} (h : SqT C.K (C.hd L Mo H) a xs) (hx : DqAll C.K (C.hd L Mo H) xs ds) (g : SqT C.K (C.hd L Mo H) b ys) (hy : DqAll C.K (C.hd L Mo H) ys es) :
    ItemsOk C (ItzT C.K a b) L Mo H (zipD ds es) := fun C2 L1 Mo1 H1 m1 hK bb sm => by
  have q : SqT C.K H1 a xs := same_tup hid_same (same_tup sm h)
  have q' : SqT C.K H1 b ys := same_tup hid_same (same_tup sm g)
  refine ⟨fun i d e => ?_, xs, ys, q, q', by rw [zipD_len, hx.len, hy.len]; omega⟩
  obtain ⟨x, y, e1, e2, rfl⟩ := zipD_at e
  obtain ⟨v, h1, h2⟩ := hx.at e1
  obtain ⟨w, h3, h4⟩ := hy.at e2
  refine ⟨⟨xs, ys, v, w, q, q', h1, h3⟩, fun z H2 ⟨T, v', w', e3, hT, e4, f1, f2⟩ => ?_⟩
  subst e3; subst e4
  have f1 := f1 xs q
  have f2 := f2 ys q'
  rw [h1] at f1; cases f1
  rw [h3] at f2; cases f2
  refine ⟨bb.alloc hT, X2.alloc hT, .tup (SqT.of (hd_new bb hT)) (.cons (Dq.mono (hd_upd hT) _ _ (Dq.mono sm _ _ h2)) (.cons (Dq.mono (hd_upd hT) _ _ (Dq.mono sm _ _ h4)) .nil))⟩
def enumD (xs : List D) : List D := (List.range xs.length).zipWith (fun i x => .tuple [.int (i : Nat), x]) xs
theorem enumD_at {xs : List D} {i : Nat} {d : D} (h : (enumD xs)[i]? = some d) : ∃ x, xs[i]? = some x ∧ d = .tuple [.int (i : Nat), x] := by
  unfold enumD at h
  rw [List.getElem?_zipWith] at h
  cases e : xs[i]? with
  | none => rw [e] at h; revert h; cases (List.range xs.length)[i]? <;> simp
  | some x =>
    have hi := (List.getElem?_eq_some_iff.mp e).1
    rw [e, List.getElem?_range hi] at h
    exact ⟨x, rfl, (Option.some.inj h).symm⟩
theorem enumD_len (xs : List D) : (enumD xs).length = xs.length := by simp [enumD]
theorem items_enum {C : Ct} {L Mo : List Addr} {H : Hp} {a : Addr} {xs : List V} {ds : List D} (h : C.hd L Mo H a = some (.lst xs)) (hx : DqAll C.K (C.hd L Mo H) xs ds) : ItemsOk C (Ite C.K a) L Mo H (enumD ds) := fun C2 L1 Mo1 H1 m1 hK bb sm => by
  have q : SqL C.K H1 a xs := SqL.of (hid_some (sm _ _ h)).2
  refine ⟨fun i d e => ?_, xs, q, by rw [enumD_len, hx.len]; exact Nat.le_refl _⟩
  obtain ⟨x, e1, rfl⟩ := enumD_at e
  obtain ⟨v, h1, h2⟩ := hx.at e1
  refine ⟨⟨xs, v, q, h1⟩, fun z H2 ⟨T, v', e3, hT, e4, f1⟩ => ?_⟩
  subst e3; subst e4
  have f1 := f1 xs q
  rw [h1] at f1; cases f1
  refine ⟨bb.alloc hT, X2.alloc hT, .tup (SqT.of (hd_new bb hT)) (.cons (.int _) (.cons (Dq.mono (hd_upd hT) _ _ (Dq.mono sm _ _ h2)) .nil))⟩
section
variable {X : Cx} {e e2 : Expr} {ta : ATA} {p pos tpos : Pos} {elts : List Expr} {kk : Nat}
def aZip (t : ATA) : AIt := fun a Q => t a fun avs m => match avs with
  | [.d (.list xs), .d (.list ys)] => Q (zipD xs ys) m
  | [.d (.tuple xs), .d (.tuple ys)] => Q (zipD xs ys) m
  | _ => False
theorem qi_zip (hg : Gl X "zip") (hm : X.mg "zip" = none) (ha : QA X [e, e2] ta) (hs : starEach [e, e2] X.env = (false, eval e X.env) :: starEach [e2] X.env := by rfl) (hpl : (backTo pos (starEach [e2] X.env)).any (·.1) = false := by rfl) :
    QI X (.Tuple elts kk tpos) (.Call (.Name "zip" p) [e, e2] [] pos) (aZip ta) := fun C hK => PI.imp (pi_zipA hg hm (ha C hK) hs hpl) fun σ H R' ⟨a, L, Mo, AQ, r, k, h⟩ => by
  refine ⟨a, L, Mo, _, r, fun xs m1 vs L1 Mo1 H1 h1 b1 v1 e1 => ?_, h⟩
  split at h1
  · obtain ⟨v, w, rfl, q, q'⟩ := av2 v1
    cases q with
    | lst c1 c2 =>
      cases q' with
      | lst c3 c4 => exact ⟨_, _, _, _, rfl, .inl ⟨SqL.of (hid_some c1).2, SqL.of (hid_some c3).2, k _ _ _ _ _ _ h1 b1 e1 (hK ▸ items_zipL c1 c2 c3 c4)⟩⟩
  · obtain ⟨v, w, rfl, q, q'⟩ := av2 v1
    cases q with
    | tup c1 c2 =>
      cases q' with
      | tup c3 c4 => exact ⟨_, _, _, _, rfl, .inr ⟨hK ▸ same_tup hid_same c1, hK ▸ same_tup hid_same c3, k _ _ _ _ _ _ h1 b1 e1 (hK ▸ items_zipT c1 c2 c3 c4)⟩⟩
  · exact h1.elim
def aEnum (t : ATA) : AIt := fun a Q => t a fun avs m => match avs with
  | [.d (.list xs)] => Q (enumD xs) m
  | _ => False
theorem qi_enum (hg : Gl X "enumerate") (hm : X.mg "enumerate" = none) (ha : QA X [e] ta) (hs : starEach [e] X.env = [(false, eval e X.env)] := by rfl) :
    QI X (.Tuple elts kk tpos) (.Call (.Name "enumerate" p) [e] [] pos) (aEnum ta) := fun C hK => PI.imp (pi_enum hg hm (ha C hK) hs) fun σ H R' ⟨a, L, Mo, AQ, r, k, h⟩ => by
  refine ⟨a, L, Mo, _, r, fun xs m1 vs L1 Mo1 H1 h1 b1 v1 e1 => ?_, h⟩
  split at h1
  · obtain ⟨v, rfl, q⟩ := av1 v1
    cases q with
    | lst c1 c2 => exact ⟨_, _, rfl, SqL.of (hid_some c1).2, k _ _ _ _ _ _ h1 b1 e1 (hK ▸ items_enum c1 c2)⟩
  · exact h1.elim
end
/-! ### x in a row -/
section
variable {X : Cx}
theorem DqAll.list {K : PySem.W.Frag} {H : Hp} {l : Addr} {xs : List V} {ds : List D} (h1 : H l = some (.lst xs)) (h : DqAll K H xs ds) (n : PyData.hasDictAll ds = false) : Dp K H (.ref l) (.list ds) := .lst (SqL.of h1) (DqAll.toDp _ _ n h)
def aInL : AR2 := fun x y m Q => match datA m x, lstA m y with
  | some d, some ds => SeqAt.shaped d = true ∧ SeqAt.shaped (.list ds) = true ∧ Q (.d (.bool (ds.any fun z => PyData.eqv z d))) m
  | _, _ => False
theorem oq_inL (hu : X.A.units + 65 < cLine) : OpQ X (compareOp .In) aInL := by
  refine ⟨_, op_inD hu, fun C L Mo H m x y v w Q AQ hK b r1 r2 k hh => ?_⟩
  unfold aInL at hh
  split at hh
  · rename_i d ds e1 e2
    obtain ⟨l, xs, rfl, h1, h2⟩ := lstA_ok b r2 e2
    have nd : (PyData.list ds).hasDict = false := shaped_noDict hh.2.1
    refine ⟨d, ds, Dq.toDp _ _ (shaped_noDict hh.1) (hK ▸ datA_ok b r1 e1), hK ▸ Dq.toDp _ _ nd (.lst h1 (DqAll.mono hid_same _ _ h2)), hh.1, hh.2.1, k.ret hh.2.2 b (.bl _)⟩
  · exact hh.elim
def aNinL : AR2 := fun x y m Q => match datA m x, lstA m y with
  | some d, some ds => SeqAt.shaped d = true ∧ SeqAt.shaped (.list ds) = true ∧ Q (.d (.bool (!ds.any fun z => PyData.eqv z d))) m
  | _, _ => False
theorem oq_ninL (hu : X.A.units + 65 < cLine) : OpQ X (compareOp .NotIn) aNinL := by
  refine ⟨_, op_notInD hu, fun C L Mo H m x y v w Q AQ hK b r1 r2 k hh => ?_⟩
  unfold aNinL at hh
  split at hh
  · rename_i d ds e1 e2
    obtain ⟨l, xs, rfl, h1, h2⟩ := lstA_ok b r2 e2
    have nd : (PyData.list ds).hasDict = false := shaped_noDict hh.2.1
    refine ⟨d, ds, Dq.toDp _ _ (shaped_noDict hh.1) (hK ▸ datA_ok b r1 e1), hK ▸ Dq.toDp _ _ nd (.lst h1 (DqAll.mono hid_same _ _ h2)), hh.1, hh.2.1, k.ret hh.2.2 b (.bl _)⟩
  · exact hh.elim
theorem op_inTD (hu : X.A.units + 65 < cLine) : OpR X (compareOp .In) (fun x y H Q => ∃ d ds, Dp X.K H x d ∧ Dp X.K H y (.tuple ds) ∧ SeqAt.shaped d = true ∧ SeqAt.shaped (.tuple ds) = true ∧ Q (.bl (ds.any fun z => PyData.eqv z d)) H) := by
  intro pins s σ H x y v u Q I rx ry h
  obtain ⟨d, ds, hd, he, sd, se, q⟩ := h
  obtain ⟨as, r1⟩ := Dp.reads I d x v hd rx
  obtain ⟨bs, r2⟩ := Dp.reads I (.tuple ds) y u he ry
  exact SeqAt.in_tuple_reads r2 r1 (SeqAt.canLay_of_shaped se) (SeqAt.canLay_of_shaped sd) (room_in_shaped sd hu) ⟨.bl _, H, I, rfl, q⟩
theorem op_notInTD (hu : X.A.units + 65 < cLine) : OpR X (compareOp .NotIn) (fun x y H Q => ∃ d ds, Dp X.K H x d ∧ Dp X.K H y (.tuple ds) ∧ SeqAt.shaped d = true ∧ SeqAt.shaped (.tuple ds) = true ∧ Q (.bl (!ds.any fun z => PyData.eqv z d)) H) := by
  intro pins s σ H x y v u Q I rx ry h
  obtain ⟨d, ds, hd, he, sd, se, q⟩ := h
  obtain ⟨as, r1⟩ := Dp.reads I d x v hd rx
  obtain ⟨bs, r2⟩ := Dp.reads I (.tuple ds) y u he ry
  exact SeqAt.notIn_tuple_reads r2 r1 (SeqAt.canLay_of_shaped se) (SeqAt.canLay_of_shaped sd) (room_in_shaped sd hu) ⟨.bl _, H, I, rfl, q⟩
def aInT : AR2 := fun x y m Q => match datA m x, tupA y with
  | some d, some ds => SeqAt.shaped d = true ∧ SeqAt.shaped (.tuple ds) = true ∧ Q (.d (.bool (ds.any fun z => PyData.eqv z d))) m
  | _, _ => False
def aNinT : AR2 := fun x y m Q => match datA m x, tupA y with
  | some d, some ds => SeqAt.shaped d = true ∧ SeqAt.shaped (.tuple ds) = true ∧ Q (.d (.bool (!ds.any fun z => PyData.eqv z d))) m
  | _, _ => False
theorem oq_inT (hu : X.A.units + 65 < cLine) : OpQ X (compareOp .In) aInT := by
  refine ⟨_, op_inTD hu, fun C L Mo H m x y v w Q AQ hK b r1 r2 k hh => ?_⟩
  unfold aInT at hh
  split at hh
  · rename_i d ds e1 e2
    have e3 := tupA_eq e2
    subst e3
    have nd : (PyData.tuple ds).hasDict = false := shaped_noDict hh.2.1
    refine ⟨d, ds, Dq.toDp _ _ (shaped_noDict hh.1) (hK ▸ datA_ok b r1 e1), hK ▸ Dq.toDp _ _ nd (Dq.mono hid_same _ _ r2), hh.1, hh.2.1, k.ret hh.2.2 b (.bl _)⟩
  · exact hh.elim
theorem oq_ninT (hu : X.A.units + 65 < cLine) : OpQ X (compareOp .NotIn) aNinT := by
  refine ⟨_, op_notInTD hu, fun C L Mo H m x y v w Q AQ hK b r1 r2 k hh => ?_⟩
  unfold aNinT at hh
  split at hh
  · rename_i d ds e1 e2
    have e3 := tupA_eq e2
    subst e3
    have nd : (PyData.tuple ds).hasDict = false := shaped_noDict hh.2.1
    refine ⟨d, ds, Dq.toDp _ _ (shaped_noDict hh.1) (hK ▸ datA_ok b r1 e1), hK ▸ Dq.toDp _ _ nd (Dq.mono hid_same _ _ r2), hh.1, hh.2.1, k.ret hh.2.2 b (.bl _)⟩
  · exact hh.elim
end
/-! ### sizes of great numbers -/
def Bd (k : Nat) (i : Int) : Prop := i.natAbs < 2 ^ k
theorem Bd.le {a b : Nat} {i : Int} (h : Bd a i) (hab : a ≤ b) : Bd b i := Nat.lt_of_lt_of_le h (Nat.pow_le_pow_right (by decide) hab)
theorem Bd.mul {a b : Nat} {i j : Int} (h : Bd a i) (g : Bd b j) : Bd (a + b) (i * j) := by
  unfold Bd at *
  rw [Int.natAbs_mul, Nat.pow_add]
  exact Nat.mul_lt_mul'' h g
theorem Bd.add {a : Nat} {i j : Int} (h : Bd a i) (g : Bd a j) : Bd (a + 1) (i + j) := by
  unfold Bd at *
  rw [Nat.pow_succ]
  omega
theorem Bd.sub {a : Nat} {i j : Int} (h : Bd a i) (g : Bd a j) : Bd (a + 1) (i - j) := by
  unfold Bd at *
  rw [Nat.pow_succ]
  omega
theorem Bd.neg {a : Nat} {i : Int} (h : Bd a i) : Bd a (-i) := by
  unfold Bd at *
  omega
theorem Bd.of64 {i : Int} (h1 : -18446744073709551616 < i) (h2 : i < 18446744073709551616) : Bd 64 i := by
  unfold Bd
  have e : (2 : Nat) ^ 64 = 18446744073709551616 := by decide
  omega
theorem Bd.log {k : Nat} {i : Int} (h : Bd k i) : i.natAbs.log2 ≤ k := by
  by_cases h0 : i.natAbs = 0
  · rw [h0]; exact Nat.zero_le _
  · exact Nat.le_of_lt ((Nat.log2_lt h0).mpr h)
theorem Bd.log_lt {k n : Nat} {i : Int} (h : Bd k i) (hk : k < n) : i.natAbs.log2 < n := Nat.lt_of_le_of_lt h.log hk
theorem MulOk.bd {a b : Nat} {i j : Int} (h : Bd a i) (g : Bd b j) (hs : a + b < 1000000) : MulOk i j := by
  have h1 := h.log
  have h2 := g.log
  exact .inr (show i.natAbs.log2 + j.natAbs.log2 < 1000000 by omega)
/-! ### a look behind a put -/
theorem valD_nil {κ : Type} [DecidableEq κ] (k : κ) : valD ([] : List (κ × D)) k = none := rfl
theorem valD_cons {κ : Type} [DecidableEq κ] (p : κ × D) (r : List (κ × D)) (k : κ) : valD (p :: r) k = if p.1 = k then some p.2 else valD r k := by
  unfold valD
  rw [List.find?_cons]
  by_cases h : p.1 = k <;> simp [h]
theorem valD_append {κ : Type} [DecidableEq κ] (l r : List (κ × D)) (k : κ) : valD (l ++ r) k = (valD l k).or (valD r k) := by
  induction l with
  | nil => rfl
  | cons p l ih =>
    rw [List.cons_append, valD_cons, valD_cons, ih]
    by_cases h : p.1 = k <;> simp [h]
theorem valD_none {κ : Type} [DecidableEq κ] {l : List (κ × D)} {k : κ} (h : ¬ (l.any fun kv => decide (kv.1 = k)) = true) : valD l k = none := by
  induction l with
  | nil => rfl
  | cons p l ih =>
    rw [List.any_cons, Bool.or_eq_true, not_or] at h
    rw [valD_cons, if_neg (fun e => h.1 (decide_eq_true e))]
    exact ih h.2
theorem valD_map {κ : Type} [DecidableEq κ] (l : List (κ × D)) (k k' : κ) (v : D) : valD (l.map fun kv => if kv.1 = k then (kv.1, v) else kv) k' = if k = k' then (if (l.any fun kv => decide (kv.1 = k)) = true then some v else none) else valD l k' := by
  induction l with
  | nil => by_cases h : k = k' <;> simp [h, valD_nil]
  | cons p l ih =>
    rw [List.map_cons, valD_cons, ih, List.any_cons, valD_cons]
    by_cases h1 : p.1 = k
    · simp only [h1, if_true, decide_true, Bool.true_or]
      by_cases h2 : k = k' <;> simp [h2]
    · simp only [h1, if_false, decide_false, Bool.false_or]
      by_cases h2 : k = k'
      · subst h2
        simp [h1]
      · by_cases h3 : p.1 = k' <;> simp [h2, h3]
theorem valD_putD {κ : Type} [DecidableEq κ] (l : List (κ × D)) (k k' : κ) (v : D) : valD (putD l k v) k' = if k = k' then some v else valD l k' := by
  unfold putD
  by_cases h : (l.any fun kv => decide (kv.1 = k)) = true
  · rw [if_pos h, valD_map, if_pos h]
  · rw [if_neg h, valD_append, valD_cons, valD_nil]
    by_cases e : k = k'
    · subst e
      rw [valD_none h, if_pos rfl]; rfl
    · rw [if_neg e, if_neg e]
      cases valD l k' <;> rfl
theorem putD_len {κ : Type} [DecidableEq κ] (l : List (κ × D)) (k : κ) (v : D) : (putD l k v).length ≤ l.length + 1 := by
  unfold putD
  split
  · rw [List.length_map]; omega
  · rw [List.length_append]; exact Nat.le_refl _
/-! ### places that are told -/
theorem atD_0 (a0 : D) (l : List D) : atD (a0 :: l) 0 = some a0 := rfl
theorem atD_1 (a0 a1 : D) (l : List D) : atD (a0 :: a1 :: l) 1 = some a1 := rfl
theorem atD_2 (a0 a1 a2 : D) (l : List D) : atD (a0 :: a1 :: a2 :: l) 2 = some a2 := rfl
theorem atD_3 (a0 a1 a2 a3 : D) (l : List D) : atD (a0 :: a1 :: a2 :: a3 :: l) 3 = some a3 := rfl
theorem atD_4 (a0 a1 a2 a3 a4 : D) (l : List D) : atD (a0 :: a1 :: a2 :: a3 :: a4 :: l) 4 = some a4 := rfl
theorem atD_5 (a0 a1 a2 a3 a4 a5 : D) (l : List D) : atD (a0 :: a1 :: a2 :: a3 :: a4 :: a5 :: l) 5 = some a5 := rfl
theorem atD_6 (a0 a1 a2 a3 a4 a5 a6 : D) (l : List D) : atD (a0 :: a1 :: a2 :: a3 :: a4 :: a5 :: a6 :: l) 6 = some a6 := rfl
theorem atD_7 (a0 a1 a2 a3 a4 a5 a6 a7 : D) (l : List D) : atD (a0 :: a1 :: a2 :: a3 :: a4 :: a5 :: a6 :: a7 :: l) 7 = some a7 := rfl
theorem atD_8 (a0 a1 a2 a3 a4 a5 a6 a7 a8 : D) (l : List D) : atD (a0 :: a1 :: a2 :: a3 :: a4 :: a5 :: a6 :: a7 :: a8 :: l) 8 = some a8 := rfl
theorem atD_9 (a0 a1 a2 a3 a4 a5 a6 a7 a8 a9 : D) (l : List D) : atD (a0 :: a1 :: a2 :: a3 :: a4 :: a5 :: a6 :: a7 :: a8 :: a9 :: l) 9 = some a9 := rfl
theorem atD_10 (a0 a1 a2 a3 a4 a5 a6 a7 a8 a9 a10 : D) (l : List D) : atD (a0 :: a1 :: a2 :: a3 :: a4 :: a5 :: a6 :: a7 :: a8 :: a9 :: a10 :: l) 10 = some a10 := rfl
theorem atD_11 (a0 a1 a2 a3 a4 a5 a6 a7 a8 a9 a10 a11 : D) (l : List D) : atD (a0 :: a1 :: a2 :: a3 :: a4 :: a5 :: a6 :: a7 :: a8 :: a9 :: a10 :: a11 :: l) 11 = some a11 := rfl
theorem atD_12 (a0 a1 a2 a3 a4 a5 a6 a7 a8 a9 a10 a11 a12 : D) (l : List D) : atD (a0 :: a1 :: a2 :: a3 :: a4 :: a5 :: a6 :: a7 :: a8 :: a9 :: a10 :: a11 :: a12 :: l) 12 = some a12 := rfl
theorem atD_neg1 (ds : List D) : atD ds (-1) = ds.getLast? := by
  unfold atD
  rw [if_neg (by decide), List.getLast?_eq_getElem?]
  by_cases h : -(ds.length : Int) ≤ -1
  · rw [if_pos h]
    congr 1
    omega
  · rw [if_neg h]
    have : ds.length = 0 := by omega
    rw [List.length_eq_zero_iff.mp this]; rfl
end QL

namespace QL
open PySem PySem.Spec PyProof.Rows L2 RZ

section
variable {X : Cx}
/-! ### names of built-in types; isinstance -/
def aTy (T : String) : ATE := fun a Q => Q (.ty T) a.m
theorem q_ty {x : Str} {T : String} {pos : Pos} (hg : Gl X x) (hm : X.mg x = none) (hv : bootBuiltins x = some (.type T)) (hn : x ≠ "__name__" := by decide) (hd : (x == ("__debug__" : Str)) = false := by decide) : QE X (.Name x pos) (aTy T) := fun C hK =>
  PE.imp (pe_bltn (v := .ty T) hg hm hv rfl hn hd) fun σ H Q ⟨a, L, Mo, AQ, r, k, h⟩ => k.ret h r.b rfl
def tyD : D → String
  | .none => "NoneType"
  | .bool _ => "bool"
  | .int _ => "int"
  | .str _ => "str"
  | .list _ => "list"
  | .tuple _ => "tuple"
  | .dict _ => "dict"
def tyA (m : Mm) : AV → Option String
  | .d x => some (tyD x)
  | .o j => match m.o[j]? with
    | some (.l _) => some "list"
    | some _ => some "dict"
    | none => none
  | .kt _ => some "tuple"
  | .dt _ => some "dict"
  | _ => none
theorem tyX_tup {K : PySem.W.Frag} {H : Hp} {a : Addr} {xs : List V} (h : SqT K H a xs) : TyX K H (.ref a) (.type "tuple") := by
  rcases h with (h | ⟨o, h⟩) | ⟨o, its, n, h, hc, _⟩
  · exact .base (.tup h)
  · exact .fTuple h
  · exact .kTuple h hc
theorem tyA_ok {C : Ct} {m : Mm} {L Mo : List Addr} {H : Hp} {x : AV} {v : V} {T : String} (b : B C m L Mo H) (r : AVR C L Mo H x v) (h : tyA m x = some T) : TyX C.K H v (.type T) := by
  cases x with
  | d y =>
    cases h
    cases r with
    | non => exact .base .non
    | bl b => exact .base (.bl b)
    | int i => exact .base (.int i)
    | str x => exact .base (.str x)
    | lst h1 h2 => exact .base (.lst (hid_some h1).2)
    | tup h1 h2 => exact tyX_tup (same_tup hid_same h1)
    | dk h1 h2 => exact .base (.dK (hid_some h1).2)
  | o j =>
    simp only [tyA] at h
    split at h
    · rename_i ds e
      cases h
      obtain ⟨l, rfl, _, ys, h3, h4⟩ := o_at b r e
      exact .base (.lst h3)
    · rename_i o ho e
      cases h
      obtain ⟨l, rfl, _, h3⟩ := o_at b r e
      cases o with
      | l ds => exact (ho ds rfl).elim
      | kd kvs => obtain ⟨ys, h3, _⟩ := h3; exact .base (.dK h3)
      | td kvs => obtain ⟨ys, h3, _⟩ := h3; exact .base (.dT h3)
    · cases h
  | src => simp [tyA] at h
  | cells => simp [tyA] at h
  | scr ns => simp [tyA] at h
  | kt ks => cases h; obtain ⟨a, rfl, q⟩ := r; exact .base (.tup (hid_some q).2)
  | dt kvs => cases h; obtain ⟨a, ys, rfl, q, _⟩ := r; exact .base (.dT (hid_some q).2)
  | ty n => simp [tyA] at h
  | ad n => simp [tyA] at h
def isiT (t T : String) : Bool := t == T || (t == "bool" && T == "int")
def tysOk : List String := ["NoneType", "bool", "int", "str", "list", "tuple", "dict"]
theorem kit_isi {K : PySem.W.Frag} : ∀ t ∈ tysOk, ∀ T ∈ tysOk, PySem.W.kitOne K (.type t) (.type T) = some (isiT t T) := by
  intro t ht T hT
  simp only [tysOk, List.mem_cons, List.not_mem_nil, or_false] at ht hT
  rcases ht with rfl | rfl | rfl | rfl | rfl | rfl | rfl <;> rcases hT with rfl | rfl | rfl | rfl | rfl | rfl | rfl <;> rfl
theorem tyA_mem {m : Mm} {x : AV} {T : String} (h : tyA m x = some T) : T ∈ tysOk := by
  cases x with
  | d y => cases h; cases y <;> simp [tyD, tysOk]
  | o j =>
    simp only [tyA] at h
    split at h
    · cases h; decide
    · cases h; decide
    · cases h
  | src => simp [tyA] at h
  | cells => simp [tyA] at h
  | scr ns => simp [tyA] at h
  | kt ks => cases h; decide
  | dt kvs => cases h; decide
  | ty n => simp [tyA] at h
  | ad n => simp [tyA] at h
def bIsi : AC1 := fun avs m Q => match avs with
  | [x, .ty T] => match tyA m x with
    | some t => T ∈ tysOk ∧ Q (.d (.bool (isiT t T))) m
    | none => False
  | _ => False
theorem cq_isi : CallQ X (.builtin "isinstance") bIsi := by
  refine ⟨_, call_isi, fun C L Mo H m avs vs Q AQ hK b r k hh => ?_⟩
  unfold bIsi at hh
  split at hh
  · rename_i x T
    split at hh
    · rename_i t e
      obtain ⟨v, w, rfl, rv, rw_⟩ := av2 r
      have hw : w = .ty T := rw_
      subst hw
      exact ⟨v, .ty T, .type t, .type T, _, rfl, .ty T, hK ▸ tyA_ok b rv e, kit_isi t (tyA_mem e) T hh.1, k.ret hh.2 b (.bl _)⟩
    · exact hh.elim
  · exact hh.elim
/-! ### all, any, sorted, max, min, str -/
def boolsD : List D → Option (List Bool)
  | [] => some []
  | .bool b :: r => match boolsD r with
    | some l => some (b :: l)
    | none => none
  | _ => none
theorem boolsD_ok : ∀ {ds : List D} {bs : List Bool}, boolsD ds = some bs → ds = bs.map PyData.bool
  | [], _, e => by cases e; rfl
  | .bool b :: r, _, e => by
    simp only [boolsD] at e
    split at e
    · rename_i l e2; cases e; rw [boolsD_ok e2]; rfl
    · cases e
  | .none :: r, _, e => by simp [boolsD] at e
  | .int _ :: r, _, e => by simp [boolsD] at e
  | .str _ :: r, _, e => by simp [boolsD] at e
  | .list _ :: r, _, e => by simp [boolsD] at e
  | .tuple _ :: r, _, e => by simp [boolsD] at e
  | .dict _ :: r, _, e => by simp [boolsD] at e
theorem boolsD_map : ∀ bs : List Bool, boolsD (bs.map PyData.bool) = some bs
  | [] => rfl
  | b :: r => by rw [List.map_cons]; unfold boolsD; rw [boolsD_map r]
def bAll : AC1 := fun avs m Q => match avs with
  | [x] => match lstA m x with
    | some ds => match boolsD ds with
      | some bs => Q (.d (.bool (bs.all id))) m
      | none => False
    | none => False
  | _ => False
theorem cq_all (hc : X.calm = true) : CallQ X (.builtin "all") bAll := by
  refine ⟨_, cr_all hc, fun C L Mo H m avs vs Q AQ hK b r k hh => ?_⟩
  unfold bAll at hh
  split at hh
  · split at hh
    · rename_i ds e
      split at hh
      · rename_i bs e2
        obtain ⟨v, rfl, rv⟩ := av1 r
        obtain ⟨l, xs, rfl, h1, h2⟩ := lstA_ok b rv e
        have e3 := boolsD_ok e2
        subst e3
        have := DqAll.bls h2
        subst this
        exact ⟨l, bs, rfl, SqL.of h1, k.ret hh b (.bl _)⟩
      · exact hh.elim
    · exact hh.elim
  · exact hh.elim
def bAny : AC1 := fun avs m Q => match avs with
  | [x] => match lstA m x with
    | some ds => match boolsD ds with
      | some bs => Q (.d (.bool (bs.any id))) m
      | none => False
    | none => False
  | _ => False
theorem cq_any (hc : X.calm = true) : CallQ X (.builtin "any") bAny := by
  refine ⟨_, cr_any hc, fun C L Mo H m avs vs Q AQ hK b r k hh => ?_⟩
  unfold bAny at hh
  split at hh
  · split at hh
    · rename_i ds e
      split at hh
      · rename_i bs e2
        obtain ⟨v, rfl, rv⟩ := av1 r
        obtain ⟨l, xs, rfl, h1, h2⟩ := lstA_ok b rv e
        have e3 := boolsD_ok e2
        subst e3
        have := DqAll.bls h2
        subst this
        exact ⟨l, bs, rfl, SqL.of h1, k.ret hh b (.bl _)⟩
      · exact hh.elim
    · exact hh.elim
  · exact hh.elim
def intsL (m : Mm) (x : AV) : Option (List Int) := match lstA m x with
  | some ds => intsD ds
  | none => none
theorem intsL_ok {C : Ct} {m : Mm} {L Mo : List Addr} {H : Hp} {x : AV} {v : V} {ns : List Int} (b : B C m L Mo H) (r : AVR C L Mo H x v) (h : intsL m x = some ns) : ∃ l, v = .ref l ∧ H l = some (.lst (ns.map V.int)) := by
  unfold intsL at h
  split at h
  · rename_i ds e
    obtain ⟨l, xs, rfl, h1, h2⟩ := lstA_ok b r e
    have e3 := intsD_ok h2 h
    subst e3
    exact ⟨l, rfl, h1⟩
  · cases h
def bSorted : AC1 := fun avs m Q => match avs with
  | [x] => match intsL m x with
    | some ns => ∀ ns' : List Int, ns'.Perm ns → ns'.Pairwise (· ≤ ·) → Q (.d (.list (ns'.map PyData.int))) m
    | none => False
  | _ => False
theorem cq_sorted : CallQ X (.builtin "sorted") bSorted := by
  refine ⟨_, cr_sortedI, fun C L Mo H m avs vs Q AQ hK b r k hh => ?_⟩
  unfold bSorted at hh
  split at hh
  · split at hh
    · rename_i ns e
      obtain ⟨v, rfl, rv⟩ := av1 r
      obtain ⟨l, rfl, h1⟩ := intsL_ok b rv e
      exact ⟨l, ns, rfl, SqL.of h1, fun ns' p h2 h3 hp => k.lst b hp (DqAll.ofInts ns') (hh ns' h2 h3)⟩
    · exact hh.elim
  · exact hh.elim
def bMaxL : AC1 := fun avs m Q => match avs with
  | [x] => match intsL m x with
    | some ns => 0 < ns.length ∧ ∀ k, k ∈ ns → (∀ y, y ∈ ns → y ≤ k) → Q (.d (.int k)) m
    | none => False
  | _ => False
theorem cq_maxL (hc : X.calm = true) : CallQ X (.builtin "max") bMaxL := by
  refine ⟨_, cr_max hc, fun C L Mo H m avs vs Q AQ hK b r k hh => ?_⟩
  unfold bMaxL at hh
  split at hh
  · split at hh
    · rename_i ns e
      obtain ⟨v, rfl, rv⟩ := av1 r
      obtain ⟨l, rfl, h1⟩ := intsL_ok b rv e
      exact ⟨l, ns, rfl, SqL.of h1, hh.1, fun j h2 h3 => k.ret (hh.2 j h2 h3) b (.int _)⟩
    · exact hh.elim
  · exact hh.elim
def bMinL : AC1 := fun avs m Q => match avs with
  | [x] => match intsL m x with
    | some ns => 0 < ns.length ∧ ∀ k, k ∈ ns → (∀ y, y ∈ ns → k ≤ y) → Q (.d (.int k)) m
    | none => False
  | _ => False
theorem cq_minL (hc : X.calm = true) : CallQ X (.builtin "min") bMinL := by
  refine ⟨_, cr_min hc, fun C L Mo H m avs vs Q AQ hK b r k hh => ?_⟩
  unfold bMinL at hh
  split at hh
  · split at hh
    · rename_i ns e
      obtain ⟨v, rfl, rv⟩ := av1 r
      obtain ⟨l, rfl, h1⟩ := intsL_ok b rv e
      exact ⟨l, ns, rfl, SqL.of h1, hh.1, fun j h2 h3 => k.ret (hh.2 j h2 h3) b (.int _)⟩
    · exact hh.elim
  · exact hh.elim
def bStr : AC1 := fun avs m Q => match avs with
  | [.d (.int i)] => i.natAbs.log2 < 1920 ∧ Q (.d (.str (toString i))) m
  | _ => False
theorem cq_str : CallQ X (.type "str") bStr := by
  refine ⟨_, call_str_int, fun C L Mo H m avs vs Q AQ hK b r k hh => ?_⟩
  unfold bStr at hh
  split at hh
  · obtain ⟨v, rfl, rv⟩ := av1 r
    exact ⟨_, by rw [dq_int rv], hh.1, k.ret hh.2 b (.str _)⟩
  · exact hh.elim
/-! ### is, is not -/
def noneA : AV → Option Bool
  | .d .none => some true
  | .d _ => some false
  | .o _ => some false
  | .kt _ => some false
  | .dt _ => some false
  | _ => none
theorem noneA_ok {C : Ct} {L Mo : List Addr} {H : Hp} {x : AV} {v : V} {k : Bool} (r : AVR C L Mo H x v) (h : noneA x = some k) : decide (v = .non) = k := by
  cases x with
  | d y =>
    cases r <;> (simp only [noneA] at h; cases h) <;> rfl
  | o j => cases h; obtain ⟨l, _, rfl⟩ := r; rfl
  | src => simp [noneA] at h
  | cells => simp [noneA] at h
  | scr ns => simp [noneA] at h
  | kt ks => cases h; obtain ⟨a, rfl, q⟩ := r; rfl
  | dt kvs => cases h; obtain ⟨a, ys, rfl, q, _⟩ := r; rfl
  | ty n => simp [noneA] at h
  | ad n => simp [noneA] at h
def aIsN : AR2 := fun x y m Q => match y, noneA x with
  | .d .none, some b => Q (.d (.bool b)) m
  | _, _ => False
theorem oq_isN : OpQ X (compareOp .Is) aIsN := by
  refine ⟨_, op_isN, fun C L Mo H m x y v w Q AQ hK b r1 r2 k hh => ?_⟩
  unfold aIsN at hh
  split at hh
  · rename_i c e
    cases r2
    exact ⟨rfl, by rw [noneA_ok r1 e]; exact k.ret hh b (.bl _)⟩
  · exact hh.elim
def aNotN : AR2 := fun x y m Q => match y, noneA x with
  | .d .none, some b => Q (.d (.bool (!b))) m
  | _, _ => False
theorem oq_notN : OpQ X (compareOp .IsNot) aNotN := by
  refine ⟨_, op_notN, fun C L Mo H m x y v w Q AQ hK b r1 r2 k hh => ?_⟩
  unfold aNotN at hh
  split at hh
  · rename_i c e
    cases r2
    exact ⟨rfl, by rw [noneA_ok r1 e]; exact k.ret hh b (.bl _)⟩
  · exact hh.elim
def aIsB : AR2 := fun x y m Q => match x, y with
  | .d (.bool a), .d (.bool b) => Q (.d (.bool (decide (a = b)))) m
  | _, _ => False
theorem oq_isB : OpQ X (compareOp .Is) aIsB := by
  refine ⟨_, op_isBl, fun C L Mo H m x y v w Q AQ hK b r1 r2 k hh => ?_⟩
  unfold aIsB at hh
  split at hh
  · cases r1; cases r2
    exact ⟨_, _, rfl, rfl, k.ret hh b (.bl _)⟩
  · exact hh.elim
def aNotB : AR2 := fun x y m Q => match x, y with
  | .d (.bool a), .d (.bool b) => Q (.d (.bool (!decide (a = b)))) m
  | _, _ => False
theorem oq_notB : OpQ X (compareOp .IsNot) aNotB := by
  refine ⟨_, op_notBl, fun C L Mo H m x y v w Q AQ hK b r1 r2 k hh => ?_⟩
  unfold aNotB at hh
  split at hh
  · cases r1; cases r2
    exact ⟨_, _, rfl, rfl, k.ret hh b (.bl _)⟩
  · exact hh.elim
/-! ### bit_length -/
variable {o e : Expr} {to te : ATE} {apos pos : Pos}
def aBits (to : ATE) : ATE := fun a Q => to a fun x m => match x with
  | .d (.int i) => Q (.d (.int (Builtin.Int.intBits i : Nat))) m
  | _ => False
theorem q_bits (ho : QE X o to) (hbase : attributeBase o "bit_length" X.env (eval o X.env) = eval o X.env := by rfl) (hline : (apos.endLine == pos.line) = true := by rfl) : QE X (.Call (.Attribute o "bit_length" apos) [] [] pos) (aBits to) := fun C hK =>
  PE.imp (pe_bits (ho C hK) hbase hline) fun σ H Q ⟨a, L, Mo, AQ, r, k, h⟩ => by
    refine ⟨a, L, Mo, _, r, fun x m1 v L1 Mo1 H1 h1 b1 v1 e1 => ?_, h⟩
    split at h1
    · exact ⟨_, dq_int v1, (k.aft e1).ret h1 b1 (.int _)⟩
    · exact h1.elim
/-! ### tuple * n -/
def aRep : AR2 := fun x y m Q => match x, y with
  | .d (.tuple ds), .d (.int k) => ds ≠ [] ∧ 2 ≤ k ∧ k ≤ 1000 ∧ ds.length ≤ 1000 ∧ Q (.d (.tuple (List.replicate k.toNat ds).flatten)) m
  | _, _ => False
theorem oq_rep : OpQ X (binaryOp .Mult) aRep := by
  refine ⟨_, op_repT, fun C L Mo H m x y v w Q AQ hK b r1 r2 k hh => ?_⟩
  unfold aRep at hh
  split at hh
  · rename_i ds i
    obtain ⟨l1, vs, rfl, h1, h2⟩ := tupA_ok (ds := ds) r1 rfl
    have hw := dq_int r2
    subst hw
    have hl := h2.len
    refine ⟨l1, i, vs, rfl, rfl, hK ▸ h1, fun e => hh.1 ?_, hh.2.1, hh.2.2.1, by rw [hl]; exact hh.2.2.2.1, fun p hp => k.tup b hp (h2.rep i.toNat) hh.2.2.2.2⟩
    rw [e] at hl
    exact List.length_eq_zero_iff.mp hl.symm
  · exact hh.elim
/-! ### xs[i] = v -/
variable {i value : Expr} {ti tv : ATE} {tpos : Pos}
def aLput (to ti tv : ATE) : ATS := fun E a => tv a fun v m1 => to ⟨a.g, m1⟩ fun x m2 => ti ⟨a.g, m2⟩ fun y m3 => match x, y, v with
  | .o j, .d (.int k), .d d => match m3.o[j]? with
    | some (.l ds) => match ixN ds.length k with
      | some p => E.nx ⟨a.g, ⟨m3.s, m3.o.set j (.l (ds.set p d))⟩⟩
      | none => False
    | _ => False
  | _, _, _ => False
theorem qs_lput (ho : QE X o to) (hi : QE X i ti) (hv : QE X value tv) (hs : swapsWithSole [.Subscript o i tpos] value pos.line X.env = pure false := by rfl) (hw : swappedStores [.Subscript o i tpos] value X.env = pure none := by rfl)
    (h1 : (assignEach [.Subscript o i tpos] X.env).map (·.2) = [assign (.Subscript o i tpos) X.env] := by rfl)
    (ha : ∀ v, assign (.Subscript o i tpos) X.env v = (do
      let ov ← holding [v] (eval o X.env)
      let iv ← holding [v, ov] (eval i X.env)
      standAt tpos
      holding [v, ov, iv] (setItem ov iv v)
      release [v, ov, iv] []) := by intro _; rfl) :
    QS X (.Assign [.Subscript o i tpos] value pos) (aLput to ti tv) := fun C hK => PS.imp (ps_asg (hv C hK) (pg_sub (ho C hK) (hi C hK) set_list ha) hs hw h1) fun D σ H ⟨a, L, Mo, AD, r, b, h⟩ => by
  refine ⟨a, L, Mo, _, r, fun v m1 w L1 Mo1 H1 h1 b1 w1 e1 => ⟨⟨a.g, m1⟩, L1, Mo1, _, r.next b1 e1, fun x m2 u L2 Mo2 H2 h2 b2 v2 e2 => ⟨⟨a.g, m2⟩, L2, Mo2, _, (r.next b1 e1).next b2 e2, fun y m3 z L3 Mo3 H3 h3 b3 z3 e3 => ?_, h2⟩, h1⟩, h⟩
  have r3 := ((r.next b1 e1).next b2 e2).next b3 e3
  split at h3
  · rename_i j kk d
    have hw : Dq C.K (C.hd L3 Mo3 H3) w d := (w1.mono e2).mono e3
    split at h3
    · rename_i ds e
      split at h3
      · rename_i p ep
        obtain ⟨l, rfl, hl, ys, h4, h5⟩ := o_at b3 (v2.mono e3) e
        have hz := dq_int z3
        subst hz
        refine ⟨l, ys, kk, p, rfl, rfl, h4, by rw [h5.len]; exact ep, b.nx _ _ _ _ _ h3 (r3.next (b3.upd hl fun h e => ⟨_, upd_same, by rw [e]; exact h5.setAt p hw⟩) (X2.upd (List.mem_of_getElem? hl)))⟩
      · exact h3.elim
    · exact h3.elim
  · exact h3.elim
end
end QL

namespace QL
open PySem PySem.Spec PyProof.Rows L2 RZ

/-! ### t[::-1], t a tuple -/
section
variable {prog : Program} {w : World} {A : Around} {E : Value → Shared → Prop} {s : Shared}
theorem applied_rev {sl : Addr} {vs : Value} {n : Nat} {Q : Int × Int × Nat → Shared → Prop} (hs : s.heap.IsSliceOf sl .none .none vs) (ps : IsPart vs (some (-1))) (h : Q ((n : Int) - 1, -1, n) s) :
    wpAny (model prog w) A (Builtin.Slice.sliceApplied (.ref sl) (pure (n : Int))) Q E s := by
  obtain ⟨os, hos, hcs, hds⟩ := id hs
  unfold Builtin.Slice.sliceApplied Builtin.Slice.sliceFields
  refine wpAny_bind (wpAny_bind (wpAny_field hos hds (x := .none) rfl (wpAny_bind (wpAny_field hos hds (x := .none) rfl (wpAny_bind (wpAny_field hos hds (x := vs) rfl (wpAny_pure ?_)))))))
  refine wpAny_bind (HT.slicePart_ ps ?_)
  show wpAny _ _ (if ((-1 : Int) == 0) = true then _ else _) _ _ s
  rw [if_neg (by decide)]
  refine wpAny_bind (HT.slicePart_ .none (wpAny_bind (HT.slicePart_ .none (wpAny_bind (wpAny_pure ?_)))))
  show wpAny _ _ (match Builtin.Slice.sliceAdjust none none (-1) (n : Int) with | (lo, hi) => pure (lo, (-1 : Int), Builtin.Slice.slicePlaces lo hi (-1))) _ _ s
  have e : Builtin.Slice.sliceAdjust none none (-1) (n : Int) = ((n : Int) - 1, -1) := rfl
  rw [e]
  have e2 : Builtin.Slice.slicePlaces ((n : Int) - 1) (-1) (-1) = n := by
    unfold Builtin.Slice.slicePlaces
    rw [if_neg (by decide)]
    by_cases h0 : n = 0
    · subst h0; rfl
    · rw [if_pos (by omega)]
      have : ((n : Int) - 1 - -1 - 1) / (- -1) + 1 = n := by
        rw [show (- -1 : Int) = 1 from rfl, Int.ediv_one]; omega
      rw [this]; exact Int.toNat_natCast n
  show wpAny _ _ (pure ((n : Int) - 1, (-1 : Int), Builtin.Slice.slicePlaces ((n : Int) - 1) (-1) (-1))) _ _ s
  rw [e2]
  exact wpAny_pure h
theorem pick_rev (l : List Value) : ((List.range l.length).filterMap fun (k : Nat) => l.toArray[((l.length : Int) - 1 + (k : Int) * -1).toNat]?) = l.reverse := by
  apply List.ext_getElem?
  intro i
  have e : ∀ k ∈ List.range l.length, l.toArray[((l.length : Int) - 1 + (k : Int) * -1).toNat]? = some ((fun k => l.getD (l.length - 1 - k) .none) k) := by
    intro k hk
    have hk' : k < l.length := List.mem_range.mp hk
    have : ((l.length : Int) - 1 + (k : Int) * -1).toNat = l.length - 1 - k := by omega
    rw [this]
    simp [List.getD, List.getElem?_eq_getElem (show l.length - 1 - k < l.length by omega)]
  have e2 : (List.range l.length).filterMap (fun (k : Nat) => l.toArray[((l.length : Int) - 1 + (k : Int) * -1).toNat]?) = (List.range l.length).map fun k => l.getD (l.length - 1 - k) .none := by
    have go : ∀ (r : List Nat), (∀ k ∈ r, k ∈ List.range l.length) → r.filterMap (fun (k : Nat) => l.toArray[((l.length : Int) - 1 + (k : Int) * -1).toNat]?) = r.map fun k => l.getD (l.length - 1 - k) .none := by
      intro r
      induction r with
      | nil => intro _; rfl
      | cons k r ih =>
        intro h
        rw [List.filterMap_cons, e k (h k List.mem_cons_self), List.map_cons, ih fun j hj => h j (List.mem_cons_of_mem _ hj)]
    exact go _ fun _ h => h
  rw [e2, List.getElem?_map]
  by_cases hi : i < l.length
  · rw [List.getElem?_range hi, List.getElem?_reverse hi]
    simp [List.getD, List.getElem?_eq_getElem (show l.length - 1 - i < l.length by omega)]
  · rw [List.getElem?_eq_none (by simpa using hi), List.getElem?_eq_none (by simpa using hi)]; rfl
theorem getItem_tuple_rev {t sl : Addr} {l : List Value} {vs : Value} {Q : Value → Shared → Prop} (ht : IsTup s.heap t l.toArray) (hs : s.heap.IsSliceOf sl .none .none vs) (ps : IsPart vs (some (-1)))
    (h : Q (.ref s.heap.objs.size) { s with heap := s.heap.push { cls := .type "tuple", data := .seq l.reverse.toArray } }) (hsz : l.length ≤ sizeLine) : wpAny (model prog w) A (getItem (.ref t) (.ref sl)) Q E s := by
  have htake : sizeOk (.seq l.reverse.toArray) := by
    show l.reverse.toArray.size ≤ sizeLine
    simpa using hsz
  obtain ⟨os, hos, hcs, hds⟩ := id hs
  have hTs : s.TypeIs (.ref sl) "slice" := ⟨os, hos, hcs⟩
  unfold getItem
  try with_reducible refine wpAny_holding ?_
  first | refine wpAny_bind (wpAny_pure ?_) | skip
  refine wpAny_bind (wpAny_sequenceKey ht.typeIs (by decide) ?_)
  refine wpAny_bind (wpAny_callSpecial?_slot (name := Str.ofString "__getitem__") ht.typeIs PyProof.Rows.slot_tuple_getitem
    (wpAny_call_entry PyProof.Rows.slot_tuple_getitem ht.typeIs entry_tuple_getitem ?_ (args_tuple_getitem _ _)))
  show wpAny _ _ (Builtin.Tuple.tupleItemsOf (.ref t) >>= _) _ _ s
  refine wpAny_bind (PyProof.Rows.tupleItemsOf_ ht ?_)
  refine wpAny_bind (wpAny_typeOf hTs ?_)
  rw [if_pos (by decide)]
  refine wpAny_bind ?_
  have e0 : (pure ((l.toArray.size : Nat) : Int) : Sem Int) = pure (l.length : Int) := by simp
  rw [e0]
  refine applied_rev hs ps ?_
  have hno : ¬ (((l.length : Int) - 1 == 0 && (-1 : Int) == 1 && l.length == l.toArray.size) = true) := by
    intro q
    rw [Bool.and_eq_true, Bool.and_eq_true] at q
    exact absurd (eq_of_beq q.1.2) (by decide)
  show wpAny _ _ (if ((l.length : Int) - 1 == 0 && (-1 : Int) == 1 && l.length == l.toArray.size) = true then _ else _) _ _ s
  rw [if_neg hno, pick_rev]
  first
    | exact wpAny_bind (m := Builtin.Tuple.tupleExact _) (wpAny_newObj_type (wpAny_pure ⟨_, rfl, wpAny_pure h⟩) htake)
    | exact wpAny_bind (m := Builtin.Tuple.tupleExact _) (wpAny_newObj_type (wpAny_bind (wpAny_pure (wpAny_pure ⟨_, rfl, wpAny_pure h⟩))) htake)
    | exact wpAny_bind (wpAny_bind (m := Builtin.Tuple.tupleExact _) (wpAny_newObj_type (wpAny_pure (wpAny_pure ⟨_, rfl, wpAny_pure h⟩)) htake))
    | exact wpAny_bind (wpAny_bind (m := Builtin.Tuple.tupleExact _) (wpAny_newObj_type (wpAny_pure ⟨_, rfl, wpAny_pure h⟩) htake))
end
section
variable {X : Cx} {e : Expr} {te : ATE}
theorem pe_revT {te : TE} {k : Nat} {p1 p2 p3 pos : Pos} (he : PE X e te) : PE X (.Subscript e (.Slice none none (some (.UnaryOp .USub (.Constant (.int 1) k p1) p2)) p3) pos)
    (fun σ H Q => te σ H fun x H1 => ∃ a xs, x = .ref a ∧ SqT X.K H1 a xs ∧ ∀ p, H1 p = none → Q (.ref p) (upd H1 p (.tup xs.reverse))) := by
  refine ⟨fun pins s σ H Q I h => ?_⟩
  refine Subscript_ (thn (he.run pins s σ H _ I h) fun v s1 ⟨x, H1, I1, r1, q1⟩ => ?_)
  obtain ⟨a, xs, ex, hx, q⟩ := q1
  subst ex
  cases r1
  have hst : PO X (some (.UnaryOp .USub (.Constant (.int 1) k p1) p2)) (tPart (tUn (rU fun i => .int (-i)) (tC (.int 1)))) := po_some (pe_un un_neg pe_int)
  refine wpAny_Slice (thn (po_none.run pins s1 σ H1 (fun o H2 => o = none ∧ H2 = H1) I1 ⟨rfl, rfl⟩) fun vl s2 ⟨l, H2, I2, pl, el, e2⟩ => ?_)
  subst el e2
  refine thn (po_none.run pins s2 σ H2 (fun o H3 => o = none ∧ H3 = H2) I2 ⟨rfl, rfl⟩) fun vu s3 ⟨u, H3, I3, pu, eu, e3⟩ => ?_
  subst eu e3
  refine thn (hst.run pins s3 σ H3 (fun o H4 => o = some (-1) ∧ H4 = H3) I3 ⟨1, rfl, -1, rfl, rfl, rfl⟩) fun vs s4 ⟨o, H4, I4, ps, eo, e4⟩ => ?_
  subst eo e4
  cases pl
  cases pu
  have I5 : Inv X pins σ H4 { s4 with heap := s4.heap.push { cls := .type "slice", data := .fields #[.none, .none, vs] } } := I4.kept (t' := s4.toks) fun b ob q => Heap.get?_push_of_some _ q
  obtain ⟨its, r, ht, hz⟩ := I5.tuple hx
  have hlen := r.length
  show wpAny (model X.prog X.w) X.A (subscriptTail e (.Slice none none (some (.UnaryOp .USub (.Constant (.int 1) k p1) p2)) p3) (.ref a) (.ref s4.heap.objs.size)) (EP X pins σ Q) X.xe { s4 with heap := s4.heap.push { cls := .type "slice", data := .fields #[.none, .none, vs] } }
  refine tail_any (ops := [.ref a, .ref s4.heap.objs.size]) ht.typeIs (PyProof.Rows.slot_tuple_getitem.lookup) ?_ (by with_unfolding_all rfl)
  refine getItem_tuple_rev (l := its) ht (Heap.IsSliceOf.new _ .none .none vs) ps ?_ (by omega)
  refine ⟨.ref _, _, I5.laid (t' := s4.toks) (o := .tup xs.reverse) (fun b ob q => Heap.get?_push_of_some _ q) (Nat.le_refl _) ?_, rfl, q _ (I5.hok.fresh (Nat.le_refl _))⟩
  exact ⟨by rw [List.length_reverse]; exact hz, _, r.reverse, IsTup.new _ _⟩
def aRevT (te : ATE) : ATE := fun a Q => te a fun x m => match tupA x with
  | some ds => Q (.d (.tuple ds.reverse)) m
  | none => False
theorem q_revT {k : Nat} {p1 p2 p3 pos : Pos} (h : QE X e te) : QE X (.Subscript e (.Slice none none (some (.UnaryOp .USub (.Constant (.int 1) k p1) p2)) p3) pos) (aRevT te) := fun C hK => PE.imp (pe_revT (h C hK)) fun σ H Q ⟨a, L, Mo, AQ, r, k, h⟩ => by
  refine ⟨a, L, Mo, _, r, fun x m1 v L1 Mo1 H1 h1 b1 v1 e1 => ?_, h⟩
  split at h1
  · rename_i ds e
    obtain ⟨l, xs, rfl, h2, h3⟩ := tupA_ok v1 e
    exact ⟨l, xs, rfl, hK ▸ h2, fun p hp => (k.aft e1).tup b1 hp h3.rev h1⟩
  · exact h1.elim
end

/-! ### a dict of the module -/
def DictAt (K : PySem.W.Frag) (w : World) (mg : Str → Option Value) (x : Str) (tab : List (Str × Option D)) : Prop := ∃ (d : Addr) (es : Array DictEntry) (n : Nat), mg x = some (.ref d) ∧ KDict K w d es n ∧
  ∀ p ∈ tab, match p.2 with
    | none => PySem.W.nsIn K d p.1 = some none
    | some dd => ∃ (u : Value) (v : V), PySem.W.nsIn K d p.1 = some (some u) ∧ RelV v u ∧ ∀ H, Dq K H v dd
theorem tab_mem {tab : List (Str × Option D)} {z : Str} {r : Option D} (h : tab.lookup z = some r) : (z, r) ∈ tab := by
  induction tab with
  | nil => cases h
  | cons p l ih =>
    obtain ⟨k, v⟩ := p
    rw [List.lookup_cons] at h
    by_cases c : z = k
    · subst c
      rw [show (z == z) = true from beq_self_eq_true z] at h
      cases h; exact List.mem_cons_self
    · rw [show (z == k) = false from beq_eq_false_iff_ne.mpr c] at h
      exact List.mem_cons_of_mem _ (ih h)
section
variable {X : Cx} {e : Expr} {te : ATE} {x : Str} {p pos : Pos} {tab : List (Str × Option D)}
def aKin (tab : List (Str × Option D)) (te : ATE) : ATE := fun a Q => te a fun y m => match y with
  | .d (.str z) => match tab.lookup z with
    | some r => Q (.d (.bool r.isSome)) m
    | none => False
  | _ => False
def aKix (tab : List (Str × Option D)) (te : ATE) : ATE := fun a Q => te a fun y m => match y with
  | .d (.str z) => match tab.lookup z with
    | some (some d) => Q (.d d) m
    | _ => False
  | _ => False
theorem kin_imp {C : Ct} {d : Addr} {K : PySem.W.Frag} (hp : ∀ p ∈ tab, match p.2 with
    | none => PySem.W.nsIn K d p.1 = some none
    | some dd => ∃ (u : Value) (v : V), PySem.W.nsIn K d p.1 = some (some u) ∧ RelV v u ∧ ∀ H, Dq K H v dd) (σ : List (Option V)) (H : Hp) (Q : VK) (h : lft C (aKin tab te) σ H Q) :
    tOp (fun x y H Q => ∃ (z : Str) (r : Option Value), x = .str z ∧ y = .ref d ∧ PySem.W.nsIn K d z = some r ∧ Q (.bl r.isSome) H) (lft C te) (tC (.ref d)) σ H Q := by
  obtain ⟨a, L, Mo, AQ, rr, k, h⟩ := h
  refine ⟨a, L, Mo, _, rr, fun y m1 v L1 Mo1 H1 h1 b1 v1 e1 => ?_, h⟩
  split at h1
  · rename_i z
    split at h1
    · rename_i r e
      have q := hp _ (tab_mem e)
      cases r with
      | none => exact ⟨z, none, dq_str v1, rfl, q, (k.aft e1).ret h1 b1 (.bl _)⟩
      | some dd =>
        obtain ⟨u, v0, q1, q2, q3⟩ := q
        exact ⟨z, some u, dq_str v1, rfl, q1, (k.aft e1).ret h1 b1 (.bl _)⟩
    · exact h1.elim
  · exact h1.elim
theorem q_kin (D : DictAt X.K X.w X.mg x tab) (ha : QE X e te) (hg : Gl X x := by rfl) (hdb : (x == ("__debug__" : Str)) = false := by decide) (hm : behindInMarks .In (.Name x p) = false := by rfl) : QE X (.Compare e [.In] [.Name x p] pos) (aKin tab te) := fun C hK => by
  obtain ⟨d, es, n, h1, h2, h3⟩ := D
  exact PE.imp (pe_cmpR (op_in_kd h2) (ha C hK) (pe_glob (v := .ref d) hg h1 rfl hdb) hm) (kin_imp h3)
theorem qt_kin (D : DictAt X.K X.w X.mg x tab) (ha : QE X e te) (hg : Gl X x := by rfl) (hdb : (x == ("__debug__" : Str)) = false := by decide) (hm : behindInMarks .In (.Name x p) = false := by rfl) : QT X (.Compare e [.In] [.Name x p] pos) (aTest (aKin tab te)) := fun C hK => by
  obtain ⟨d, es, n, h1, h2, h3⟩ := D
  refine PT.imp (pt_cmpR (op_in_kd h2) (ha C hK) (pe_glob (v := .ref d) hg h1 rfl hdb) hm) fun σ H Q h => ?_
  have := test_imp σ H Q h
  obtain ⟨a, L, Mo, AQ, rr, k, h⟩ := this
  exact kin_imp h3 σ H _ ⟨a, L, Mo, AQ, rr, k, h⟩
theorem q_kix (D : DictAt X.K X.w X.mg x tab) (hi : QE X e te) (hg : Gl X x := by rfl) (hdb : (x == ("__debug__" : Str)) = false := by decide) (hs : NoSl e := by intro _ _; rfl) : QE X (.Subscript (.Name x p) e pos) (aKix tab te) := fun C hK => by
  obtain ⟨d, es, n, h1, h2, h3⟩ := D
  refine ⟨fun pins s σ H Q I h => ?_⟩
  refine subD_of PySem.F.slot_dict_getitem.lookup hs (thn ((pe_glob (v := .ref d) hg h1 rfl hdb).run pins s σ H (fun v H1 => v = .ref d ∧ H1 = H) I ⟨rfl, rfl⟩) fun u s1 ⟨x1, H1, I1, rx, e1, e2⟩ => ?_)
  subst e1; subst e2
  cases rx
  obtain ⟨a, L, Mo, AQ, rr, k, h⟩ := h
  refine thn ((hi C hK).run pins s1 σ H1 (fun y H2 => ∃ z dd u v, y = .str z ∧ PySem.W.nsIn X.K d z = some (some u) ∧ RelV v u ∧ (∀ H, Dq X.K H v dd) ∧ Q v H2) I1 ⟨a, L, Mo, _, rr, fun y m1 v L1 Mo1 H2 h1 b1 v1 e1 => ?_, h⟩) fun iv s2 ⟨y, H2, I2, ry, z, dd, u, v, ey, q1, q2, q3, q4⟩ => ?_
  · split at h1
    · rename_i z
      split at h1
      · rename_i dd e
        obtain ⟨u, v0, q1, q2, q3⟩ := h3 _ (tab_mem e)
        exact ⟨z, dd, u, v0, dq_str v1, q1, q2, q3, (k.aft e1).ret h1 b1 (by show Dq C.K _ _ _; rw [hK]; exact q3 _)⟩
      · exact h1.elim
    · exact h1.elim
  · subst ey
    exact ⟨kd_type h2 I2, op_item_kd h2 pins s2 σ H2 (.ref d) (.str z) _ _ _ I2 rfl ry ⟨z, u, v, rfl, rfl, q1, q2, q4⟩⟩
end
/-! ### xs[i], ys[j] = pair -/
section
variable {X : Cx} {e o i u j : Expr} {te to ti uo ui : ATE} {pos tp1 tp2 tp : Pos} {kk : Nat}
def lputK (to ti : ATE) (d : D) (a : AS) (K : Mm → Prop) : Prop := to a fun x m1 => ti ⟨a.g, m1⟩ fun y m2 => match x, y with
  | .o j, .d (.int k) => match m2.o[j]? with
    | some (.l ds) => match ixN ds.length k with
      | some p => K ⟨m2.s, m2.o.set j (.l (ds.set p d))⟩
      | none => False
    | _ => False
  | _, _ => False
def aLput2 (te to ti uo ui : ATE) : ATS := fun E a => te a fun x m => match x with
  | .d (.tuple [d, e]) => lputK to ti d ⟨a.g, m⟩ fun m' => lputK uo ui e ⟨a.g, m'⟩ fun m'' => E.nx ⟨a.g, m''⟩
  | _ => False
theorem lput_imp {C : Ct} {a : AS} {L Mo : List Addr} {σ : List (Option V)} {H : Hp} {d : D} {v : V} {K : Mm → Prop} {Q : L2.St → Hp → Prop} (r : R C a L Mo σ H) (hv : Dq C.K (C.hd L Mo H) v d) (h : lputK to ti d a K)
    (hq : ∀ m' L' Mo' H', K m' → R C ⟨a.g, m'⟩ L' Mo' σ H' → X2 C L Mo H L' Mo' H' → Q σ H') : gSub (lft C to) (lft C ti) rSetL v σ H Q := by
  refine ⟨a, L, Mo, _, r, fun x m1 ov L1 Mo1 H1 h1 b1 v1 e1 => ⟨⟨a.g, m1⟩, L1, Mo1, _, r.next b1 e1, fun y m2 iv L2 Mo2 H2 h2 b2 v2 e2 => ?_, h1⟩, h⟩
  split at h2
  · rename_i j kk
    split at h2
    · rename_i ds e
      split at h2
      · rename_i p ep
        obtain ⟨l, rfl, hl, ys, h4, h5⟩ := o_at b2 (v1.mono e2) e
        have hz := dq_int v2
        subst hz
        have hw := Dq.mono e2.sm _ _ (Dq.mono e1.sm _ _ hv)
        refine ⟨l, ys, kk, p, rfl, rfl, h4, by rw [h5.len]; exact ep, hq _ _ _ _ h2 (((r.next b1 e1).next b2 e2).next (b2.upd hl fun h e => ⟨_, upd_same, by rw [e]; exact h5.setAt p hw⟩) (X2.upd (List.mem_of_getElem? hl))) ((e1.trans e2).trans (X2.upd (List.mem_of_getElem? hl)))⟩
      · exact h2.elim
    · exact h2.elim
  · exact h2.elim
theorem qs_lput2 (hc : X.calm = true) (he : QE X e te) (ho : QE X o to) (hi : QE X i ti) (hu : QE X u uo) (hj : QE X j ui)
    (hs : swapsWithSole [.Tuple [.Subscript o i tp1, .Subscript u j tp2] kk tp] e pos.line X.env = pure false := by rfl) (hw : swappedStores [.Tuple [.Subscript o i tp1, .Subscript u j tp2] kk tp] e X.env = pure none := by rfl)
    (h1 : (assignEach [.Tuple [.Subscript o i tp1, .Subscript u j tp2] kk tp] X.env).map (·.2) = [assign (.Tuple [.Subscript o i tp1, .Subscript u j tp2] kk tp) X.env] := by rfl)
    (ha1 : ∀ v, assign (.Subscript o i tp1) X.env v = (do
      let ov ← holding [v] (eval o X.env)
      let iv ← holding [v, ov] (eval i X.env)
      standAt tp1
      holding [v, ov, iv] (setItem ov iv v)
      release [v, ov, iv] []) := by intro _; rfl)
    (ha2 : ∀ v, assign (.Subscript u j tp2) X.env v = (do
      let ov ← holding [v] (eval u X.env)
      let iv ← holding [v, ov] (eval j X.env)
      standAt tp2
      holding [v, ov, iv] (setItem ov iv v)
      release [v, ov, iv] []) := by intro _; rfl)
    (hc1 : (assignEach [.Subscript o i tp1, .Subscript u j tp2] X.env).map (·.2) = assign (.Subscript o i tp1) X.env :: (assignEach [.Subscript u j tp2] X.env).map (·.2) := by rfl)
    (hc2 : (assignEach [.Subscript u j tp2] X.env).map (·.2) = assign (.Subscript u j tp2) X.env :: (assignEach [] X.env).map (·.2) := by rfl)
    (hn : (assignEach [.Subscript o i tp1, .Subscript u j tp2] X.env).length = 2 := by rfl) (hst : (assignEach [.Subscript o i tp1, .Subscript u j tp2] X.env).findIdx? (·.1) = none := by rfl) :
    QS X (.Assign [.Tuple [.Subscript o i tp1, .Subscript u j tp2] kk tp] e pos) (aLput2 te to ti uo ui) := fun C hK =>
  PS.imp (ps_asg (he C hK) (pg_tup hc (pgs_cons (pg_sub (ho C hK) (hi C hK) set_list ha1) (pgs_cons (pg_sub (hu C hK) (hj C hK) set_list ha2) pgs_nil hc2) hc1) hn hst) hs hw h1) fun D σ H ⟨a, L, Mo, AD, r, b, h⟩ => by
    refine ⟨a, L, Mo, _, r, fun x m1 v L1 Mo1 H1 h1 b1 v1 e1 => ?_, h⟩
    split at h1
    · rename_i d f
      cases v1 with
      | tup q1 q2 =>
        cases q2 with
        | cons q3 q4 =>
          cases q4 with
          | cons q5 q6 =>
            cases q6
            refine ⟨_, _, rfl, hK ▸ same_tup hid_same q1, rfl, _, _, rfl, ?_⟩
            refine lput_imp (r.next b1 e1) q3 h1 fun m' L' Mo' H' k1 r1 x1 => ⟨_, _, rfl, ?_⟩
            refine lput_imp r1 (Dq.mono x1.sm _ _ q5) k1 fun m'' L'' Mo'' H'' k2 r2 x2 => ⟨rfl, ?_⟩
            exact b.nx _ _ _ _ _ k2 r2
    · exact h1.elim
/-! ### list.index -/
def mIndex : AM := fun x avs m Q => match lstA m x, avs with
  | some ds, [.d d] => SeqAt.shaped (.list ds) = true ∧ SeqAt.shaped d = true ∧ ∃ (j : Nat) (z : D), ds[j]? = some z ∧ PyData.eqv z d = true ∧ (∀ (k : Nat) (z' : D), k < j → ds[k]? = some z' → PyData.eqv z' d = false) ∧ Q (.d (.int (j : Nat))) m
  | _, _ => False
theorem mq_index (hu : X.A.units + 65 < cLine) : MtQ X "list.index" mIndex := by
  refine ⟨_, mt_indexD hu, fun C L Mo H m x avs v vs Q AQ hK b r1 r2 k hh => ?_⟩
  unfold mIndex at hh
  split at hh
  · rename_i ds d e
    obtain ⟨l, xs, rfl, h1, h2⟩ := lstA_ok b r1 e
    obtain ⟨w, rfl, rw_⟩ := av1 r2
    obtain ⟨s1, s2, j, z, hz, he, hn, hq⟩ := hh
    have nd : (PyData.list ds).hasDict = false := shaped_noDict s1
    exact ⟨l, w, d, ds, j, z, rfl, rfl, hK ▸ Dq.toDp _ _ nd (.lst h1 (DqAll.mono hid_same _ _ h2)), hK ▸ Dq.toDp _ _ (shaped_noDict s2) (Dq.mono hid_same _ _ rw_), s1, s2, hz, he, hn, k.ret hq b (.int _)⟩
  · exact hh.elim
/-! ### local objects let go -/
def aNorm (n : Nat) (fs : List Nat) (t : ATS) : ATS := fun E a => t E (norm n fs a)
theorem qs_norm {st : Stmt} {t : ATS} (n : Nat) (fs : List Nat) (h : QS X st t) : QS X st (aNorm n fs t) := fun C hK => PS.imp (h C hK) fun D σ H ⟨a, L, Mo, AD, r, b, h⟩ =>
  ⟨_, _, _, AD, r.norm n fs, b, h⟩
end
end QL

namespace QL
open PySem PySem.Spec PyProof.Rows L2 RZ
/-! ### a op1 b op2 c op3 d -/
section
variable {X : Cx} {a b c d : Expr} {pos : Pos}
def tChain3 (r r' r'' : R2) (ta tb tc td : TE) : TE := fun σ H Q => ta σ H fun x H1 => tb σ H1 fun y H2 => r x y H2 fun z H3 => ∃ k, z = .bl k ∧
  (if k = true then tc σ H3 fun w' H4 => r' y w' H4 fun z2 H5 => ∃ k2, z2 = .bl k2 ∧ (if k2 = true then td σ H5 fun w2 H6 => r'' w' w2 H6 Q else Q (.bl false) H5) else Q (.bl false) H3)
theorem pe_chain3 {op op' op'' : CmpOp} {r r' r'' : R2} {ta tb tc td : TE} (ho : OpR X (compareOp op) r) (ho' : OpR X (compareOp op') r') (ho'' : OpR X (compareOp op'') r'') (ha : PE X a ta) (hb : PE X b tb) (hc : PE X c tc) (hd : PE X d td)
    (hm : lastMarks [op, op', op''] [b, c, d] = false) : PE X (.Compare a [op, op', op''] [b, c, d] pos) (tChain3 r r' r'' ta tb tc td) := by
  refine ⟨fun pins s σ H Q I h => ?_⟩
  refine Compare_chain (thn (ha.run pins s σ H _ I h) fun v s1 ⟨x, H1, I1, r1, q1⟩ => chain_link (thn (hb.run pins s1 σ H1 _ I1 q1) fun u s2 ⟨y, H2, I2, r2, q2⟩ =>
    thn (ho pins s2 σ H2 x y v u _ I2 r1 r2 q2) fun d s3 ⟨z, H3, I3, r3, k, e, q3⟩ => ?_)) hm
  subst e
  cases r3
  refine wpAny_truthy_bool ?_
  cases k with
  | false => exact ite_ff ⟨.bl false, H3, I3, rfl, q3⟩
  | true =>
    refine ite_tt (chain_link (thn (hc.run pins s3 σ H3 _ I3 q3) fun w' s4 ⟨z', H4, I4, r4, q4⟩ => thn (ho' pins s4 σ H4 y z' u w' _ I4 r2 r4 q4) fun d s5 ⟨z2, H5, I5, r5, k2, e2, q5⟩ => ?_))
    subst e2
    cases r5
    refine wpAny_truthy_bool ?_
    cases k2 with
    | false => exact ite_ff ⟨.bl false, H5, I5, rfl, q5⟩
    | true => exact ite_tt (chain_last (thn (hd.run pins s5 σ H5 _ I5 q5) fun w2 s6 ⟨z3, H6, I6, r6, q6⟩ => ho'' pins s6 σ H6 z' z3 w' w2 Q I6 r4 r6 q6))
theorem pt_chain3 {op op' op'' : CmpOp} {r r' r'' : R2} {ta tb tc td : TE} (ho : OpR X (compareOp op) r) (ho' : OpR X (compareOp op') r') (ho'' : OpR X (compareOp op'') r'') (ha : PE X a ta) (hb : PE X b tb) (hc : PE X c tc) (hd : PE X d td)
    (hm : lastMarks [op, op', op''] [b, c, d] = false) : PT X (.Compare a [op, op', op''] [b, c, d] pos) (tTest (tChain3 r r' r'' ta tb tc td)) := by
  refine ⟨fun pins s σ H Q I h => ?_⟩
  refine isTrue_chain (thn (ha.run pins s σ H _ I h) fun v s1 ⟨x, H1, I1, r1, q1⟩ => test_link (thn (hb.run pins s1 σ H1 _ I1 q1) fun u s2 ⟨y, H2, I2, r2, q2⟩ =>
    thn (ho pins s2 σ H2 x y v u _ I2 r1 r2 q2) fun d s3 ⟨z, H3, I3, r3, k, e, q3⟩ => ?_)) hm
  subst e
  cases r3
  refine wpAny_truthy_bool ?_
  cases k with
  | false =>
    obtain ⟨k', e', q'⟩ := q3
    cases e'
    exact ite_ff ⟨H3, I3, q'⟩
  | true =>
    refine ite_tt (test_link (thn (hc.run pins s3 σ H3 _ I3 q3) fun w' s4 ⟨z', H4, I4, r4, q4⟩ => thn (ho' pins s4 σ H4 y z' u w' _ I4 r2 r4 q4) fun d s5 ⟨z2, H5, I5, r5, k2, e2, q5⟩ => ?_))
    subst e2
    cases r5
    refine wpAny_truthy_bool ?_
    cases k2 with
    | false =>
      obtain ⟨k', e', q'⟩ := q5
      cases e'
      exact ite_ff ⟨H5, I5, q'⟩
    | true =>
      refine ite_tt (test_last (thn (hd.run pins s5 σ H5 _ I5 q5) fun w2 s6 ⟨z3, H6, I6, r6, q6⟩ => thn (ho'' pins s6 σ H6 z' z3 w' w2 _ I6 r4 r6 q6) fun d' s7 ⟨z4, H7, I7, r7, k3, e3, q7⟩ => ?_))
      subst e3
      cases r7
      exact wpAny_truthy_bool ⟨H7, I7, q7⟩
def aChain3 (r r' r'' : AR2) (ta tb tc td : ATE) : ATE := fun a Q => ta a fun x m1 => tb ⟨a.g, m1⟩ fun y m2 => r x y m2 fun z m3 => match isB z with
  | some k => if k = true then tc ⟨a.g, m3⟩ fun w m4 => r' y w m4 fun z2 m5 => match isB z2 with
      | some k2 => if k2 = true then td ⟨a.g, m5⟩ fun w2 m6 => r'' w w2 m6 Q else Q (.d (.bool false)) m5
      | none => False
    else Q (.d (.bool false)) m3
  | none => False
variable {ta tb tc td : ATE}
theorem chain3_imp {C : Ct} {r r' r'' : AR2} {r2 r2' r2'' : R2} (hK : C.K = X.K) (ho : ∀ (C : Ct) L Mo H m x y v w Q AQ, C.K = X.K → B C m L Mo H → AVR C L Mo H x v → AVR C L Mo H y w → Cont C L Mo H AQ Q → r x y m AQ → r2 v w H Q)
    (ho' : ∀ (C : Ct) L Mo H m x y v w Q AQ, C.K = X.K → B C m L Mo H → AVR C L Mo H x v → AVR C L Mo H y w → Cont C L Mo H AQ Q → r' x y m AQ → r2' v w H Q)
    (ho'' : ∀ (C : Ct) L Mo H m x y v w Q AQ, C.K = X.K → B C m L Mo H → AVR C L Mo H x v → AVR C L Mo H y w → Cont C L Mo H AQ Q → r'' x y m AQ → r2'' v w H Q) (σ : List (Option V)) (H : Hp) (Q : VK)
    (h : lft C (aChain3 r r' r'' ta tb tc td) σ H Q) : tChain3 r2 r2' r2'' (lft C ta) (lft C tb) (lft C tc) (lft C td) σ H Q := by
  obtain ⟨a, L, Mo, AQ, rr, k, h⟩ := h
  refine ⟨a, L, Mo, _, rr, fun x m1 v L1 Mo1 H1 h1 b1 v1 e1 => ⟨⟨a.g, m1⟩, L1, Mo1, _, rr.next b1 e1, fun y m2 w L2 Mo2 H2 h2 b2 w2 e2 => ?_, h1⟩, h⟩
  refine ho C L2 Mo2 H2 m2 x y v w _ _ hK b2 (v1.mono e2) w2 (fun z m3 vz L3 Mo3 H3 h3 b3 v3 e3 => ?_) h2
  have k3 := k.aft (e1.trans (e2.trans e3))
  have rr3 := (rr.next b1 e1).next b3 (e2.trans e3)
  split at h3
  · rename_i kk ek
    refine ⟨kk, isB_rel ek v3, ?_⟩
    cases kk with
    | true =>
      rw [if_pos rfl] at h3 ⊢
      refine ⟨⟨a.g, m3⟩, L3, Mo3, _, rr3, fun u m4 vu L4 Mo4 H4 h4 b4 v4 e4 => ?_, h3⟩
      refine ho' C L4 Mo4 H4 m4 y u w vu _ _ hK b4 (w2.mono (e3.trans e4)) v4 (fun z2 m5 vz2 L5 Mo5 H5 h5 b5 v5 e5 => ?_) h4
      split at h5
      · rename_i kk2 ek2
        refine ⟨kk2, isB_rel ek2 v5, ?_⟩
        cases kk2 with
        | true =>
          rw [if_pos rfl] at h5 ⊢
          exact ⟨⟨a.g, m5⟩, L5, Mo5, _, rr3.next b5 (e4.trans e5), fun u2 m6 vu2 L6 Mo6 H6 h6 b6 v6 e6 => ho'' C L6 Mo6 H6 m6 u u2 vu vu2 Q AQ hK b6 (v4.mono (e5.trans e6)) v6 (k3.aft (e4.trans (e5.trans e6))) h6, h5⟩
        | false =>
          rw [if_neg Bool.false_ne_true] at h5 ⊢
          exact (k3.aft (e4.trans e5)).ret h5 b5 (.bl false)
      · exact h5.elim
    | false =>
      rw [if_neg Bool.false_ne_true] at h3 ⊢
      exact k3.ret h3 b3 (.bl false)
  · exact h3.elim
theorem q_chain3 {op op' op'' : CmpOp} {r r' r'' : AR2} (o : OpQ X (compareOp op) r) (o' : OpQ X (compareOp op') r') (o'' : OpQ X (compareOp op'') r'') (ha : QE X a ta) (hb : QE X b tb) (hc : QE X c tc) (hd : QE X d td) (hm : lastMarks [op, op', op''] [b, c, d] = false) :
    QE X (.Compare a [op, op', op''] [b, c, d] pos) (aChain3 r r' r'' ta tb tc td) := fun C hK => by
  obtain ⟨r2, ho, hi⟩ := o
  obtain ⟨r3, ho', hi'⟩ := o'
  obtain ⟨r4, ho'', hi''⟩ := o''
  exact PE.imp (pe_chain3 ho ho' ho'' (ha C hK) (hb C hK) (hc C hK) (hd C hK) hm) (chain3_imp hK hi hi' hi'')
theorem qt_chain3 {op op' op'' : CmpOp} {r r' r'' : AR2} (o : OpQ X (compareOp op) r) (o' : OpQ X (compareOp op') r') (o'' : OpQ X (compareOp op'') r'') (ha : QE X a ta) (hb : QE X b tb) (hc : QE X c tc) (hd : QE X d td) (hm : lastMarks [op, op', op''] [b, c, d] = false) :
    QT X (.Compare a [op, op', op''] [b, c, d] pos) (aTest (aChain3 r r' r'' ta tb tc td)) := fun C hK => by
  obtain ⟨r2, ho, hi⟩ := o
  obtain ⟨r3, ho', hi'⟩ := o'
  obtain ⟨r4, ho'', hi''⟩ := o''
  refine PT.imp (pt_chain3 ho ho' ho'' (ha C hK) (hb C hK) (hc C hK) (hd C hK) hm) fun σ H Q h => ?_
  obtain ⟨a, L, Mo, AQ, rr, k, h⟩ := test_imp σ H Q h
  exact chain3_imp hK hi hi' hi'' σ H _ ⟨a, L, Mo, AQ, rr, k, h⟩
end
/-! ### xs + ys, to be changed afterwards -/
section
variable {X : Cx}
def aCatM : AR2 := fun x y m Q => match lstA m x, lstA m y with
  | some xs, some ys => xs.length + ys.length ≤ sizeLine ∧ Q (.o m.o.length) ⟨m.s, m.o ++ [.l (xs ++ ys)]⟩
  | _, _ => False
theorem oq_catM : OpQ X (binaryOp .Add) aCatM := by
  refine ⟨_, op_cat, fun C L Mo H m x y v w Q AQ hK b r1 r2 k hh => ?_⟩
  unfold aCatM at hh
  split at hh
  · rename_i xs ys e1 e2
    obtain ⟨l1, vs, rfl, h1, h2⟩ := lstA_ok b r1 e1
    obtain ⟨l2, ws, rfl, h3, h4⟩ := lstA_ok b r2 e2
    exact ⟨l1, l2, vs, ws, rfl, rfl, h1, h3, by rw [h2.len, h4.len]; exact hh.1, fun p hp => k.lstM b hp (h2.app h4) hh.2⟩
  · exact hh.elim
end
theorem bt_bool : bootBuiltins "bool" = some (.type "bool") := by decide +kernel
end QL

namespace QL
open PySem PySem.Spec PyProof.Rows L2 RZ
/-! ### functions that a module brought in: gcd -/
section
variable {X : Cx} {e : Expr} {es : List Expr} {pos p : Pos} {x : Str} {id : String} {tr : ATA}
theorem q_callF {r : AC1} (o : CallQ X (.builtin id) r) (hg : Gl X x) (hm : X.mg x = some (.builtin id)) (ha : QA X (e :: es) tr) (hdb : (x == ("__debug__" : Str)) = false := by decide)
    (he : starEach (e :: es) X.env = (false, eval e X.env) :: starEach es X.env := by rfl) (hpl : (backTo pos (starEach es X.env)).any (·.1) = false := by rfl) : QE X (.Call (.Name x p) (e :: es) [] pos) (aCall r tr) := fun C hK => by
  obtain ⟨r2, ho, hi⟩ := o
  exact PE.imp (pe_callBfun ho hg hm (ha C hK) hdb he hpl) (call_imp hK hi)
theorem gcd_ex : ∃ f : Int → Int → Int, ∀ i j, f i j = ((Nat.gcd i.natAbs j.natAbs : Nat) : Int) := ⟨fun i j => ((Nat.gcd i.natAbs j.natAbs : Nat) : Int), fun _ _ => rfl⟩
/-- the greatest common part; no reduction looks into it -/
noncomputable def gcdI : Int → Int → Int := Classical.choose gcd_ex
theorem gcdI_eq (i j : Int) : gcdI i j = ((Nat.gcd i.natAbs j.natAbs : Nat) : Int) := Classical.choose_spec gcd_ex i j
def bGcd : AC1 := fun avs m Q => match avs with
  | [.d (.int i), .d (.int j)] => Q (.d (.int (gcdI i j))) m
  | _ => False
theorem cq_gcd : CallQ X (.builtin "math.gcd") bGcd := by
  refine ⟨_, cr_gcd, fun C L Mo H m avs vs Q AQ hK b r k hh => ?_⟩
  unfold bGcd at hh
  split at hh
  · obtain ⟨v, w, rfl, rv, rw_⟩ := av2 r
    rw [gcdI_eq] at hh
    exact ⟨_, _, by rw [dq_int rv, dq_int rw_], k.ret hh b (.int _)⟩
  · exact hh.elim
/-! ### // by any number but 0 -/
def DivN (_ j : Int) : Prop := j ≠ 0 ∧ j.natAbs.log2 < 9000
theorem op_fdivNW : OpR X (binaryOp .FloorDiv) (rI DivN fun i j => .int (i.fdiv j)) := opI fun _ _ _ _ _ _ _ hc q => floordiv_int hc.1 q (.inl (PyProof.noPylong_of_log2 hc.2))
def aFdivN : AR2 := intsR DivN fun i j => .int (i.fdiv j)
theorem oq_fdivN : OpQ X (binaryOp .FloorDiv) aFdivN := opq_ints op_fdivNW fun _ _ _ _ => .int _
/-! ### list * n -/
def aRepL : AR2 := fun x y m Q => match y with
  | .d (.int k) => match lstA m x with
    | some ds => -(2 ^ 63) ≤ k ∧ k < 2 ^ 63 ∧ ds.length * k.toNat ≤ sizeLine ∧ Q (.d (.list (List.replicate k.toNat ds).flatten)) m
    | none => False
  | _ => False
theorem oq_repL : OpQ X (binaryOp .Mult) aRepL := by
  refine ⟨_, op_rep, fun C L Mo H m x y v w Q AQ hK b r1 r2 k hh => ?_⟩
  unfold aRepL at hh
  split at hh
  · rename_i i
    have hw := dq_int r2
    subst hw
    split at hh
    · rename_i ds e
      obtain ⟨l, xs, rfl, h1, h2⟩ := lstA_ok b r1 e
      exact ⟨l, i, xs, rfl, rfl, h1, hh.1, hh.2.1, by rw [h2.len]; exact hh.2.2.1, fun p hp => k.lst b hp (h2.rep i.toNat) hh.2.2.2⟩
    · exact hh.elim
  · exact hh.elim
end
/-! ### the readings of statements, where they are given all they need -/
section
variable (D : AEnds) (a : AS)
theorem aNext_ap : aNext D a = D.nx a := rfl
theorem aSeq_ap (t u : ATS) : aSeq t u D a = t { D with nx := u D } a := rfl
theorem aBreak_ap : aBreak D a = D.bk a := rfl
theorem aCont_ap : aCont D a = D.ct a := rfl
theorem aDrop_ap (te : ATE) : aDrop te D a = te a fun _ m => D.nx ⟨a.g, m⟩ := rfl
theorem aRet_ap (te : ATE) : aRet te D a = te a D.rt := rfl
theorem aRetN_ap : aRetN D a = D.rt (.d .none) a.m := rfl
theorem aIfS_ap (c : ATT) (t u : ATS) : aIfS c t u D a = c a fun b m => if b = true then t D ⟨a.g, m⟩ else u D ⟨a.g, m⟩ := rfl
theorem aAsg_ap (te : ATE) (g : ATG) : aAsg te g D a = te a fun x m => g x m a.g fun g' => D.nx ⟨g', m⟩ := rfl
theorem aSet_ap (i : Nat) (te : ATE) : aSet i te D a = te a fun x m => D.nx ⟨a.g.set i (some x), m⟩ := rfl
theorem aPar_ap (i j : Nat) (ta : ATA) : aPar i j ta D a = ta a fun xs m => match xs with
  | [x, y] => D.nx ⟨(a.g.set i (some x)).set j (some y), m⟩
  | _ => False := rfl
theorem aFor_ap (fs : List Nat) (ti : AIt) (g : ATG) (tb : ATS) : aFor fs ti g tb D a = ti a fun ds m => aForL m.o.length fs g tb D ds ⟨clr a.g fs, m⟩ := rfl
theorem aWhile_ap (fs : List Nat) (c : ATT) (tb : ATS) : aWhile fs c tb D a = ∃ (I : AS → Prop) (μ : AS → Nat), I ⟨clr a.g fs, a.m⟩ ∧ ∀ a1, I a1 → c a1 fun b m => if b = true then
  tb { D with nx := fun a2 => I (norm a.m.o.length fs a2) ∧ μ (norm a.m.o.length fs a2) < μ a1, ct := fun a2 => I (norm a.m.o.length fs a2) ∧ μ (norm a.m.o.length fs a2) < μ a1, bk := fun a2 => D.nx (norm a.m.o.length fs a2) } ⟨a1.g, m⟩ else D.nx ⟨a1.g, m⟩ := rfl
end
end QL

namespace QL
open PySem PySem.Spec PyProof.Rows L2
local macro_rules | `(tactic| walk_at "qs") => `(tactic| (try simp -implicitDefEqProofs only [aSeq_ap, aNext_ap, aSet_ap, aRet_ap, aRetN_ap, aDrop_ap, aIfS_ap, aPar_ap, aAsg_ap, aFor_ap, aVar, aC, aBin, aUn, aNeg, aTest, aChain, aNot, aNotV, aAnd, aOr, aAndV, aOrV, aIf, aTru, aNil, aCons, aTup, aLst, aLstM, aCall, aFn, aLc, aYes,
  aAdd, aSub, aMul, aMod, aFdiv, aPow, aLt, aLe, aGt, aGe, aEq, aNe, aIx, intsR, intsR0, isB, datas, datA, lstA, tupA, seqA, truA, bLen, bInt, bAbs, bMax, bMin, bTuple, bList, bListM, bSum, bRepr, aItS, aItT, aItL, aRng1, aRng2, aSrcF, aSrcC, aSrcPut, aSrcNew, aRev, aRevM, aMt, aMt0, mApp, mPop, mPopC, mExt, bDict, bSortD,
  Option.isSome_some, Option.isSome_none, aTy, tyA, bIsi, bAll, bAny, bSorted, bMaxL, bMinL, bStr, noneA, aIsN, aNotN, aIsB, aNotB, aBits, aRep, aLput, aRevT, aKin, aKix, lputK, aLput2, mIndex, aNorm, aChain3, aCatM, intsL, bGcd, aRepL, aFdivN,
  aZip, aEnum, aDget, aDput, aDix, aDin, aDnin, aDnewK, aDnewT, aInT, aNinT, aInL, aNinL, bTupleK, aTupK, isDictA, lookA, dkA, dtA, keyA,
  atD_0, atD_1, atD_2, atD_3, atD_4, atD_5, atD_6, atD_7, atD_8, atD_9, atD_10, atD_11, atD_12,
  aGName, aGNil, aGCons, aGTup, aGLst, isSrc, SF.get, SF.put, argsOk, awipe, norm, clr, fzV, fzS, slotA, aSlice, aNoPart, aPart, aAugI, aBreak_ap, aCont_ap, endsA_nx, endsA_rt_d, endsA_rt_src,
  List.map_cons, List.map_nil, List.length_cons, List.length_nil, List.cons_append, List.nil_append, List.getElem?_cons_zero, List.getElem?_cons_succ, List.set_cons_zero, List.set_cons_succ, List.foldr_cons, List.foldr_nil, List.take_zero, List.take_nil, List.take_succ_cons, Nat.zero_add, if_true, if_false, Bool.false_eq_true, Bool.not_true, Bool.not_false, decide_true, decide_false, List.getElem?_nil, Nat.reduceLeDiff, Nat.reduceAdd, Nat.reduceLT, true_and, and_true, decide_eq_true_eq, Bool.not_eq_true', decide_eq_false_iff_not]))
local macro_rules | `(tactic| walk_at "mul") => `(tactic| first | exact MulOk.l (by omega) (by omega) | exact MulOk.r (by omega) (by omega) | (exact Or.inl ⟨by omega, by omega⟩) | omega | (exact Rg.of (by omega) (by omega)))
local macro_rules | `(tactic| walk_at "muls") => `(tactic| repeat (refine And.intro (by walk_at "mul") ?_))
/-! ### isinstance of data -/
theorem isi_none_int : isiT (tyD (.none)) "int" = false := by decide
theorem isi_none_bool : isiT (tyD (.none)) "bool" = false := by decide
theorem isi_none_str : isiT (tyD (.none)) "str" = false := by decide
theorem isi_none_list : isiT (tyD (.none)) "list" = false := by decide
theorem isi_none_tuple : isiT (tyD (.none)) "tuple" = false := by decide
theorem isi_none_dict : isiT (tyD (.none)) "dict" = false := by decide
theorem isi_bool_int (b : Bool) : isiT (tyD (.bool b)) "int" = true := by show isiT "bool" "int" = true; decide
theorem isi_bool_bool (b : Bool) : isiT (tyD (.bool b)) "bool" = true := by show isiT "bool" "bool" = true; decide
theorem isi_bool_str (b : Bool) : isiT (tyD (.bool b)) "str" = false := by show isiT "bool" "str" = false; decide
theorem isi_bool_list (b : Bool) : isiT (tyD (.bool b)) "list" = false := by show isiT "bool" "list" = false; decide
theorem isi_bool_tuple (b : Bool) : isiT (tyD (.bool b)) "tuple" = false := by show isiT "bool" "tuple" = false; decide
theorem isi_bool_dict (b : Bool) : isiT (tyD (.bool b)) "dict" = false := by show isiT "bool" "dict" = false; decide
theorem isi_int_int (i : Int) : isiT (tyD (.int i)) "int" = true := by show isiT "int" "int" = true; decide
theorem isi_int_bool (i : Int) : isiT (tyD (.int i)) "bool" = false := by show isiT "int" "bool" = false; decide
theorem isi_int_str (i : Int) : isiT (tyD (.int i)) "str" = false := by show isiT "int" "str" = false; decide
theorem isi_int_list (i : Int) : isiT (tyD (.int i)) "list" = false := by show isiT "int" "list" = false; decide
theorem isi_int_tuple (i : Int) : isiT (tyD (.int i)) "tuple" = false := by show isiT "int" "tuple" = false; decide
theorem isi_int_dict (i : Int) : isiT (tyD (.int i)) "dict" = false := by show isiT "int" "dict" = false; decide
theorem isi_str_int (x : Str) : isiT (tyD (.str x)) "int" = false := by show isiT "str" "int" = false; decide
theorem isi_str_bool (x : Str) : isiT (tyD (.str x)) "bool" = false := by show isiT "str" "bool" = false; decide
theorem isi_str_str (x : Str) : isiT (tyD (.str x)) "str" = true := by show isiT "str" "str" = true; decide
theorem isi_str_list (x : Str) : isiT (tyD (.str x)) "list" = false := by show isiT "str" "list" = false; decide
theorem isi_str_tuple (x : Str) : isiT (tyD (.str x)) "tuple" = false := by show isiT "str" "tuple" = false; decide
theorem isi_str_dict (x : Str) : isiT (tyD (.str x)) "dict" = false := by show isiT "str" "dict" = false; decide
theorem isi_list_int (l : List D) : isiT (tyD (.list l)) "int" = false := by show isiT "list" "int" = false; decide
theorem isi_list_bool (l : List D) : isiT (tyD (.list l)) "bool" = false := by show isiT "list" "bool" = false; decide
theorem isi_list_str (l : List D) : isiT (tyD (.list l)) "str" = false := by show isiT "list" "str" = false; decide
theorem isi_list_list (l : List D) : isiT (tyD (.list l)) "list" = true := by show isiT "list" "list" = true; decide
theorem isi_list_tuple (l : List D) : isiT (tyD (.list l)) "tuple" = false := by show isiT "list" "tuple" = false; decide
theorem isi_list_dict (l : List D) : isiT (tyD (.list l)) "dict" = false := by show isiT "list" "dict" = false; decide
theorem isi_tuple_int (l : List D) : isiT (tyD (.tuple l)) "int" = false := by show isiT "tuple" "int" = false; decide
theorem isi_tuple_bool (l : List D) : isiT (tyD (.tuple l)) "bool" = false := by show isiT "tuple" "bool" = false; decide
theorem isi_tuple_str (l : List D) : isiT (tyD (.tuple l)) "str" = false := by show isiT "tuple" "str" = false; decide
theorem isi_tuple_list (l : List D) : isiT (tyD (.tuple l)) "list" = false := by show isiT "tuple" "list" = false; decide
theorem isi_tuple_tuple (l : List D) : isiT (tyD (.tuple l)) "tuple" = true := by show isiT "tuple" "tuple" = true; decide
theorem isi_tuple_dict (l : List D) : isiT (tyD (.tuple l)) "dict" = false := by show isiT "tuple" "dict" = false; decide
theorem isi_dict_int (l : List (D × D)) : isiT (tyD (.dict l)) "int" = false := by show isiT "dict" "int" = false; decide
theorem isi_dict_bool (l : List (D × D)) : isiT (tyD (.dict l)) "bool" = false := by show isiT "dict" "bool" = false; decide
theorem isi_dict_str (l : List (D × D)) : isiT (tyD (.dict l)) "str" = false := by show isiT "dict" "str" = false; decide
theorem isi_dict_list (l : List (D × D)) : isiT (tyD (.dict l)) "list" = false := by show isiT "dict" "list" = false; decide
theorem isi_dict_tuple (l : List (D × D)) : isiT (tyD (.dict l)) "tuple" = false := by show isiT "dict" "tuple" = false; decide
theorem isi_dict_dict (l : List (D × D)) : isiT (tyD (.dict l)) "dict" = true := by show isiT "dict" "dict" = true; decide
local macro_rules | `(tactic| walk_at "isi") => `(tactic| simp only [isi_none_int, isi_none_bool, isi_none_str, isi_none_list, isi_none_tuple, isi_none_dict, isi_bool_int, isi_bool_bool, isi_bool_str, isi_bool_list, isi_bool_tuple, isi_bool_dict, isi_int_int, isi_int_bool, isi_int_str, isi_int_list, isi_int_tuple, isi_int_dict, isi_str_int, isi_str_bool, isi_str_str, isi_str_list, isi_str_tuple, isi_str_dict, isi_list_int, isi_list_bool, isi_list_str, isi_list_list, isi_list_tuple, isi_list_dict, isi_tuple_int, isi_tuple_bool, isi_tuple_str, isi_tuple_list, isi_tuple_tuple, isi_tuple_dict, isi_dict_int, isi_dict_bool, isi_dict_str, isi_dict_list, isi_dict_tuple, isi_dict_dict, if_true, if_false, Bool.false_eq_true, Bool.not_true, Bool.not_false, Bool.true_eq_false])
/-! ### tables of four numbers -/
abbrev T3 := Int × Int × Int
abbrev T4 := Int × Int × Int × Int
def triD (t : T3) : D := .tuple [.int t.1, .int t.2.1, .int t.2.2]
def tbD (t : T4) : D := .tuple [.int t.1, .int t.2.1, .int t.2.2.1, .int t.2.2.2]
def kT3 (t : T3) : Int := t.1 * t.1 + t.2.1 * t.2.1 + t.2.2 * t.2.2 - t.1 * t.2.1 * t.2.2 - 2
def mulT (t u : T4) : T4 := (t.1 * u.1 + t.2.1 * u.2.2.1, t.1 * u.2.1 + t.2.1 * u.2.2.2, t.2.2.1 * u.1 + t.2.2.2 * u.2.2.1, t.2.2.1 * u.2.1 + t.2.2.2 * u.2.2.2)
def invT (t : T4) : T4 := (t.2.2.2, -t.2.1, -t.2.2.1, t.1)
def trT (t : T4) : Int := t.1 + t.2.2.2
def detT (t : T4) : Int := t.1 * t.2.2.2 - t.2.1 * t.2.2.1
def trM (t u : T4) : T3 := (trT t, trT u, trT (mulT t u))
theorem Bd.add' {a b : Nat} {i j : Int} (h : Bd a i) (g : Bd b j) : Bd (max a b + 1) (i + j) := (h.le (Nat.le_max_left a b)).add (g.le (Nat.le_max_right a b))
theorem Bd.sub' {a b : Nat} {i j : Int} (h : Bd a i) (g : Bd b j) : Bd (max a b + 1) (i - j) := (h.le (Nat.le_max_left a b)).sub (g.le (Nat.le_max_right a b))
theorem Bd.lit {i : Int} (h : i.natAbs < 2 ^ 8 := by decide) : Bd 8 i := h
local macro_rules | `(tactic| walk_at "bd") => `(tactic| first | assumption | exact Bd.mul (by walk_at "bd") (by walk_at "bd") | exact Bd.add' (by walk_at "bd") (by walk_at "bd") | exact Bd.sub' (by walk_at "bd") (by walk_at "bd") | exact Bd.neg (by walk_at "bd") | exact Bd.lit)
local macro_rules | `(tactic| walk_at "mo") => `(tactic| exact MulOk.bd (by walk_at "bd") (by walk_at "bd") (by decide))
local macro_rules | `(tactic| walk_at "mos") => `(tactic| repeat (refine And.intro (by walk_at "mo") ?_))
def Bt (k : Nat) (t : T4) : Prop := Bd k t.1 ∧ Bd k t.2.1 ∧ Bd k t.2.2.1 ∧ Bd k t.2.2.2
theorem Bt.le {a b : Nat} {t : T4} (h : Bt a t) (hab : a ≤ b) : Bt b t := ⟨h.1.le hab, h.2.1.le hab, h.2.2.1.le hab, h.2.2.2.le hab⟩
theorem Bt.mul {a b : Nat} {t u : T4} (h : Bt a t) (g : Bt b u) : Bt (a + b + 1) (mulT t u) :=
  ⟨(h.1.mul g.1).add (h.2.1.mul g.2.2.1), (h.1.mul g.2.1).add (h.2.1.mul g.2.2.2), (h.2.2.1.mul g.1).add (h.2.2.2.mul g.2.2.1), (h.2.2.1.mul g.2.1).add (h.2.2.2.mul g.2.2.2)⟩
theorem Bt.inv {a : Nat} {t : T4} (h : Bt a t) : Bt a (invT t) := ⟨h.2.2.2, h.2.1.neg, h.2.2.1.neg, h.1⟩
/-- a table times a table -/
def fn_tt : AFn := fun avs s Q => ∃ t u : T4, avs = [.d (tbD t), .d (tbD u)] ∧ Bt 1000 t ∧ Bt 1000 u ∧ Q (.d (tbD (mulT t u))) s
def fn_inv : AFn := fun avs s Q => ∃ t : T4, avs = [.d (tbD t)] ∧ Q (.d (tbD (invT t))) s
theorem rng_2 : rngD 0 (Int.toNat 2) = [PyData.int 0, .int 1] := rfl
theorem b1000_1 : Bd 1000 1 := Bd.le (a := 8) (Bd.lit (i := 1)) (by decide)
theorem b1000_0 : Bd 1000 0 := Bd.le (a := 8) (Bd.lit (i := 0)) (by decide)
def N__law_pick : List Str := ["source", "many", "left", "mixed"]
def lc__law_pick_1 : ATT := (aAnd (aTest (aBin aGt (aVar 1) (aC (.int 1)))) (aAnd (aTest (aBin aLt (aSrcF .left (aVar 0)) (aC (.int 2)))) (aTest (aBin aGt (aCall bLen (aCons (aSrcC (aVar 0)) aNil)) (aC (.int 0))))))
def lb__law_pick_2 : ATS := (aSrcPut .left (aVar 0) (aMt0 mPopC (aSrcC (aVar 0))))
def t__law_pick : ATS := (aSeq (aWhile [] lc__law_pick_1 lb__law_pick_2)
    (aSeq (aSet 2 (aSrcF .left (aVar 0)))
    (aSeq (aIfS (aOr (aTest (aBin aLt (aVar 1) (aC (.int 2)))) (aTest (aBin aGt (aVar 2) (aC (.int 1))))) (aSeq (aSrcPut .left (aVar 0) (aBin aFdiv (aVar 2) (aCall bMax (aCons (aC (.int 1)) (aCons (aVar 1) aNil)))))
    (aRet (aBin aMod (aCall bInt (aCons (aVar 2) aNil)) (aCall bMax (aCons (aC (.int 1)) (aCons (aVar 1) aNil)))))) aNext)
    (aSeq (aSrcPut .turn (aVar 0) (aBin aAdd (aSrcF .turn (aVar 0)) (aC (.int 1))))
    (aSeq (aSet 3 (aBin aMod (aCall bInt (aCons (aBin aAdd (aSrcF .mixed (aVar 0)) (aBin aMul (aSrcF .turn (aVar 0)) (aC (.int 104729)))) aNil)) (aC (.int 998244353))))
    (aSeq (aSet 3 (aBin aMod (aCall bInt (aCons (aBin aAdd (aBin aMul (aVar 3) (aVar 3)) (aBin aMul (aSrcF .turn (aVar 0)) (aC (.int 17)))) aNil)) (aC (.int 2147483647))))
    (aSeq (aSrcPut .mixed (aVar 0) (aVar 3))
    (aRet (aBin aMod (aCall bInt (aCons (aBin aFdiv (aVar 3) (aC (.int 16))) aNil)) (aVar 1))))))))))
/-- a drawn number -/
def fn__law_pick : AFn := fun avs s Q => ∃ (S : Src) (n : Int), avs = [.src, .d (.int n)] ∧ s = some S ∧ n < 1073741824 ∧ ∀ (r : Int) S', 0 ≤ r → r < max 1 n → Q (.d (.int r)) (some S')
theorem h__law_pick : ∀ avs s AQ, fn__law_pick avs s AQ → t__law_pick (endsA AQ) ⟨startA N__law_pick avs, ⟨s, []⟩⟩ := by
  rintro _ _ AQ ⟨S, n, rfl, rfl, hn, hq⟩
  show t__law_pick (endsA AQ) ⟨[some .src, some (.d (.int n)), none, none], ⟨some S, []⟩⟩
  unfold t__law_pick
  walk_at "qs"
  refine ⟨fun a => ∃ S' : Src, a = ⟨[some .src, some (.d (.int n)), none, none], ⟨some S', []⟩⟩, fun a => match a.m.s with | some S' => S'.cells.length | none => 0, ⟨S, rfl⟩, ?_⟩
  rintro _ ⟨S, rfl⟩
  have hmax : (if n > 1 then n else 1) = max 1 n := by omega
  -- what follows the loop
  have tail : ∀ S : Src, aSeq (aSet 2 (aSrcF .left (aVar 0)))
    (aSeq (aIfS (aOr (aTest (aBin aLt (aVar 1) (aC (.int 2)))) (aTest (aBin aGt (aVar 2) (aC (.int 1))))) (aSeq (aSrcPut .left (aVar 0) (aBin aFdiv (aVar 2) (aCall bMax (aCons (aC (.int 1)) (aCons (aVar 1) aNil)))))
    (aRet (aBin aMod (aCall bInt (aCons (aVar 2) aNil)) (aCall bMax (aCons (aC (.int 1)) (aCons (aVar 1) aNil)))))) aNext)
    (aSeq (aSrcPut .turn (aVar 0) (aBin aAdd (aSrcF .turn (aVar 0)) (aC (.int 1))))
    (aSeq (aSet 3 (aBin aMod (aCall bInt (aCons (aBin aAdd (aSrcF .mixed (aVar 0)) (aBin aMul (aSrcF .turn (aVar 0)) (aC (.int 104729)))) aNil)) (aC (.int 998244353))))
    (aSeq (aSet 3 (aBin aMod (aCall bInt (aCons (aBin aAdd (aBin aMul (aVar 3) (aVar 3)) (aBin aMul (aSrcF .turn (aVar 0)) (aC (.int 17)))) aNil)) (aC (.int 2147483647))))
    (aSeq (aSrcPut .mixed (aVar 0) (aVar 3))
    (aRet (aBin aMod (aCall bInt (aCons (aBin aFdiv (aVar 3) (aC (.int 16))) aNil)) (aVar 1)))))))) (endsA AQ) ⟨[some .src, some (.d (.int n)), none, none], ⟨some S, []⟩⟩ := by
    intro S
    have fin1 : ∀ S', (0 < (if n > 1 then n else 1)) ∧ AQ (.d (.int (S.left % (if n > 1 then n else 1)))) (some S') := fun S' => by
      rw [hmax]
      exact ⟨by omega, hq _ _ (Int.emod_nonneg _ (by omega)) (Int.emod_lt_of_pos _ (by omega))⟩
    have dv : DivOk S.left (if n > 1 then n else 1) := .inl ⟨by rw [hmax]; omega, by rw [hmax]; omega⟩
    walk_at "qs"
    by_cases c1 : n < 2
    · simp only [c1, decide_true, if_true]
      walk_at "qs"
      exact ⟨dv, fin1 _⟩
    · simp only [c1, decide_false, Bool.false_eq_true, if_false]
      walk_at "qs"
      by_cases c2 : 1 < S.left
      · simp only [c2, decide_true, if_true]
        walk_at "qs"
        exact ⟨dv, fin1 _⟩
      · simp only [c2, decide_false, Bool.false_eq_true, if_false]
        walk_at "qs"
        refine ⟨.inl (.inr (by decide)), by decide, ?_⟩
        walk_at "qs"
        have h1 := Int.emod_nonneg (S.mixed + (S.turn + 1) * 104729) (show (998244353 : Int) ≠ 0 by decide)
        have h2 := Int.emod_lt_of_pos (S.mixed + (S.turn + 1) * 104729) (show (0 : Int) < 998244353 by decide)
        refine ⟨.inl (.inl ⟨by omega, by omega⟩), .inl (.inr (by decide)), by decide, ?_⟩
        walk_at "qs"
        refine ⟨.inl ⟨by decide, by decide⟩, by omega, hq _ _ (Int.emod_nonneg _ (by omega)) ?_⟩
        have := Int.emod_lt_of_pos (((S.mixed + (S.turn + 1) * 104729) % 998244353 * ((S.mixed + (S.turn + 1) * 104729) % 998244353) + (S.turn + 1) * 17) % 2147483647 / 16) (show (0 : Int) < n by omega)
        omega
  unfold lc__law_pick_1 lb__law_pick_2
  walk_at "qs"
  by_cases c1 : 1 < n
  · simp only [c1, decide_true, if_true]
    walk_at "qs"
    by_cases c2 : S.left < 2
    · simp only [c2, decide_true, if_true]
      walk_at "qs"
      by_cases c3 : (0 : Int) < ((S.cells.map PyData.int).length : Nat)
      · simp only [c3, decide_true, if_true]
        walk_at "qs"
        rw [List.length_map] at c3
        cases e : S.cells.getLast? with
        | none =>
          rw [List.getLast?_eq_none_iff] at e
          rw [e] at c3
          simp at c3
        | some i =>
          walk_at "qs"
          refine ⟨⟨_, rfl⟩, ?_⟩
          show S.cells.dropLast.length < S.cells.length
          rw [List.length_dropLast]; omega
      · simp only [c3, decide_false, Bool.false_eq_true, if_false]
        walk_at "qs"
        (have tl := tail S; revert tl; walk_at "qs"; intro tl; simp only [c1, decide_true, decide_false, Bool.false_eq_true, if_true, if_false] at tl ⊢; exact tl)
    · simp only [c2, decide_false, Bool.false_eq_true, if_false]
      walk_at "qs"
      (have tl := tail S; revert tl; walk_at "qs"; intro tl; simp only [c1, decide_true, decide_false, Bool.false_eq_true, if_true, if_false] at tl ⊢; exact tl)
  · simp only [c1, decide_false, Bool.false_eq_true, if_false]
    walk_at "qs"
    (have tl := tail S; revert tl; walk_at "qs"; intro tl; simp only [c1, decide_true, decide_false, Bool.false_eq_true, if_true, if_false] at tl ⊢; exact tl)
def N__law_of : List Str := ["source", "some"]
def t__law_of : ATS := (aRet (aBin aIx (aVar 1) (aFn 2 fn__law_pick (aCons (aVar 0) (aCons (aCall bLen (aCons (aVar 1) aNil)) aNil)))))
/-- a drawn member -/
def fn__law_of : AFn := fun avs s Q => ∃ (S : Src) (ds : List D), avs = [.src, .d (.list ds)] ∧ s = some S ∧ 0 < ds.length ∧ ds.length < 1073741824 ∧ ∀ d ∈ ds, ∀ S', Q (.d d) (some S')
theorem h__law_of : ∀ avs s AQ, fn__law_of avs s AQ → t__law_of (endsA AQ) ⟨startA N__law_of avs, ⟨s, []⟩⟩ := by
  rintro _ _ AQ ⟨S, ds, rfl, rfl, h0, hn, hq⟩
  show t__law_of (endsA AQ) ⟨[some .src, some (.d (.list ds))], ⟨some S, []⟩⟩
  unfold t__law_of
  walk_at "qs"
  refine ⟨S, _, rfl, rfl, by omega, fun r S' h1 h2 => ?_⟩
  walk_at "qs"
  have hr : r.toNat < ds.length := by omega
  have e : atD ds r = some ds[r.toNat] := by
    unfold atD
    rw [if_pos h1, List.getElem?_eq_getElem hr]
  rw [e]
  exact hq _ (List.getElem_mem hr) S'
def N__law_source : List Str := ["script", "mixed", "cell"]
def lb__law_source_1 : ATS := (aSet 1 (aBin aMod (aCall bInt (aCons (aBin aAdd (aBin aAdd (aBin aMul (aVar 1) (aC (.int 69069))) (aBin aMul (aVar 2) (aC (.int 31)))) (aC (.int 5))) aNil)) (aC (.int 2147483629))))
def le__law_source_2 : ATE := (aCall bAbs (aCons (aVar 2) aNil))
def t__law_source : ATS := (aSeq (aSet 1 (aC (.int 11)))
    (aSeq (aFor [2] (aItS (aVar 0)) (aGName 2) lb__law_source_1)
    (aRet (aSrcNew (aRevM (aLc (aItS (aVar 0)) (aGName 2) aYes le__law_source_2 [2])) (aC (.int 1)) (aVar 1) (aC (.int 0))))))
/-- a source is made of the script: which one is left open -/
def fn__law_source : AFn := fun avs s Q => ∃ ns : List Int, avs = [.scr ns] ∧ s = none ∧ ns.length ≤ 63 ∧ ∀ S', Q .src (some S')
theorem source_loop (E : AEnds) (ns0 : List Int) : ∀ (ns : List Int) (mi : Int), (∀ mi, E.nx ⟨[some (.scr ns0), some (.d (.int mi)), none], ⟨none, []⟩⟩) →
    aForL 0 [2] (aGName 2) lb__law_source_1 E (ns.map PyData.int) ⟨[some (.scr ns0), some (.d (.int mi)), none], ⟨none, []⟩⟩
  | [], mi, h => h mi
  | n :: ns, mi, h => by
    unfold aForL
    rw [List.map_cons]
    unfold lb__law_source_1
    walk_at "qs"
    refine ⟨.inl (.inr (by decide)), .inl (.inr (by decide)), by decide, ?_⟩
    walk_at "qs"
    exact source_loop E ns0 ns _ h
theorem filterMap_some' {α β : Type} (f : α → β) (l : List α) : l.filterMap (fun x => some (f x)) = l.map f := by
  induction l with
  | nil => rfl
  | cons a l ih => simp [ih]
theorem h__law_source : ∀ avs s AQ, fn__law_source avs s AQ → t__law_source (endsA AQ) ⟨startA N__law_source avs, ⟨s, []⟩⟩ := by
  rintro _ _ AQ ⟨ns, rfl, rfl, hn, hq⟩
  show t__law_source (endsA AQ) ⟨[some (.scr ns), none, none], ⟨none, []⟩⟩
  unfold t__law_source
  walk_at "qs"
  refine source_loop _ ns ns 11 fun mi => ?_
  walk_at "qs"
  refine ⟨by rw [List.length_map]; omega, aLcL_pure (fun d => match d with | .int i => some (.int (if i < 0 then -i else i)) | _ => none) (fun d hd K hK => ?_) ?_⟩
  · obtain ⟨i, _, rfl⟩ := List.mem_map.mp hd
    unfold stepC le__law_source_2
    walk_at "qs"
    exact hK
  · walk_at "qs"
    refine ⟨(ns.map fun i => if i < 0 then -i else i).reverse, ?_, hq _⟩
    rw [List.filterMap_map]
    have e : ((fun d : D => match d with | .int i => some (PyData.int (if i < 0 then -i else i)) | _ => none) ∘ PyData.int) = fun i => some (PyData.int (if i < 0 then -i else i)) := rfl
    rw [e, filterMap_some', List.map_reverse, List.map_map]
    rfl
def N__law_table_times : List Str := ["one", "other", "a", "b", "c", "d", "e", "f", "g", "h"]
def t__law_table_times : ATS := (aSeq (aAsg (aVar 0) (aGTup 4 (aGCons (aGName 2) (aGCons (aGName 3) (aGCons (aGName 4) (aGCons (aGName 5) aGNil))))))
    (aSeq (aAsg (aVar 1) (aGTup 4 (aGCons (aGName 6) (aGCons (aGName 7) (aGCons (aGName 8) (aGCons (aGName 9) aGNil))))))
    (aRet (aTup (aCons (aBin aAdd (aBin aMul (aVar 2) (aVar 6)) (aBin aMul (aVar 3) (aVar 8))) (aCons (aBin aAdd (aBin aMul (aVar 2) (aVar 7)) (aBin aMul (aVar 3) (aVar 9))) (aCons (aBin aAdd (aBin aMul (aVar 4) (aVar 6)) (aBin aMul (aVar 5) (aVar 8))) (aCons (aBin aAdd (aBin aMul (aVar 4) (aVar 7)) (aBin aMul (aVar 5) (aVar 9))) aNil))))))))
def fn__law_table_times : AFn := fn_tt
theorem h__law_table_times : ∀ avs s AQ, fn__law_table_times avs s AQ → t__law_table_times (endsA AQ) ⟨startA N__law_table_times avs, ⟨s, []⟩⟩ := by
  rintro _ s AQ ⟨⟨p, q, r, v⟩, ⟨e, f, g, h⟩, rfl, ⟨h1, h2, h3, h4⟩, ⟨g1, g2, g3, g4⟩, hq⟩
  show t__law_table_times (endsA AQ) ⟨[some (.d (.tuple [.int p, .int q, .int r, .int v])), some (.d (.tuple [.int e, .int f, .int g, .int h])), none, none, none, none, none, none, none, none], ⟨s, []⟩⟩
  unfold t__law_table_times
  walk_at "qs"
  walk_at "mos"
  exact hq
def N_trace_of : List Str := ["one"]
def t_trace_of : ATS := (aRet (aBin aAdd (aBin aIx (aVar 0) (aC (.int 0))) (aBin aIx (aVar 0) (aC (.int 3)))))
def fn_trace_of : AFn := fun avs s Q => ∃ t : T4, avs = [.d (tbD t)] ∧ Q (.d (.int (trT t))) s
theorem h_trace_of : ∀ avs s AQ, fn_trace_of avs s AQ → t_trace_of (endsA AQ) ⟨startA N_trace_of avs, ⟨s, []⟩⟩ := by
  rintro _ s AQ ⟨⟨p, q, r, v⟩, rfl, hq⟩
  show t_trace_of (endsA AQ) ⟨[some (.d (.tuple [.int p, .int q, .int r, .int v]))], ⟨s, []⟩⟩
  unfold t_trace_of
  walk_at "qs"
  exact hq
def N_table_times : List Str := ["one", "other", "a", "b", "c", "d", "e", "f", "g", "h"]
def t_table_times : ATS := (aSeq (aAsg (aVar 0) (aGTup 4 (aGCons (aGName 2) (aGCons (aGName 3) (aGCons (aGName 4) (aGCons (aGName 5) aGNil))))))
    (aSeq (aAsg (aVar 1) (aGTup 4 (aGCons (aGName 6) (aGCons (aGName 7) (aGCons (aGName 8) (aGCons (aGName 9) aGNil))))))
    (aRet (aTup (aCons (aBin aAdd (aBin aMul (aVar 2) (aVar 6)) (aBin aMul (aVar 3) (aVar 8))) (aCons (aBin aAdd (aBin aMul (aVar 2) (aVar 7)) (aBin aMul (aVar 3) (aVar 9))) (aCons (aBin aAdd (aBin aMul (aVar 4) (aVar 6)) (aBin aMul (aVar 5) (aVar 8))) (aCons (aBin aAdd (aBin aMul (aVar 4) (aVar 7)) (aBin aMul (aVar 5) (aVar 9))) aNil))))))))
def fn_table_times : AFn := fn_tt
theorem h_table_times : ∀ avs s AQ, fn_table_times avs s AQ → t_table_times (endsA AQ) ⟨startA N_table_times avs, ⟨s, []⟩⟩ := by
  rintro _ s AQ ⟨⟨p, q, r, v⟩, ⟨e, f, g, h⟩, rfl, ⟨h1, h2, h3, h4⟩, ⟨g1, g2, g3, g4⟩, hq⟩
  show t_table_times (endsA AQ) ⟨[some (.d (.tuple [.int p, .int q, .int r, .int v])), some (.d (.tuple [.int e, .int f, .int g, .int h])), none, none, none, none, none, none, none, none], ⟨s, []⟩⟩
  unfold t_table_times
  walk_at "qs"
  walk_at "mos"
  exact hq
def N_traced : List Str := ["pair"]
def t_traced : ATS := (aRet (aTup (aCons (aFn 1 fn_trace_of (aCons (aBin aIx (aVar 0) (aC (.int 0))) aNil)) (aCons (aFn 1 fn_trace_of (aCons (aBin aIx (aVar 0) (aC (.int 1))) aNil)) (aCons (aFn 1 fn_trace_of (aCons (aFn 2 fn_table_times (aCons (aBin aIx (aVar 0) (aC (.int 0))) (aCons (aBin aIx (aVar 0) (aC (.int 1))) aNil))) aNil)) aNil)))))
def fn_traced : AFn := fun avs s Q => ∃ t u : T4, avs = [.d (.tuple [tbD t, tbD u])] ∧ Bt 1000 t ∧ Bt 1000 u ∧ Q (.d (triD (trM t u))) s
theorem h_traced : ∀ avs s AQ, fn_traced avs s AQ → t_traced (endsA AQ) ⟨startA N_traced avs, ⟨s, []⟩⟩ := by
  rintro _ s AQ ⟨t, u, rfl, h1, h2, hq⟩
  show t_traced (endsA AQ) ⟨[some (.d (.tuple [tbD t, tbD u]))], ⟨s, []⟩⟩
  unfold t_traced
  walk_at "qs"
  refine ⟨t, rfl, u, rfl, t, u, rfl, h1, h2, ?_⟩
  refine ⟨rfl, _, rfl, ?_⟩
  exact ⟨by simp, hq⟩
def N_k_of : List Str := ["triple", "x", "y", "z"]
def t_k_of : ATS := (aSeq (aAsg (aVar 0) (aGTup 3 (aGCons (aGName 1) (aGCons (aGName 2) (aGCons (aGName 3) aGNil)))))
    (aRet (aBin aSub (aBin aSub (aBin aAdd (aBin aAdd (aBin aMul (aVar 1) (aVar 1)) (aBin aMul (aVar 2) (aVar 2))) (aBin aMul (aVar 3) (aVar 3))) (aBin aMul (aBin aMul (aVar 1) (aVar 2)) (aVar 3))) (aC (.int 2)))))
def Bt3 (k : Nat) (t : T3) : Prop := Bd k t.1 ∧ Bd k t.2.1 ∧ Bd k t.2.2
theorem Bt3.of {k : Nat} {t u : T4} (h : Bt k t) (g : Bt k u) : Bt3 (k + k + 2) (trM t u) :=
  ⟨(h.1.add h.2.2.2).le (by omega), (g.1.add g.2.2.2).le (by omega), ((h.mul g).1.add (h.mul g).2.2.2).le (by omega)⟩
theorem Bt3.le {a b : Nat} {t : T3} (h : Bt3 a t) (hab : a ≤ b) : Bt3 b t := ⟨h.1.le hab, h.2.1.le hab, h.2.2.le hab⟩
def fn_k3 : AFn := fun avs s Q => ∃ t : T3, avs = [.d (triD t)] ∧ Bt3 3000 t ∧ Q (.d (.int (kT3 t))) s
def fn_k_of : AFn := fn_k3
theorem h_k_of : ∀ avs s AQ, fn_k_of avs s AQ → t_k_of (endsA AQ) ⟨startA N_k_of avs, ⟨s, []⟩⟩ := by
  rintro _ s AQ ⟨⟨a, b, c⟩, rfl, ⟨h1, h2, h3⟩, hq⟩
  show t_k_of (endsA AQ) ⟨[some (.d (.tuple [.int a, .int b, .int c])), none, none, none], ⟨s, []⟩⟩
  unfold t_k_of
  walk_at "qs"
  walk_at "mos"
  exact hq
def N__law_k : List Str := ["triple", "x", "y", "z"]
def t__law_k : ATS := (aSeq (aAsg (aVar 0) (aGTup 3 (aGCons (aGName 1) (aGCons (aGName 2) (aGCons (aGName 3) aGNil)))))
    (aRet (aBin aSub (aBin aSub (aBin aAdd (aBin aAdd (aBin aMul (aVar 1) (aVar 1)) (aBin aMul (aVar 2) (aVar 2))) (aBin aMul (aVar 3) (aVar 3))) (aBin aMul (aBin aMul (aVar 1) (aVar 2)) (aVar 3))) (aC (.int 2)))))
def fn__law_k : AFn := fn_k3
theorem h__law_k : ∀ avs s AQ, fn__law_k avs s AQ → t__law_k (endsA AQ) ⟨startA N__law_k avs, ⟨s, []⟩⟩ := by
  rintro _ s AQ ⟨⟨a, b, c⟩, rfl, ⟨h1, h2, h3⟩, hq⟩
  show t__law_k (endsA AQ) ⟨[some (.d (.tuple [.int a, .int b, .int c])), none, none, none], ⟨s, []⟩⟩
  unfold t__law_k
  walk_at "qs"
  walk_at "mos"
  exact hq
def N__law_table_undone : List Str := ["one"]
def t__law_table_undone : ATS := (aRet (aTup (aCons (aBin aIx (aVar 0) (aC (.int 3))) (aCons (aBin aSub (aC (.int 0)) (aBin aIx (aVar 0) (aC (.int 1)))) (aCons (aBin aSub (aC (.int 0)) (aBin aIx (aVar 0) (aC (.int 2)))) (aCons (aBin aIx (aVar 0) (aC (.int 0))) aNil))))))
def fn__law_table_undone : AFn := fn_inv
theorem h__law_table_undone : ∀ avs s AQ, fn__law_table_undone avs s AQ → t__law_table_undone (endsA AQ) ⟨startA N__law_table_undone avs, ⟨s, []⟩⟩ := by
  rintro _ s AQ ⟨⟨p, q, r, v⟩, rfl, hq⟩
  show t__law_table_undone (endsA AQ) ⟨[some (.d (.tuple [.int p, .int q, .int r, .int v]))], ⟨s, []⟩⟩
  unfold t__law_table_undone
  walk_at "qs"
  have e : ∀ i : Int, 0 - i = -i := fun i => by omega
  rw [e, e]
  exact hq
def N__law_led : List Str := ["lead", "one"]
def t__law_led : ATS := (aRet (aFn 2 fn__law_table_times (aCons (aFn 2 fn__law_table_times (aCons (aVar 0) (aCons (aVar 1) aNil))) (aCons (aFn 1 fn__law_table_undone (aCons (aVar 0) aNil)) aNil))))
def ledT (l t : T4) : T4 := mulT (mulT l t) (invT l)
def fn__law_led : AFn := fun avs s Q => ∃ l t : T4, avs = [.d (tbD l), .d (tbD t)] ∧ Bt 400 l ∧ Bt 400 t ∧ Q (.d (tbD (ledT l t))) s
theorem h__law_led : ∀ avs s AQ, fn__law_led avs s AQ → t__law_led (endsA AQ) ⟨startA N__law_led avs, ⟨s, []⟩⟩ := by
  rintro _ s AQ ⟨l, t, rfl, h1, h2, hq⟩
  show t__law_led (endsA AQ) ⟨[some (.d (tbD l)), some (.d (tbD t))], ⟨s, []⟩⟩
  unfold t__law_led
  walk_at "qs"
  refine ⟨l, t, rfl, h1.le (by decide), h2.le (by decide), l, rfl, ?_⟩
  exact ⟨rfl, mulT l t, invT l, rfl, (h1.mul h2).le (by decide), h1.inv.le (by decide), hq⟩
def N__law_triple : List Str := ["one", "other", "both"]
def t__law_triple : ATS := (aSeq (aSet 2 (aFn 2 fn__law_table_times (aCons (aVar 0) (aCons (aVar 1) aNil))))
    (aRet (aTup (aCons (aBin aAdd (aBin aIx (aVar 0) (aC (.int 0))) (aBin aIx (aVar 0) (aC (.int 3)))) (aCons (aBin aAdd (aBin aIx (aVar 1) (aC (.int 0))) (aBin aIx (aVar 1) (aC (.int 3)))) (aCons (aBin aAdd (aBin aIx (aVar 2) (aC (.int 0))) (aBin aIx (aVar 2) (aC (.int 3)))) aNil))))))
def fn__law_triple : AFn := fun avs s Q => ∃ t u : T4, avs = [.d (tbD t), .d (tbD u)] ∧ Bt 1000 t ∧ Bt 1000 u ∧ Q (.d (triD (trM t u))) s
theorem h__law_triple : ∀ avs s AQ, fn__law_triple avs s AQ → t__law_triple (endsA AQ) ⟨startA N__law_triple avs, ⟨s, []⟩⟩ := by
  rintro _ s AQ ⟨⟨p, q, r, v⟩, ⟨e, f, g, h⟩, rfl, h1, h2, hq⟩
  show t__law_triple (endsA AQ) ⟨[some (.d (.tuple [.int p, .int q, .int r, .int v])), some (.d (.tuple [.int e, .int f, .int g, .int h])), none], ⟨s, []⟩⟩
  unfold t__law_triple
  walk_at "qs"
  refine ⟨_, _, rfl, h1, h2, ?_⟩
  unfold tbD mulT
  walk_at "qs"
  exact hq
def N__law_drawn_table : List Str := ["source", "many", "found", "turn", "by"]
def lb__law_drawn_table_1 : ATS := (aSeq (aSet 4 (aFn 2 fn__law_of (aCons (aVar 0) (aCons (aLst (aCons (aC (.int 1)) (aCons (aUn aNeg (aC (.int 1))) (aCons (aC (.int 2)) aNil)))) aNil))))
    (aSet 2 (aFn 2 fn__law_table_times (aCons (aVar 2) (aCons (aIf (aTest (aBin aEq (aFn 2 fn__law_pick (aCons (aVar 0) (aCons (aC (.int 2)) aNil))) (aC (.int 0)))) (aTup (aCons (aC (.int 1)) (aCons (aVar 4) (aCons (aC (.int 0)) (aCons (aC (.int 1)) aNil))))) (aTup (aCons (aC (.int 1)) (aCons (aC (.int 0)) (aCons (aVar 4) (aCons (aC (.int 1)) aNil)))))) aNil)))))
def t__law_drawn_table : ATS := (aSeq (aSet 2 (aTup (aCons (aC (.int 1)) (aCons (aC (.int 0)) (aCons (aC (.int 0)) (aCons (aC (.int 1)) aNil))))))
    (aSeq (aFor [3, 4] (aRng1 (aCons (aVar 1) aNil)) (aGName 3) lb__law_drawn_table_1)
    (aRet (aVar 2))))
/-- a drawn table of determinant 1 -/
def fn__law_drawn_table : AFn := fun avs s Q => ∃ (S : Src) (n : Nat), avs = [.src, .d (.int (n : Int))] ∧ s = some S ∧ n ≤ 20 ∧ ∀ (t : T4) (S' : Src), detT t = 1 → Bt (1 + 3 * n) t → Q (.d (tbD t)) (some S')
theorem drawn_det (t : T4) (b : Int) : detT (mulT t (1, b, 0, 1)) = detT t ∧ detT (mulT t (1, 0, b, 1)) = detT t := by
  obtain ⟨p, q, r, s⟩ := t
  simp only [detT, mulT]
  constructor <;> grind
theorem drawn_bd {k : Nat} {t : T4} (h : Bt k t) {b : Int} (hb : b = 1 ∨ b = -1 ∨ b = 2) : Bt (k + 3) (mulT t (1, b, 0, 1)) ∧ Bt (k + 3) (mulT t (1, 0, b, 1)) := by
  have two : (2 : Nat) ^ (k + 3) = 8 * 2 ^ k := by rw [Nat.pow_add]; omega
  obtain ⟨p, q, r, s⟩ := t
  obtain ⟨h1, h2, h3, h4⟩ := h
  unfold Bd at h1 h2 h3 h4
  simp only [] at h1 h2 h3 h4
  constructor <;> (refine ⟨?_, ?_, ?_, ?_⟩ <;> unfold Bd <;> simp only [mulT] <;> rw [two] <;> rcases hb with rfl | rfl | rfl <;> omega)
theorem drawn_loop (E : AEnds) (x1 : D) (n : Nat) (hn0 : n ≤ 100) (h : ∀ (t : T4) (S' : Src), detT t = 1 → Bt n t → E.nx ⟨[some .src, some (.d x1), some (.d (tbD t)), none, none], ⟨some S', []⟩⟩) : ∀ (ds : List D) (t : T4) (S : Src) (k : Nat), detT t = 1 → Bt k t → k + 3 * ds.length = n →
    aForL 0 [3, 4] (aGName 3) lb__law_drawn_table_1 E ds ⟨[some .src, some (.d x1), some (.d (tbD t)), none, none], ⟨some S, []⟩⟩ := by
  intro ds
  induction ds with
  | nil => intro t S k ht hk hn; exact h t S ht (hk.le (by simp at hn; omega))
  | cons d ds ih =>
    intro t S k ht hk hn
    have hk0 : k ≤ n := by omega
    unfold aForL
    unfold lb__law_drawn_table_1
    walk_at "qs"
    refine ⟨S, _, rfl, rfl, by decide, by decide, fun d hd S1 => ?_⟩
    obtain ⟨b, rfl, hb⟩ : ∃ b : Int, d = .int b ∧ (b = 1 ∨ b = -1 ∨ b = 2) := by
      simp only [List.mem_cons, List.not_mem_nil, or_false] at hd
      rcases hd with rfl | rfl | rfl
      · exact ⟨_, rfl, .inl rfl⟩
      · exact ⟨_, rfl, .inr (.inl rfl)⟩
      · exact ⟨_, rfl, .inr (.inr rfl)⟩
    walk_at "qs"
    refine ⟨S1, 2, rfl, rfl, by decide, fun r S2 r1 r2 => ?_⟩
    obtain ⟨d1, d2⟩ := drawn_det t b
    obtain ⟨b1, b2⟩ := drawn_bd hk hb
    have hb' : Bd 3 b := by unfold Bd; omega
    have hlen : k + 3 + 3 * ds.length = n := by simp only [List.length_cons] at hn; omega
    by_cases c : r = 0
    · simp only [c, decide_true, if_true]
      walk_at "qs"
      refine ⟨t, (1, b, 0, 1), rfl, hk.le (by omega), ⟨b1000_1, hb'.le (by decide), b1000_0, b1000_1⟩, ?_⟩
      exact ih _ S2 (k + 3) (d1.trans ht) b1 hlen
    · simp only [c, decide_false, Bool.false_eq_true, if_false]
      walk_at "qs"
      refine ⟨t, (1, 0, b, 1), rfl, hk.le (by omega), ⟨b1000_1, b1000_0, hb'.le (by decide), b1000_1⟩, ?_⟩
      exact ih _ S2 (k + 3) (d2.trans ht) b2 hlen
theorem h__law_drawn_table : ∀ avs s AQ, fn__law_drawn_table avs s AQ → t__law_drawn_table (endsA AQ) ⟨startA N__law_drawn_table avs, ⟨s, []⟩⟩ := by
  rintro _ _ AQ ⟨S, n, rfl, rfl, hn, hq⟩
  show t__law_drawn_table (endsA AQ) ⟨[some .src, some (.d (.int n)), none, none, none], ⟨some S, []⟩⟩
  unfold t__law_drawn_table
  walk_at "qs"
  refine ⟨Rg.of (by omega) (by omega), ?_⟩
  refine drawn_loop _ _ (1 + 3 * n) (by omega) (fun t S' h1 h2 => ?_) _ (1, 0, 0, 1) S 1 rfl ⟨by unfold Bd; decide, by unfold Bd; decide, by unfold Bd; decide, by unfold Bd; decide⟩ (by rw [rngD_len]; omega)
  · walk_at "qs"
    exact hq t S' h1 h2
def N_is_whole : List Str := ["value"]
def t_is_whole : ATS := (aRet (aAndV (aCall bIsi (aCons (aVar 0) (aCons (aTy "int") aNil))) (aNotV (aCall bIsi (aCons (aVar 0) (aCons (aTy "bool") aNil))))))
def isWh (d : D) : Bool := isiT (tyD d) "int" && !isiT (tyD d) "bool"
def fn_is_whole : AFn := fun avs s Q => ∃ d : D, avs = [.d d] ∧ Q (.d (.bool (isWh d))) s
theorem h_is_whole : ∀ avs s AQ, fn_is_whole avs s AQ → t_is_whole (endsA AQ) ⟨startA N_is_whole avs, ⟨s, []⟩⟩ := by
  rintro _ s AQ ⟨d, rfl, hq⟩
  show t_is_whole (endsA AQ) ⟨[some (.d d)], ⟨s, []⟩⟩
  unfold t_is_whole
  walk_at "qs"
  unfold isWh at hq
  refine ⟨by decide, ?_⟩
  cases c : isiT (tyD d) "int"
  · rw [c] at hq
    simp only [Bool.false_eq_true, if_false]
    exact hq
  · rw [c] at hq
    simp only [if_true]
    exact ⟨by decide, hq⟩
theorem isWh_int (i : Int) : isWh (.int i) = true := by unfold isWh; rw [isi_int_int, isi_int_bool]; rfl
theorem isWh_bool (i : Bool) : isWh (.bool i) = false := by unfold isWh; rw [isi_bool_int, isi_bool_bool]; rfl
def N_is_table : List Str := ["value", "one"]
def le_is_table_1 : ATE := (aFn 1 fn_is_whole (aCons (aVar 1) aNil))
def t_is_table : ATS := (aSeq (aIfS (aOr (aNot (aTru (aCall bIsi (aCons (aVar 0) (aCons (aTy "tuple") aNil))))) (aOr (aTest (aBin aNe (aCall bLen (aCons (aVar 0) aNil)) (aC (.int 4)))) (aNot (aTru (aCall bAll (aCons (aLc (aItT (aVar 0)) (aGName 1) aYes le_is_table_1 [1]) aNil)))))) (aRet (aC (.bool false))) aNext)
    (aRet (aBin aEq (aBin aSub (aBin aMul (aBin aIx (aVar 0) (aC (.int 0))) (aBin aIx (aVar 0) (aC (.int 3)))) (aBin aMul (aBin aIx (aVar 0) (aC (.int 1))) (aBin aIx (aVar 0) (aC (.int 2))))) (aC (.int 1)))))
/-- what is a table -/
def isTb : D → Bool
  | .tuple [.int a, .int b, .int c, .int d] => decide (a * d - b * c = 1)
  | _ => false
def SmallT (d : D) : Prop := ∀ a b c e : Int, d = .tuple [.int a, .int b, .int c, .int e] → Bd 1000 a ∧ Bd 1000 b ∧ Bd 1000 c ∧ Bd 1000 e
theorem isWh_not {d : D} (h : ∀ i, d ≠ .int i) : isWh d = false := by
  cases d with
  | int i => exact absurd rfl (h i)
  | bool b => exact isWh_bool b
  | none => unfold isWh; rw [isi_none_int]; rfl
  | str x => unfold isWh; rw [isi_str_int]; rfl
  | list l => unfold isWh; rw [isi_list_int]; rfl
  | tuple l => unfold isWh; rw [isi_tuple_int]; rfl
  | dict l => unfold isWh; rw [isi_dict_int]; rfl
theorem isWh_is {d : D} (h : isWh d = true) : ∃ i, d = .int i := by
  cases d with
  | int i => exact ⟨i, rfl⟩
  | _ => rw [isWh_not (fun i => PyData.noConfusion)] at h; cases h
def fn_is_table : AFn := fun avs s Q => ∃ d : D, avs = [.d d] ∧ SmallT d ∧ (∀ ds, d = .tuple ds → ds.length < 1000) ∧ Q (.d (.bool (isTb d))) s
theorem isTb_len {ds : List D} (h : ds.length ≠ 4) : isTb (.tuple ds) = false := by
  unfold isTb
  split
  · rename_i e; cases e; exact absurd rfl h
  · rfl
theorem h_is_table : ∀ avs s AQ, fn_is_table avs s AQ → t_is_table (endsA AQ) ⟨startA N_is_table avs, ⟨s, []⟩⟩ := by
  rintro _ s AQ ⟨d, rfl, hs, hl, hq⟩
  have st : ∀ (x e : D) (K : Option D → Mm → Prop), K (some (.bool (isWh e))) ⟨s, []⟩ → stepC (aGName 1) aYes le_is_table_1 [some (.d x), none] e ⟨s, []⟩ K := by
    intro x e K h
    unfold stepC le_is_table_1
    walk_at "qs"
    exact ⟨e, rfl, h⟩
  show t_is_table (endsA AQ) ⟨[some (.d d), none], ⟨s, []⟩⟩
  unfold t_is_table
  cases d with
  | tuple ds =>
    walk_at "qs"
    walk_at "isi"
    refine ⟨by decide, ?_⟩
    by_cases hl4 : ds.length = 4
    · match ds, hl4 with
      | [a, b, c, e], _ =>
        walk_at "qs"
        rw [if_neg (by decide)]
        refine aLcL_step (st _ _ _ ?_)
        refine aLcL_step (st _ _ _ ?_)
        refine aLcL_step (st _ _ _ ?_)
        refine aLcL_step (st _ _ _ ?_)
        unfold aLcL
        show (if [isWh a, isWh b, isWh c, isWh e].all id = false then _ else _)
        by_cases hw : [isWh a, isWh b, isWh c, isWh e].all id = false
        · rw [if_pos hw]
          have e1 : isTb (.tuple [a, b, c, e]) = false := by
            unfold isTb
            split
            · rename_i h; cases h
              simp [isWh_int] at hw
            · rfl
          rw [e1] at hq
          exact hq
        · rw [if_neg hw]
          simp only [List.all_cons, List.all_nil, id, Bool.not_eq_false, Bool.and_eq_true] at hw
          obtain ⟨i1, rfl⟩ := isWh_is hw.1
          obtain ⟨i2, rfl⟩ := isWh_is hw.2.1
          obtain ⟨i3, rfl⟩ := isWh_is hw.2.2.1
          obtain ⟨i4, rfl⟩ := isWh_is hw.2.2.2.1
          obtain ⟨s1, s2, s3, s4⟩ := hs _ _ _ _ rfl
          walk_at "qs"
          walk_at "mos"
          exact hq
    · rw [isTb_len hl4] at hq
      have : ¬ ((ds.length : Nat) : Int) = 4 := by omega
      simp only [this, not_false_eq_true, if_true]
      exact hq
  | _ =>
    walk_at "qs"
    walk_at "isi"
    exact ⟨by decide, hq⟩
def N__law_is_table : List Str := ["value", "one"]
def lt__law_is_table_1 : ATT := (aOr (aNot (aTru (aCall bIsi (aCons (aVar 1) (aCons (aTy "int") aNil))))) (aTru (aCall bIsi (aCons (aVar 1) (aCons (aTy "bool") aNil)))))
def le__law_is_table_2 : ATE := (aVar 1)
def t__law_is_table : ATS := (aSeq (aIfS (aOr (aNot (aTru (aCall bIsi (aCons (aVar 0) (aCons (aTy "tuple") aNil))))) (aTest (aBin aNe (aCall bLen (aCons (aVar 0) aNil)) (aC (.int 4))))) (aRet (aC (.bool false))) aNext)
    (aSeq (aIfS (aTest (aBin aNe (aLc (aItT (aVar 0)) (aGName 1) lt__law_is_table_1 le__law_is_table_2 [1]) (aLst aNil))) (aRet (aC (.bool false))) aNext)
    (aRet (aBin aEq (aBin aSub (aBin aMul (aBin aIx (aVar 0) (aC (.int 0))) (aBin aIx (aVar 0) (aC (.int 3)))) (aBin aMul (aBin aIx (aVar 0) (aC (.int 1))) (aBin aIx (aVar 0) (aC (.int 2))))) (aC (.int 1))))))
def fn__law_is_table : AFn := fun avs s Q => ∃ d : D, avs = [.d d] ∧ SmallT d ∧ (∀ ds, d = .tuple ds → ds.length = 4 → (∃ a b c e : Int, ds = [.int a, .int b, .int c, .int e]) ∨ ds = [.int 1, .int 0, .int 0, .bool true]) ∧ Q (.d (.bool (isTb d))) s
theorem h__law_is_table : ∀ avs s AQ, fn__law_is_table avs s AQ → t__law_is_table (endsA AQ) ⟨startA N__law_is_table avs, ⟨s, []⟩⟩ := by
  rintro _ s AQ ⟨d, rfl, hs, hw, hq⟩
  have st : ∀ (x e : D) (K : Option D → Mm → Prop), K (if isWh e = true then none else some e) ⟨s, []⟩ → stepC (aGName 1) lt__law_is_table_1 le__law_is_table_2 [some (.d x), none] e ⟨s, []⟩ K := by
    intro x e K h
    unfold isWh at h
    unfold stepC lt__law_is_table_1 le__law_is_table_2
    walk_at "qs"
    refine ⟨by decide, ?_⟩
    cases c : isiT (tyD e) "int"
    · rw [c] at h
      rw [if_pos rfl]
      exact h
    · rw [c] at h
      rw [if_neg (by decide)]
      refine ⟨by decide, ?_⟩
      cases c2 : isiT (tyD e) "bool"
      · rw [c2] at h
        rw [if_neg (by decide)]
        exact h
      · rw [c2] at h
        rw [if_pos rfl]
        exact h
  show t__law_is_table (endsA AQ) ⟨[some (.d d), none], ⟨s, []⟩⟩
  unfold t__law_is_table
  cases d with
  | tuple ds =>
    walk_at "qs"
    walk_at "isi"
    refine ⟨by decide, ?_⟩
    by_cases hl4 : ds.length = 4
    · have e4 : ((ds.length : Nat) : Int) = 4 := by omega
      simp only [e4, not_true_eq_false, if_false]
      have e5 : ds.length ≤ 1000000 := by omega
      refine ⟨e5, ?_⟩
      rcases hw ds rfl hl4 with ⟨i1, i2, i3, i4, rfl⟩ | rfl
      · obtain ⟨s1, s2, s3, s4⟩ := hs _ _ _ _ rfl
        refine aLcL_step (st _ _ _ ?_)
        rw [if_pos (isWh_int _)]
        refine aLcL_step (st _ _ _ ?_)
        rw [if_pos (isWh_int _)]
        refine aLcL_step (st _ _ _ ?_)
        rw [if_pos (isWh_int _)]
        refine aLcL_step (st _ _ _ ?_)
        rw [if_pos (isWh_int _)]
        unfold aLcL
        refine ⟨rfl, rfl, ?_⟩
        rw [if_neg (by decide)]
        walk_at "qs"
        walk_at "mos"
        exact hq
      · refine aLcL_step (st _ _ _ ?_)
        rw [if_pos (isWh_int _)]
        refine aLcL_step (st _ _ _ ?_)
        rw [if_pos (isWh_int _)]
        refine aLcL_step (st _ _ _ ?_)
        rw [if_pos (isWh_int _)]
        refine aLcL_step (st _ _ _ ?_)
        rw [if_neg (by rw [isWh_bool]; decide)]
        unfold aLcL
        refine ⟨rfl, rfl, ?_⟩
        rw [if_pos (by decide)]
        exact hq
    · rw [isTb_len hl4] at hq
      have : ¬ ((ds.length : Nat) : Int) = 4 := by omega
      simp only [this, not_false_eq_true, if_true]
      exact hq
  | _ =>
    walk_at "qs"
    walk_at "isi"
    exact ⟨by decide, hq⟩
def N_is_pair : List Str := ["value", "one"]
def le_is_pair_1 : ATE := (aFn 1 fn_is_table (aCons (aVar 1) aNil))
def t_is_pair : ATS := (aRet (aAndV (aCall bIsi (aCons (aVar 0) (aCons (aTy "tuple") aNil))) (aAndV (aBin aEq (aCall bLen (aCons (aVar 0) aNil)) (aC (.int 2))) (aCall bAll (aCons (aLc (aItT (aVar 0)) (aGName 1) aYes le_is_pair_1 [1]) aNil)))))
/-- what is a pair of tables -/
def isPr : D → Bool
  | .tuple [a, b] => isTb a && isTb b
  | _ => false
theorem isPr_len {ds : List D} (h : ds.length ≠ 2) : isPr (.tuple ds) = false := by
  unfold isPr
  split
  · rename_i e; cases e; exact absurd rfl h
  · rfl
def fn_is_pair : AFn := fun avs s Q => ∃ d : D, avs = [.d d] ∧ (∀ a b, d = .tuple [a, b] → SmallT a ∧ SmallT b ∧ (∀ ds, a = .tuple ds → ds.length < 1000) ∧ (∀ ds, b = .tuple ds → ds.length < 1000)) ∧ Q (.d (.bool (isPr d))) s
theorem h_is_pair : ∀ avs s AQ, fn_is_pair avs s AQ → t_is_pair (endsA AQ) ⟨startA N_is_pair avs, ⟨s, []⟩⟩ := by
  rintro _ s AQ ⟨d, rfl, hs, hq⟩
  have st : ∀ (x e : D) (K : Option D → Mm → Prop), SmallT e → (∀ ds, e = .tuple ds → ds.length < 1000) → K (some (.bool (isTb e))) ⟨s, []⟩ → stepC (aGName 1) aYes le_is_pair_1 [some (.d x), none] e ⟨s, []⟩ K := by
    intro x e K h1 h2 h
    unfold stepC le_is_pair_1
    walk_at "qs"
    exact ⟨e, rfl, h1, h2, h⟩
  show t_is_pair (endsA AQ) ⟨[some (.d d), none], ⟨s, []⟩⟩
  unfold t_is_pair
  cases d with
  | tuple ds =>
    walk_at "qs"
    walk_at "isi"
    refine ⟨by decide, ?_⟩
    by_cases hl4 : ds.length = 2
    · match ds, hl4 with
      | [a, b], _ =>
        obtain ⟨h1, h2, h3, h4⟩ := hs _ _ rfl
        walk_at "qs"
        rw [if_pos (by decide)]
        refine aLcL_step (st _ _ _ h1 h3 ?_)
        refine aLcL_step (st _ _ _ h2 h4 ?_)
        unfold aLcL
        show AQ (.d (.bool (isTb a && (isTb b && true)))) s
        rw [Bool.and_true]
        exact hq
    · rw [isPr_len hl4] at hq
      have : ¬ ((ds.length : Nat) : Int) = 2 := by omega
      simp only [this, decide_false, Bool.false_eq_true, if_false]
      exact hq
  | _ =>
    walk_at "qs"
    walk_at "isi"
    exact ⟨by decide, hq⟩
def N__law_is_kept : List Str := ["one", "column", "u", "v"]
def t__law_is_kept : ATS := (aSeq (aAsg (aVar 1) (aGTup 2 (aGCons (aGName 2) (aGCons (aGName 3) aGNil))))
    (aRet (aBin aEq (aBin aMul (aBin aAdd (aBin aMul (aBin aIx (aVar 0) (aC (.int 0))) (aVar 2)) (aBin aMul (aBin aIx (aVar 0) (aC (.int 1))) (aVar 3))) (aVar 3)) (aBin aMul (aBin aAdd (aBin aMul (aBin aIx (aVar 0) (aC (.int 2))) (aVar 2)) (aBin aMul (aBin aIx (aVar 0) (aC (.int 3))) (aVar 3))) (aVar 2)))))
def keptT (t : T4) (c : Int × Int) : Bool := decide ((t.1 * c.1 + t.2.1 * c.2) * c.2 = (t.2.2.1 * c.1 + t.2.2.2 * c.2) * c.1)
def clD (c : Int × Int) : D := .tuple [.int c.1, .int c.2]
def fn__law_is_kept : AFn := fun avs s Q => ∃ (t : T4) (c : Int × Int), avs = [.d (tbD t), .d (clD c)] ∧ Bt 1000 t ∧ (Bd 2000 c.1 ∧ Bd 2000 c.2) ∧ Q (.d (.bool (keptT t c))) s
theorem h__law_is_kept : ∀ avs s AQ, fn__law_is_kept avs s AQ → t__law_is_kept (endsA AQ) ⟨startA N__law_is_kept avs, ⟨s, []⟩⟩ := by
  rintro _ s AQ ⟨⟨p, q, r, v⟩, ⟨x, y⟩, rfl, ⟨h1, h2, h3, h4⟩, ⟨g1, g2⟩, hq⟩
  show t__law_is_kept (endsA AQ) ⟨[some (.d (.tuple [.int p, .int q, .int r, .int v])), some (.d (.tuple [.int x, .int y])), none, none], ⟨s, []⟩⟩
  unfold t__law_is_kept
  walk_at "qs"
  walk_at "mos"
  exact hq
def N_least_row : List Str := ["row", "part", "number", "first"]
def lb_least_row_1 : ATS := (aSet 1 (aCall bGcd (aCons (aVar 1) (aCons (aCall bAbs (aCons (aVar 2) aNil)) aNil))))
def lt_least_row_2 : ATT := (aTest (aBin aNe (aVar 2) (aC (.int 0))))
def le_least_row_3 : ATE := (aVar 2)
def le_least_row_4 : ATE := (aBin aFdivN (aVar 2) (aVar 1))
def t_least_row : ATS := (aSeq (aSet 1 (aC (.int 0)))
    (aSeq (aFor [2] (aItT (aVar 0)) (aGName 2) lb_least_row_1)
    (aSeq (aSet 3 (aLc (aItT (aVar 0)) (aGName 2) lt_least_row_2 le_least_row_3 [2]))
    (aSeq (aIfS (aTest (aBin aEq (aVar 3) (aLst aNil))) (aRet (aCall bList (aCons (aVar 0) aNil))) aNext)
    (aSeq (aSet 1 (aIf (aTest (aBin aGt (aBin aIx (aVar 3) (aC (.int 0))) (aC (.int 0)))) (aVar 1) (aUn aNeg (aVar 1))))
    (aRet (aLc (aItT (aVar 0)) (aGName 2) aYes le_least_row_4 [2])))))))
/-- the least column of a column: without a common part, its first number that isn't 0 above 0 -/
def nrmD (x y : Int) : Int := if (if x ≠ 0 then x else y) > 0 then ((Nat.gcd x.natAbs y.natAbs : Nat) : Int) else -((Nat.gcd x.natAbs y.natAbs : Nat) : Int)
def nrm (c : Int × Int) : Int × Int := (c.1.fdiv (nrmD c.1 c.2), c.2.fdiv (nrmD c.1 c.2))
theorem gcd_pos {x y : Int} (h : ¬(x = 0 ∧ y = 0)) : 0 < Nat.gcd x.natAbs y.natAbs := by
  rcases Nat.eq_zero_or_pos (Nat.gcd x.natAbs y.natAbs) with g | g
  · have := Nat.gcd_eq_zero_iff.mp g
    omega
  · exact g
theorem nrmD_ne {x y : Int} (h : ¬(x = 0 ∧ y = 0)) : nrmD x y ≠ 0 := by
  have := gcd_pos h
  unfold nrmD
  by_cases hc : (if x ≠ 0 then x else y) > 0
  · rw [if_pos hc]; omega
  · rw [if_neg hc]; omega
theorem nrmD_bd {k : Nat} {x y : Int} (h : ¬(x = 0 ∧ y = 0)) (h1 : Bd k x) (h2 : Bd k y) : Bd k (nrmD x y) := by
  have hg : Nat.gcd x.natAbs y.natAbs < 2 ^ k := by
    unfold Bd at h1 h2
    by_cases hx : x = 0
    · have := Nat.gcd_le_right x.natAbs (n := y.natAbs) (by omega)
      omega
    · have := Nat.gcd_le_left y.natAbs (m := x.natAbs) (by omega)
      omega
  unfold nrmD Bd
  generalize (if x ≠ 0 then x else y) = z
  split <;> omega
def fn_least_row : AFn := fun avs s Q => ∃ x y : Int, avs = [.d (.tuple [.int x, .int y])] ∧ ¬(x = 0 ∧ y = 0) ∧ (Bd 2000 x ∧ Bd 2000 y) ∧ Q (.d (.list [.int (nrm (x, y)).1, .int (nrm (x, y)).2])) s
theorem abs_i (i : Int) : (if i < 0 then -i else i) = ((i.natAbs : Nat) : Int) := by split <;> omega
theorem gcd_loop (E : AEnds) (x y : Int) (s : Option Src) (h : E.nx ⟨[some (.d (.tuple [.int x, .int y])), some (.d (.int ((Nat.gcd x.natAbs y.natAbs : Nat) : Int))), none, none], ⟨s, []⟩⟩) :
    aForL 0 [2] (aGName 2) lb_least_row_1 E [.int x, .int y] ⟨[some (.d (.tuple [.int x, .int y])), some (.d (.int 0)), none, none], ⟨s, []⟩⟩ := by
  unfold aForL lb_least_row_1
  walk_at "qs"
  unfold aForL
  walk_at "qs"
  unfold aForL
  have e : gcdI (gcdI 0 (if x < 0 then -x else x)) (if y < 0 then -y else y) = ((Nat.gcd x.natAbs y.natAbs : Nat) : Int) := by
    rw [abs_i, abs_i, gcdI_eq, gcdI_eq]
    simp
  rw [e]
  exact h
theorem row_first (x y : Int) (s : Option Src) (K : List D → Mm → Prop) (v : D) (hxy : ¬(x = 0 ∧ y = 0)) (h : ∀ r : List Int, r.length < 5 → K (.int (if x ≠ 0 then x else y) :: r.map .int) ⟨s, []⟩) :
    aLcL (aGName 2) lt_least_row_2 le_least_row_3 [some (.d (.tuple [.int x, .int y])), some (.d v), none, none] [.int x, .int y] [] ⟨s, []⟩ K := by
  have st : ∀ (i : Int) (K : Option D → Mm → Prop), K (if i ≠ 0 then some (.int i) else none) ⟨s, []⟩ → stepC (aGName 2) lt_least_row_2 le_least_row_3 [some (.d (.tuple [.int x, .int y])), some (.d v), none, none] (.int i) ⟨s, []⟩ K := by
    intro i K hK
    unfold stepC lt_least_row_2 le_least_row_3
    walk_at "qs"
    by_cases c : i = 0
    · simp only [c, ne_eq, not_true_eq_false, if_false] at hK ⊢
      exact hK
    · simp only [c, ne_eq, not_false_eq_true, if_true] at hK ⊢
      exact hK
  refine aLcL_step (st x _ ?_)
  by_cases c : x = 0
  · have hy : y ≠ 0 := fun h => hxy ⟨c, h⟩
    simp only [c, ne_eq, not_true_eq_false, if_false] at h ⊢
    refine aLcL_step ?_
    subst c
    refine st y _ ?_
    rw [if_pos hy]
    unfold aLcL
    exact h [] (by decide)
  · simp only [c, ne_eq, not_false_eq_true, if_true] at h ⊢
    refine aLcL_step (st y _ ?_)
    by_cases c2 : y = 0
    · simp only [c2, ne_eq, not_true_eq_false, if_false]
      unfold aLcL
      exact h [] (by decide)
    · simp only [c2, ne_eq, not_false_eq_true, if_true]
      unfold aLcL
      exact h [y] (by simp)
theorem row_last (x y : Int) (s : Option Src) (K : List D → Mm → Prop) (n : Int) (w : D) (hn : ∀ i, DivN i n) (h : K [.int (x.fdiv n), .int (y.fdiv n)] ⟨s, []⟩) :
    aLcL (aGName 2) aYes le_least_row_4 [some (.d (.tuple [.int x, .int y])), some (.d (.int n)), none, some (.d w)] [.int x, .int y] [] ⟨s, []⟩ K := by
  have st : ∀ (i : Int) (K : Option D → Mm → Prop), K (some (.int (i.fdiv n))) ⟨s, []⟩ → stepC (aGName 2) aYes le_least_row_4 [some (.d (.tuple [.int x, .int y])), some (.d (.int n)), none, some (.d w)] (.int i) ⟨s, []⟩ K := by
    intro i K hK
    unfold stepC le_least_row_4
    walk_at "qs"
    exact ⟨hn i, hK⟩
  refine aLcL_step (st x _ ?_)
  refine aLcL_step (st y _ ?_)
  unfold aLcL
  exact h
theorem h_least_row : ∀ avs s AQ, fn_least_row avs s AQ → t_least_row (endsA AQ) ⟨startA N_least_row avs, ⟨s, []⟩⟩ := by
  rintro _ s AQ ⟨x, y, rfl, hxy, ⟨hb1, hb2⟩, hq⟩
  show t_least_row (endsA AQ) ⟨[some (.d (.tuple [.int x, .int y])), none, none, none], ⟨s, []⟩⟩
  unfold t_least_row
  walk_at "qs"
  refine gcd_loop _ x y s ?_
  have hg := nrmD_ne hxy
  have hn : nrmD x y = if (if x ≠ 0 then x else y) > 0 then ((Nat.gcd x.natAbs y.natAbs : Nat) : Int) else -((Nat.gcd x.natAbs y.natAbs : Nat) : Int) := rfl
  generalize ((Nat.gcd x.natAbs y.natAbs : Nat) : Int) = g at *
  walk_at "qs"
  refine row_first x y s _ _ hxy (fun r hr => ?_)
  generalize (if x ≠ 0 then x else y) = z at *
  walk_at "qs"
  have sh : ∀ l : List Int, l.length < 5 → SeqAt.shaped (.list (.int z :: l.map .int)) = true := by
    intro l hl
    match l with
    | [] => rfl
    | [_] => rfl
    | [_, _] => rfl
    | [_, _, _] => rfl
    | [_, _, _, _] => rfl
  have hnb := nrmD_bd hxy hb1 hb2
  refine ⟨sh r hr, rfl, ?_⟩
  rw [if_neg (by rw [show (PyData.list (PyData.int z :: List.map PyData.int r)).eqv (PyData.list []) = false from rfl]; decide)]
  have hq' : AQ (AV.d (PyData.list [PyData.int (x.fdiv (nrmD x y)), PyData.int (y.fdiv (nrmD x y))])) s := hq
  by_cases hz : 0 < z
  · rw [if_pos hz]
    rw [hn, if_pos hz] at hg hq' hnb
    exact row_last x y s _ g _ (fun _ => ⟨hg, hnb.log_lt (by decide)⟩) hq'
  · rw [if_neg hz]
    rw [hn, if_neg hz] at hg hq' hnb
    exact row_last x y s _ (-g) _ (fun _ => ⟨hg, hnb.log_lt (by decide)⟩) hq'
def N_kept_column : List Str := ["table", "p", "q", "r", "s", "half", "column"]
def t_kept_column : ATS := (aSeq (aAsg (aVar 0) (aGTup 4 (aGCons (aGName 1) (aGCons (aGName 2) (aGCons (aGName 3) (aGCons (aGName 4) aGNil))))))
    (aSeq (aSet 5 (aBin aFdiv (aBin aAdd (aVar 1) (aVar 4)) (aC (.int 2))))
    (aSeq (aSet 6 (aIf (aOr (aTest (aBin aNe (aVar 2) (aC (.int 0)))) (aTest (aBin aNe (aVar 5) (aVar 1)))) (aTup (aCons (aVar 2) (aCons (aBin aSub (aVar 5) (aVar 1)) aNil))) (aTup (aCons (aBin aSub (aVar 5) (aVar 4)) (aCons (aVar 3) aNil)))))
    (aRet (aCall bTuple (aCons (aFn 1 fn_least_row (aCons (aVar 6) aNil)) aNil))))))
/-- the column, not brought to least form, that a table of the trace 2 e keeps -/
def rawC (e : Int) (t : T4) : Int × Int := if t.2.1 ≠ 0 ∨ e ≠ t.1 then (t.2.1, e - t.1) else (e - t.2.2.2, t.2.2.1)
def colC (t : T4) : Int × Int := nrm (rawC ((t.1 + t.2.2.2).fdiv 2) t)
def fn_kept_column : AFn := fun avs s Q => ∃ t : T4, avs = [.d (tbD t)] ∧ Bt 1000 t ∧ ¬((rawC ((t.1 + t.2.2.2).fdiv 2) t).1 = 0 ∧ (rawC ((t.1 + t.2.2.2).fdiv 2) t).2 = 0) ∧ Q (.d (clD (colC t))) s
theorem h_kept_column : ∀ avs s AQ, fn_kept_column avs s AQ → t_kept_column (endsA AQ) ⟨startA N_kept_column avs, ⟨s, []⟩⟩ := by
  rintro _ s AQ ⟨⟨p, q, r, v⟩, rfl, ⟨h1, h2, h3, h4⟩, h0, hq⟩
  show t_kept_column (endsA AQ) ⟨[some (.d (.tuple [.int p, .int q, .int r, .int v])), none, none, none, none, none, none], ⟨s, []⟩⟩
  have ef : (p + v).fdiv 2 = (p + v) / 2 := Int.fdiv_eq_ediv_of_nonneg _ (by decide)
  have hb : Bd 1001 ((p + v) / 2) := by
    have := h1.add h4
    unfold Bd at *
    simp only [] at this
    omega
  unfold colC at hq
  unfold rawC at h0 hq
  simp only [ef] at h0 hq
  unfold t_kept_column
  walk_at "qs"
  refine ⟨.inl ⟨by decide, by decide⟩, ?_⟩
  generalize (p + v) / 2 = e at *
  by_cases c : q = 0
  · by_cases c2 : e = p
    · have hc : ¬(q ≠ 0 ∨ e ≠ p) := by omega
      rw [if_neg hc] at h0 hq
      rw [if_neg (by simpa using c), if_neg (by simpa using c2)]
      exact ⟨_, _, rfl, h0, ⟨(hb.sub' h4).le (by decide), h3.le (by decide)⟩, hq⟩
    · have hc : q ≠ 0 ∨ e ≠ p := by omega
      rw [if_pos hc] at h0 hq
      rw [if_neg (by simpa using c), if_pos c2]
      exact ⟨_, _, rfl, h0, ⟨h2.le (by decide), (hb.sub' h1).le (by decide)⟩, hq⟩
  · have hc : q ≠ 0 ∨ e ≠ p := by omega
    rw [if_pos hc] at h0 hq
    rw [if_pos c]
    exact ⟨_, _, rfl, h0, ⟨h2.le (by decide), (hb.sub' h1).le (by decide)⟩, hq⟩
/-! ### tables of determinant 1: lines in common -/
theorem det_mul (t u : T4) : detT (mulT t u) = detT t * detT u := by
  obtain ⟨p, q, r, s⟩ := t; obtain ⟨e, f, g, h⟩ := u
  simp only [detT, mulT]; grind
theorem k_comm (t u : T4) (h1 : detT t = 1) (h2 : detT u = 1) : trT (mulT (mulT t u) (invT (mulT u t))) = kT3 (trM t u) := by
  obtain ⟨p, q, r, s⟩ := t; obtain ⟨e, f, g, h⟩ := u
  simp only [detT] at h1 h2
  simp only [kT3, trM, mulT, trT, invT]; grind
theorem k_det (p q r s e f g h : Int) (h1 : p * s - q * r = 1) (h2 : e * h - f * g = 1) :
    kT3 (trM (p, q, r, s) (e, f, g, h)) - 2 = (q * g - r * f) * (q * g - r * f) + ((p - s) * f - (e - h) * q) * ((e - h) * r - (p - s) * g) := by
  simp only [kT3, trM, mulT, trT]
  grind
/-- the number that tells whether a column is kept: 0 -/
def wT (t : T4) (u v : Int) : Int := t.2.1 * v * v + (t.1 - t.2.2.2) * (u * v) - t.2.2.1 * u * u
theorem kept_iff (t : T4) (u v : Int) : keptT t (u, v) = true ↔ wT t u v = 0 := by
  obtain ⟨p, q, r, s⟩ := t
  simp only [keptT, wT, decide_eq_true_eq]
  constructor <;> intro h <;> grind

theorem mz {a b : Int} (h : a * b = 0) (hb : b ≠ 0) : a = 0 := (Int.mul_eq_zero.mp h).resolve_right hb
theorem mz' {a b : Int} (h : a * b = 0) (hb : a ≠ 0) : b = 0 := (Int.mul_eq_zero.mp h).resolve_left hb
theorem res_zero (a b c a' b' c' x y : Int) (hx : ¬(x = 0 ∧ y = 0)) (k1 : b * y * y + a * (x * y) - c * x * x = 0) (k2 : b' * y * y + a' * (x * y) - c' * x * x = 0) :
    (b * c' - c * b') * (b * c' - c * b') + (a * b' - a' * b) * (a' * c - a * c') = 0 := by
  have e1 : x * ((a * b' - a' * b) * y + (b * c' - c * b') * x) = 0 := by grind
  have e2 : y * ((b * c' - c * b') * y - (a' * c - a * c') * x) = 0 := by grind
  rcases Int.mul_eq_zero.mp e1 with h1 | h1
  · subst h1
    have hy : y ≠ 0 := fun h => hx ⟨rfl, h⟩
    have b0 : b = 0 := by
      have : b * (y * y) = 0 := by grind
      exact mz this (fun h => hy ((Int.mul_eq_zero.mp h).elim id id))
    have b1 : b' = 0 := by
      have : b' * (y * y) = 0 := by grind
      exact mz this (fun h => hy ((Int.mul_eq_zero.mp h).elim id id))
    subst b0 b1; grind
  · rcases Int.mul_eq_zero.mp e2 with h2 | h2
    · subst h2
      have hy : x ≠ 0 := fun h => hx ⟨h, rfl⟩
      have b0 : c = 0 := by
        have : c * (x * x) = 0 := by grind
        exact mz this (fun h => hy ((Int.mul_eq_zero.mp h).elim id id))
      have b1 : c' = 0 := by
        have : c' * (x * x) = 0 := by grind
        exact mz this (fun h => hy ((Int.mul_eq_zero.mp h).elim id id))
      subst b0 b1; grind
    · generalize hL : a * b' - a' * b = L at h1 ⊢
      generalize hM : b * c' - c * b' = M at h1 h2 ⊢
      generalize hN : a' * c - a * c' = N at h2 ⊢
      clear k1 k2 e1 e2 hL hM hN
      by_cases h0 : x = 0
      · subst h0
        have hy : y ≠ 0 := fun h => hx ⟨rfl, h⟩
        have l0 : L = 0 := by
          have : L * y = 0 := by grind
          exact mz this hy
        have m0 : M = 0 := by
          have : M * y = 0 := by grind
          exact mz this hy
        subst l0 m0; simp
      · have : x * (M * M + L * N) = 0 := by
          have a1 : M * x = - (L * y) := by omega
          have a2 : N * x = M * y := by omega
          have : x * (M * M + L * N) = M * (M * x) + L * (N * x) := by grind
          rw [this, a1, a2]; grind
        exact mz' this h0
/-- both keep a column that is not 0: k is 2 -/
theorem kept_k {t u : T4} (h1 : detT t = 1) (h2 : detT u = 1) {x y : Int} (hx : ¬(x = 0 ∧ y = 0)) (k1 : wT t x y = 0) (k2 : wT u x y = 0) : kT3 (trM t u) = 2 := by
  obtain ⟨p, q, r, s⟩ := t; obtain ⟨e, f, g, h⟩ := u
  simp only [wT] at k1 k2
  simp only [detT] at h1 h2
  have hd := k_det p q r s e f g h h1 h2
  have hr := res_zero (p - s) q r (e - h) f g x y hx k1 k2
  omega
/-- the column of a table of the trace 2 or -2 -/
theorem one_col {p q r s : Int} {e : Int} (he : e = 1 ∨ e = -1) (hd : p * s - q * r = 1) (ht : p + s = 2 * e) : (p - e) * (p - e) = -(q * r) ∧ s - e = -(p - e) := by
  have : s = 2 * e - p := by omega
  subst this
  rcases he with rfl | rfl
  · constructor
    · grind
    · omega
  · constructor
    · grind
    · omega
theorem sq_zero {x : Int} (h : x * x = 0) : x = 0 := (Int.mul_eq_zero.mp h).elim id id
theorem sq_of_sq {n L Z : Int} (hL : L ≠ 0) (h : n * (L * L) = Z * Z) : ∃ w, n = w * w := by
  have h1 : L.natAbs * L.natAbs ∣ Z.natAbs * Z.natAbs := by
    rw [← Int.natAbs_mul, ← Int.natAbs_mul, ← h, Int.natAbs_mul]
    exact Int.natAbs_mul L L ▸ (by rw [Int.natAbs_mul n]; exact Nat.dvd_mul_left _ _)
  have h2 : L.natAbs ∣ Z.natAbs := by
    have : L.natAbs ^ 2 ∣ Z.natAbs ^ 2 := by rw [Nat.pow_two, Nat.pow_two]; exact h1
    exact (Nat.pow_dvd_pow_iff (by decide)).mp this
  obtain ⟨w, hw⟩ := Int.natAbs_dvd_natAbs.mp h2
  refine ⟨w, ?_⟩
  subst hw
  have : (n - w * w) * (L * L) = 0 := by grind
  have := mz this (fun h => hL (sq_zero h))
  omega
theorem disc_sq {t w : Int} (h : t * t - 4 = w * w) : t * t - 4 = 0 := by
  have h1 : t.natAbs * t.natAbs = w.natAbs * w.natAbs + 4 := by
    have a1 : ((t.natAbs * t.natAbs : Nat) : Int) = t * t := Int.natAbs_mul_self
    have a2 : ((w.natAbs * w.natAbs : Nat) : Int) = w * w := Int.natAbs_mul_self
    omega
  have h2 : w.natAbs < t.natAbs := by
    rcases Nat.lt_or_ge w.natAbs t.natAbs with h | h
    · exact h
    · have := Nat.mul_le_mul h h; omega
  obtain ⟨k, hk⟩ : ∃ k, t.natAbs = w.natAbs + 1 + k := ⟨t.natAbs - w.natAbs - 1, by omega⟩
  rw [hk] at h1
  have h3 : w.natAbs * (2 * k + 2) + (k + 1) * (k + 1) = 4 := by grind
  have h4 : k ≤ 1 := by
    rcases Nat.lt_or_ge k 2 with h | h
    · omega
    · have : 3 * 3 ≤ (k + 1) * (k + 1) := Nat.mul_le_mul (by omega) (by omega)
      omega
  have hw0 : w.natAbs = 0 := by
    rcases (by omega : k = 0 ∨ k = 1) with rfl | rfl <;> omega
  have : w = 0 := by omega
  subst this; omega
/-- of k 2, and a table of another trace than 2 and -2: both exchange -/
theorem root_comm {t u : T4} (h1 : detT t = 1) (h2 : detT u = 1) (hk : kT3 (trM t u) = 2) (hn : trT t * trT t - 4 ≠ 0) : mulT t u = mulT u t := by
  obtain ⟨p, q, r, s⟩ := t; obtain ⟨e, f, g, h⟩ := u
  simp only [detT] at h1 h2
  simp only [trT] at hn
  have hd := k_det p q r s e f g h h1 h2
  rw [hk] at hd
  have ht : (p - s) * (q * g - r * f) + q * ((e - h) * r - (p - s) * g) + r * ((p - s) * f - (e - h) * q) = 0 := by grind
  have hdisc : (p + s) * (p + s) - 4 = (p - s) * (p - s) + 4 * (q * r) := by grind
  rw [hdisc] at hn
  have key : q * g - r * f = 0 ∧ (p - s) * f - (e - h) * q = 0 ∧ (e - h) * r - (p - s) * g = 0 := by
    generalize hM : q * g - r * f = M at *
    generalize hL : (p - s) * f - (e - h) * q = L at *
    generalize hN : (e - h) * r - (p - s) * g = N at *
    have hsq : ∀ Z n : Int, n ≠ 0 → ((p - s) * (p - s) + 4 * (q * r)) * (n * n) = Z * Z → False := by
      intro Z n h0 h
      obtain ⟨w, hw⟩ := sq_of_sq h0 h
      exact hn (by have := disc_sq (t := p + s) (w := w) (by omega); omega)
    clear hM hL hN hdisc hk h1 h2
    have l0 : L = 0 := Classical.byContradiction fun h0 => hsq (2 * q * M - (p - s) * L) L h0 (by grind)
    have n0 : N = 0 := Classical.byContradiction fun h0 => hsq (2 * r * M - (p - s) * N) N h0 (by grind)
    subst l0 n0
    exact ⟨sq_zero (by omega), rfl, rfl⟩
  obtain ⟨m0, l0, n0⟩ := key
  simp only [mulT]
  refine Prod.ext ?_ (Prod.ext ?_ (Prod.ext ?_ ?_)) <;> simp only [] <;> grind
def isE (t : T4) : Bool := decide (t = (1, 0, 0, 1) ∨ t = (-1, 0, 0, -1))
theorem raw_ne {t : T4} {e : Int} (he : e = 1 ∨ e = -1) (h1 : detT t = 1) (ht : trT t = 2 * e) (hE : isE t = false) : ¬((rawC e t).1 = 0 ∧ (rawC e t).2 = 0) := by
  obtain ⟨p, q, r, s⟩ := t
  simp only [rawC]
  simp only [trT] at ht
  simp only [isE, decide_eq_false_iff_not] at hE
  split
  · rintro ⟨h, h'⟩; omega
  · rintro ⟨h, h'⟩
    simp only [] at h h'
    apply hE
    rcases he with rfl | rfl
    · left; simp only [Prod.mk.injEq]; omega
    · right; simp only [Prod.mk.injEq]; omega
theorem raw_kept {t : T4} {e : Int} (he : e = 1 ∨ e = -1) (h1 : detT t = 1) (ht : trT t = 2 * e) : wT t (rawC e t).1 (rawC e t).2 = 0 := by
  obtain ⟨p, q, r, s⟩ := t
  simp only [detT] at h1
  simp only [trT] at ht
  obtain ⟨o1, o2⟩ := one_col he h1 ht
  simp only [rawC]
  split
  · simp only [wT]; grind
  · rename_i hc
    have : q = 0 := by omega
    have : p = e := by omega
    simp only [wT]
    grind
theorem raw_other {t u : T4} {e : Int} (he : e = 1 ∨ e = -1) (h1 : detT t = 1) (h2 : detT u = 1) (hk : kT3 (trM t u) = 2) (ht : trT t = 2 * e) : wT u (rawC e t).1 (rawC e t).2 = 0 := by
  obtain ⟨p, q, r, s⟩ := t; obtain ⟨e', f, g, h⟩ := u
  simp only [detT] at h1 h2
  simp only [trT] at ht
  have hd := k_det p q r s e' f g h h1 h2
  rw [hk] at hd
  obtain ⟨o1, o2⟩ := one_col he h1 ht
  have e1 : (f * r + (e' - h) * (p - e) + g * q) * (f * r + (e' - h) * (p - e) + g * q) = 0 := by
    clear hk h1 h2
    have o3 : p - s = 2 * (p - e) := by omega
    rw [o3] at hd
    generalize p - e = a at *
    generalize e' - h = d at *
    clear o2 o3 ht
    grind
  have e2 := sq_zero e1
  clear e1 hk hd h2
  simp only [rawC]
  split
  · simp only [wT]; grind
  · rename_i hc
    have : q = 0 := by omega
    have : p = e := by omega
    simp only [wT]
    grind
theorem raw_only {t : T4} {e : Int} (he : e = 1 ∨ e = -1) (h1 : detT t = 1) (ht : trT t = 2 * e) (hE : isE t = false) {x y : Int} (hw : wT t x y = 0) : (rawC e t).1 * y = (rawC e t).2 * x := by
  have hne := raw_ne he h1 ht hE
  obtain ⟨p, q, r, s⟩ := t
  simp only [detT] at h1
  simp only [trT] at ht
  obtain ⟨o1, o2⟩ := one_col he h1 ht
  simp only [rawC] at hne ⊢
  simp only [wT] at hw
  split
  · rename_i hc
    rw [if_pos hc] at hne
    simp only [] at hne ⊢
    by_cases hq : q = 0
    · subst hq
      have : (p - e) * (p - e) = 0 := by omega
      have := sq_zero this
      omega
    · have e1 : (q * y + (p - e) * x) * (q * y + (p - e) * x) = 0 := by
        clear h1 hc hne
        have : p - s = 2 * (p - e) := by omega
        rw [this] at hw
        generalize p - e = a at *
        grind
      have := sq_zero e1
      grind
  · rename_i hc
    rw [if_neg hc] at hne
    simp only [] at hne ⊢
    have hq : q = 0 := by omega
    have hp : p = e := by omega
    have hs : s = e := by omega
    subst hq hp hs
    have : r ≠ 0 := by omega
    have : r * (x * x) = 0 := by grind
    have := sq_zero (mz' this ‹_›)
    subst this
    simp
theorem nrm_mul {x y : Int} (h : ¬(x = 0 ∧ y = 0)) : x = nrmD x y * (nrm (x, y)).1 ∧ y = nrmD x y * (nrm (x, y)).2 := by
  have h0 := nrmD_ne h
  have d : ∀ z : Int, ((Nat.gcd x.natAbs y.natAbs : Nat) : Int) ∣ z → nrmD x y * z.fdiv (nrmD x y) = z := by
    intro z hz
    have : nrmD x y ∣ z := by
      unfold nrmD
      by_cases hc : (if x ≠ 0 then x else y) > 0
      · rw [if_pos hc]; exact hz
      · rw [if_neg hc]; exact Int.neg_dvd.mpr hz
    exact Int.mul_fdiv_cancel' this
  exact ⟨(d x (Int.ofNat_dvd_left.mpr (Nat.gcd_dvd_left _ _))).symm, (d y (Int.ofNat_dvd_left.mpr (Nat.gcd_dvd_right _ _))).symm⟩
theorem nrmD_neg {x y : Int} (h : ¬(x = 0 ∧ y = 0)) : nrmD (-x) (-y) = - nrmD x y := by
  unfold nrmD
  rw [Int.natAbs_neg, Int.natAbs_neg]
  by_cases hx : x = 0
  · subst hx
    simp only [Int.neg_zero, ne_eq, not_true_eq_false, if_false]
    split <;> split <;> omega
  · have hx' : ¬ -x = 0 := by omega
    simp only [ne_eq, hx, hx', not_false_eq_true, if_true]
    split <;> split <;> omega
theorem nrm_neg (x y : Int) (h : ¬(x = 0 ∧ y = 0)) : nrm (-x, -y) = nrm (x, y) := by
  unfold nrm
  simp only [nrmD_neg h, Int.neg_fdiv_neg]
theorem nrm_w {t : T4} {c : Int × Int} (h : ¬(c.1 = 0 ∧ c.2 = 0)) (hw : wT t c.1 c.2 = 0) : wT t (nrm c).1 (nrm c).2 = 0 := by
  obtain ⟨x, y⟩ := c
  obtain ⟨e1, e2⟩ := nrm_mul h
  have h0 := nrmD_ne h
  generalize nrmD x y = n at *
  generalize nrm (x, y) = c at *
  obtain ⟨u, v⟩ := c
  simp only [wT] at hw ⊢
  simp only [] at e1 e2
  subst e1 e2
  have : (t.2.1 * v * v + (t.1 - t.2.2.2) * (u * v) - t.2.2.1 * u * u) * (n * n) = 0 := by grind
  exact mz this (fun h => h0 (sq_zero h))
theorem nrm_only {c : Int × Int} (h : ¬(c.1 = 0 ∧ c.2 = 0)) {x y : Int} (he : c.1 * y = c.2 * x) : (nrm c).1 * y = (nrm c).2 * x := by
  obtain ⟨u, v⟩ := c
  obtain ⟨e1, e2⟩ := nrm_mul h
  have h0 := nrmD_ne h
  simp only [] at he e1 e2 h0
  generalize nrm (u, v) = c at *
  obtain ⟨u', v'⟩ := c
  simp only [] at e1 e2 ⊢
  generalize nrmD u v = n at *
  have : n * (u' * y - v' * x) = 0 := by subst e1 e2; clear h; grind
  have := mz' this h0
  omega
def rawL (e : Int) (t : T4) : Int × Int := if (t.1 - e, t.2.1) ≠ ((0, 0) : Int × Int) then (0 - t.2.1, t.1 - e) else (0 - (t.2.2.2 - e), t.2.2.1)
def sgT (t : T4) : Int := if t.1 + t.2.2.2 > 0 then 1 else -1
def colL (t : T4) : Int × Int := nrm (rawL (sgT t) t)
theorem tr_two {t : T4} (h : trT t * trT t - 4 = 0) : trT t = 2 * sgT t ∧ (t.1 + t.2.2.2).fdiv 2 = sgT t ∧ (sgT t = 1 ∨ sgT t = -1) := by
  obtain ⟨p, q, r, s⟩ := t
  simp only [trT, sgT] at *
  have : (p + s - 2) * (p + s + 2) = 0 := by grind
  rcases Int.mul_eq_zero.mp this with h | h
  · have : p + s = 2 := by omega
    rw [this]; decide
  · have : p + s = -2 := by omega
    rw [this]; decide
theorem col_eq {t : T4} (h1 : detT t = 1) (h : trT t * trT t - 4 = 0) (hE : isE t = false) : colC t = colL t := by
  obtain ⟨a, b, c⟩ := tr_two h
  have hne := raw_ne c h1 a hE
  unfold colC colL
  rw [b]
  generalize sgT t = e at *
  obtain ⟨p, q, r, s⟩ := t
  simp only [rawC, rawL] at hne ⊢
  by_cases hc : q ≠ 0 ∨ e ≠ p
  · have hc' : ¬ ((p - e, q) = ((0, 0) : Int × Int)) := by simp only [Prod.mk.injEq]; omega
    rw [if_pos hc] at hne
    rw [if_pos hc, if_pos hc']
    simp only [] at hne
    have := nrm_neg q (e - p) hne
    rw [← this]
    congr 2 <;> omega
  · have hc' : ((p - e, q) = ((0, 0) : Int × Int)) := by simp only [Prod.mk.injEq]; omega
    rw [if_neg hc, if_neg (by simpa using hc')]
    congr 2; omega
/-- what is told of the lines in common -/
inductive Told where
  | none | every | one (c : Int × Int) | root (n : Int)
def lineOf (col : T4 → Int × Int) (t : T4) : Told := if trT t * trT t - 4 = 0 then .one (col t) else .root (trT t * trT t - 4)
def LTg (col : T4 → Int × Int) (t u : T4) : Told := if kT3 (trM t u) ≠ 2 then .none else if isE t = false then lineOf col t else if isE u = false then lineOf col u else .every
theorem LT_eq {t u : T4} (h1 : detT t = 1) (h2 : detT u = 1) : LTg colC t u = LTg colL t u := by
  unfold LTg
  split
  · rfl
  · split
    · rename_i hE
      unfold lineOf
      split
      · rw [col_eq h1 ‹_› hE]
      · rfl
    · split
      · rename_i hE
        unfold lineOf
        split
        · rw [col_eq h2 ‹_› hE]
        · rfl
      · rfl
theorem k_swap (t u : T4) : kT3 (trM u t) = kT3 (trM t u) := by
  obtain ⟨p, q, r, s⟩ := t; obtain ⟨e, f, g, h⟩ := u
  simp only [kT3, trM, trT, mulT]; grind
/-- both keep the told column -/
theorem col_kept {t u : T4} (h1 : detT t = 1) (h2 : detT u = 1) (hk : kT3 (trM t u) = 2) (h : trT t * trT t - 4 = 0) (hE : isE t = false) : wT t (colC t).1 (colC t).2 = 0 ∧ wT u (colC t).1 (colC t).2 = 0 := by
  obtain ⟨a, b, c⟩ := tr_two h
  unfold colC
  rw [b]
  have hne := raw_ne c h1 a hE
  exact ⟨nrm_w hne (raw_kept c h1 a), nrm_w hne (raw_other c h1 h2 hk a)⟩
theorem col_only {t : T4} (h1 : detT t = 1) (h : trT t * trT t - 4 = 0) (hE : isE t = false) {x y : Int} (hw : wT t x y = 0) : (colC t).1 * y = (colC t).2 * x := by
  obtain ⟨a, b, c⟩ := tr_two h
  unfold colC
  rw [b]
  exact nrm_only (raw_ne c h1 a hE) (raw_only c h1 a hE hw)
theorem LT_one {t u : T4} (h1 : detT t = 1) (h2 : detT u = 1) {c : Int × Int} (h : LTg colC t u = .one c) : (wT t c.1 c.2 = 0 ∧ wT u c.1 c.2 = 0) ∧ ∀ x y, wT t x y = 0 → wT u x y = 0 → c.1 * y = c.2 * x := by
  unfold LTg at h
  split at h
  · exact nomatch h
  · rename_i hk
    have hk : kT3 (trM t u) = 2 := by omega
    split at h
    · rename_i hE
      unfold lineOf at h
      split at h
      · cases h
        exact ⟨col_kept h1 h2 hk ‹_› hE, fun x y w _ => col_only h1 ‹_› hE w⟩
      · exact nomatch h
    · split at h
      · rename_i hE
        unfold lineOf at h
        split at h
        · cases h
          exact ⟨(col_kept h2 h1 ((k_swap t u).trans hk) ‹_› hE).symm, fun x y _ w => col_only h2 ‹_› hE w⟩
        · exact nomatch h
      · exact nomatch h
theorem LT_root {t u : T4} (h1 : detT t = 1) (h2 : detT u = 1) {n : Int} (h : LTg colC t u = .root n) : mulT t u = mulT u t := by
  unfold LTg at h
  split at h
  · exact nomatch h
  · rename_i hk
    have hk : kT3 (trM t u) = 2 := by omega
    split at h
    · unfold lineOf at h
      split at h
      · exact nomatch h
      · exact root_comm h1 h2 hk ‹_›
    · split at h
      · unfold lineOf at h
        split at h
        · exact nomatch h
        · exact (root_comm h2 h1 ((k_swap t u).trans hk) ‹_›).symm
      · exact nomatch h
theorem LT_none {t u : T4} (h1 : detT t = 1) (h2 : detT u = 1) (h : LTg colC t u = .none) {x y : Int} (hx : ¬(x = 0 ∧ y = 0)) (w1 : wT t x y = 0) (w2 : wT u x y = 0) : False := by
  have := kept_k h1 h2 hx w1 w2
  unfold LTg at h
  rw [if_neg (by omega)] at h
  split at h
  · unfold lineOf at h; split at h <;> exact nomatch h
  · split at h
    · unfold lineOf at h; split at h <;> exact nomatch h
    · exact nomatch h
/-! ### led pairs -/
theorem led_tr {l : T4} (hl : detT l = 1) (t : T4) : trT (ledT l t) = trT t := by
  obtain ⟨p, q, r, s⟩ := t; obtain ⟨e, f, g, h⟩ := l
  simp only [detT] at hl
  simp only [ledT, mulT, invT, trT]; grind
theorem mul_ass (a b c : T4) : mulT (mulT a b) c = mulT a (mulT b c) := by
  obtain ⟨p, q, r, s⟩ := a; obtain ⟨e, f, g, h⟩ := b; obtain ⟨i, j, k, l⟩ := c
  simp only [mulT]
  refine Prod.ext ?_ (Prod.ext ?_ (Prod.ext ?_ ?_)) <;> simp only [] <;> grind
theorem inv_mul {l : T4} (hl : detT l = 1) : mulT (invT l) l = (1, 0, 0, 1) := by
  obtain ⟨e, f, g, h⟩ := l
  simp only [detT] at hl
  simp only [mulT, invT]
  refine Prod.ext ?_ (Prod.ext ?_ (Prod.ext ?_ ?_)) <;> simp only [] <;> grind
theorem mul_inv {l : T4} (hl : detT l = 1) : mulT l (invT l) = (1, 0, 0, 1) := by
  obtain ⟨e, f, g, h⟩ := l
  simp only [detT] at hl
  simp only [mulT, invT]
  refine Prod.ext ?_ (Prod.ext ?_ (Prod.ext ?_ ?_)) <;> simp only [] <;> grind
theorem mul_one' (a : T4) : mulT a (1, 0, 0, 1) = a := by
  obtain ⟨p, q, r, s⟩ := a
  simp only [mulT]
  refine Prod.ext ?_ (Prod.ext ?_ (Prod.ext ?_ ?_)) <;> simp only [] <;> omega
theorem one_mul' (a : T4) : mulT (1, 0, 0, 1) a = a := by
  obtain ⟨p, q, r, s⟩ := a
  simp only [mulT]
  refine Prod.ext ?_ (Prod.ext ?_ (Prod.ext ?_ ?_)) <;> simp only [] <;> omega
theorem led_mul {l : T4} (hl : detT l = 1) (t u : T4) : mulT (ledT l t) (ledT l u) = ledT l (mulT t u) := by
  unfold ledT
  rw [mul_ass (mulT l t) (invT l), ← mul_ass (invT l) (mulT l u), ← mul_ass (invT l) l u, inv_mul hl, one_mul', ← mul_ass (mulT l t) u, mul_ass l t u]
theorem led_k {l : T4} (hl : detT l = 1) (t u : T4) : trM (ledT l t) (ledT l u) = trM t u := by
  unfold trM
  rw [led_mul hl, led_tr hl, led_tr hl, led_tr hl]
theorem led_back {l : T4} (hl : detT l = 1) (t : T4) : mulT (mulT (invT l) (ledT l t)) l = t := by
  unfold ledT
  rw [mul_ass l t, ← mul_ass (invT l) l, inv_mul hl, one_mul', mul_ass t, inv_mul hl, mul_one']
theorem led_isE {l : T4} (hl : detT l = 1) (t : T4) : isE (ledT l t) = isE t := by
  have sc : ∀ (e : Int) (m : T4), mulT (mulT m (e, 0, 0, e)) (invT m) = (e * detT m, 0, 0, e * detT m) := by
    rintro e ⟨a, b, c, d⟩
    simp only [mulT, invT, detT]
    refine Prod.ext ?_ (Prod.ext ?_ (Prod.ext ?_ ?_)) <;> simp only [] <;> grind
  have sc2 : ∀ (e : Int), mulT (mulT (invT l) (e, 0, 0, e)) l = (e, 0, 0, e) := by
    intro e
    have hi : detT (invT l) = 1 := by
      obtain ⟨a, b, c, d⟩ := l
      simp only [detT] at hl
      simp only [invT, detT]; grind
    have hii : invT (invT l) = l := by
      obtain ⟨a, b, c, d⟩ := l
      simp only [invT, Int.neg_neg]
    have := sc e (invT l)
    rw [hi, hii, Int.mul_one] at this
    exact this
  have hb := led_back hl t
  have h1 : ∀ e : Int, ledT l t = (e, 0, 0, e) ↔ t = (e, 0, 0, e) := by
    intro e
    constructor
    · intro h
      rw [h, sc2] at hb
      exact hb.symm
    · rintro rfl
      unfold ledT
      rw [sc, hl, Int.mul_one]
  have e1 := h1 1
  have e2 := h1 (-1)
  unfold isE
  simp only [e1, e2]
theorem LT_led {l : T4} (hl : detT l = 1) (t u : T4) : (LTg colC t u = .none → LTg colC (ledT l t) (ledT l u) = .none) ∧ (LTg colC t u = .every → LTg colC (ledT l t) (ledT l u) = .every) ∧ (∀ c, LTg colC t u = .one c → ∃ c', LTg colC (ledT l t) (ledT l u) = .one c') ∧ (∀ n, LTg colC t u = .root n → LTg colC (ledT l t) (ledT l u) = .root n) := by
  unfold LTg
  rw [led_k hl, led_isE hl, led_isE hl]
  unfold lineOf
  rw [led_tr hl, led_tr hl]
  refine ⟨?_, ?_, ?_, ?_⟩
  · split
    · exact fun h => h
    · split
      · split <;> exact fun h => nomatch h
      · split
        · split <;> exact fun h => nomatch h
        · exact fun h => h
  · split
    · exact fun h => h
    · split
      · split <;> exact fun h => nomatch h
      · split
        · split <;> exact fun h => nomatch h
        · exact fun h => h
  · intro c
    split
    · exact fun h => nomatch h
    · split
      · split
        · exact fun h => ⟨_, rfl⟩
        · exact fun h => nomatch h
      · split
        · split
          · exact fun h => ⟨_, rfl⟩
          · exact fun h => nomatch h
        · exact fun h => nomatch h
  · intro c
    split
    · exact fun h => nomatch h
    · split
      · split
        · exact fun h => nomatch h
        · exact fun h => h
      · split
        · split
          · exact fun h => nomatch h
          · exact fun h => h
        · exact fun h => nomatch h
def N_line_told : List Str := ["pair", "some", "square", "table"]
def lt_line_told_1 : ATT := (aTest (aBin aNinT (aVar 3) (aC (.tuple [.tuple [.int 1,.int 0,.int 0,.int 1],.tuple [.int (-1),.int 0,.int 0,.int (-1)]]))))
def le_line_told_2 : ATE := (aVar 3)
def t_line_told : ATS := (aSeq (aIfS (aTest (aBin aNe (aFn 1 fn_k_of (aCons (aFn 1 fn_traced (aCons (aVar 0) aNil)) aNil)) (aC (.int 2)))) (aRet (aTup (aCons (aC (.str "none")) aNil))) aNext)
    (aSeq (aSet 1 (aLc (aItT (aVar 0)) (aGName 3) lt_line_told_1 le_line_told_2 [3]))
    (aSeq (aIfS (aTest (aBin aEq (aVar 1) (aLst aNil))) (aRet (aTup (aCons (aC (.str "every")) aNil))) aNext)
    (aSeq (aSet 2 (aBin aSub (aBin aMul (aFn 1 fn_trace_of (aCons (aBin aIx (aVar 1) (aC (.int 0))) aNil)) (aFn 1 fn_trace_of (aCons (aBin aIx (aVar 1) (aC (.int 0))) aNil))) (aC (.int 4))))
    (aRet (aIf (aTest (aBin aEq (aVar 2) (aC (.int 0)))) (aTup (aCons (aC (.str "one")) (aCons (aFn 1 fn_kept_column (aCons (aBin aIx (aVar 1) (aC (.int 0))) aNil)) aNil))) (aTup (aCons (aC (.str "root")) (aCons (aVar 2) aNil)))))))))
def toldD : Told → D
  | .none => .tuple [.str "none"]
  | .every => .tuple [.str "every"]
  | .one c => .tuple [.str "one", clD c]
  | .root n => .tuple [.str "root", .int n]
theorem eqv_i (i j : Int) : PyData.eqv (.int i) (.int j) = decide (i = j) := by simp [PyData.eqv, Bool.beq_eq_decide_eq]
theorem eqv_tb (t u : T4) : PyData.eqv (tbD t) (tbD u) = decide (t = u) := by
  obtain ⟨a, b, c, d⟩ := t; obtain ⟨e, f, g, h⟩ := u
  simp only [tbD, PyData.eqv, PyData.eqvAll, Bool.beq_eq_decide_eq, Prod.mk.injEq]
  by_cases h1 : a = e <;> by_cases h2 : b = f <;> by_cases h3 : c = g <;> by_cases h4 : d = h <;> simp [h1, h2, h3, h4]
theorem each_any (t : T4) : ([tbD (1, 0, 0, 1), tbD (-1, 0, 0, -1)].any fun z => PyData.eqv z (tbD t)) = isE t := by
  simp only [List.any_cons, List.any_nil, eqv_tb, isE, Bool.or_false]
  by_cases h1 : t = (1, 0, 0, 1)
  · subst h1; decide
  · by_cases h2 : t = (-1, 0, 0, -1)
    · subst h2; decide
    · have h1' : ¬ ((1, 0, 0, 1) : T4) = t := fun h => h1 h.symm
      have h2' : ¬ ((-1, 0, 0, -1) : T4) = t := fun h => h2 h.symm
      simp only [h1, h2, h1', h2', decide_false, or_self, Bool.or_self]
theorem shaped_tb (t : T4) : SeqAt.shaped (tbD t) = true := rfl
/-- the tables of a pair that are not 1 and not -1 -/
theorem some_cases (t u : T4) (K : List D → Prop) (h : K ((if isE t = true then [] else [tbD t]) ++ (if isE u = true then [] else [tbD u]))) :
    (isE t = false → isE u = false → K [tbD t, tbD u]) ∧ (isE t = false → isE u = true → K [tbD t]) ∧ (isE t = true → isE u = false → K [tbD u]) ∧ (isE t = true → isE u = true → K []) := by
  refine ⟨fun a b => ?_, fun a b => ?_, fun a b => ?_, fun a b => ?_⟩ <;> simpa [a, b] using h
theorem raw_ok {t : T4} (h1 : detT t = 1) (hE : isE t = false) (h : trT t * trT t - 4 = 0) : ¬((rawC ((t.1 + t.2.2.2).fdiv 2) t).1 = 0 ∧ (rawC ((t.1 + t.2.2.2).fdiv 2) t).2 = 0) := by
  obtain ⟨a, b, c⟩ := tr_two h
  rw [b]
  exact raw_ne c h1 a hE
def fn_line_told : AFn := fun avs s Q => ∃ t u : T4, avs = [.d (.tuple [tbD t, tbD u])] ∧ (Bt 500 t ∧ Bt 500 u) ∧ (detT t = 1 ∧ detT u = 1) ∧ Q (.d (toldD (LTg colC t u))) s
theorem line_st (x : D) (t : T4) (s : Option Src) (K : Option D → Mm → Prop) (h : K (if isE t = true then none else some (tbD t)) ⟨s, []⟩) : stepC (aGName 3) lt_line_told_1 le_line_told_2 [some (.d x), none, none, none] (tbD t) ⟨s, []⟩ K := by
  unfold stepC lt_line_told_1 le_line_told_2
  walk_at "qs"
  refine ⟨rfl, rfl, ?_⟩
  rw [show ([PyData.tuple [PyData.int 1, PyData.int 0, PyData.int 0, PyData.int 1], PyData.tuple [PyData.int (-1), PyData.int 0, PyData.int 0, PyData.int (-1)]].any fun z => PyData.eqv z (tbD t)) = isE t from each_any t]
  cases c : isE t
  · rw [c] at h; exact h
  · rw [c] at h; exact h
theorem h_line_told : ∀ avs s AQ, fn_line_told avs s AQ → t_line_told (endsA AQ) ⟨startA N_line_told avs, ⟨s, []⟩⟩ := by
  rintro _ s AQ ⟨t, u, rfl, ⟨b1, b2⟩, ⟨d1, d2⟩, hq⟩
  show t_line_told (endsA AQ) ⟨[some (.d (.tuple [tbD t, tbD u])), none, none, none], ⟨s, []⟩⟩
  unfold t_line_told
  rw [aSeq_ap, aIfS_ap]
  walk_at "qs"
  refine ⟨t, u, rfl, b1.le (by decide), b2.le (by decide), ?_⟩
  refine ⟨rfl, _, rfl, (Bt3.of b1 b2).le (by decide), ?_⟩
  unfold LTg at hq
  by_cases ck : kT3 (trM t u) = 2
  · have ck' : ¬ kT3 (trM t u) ≠ 2 := by omega
    rw [if_neg ck'] at hq
    simp only [ck, not_true_eq_false, if_false, decide_true, Bool.not_true, Bool.false_eq_true]
    refine aLcL_step (line_st _ t s _ ?_)
    cases et : isE t
    · rw [et] at hq
      rw [if_neg (by decide)]
      refine aLcL_step (line_st _ u s _ ?_)
      cases eu : isE u
      · rw [if_neg (by decide)]
        unfold aLcL
        refine ⟨rfl, rfl, ?_⟩
        rw [if_neg (by rw [show (PyData.list ([] ++ [tbD t] ++ [tbD u])).eqv (PyData.list []) = false from rfl]; decide)]
        have b1' : Bd 501 (trT t) := b1.1.add b1.2.2.2
        refine ⟨t, rfl, ?_⟩
        refine ⟨t, rfl, ?_⟩
        refine ⟨MulOk.bd b1' b1' (by decide), ?_⟩
        have hq : AQ (AV.d (toldD (lineOf colC t))) s := hq
        unfold lineOf at hq
        by_cases c : trT t * trT t - 4 = 0
        · rw [if_pos c] at hq
          rw [if_pos c]
          refine ⟨t, rfl, b1.le (by decide), raw_ok d1 et c, ?_⟩
          exact ⟨by simp, hq⟩
        · rw [if_neg c] at hq
          rw [if_neg c]
          exact hq
      · rw [if_pos rfl]
        unfold aLcL
        refine ⟨rfl, rfl, ?_⟩
        rw [if_neg (by rw [show (PyData.list ([] ++ [tbD t])).eqv (PyData.list []) = false from rfl]; decide)]
        have b1' : Bd 501 (trT t) := b1.1.add b1.2.2.2
        refine ⟨t, rfl, ?_⟩
        refine ⟨t, rfl, ?_⟩
        refine ⟨MulOk.bd b1' b1' (by decide), ?_⟩
        have hq : AQ (AV.d (toldD (lineOf colC t))) s := hq
        unfold lineOf at hq
        by_cases c : trT t * trT t - 4 = 0
        · rw [if_pos c] at hq
          rw [if_pos c]
          refine ⟨t, rfl, b1.le (by decide), raw_ok d1 et c, ?_⟩
          exact ⟨by simp, hq⟩
        · rw [if_neg c] at hq
          rw [if_neg c]
          exact hq
    · rw [et] at hq
      rw [if_neg (by decide)] at hq
      rw [if_pos rfl]
      refine aLcL_step (line_st _ u s _ ?_)
      cases eu : isE u
      · rw [eu] at hq
        rw [if_neg (by decide)]
        unfold aLcL
        refine ⟨rfl, rfl, ?_⟩
        rw [if_neg (by rw [show (PyData.list ([] ++ [tbD u])).eqv (PyData.list []) = false from rfl]; decide)]
        have b1' : Bd 501 (trT u) := b2.1.add b2.2.2.2
        refine ⟨u, rfl, ?_⟩
        refine ⟨u, rfl, ?_⟩
        refine ⟨MulOk.bd b1' b1' (by decide), ?_⟩
        have hq : AQ (AV.d (toldD (lineOf colC u))) s := hq
        unfold lineOf at hq
        by_cases c : trT u * trT u - 4 = 0
        · rw [if_pos c] at hq
          rw [if_pos c]
          refine ⟨u, rfl, b2.le (by decide), raw_ok d2 eu c, ?_⟩
          exact ⟨by simp, hq⟩
        · rw [if_neg c] at hq
          rw [if_neg c]
          exact hq
      · rw [eu, if_neg (by decide)] at hq
        rw [if_pos rfl]
        unfold aLcL
        refine ⟨rfl, rfl, ?_⟩
        rw [if_pos (by decide)]
        exact hq
  · rw [if_pos ck] at hq
    simp only [ck, decide_false, Bool.not_false, if_true, not_false_eq_true]
    exact hq
def N__law_column : List Str := ["one", "sign", "p", "q", "r", "s", "u", "v", "a", "b"]
def lc__law_column_1 : ATT := (aTest (aBin aGt (aVar 9) (aC (.int 0))))
def lb__law_column_2 : ATS := (aPar 8 9 (aCons (aVar 9) (aCons (aBin aMod (aCall bInt (aCons (aVar 8) aNil)) (aVar 9)) aNil)))
def t__law_column : ATS := (aSeq (aSet 1 (aIf (aTest (aBin aGt (aBin aAdd (aBin aIx (aVar 0) (aC (.int 0))) (aBin aIx (aVar 0) (aC (.int 3)))) (aC (.int 0)))) (aC (.int 1)) (aUn aNeg (aC (.int 1)))))
    (aSeq (aAsg (aTup (aCons (aBin aSub (aBin aIx (aVar 0) (aC (.int 0))) (aVar 1)) (aCons (aBin aIx (aVar 0) (aC (.int 1))) (aCons (aBin aIx (aVar 0) (aC (.int 2))) (aCons (aBin aSub (aBin aIx (aVar 0) (aC (.int 3))) (aVar 1)) aNil))))) (aGTup 4 (aGCons (aGName 2) (aGCons (aGName 3) (aGCons (aGName 4) (aGCons (aGName 5) aGNil))))))
    (aSeq (aAsg (aIf (aTest (aBin aNe (aTup (aCons (aVar 2) (aCons (aVar 3) aNil))) (aTup (aCons (aC (.int 0)) (aCons (aC (.int 0)) aNil))))) (aTup (aCons (aBin aSub (aC (.int 0)) (aVar 3)) (aCons (aVar 2) aNil))) (aTup (aCons (aBin aSub (aC (.int 0)) (aVar 5)) (aCons (aVar 4) aNil)))) (aGTup 2 (aGCons (aGName 6) (aGCons (aGName 7) aGNil))))
    (aSeq (aPar 8 9 (aCons (aCall bAbs (aCons (aVar 6) aNil)) (aCons (aCall bAbs (aCons (aVar 7) aNil)) aNil)))
    (aSeq (aWhile [] lc__law_column_1 lb__law_column_2)
    (aSeq (aSet 8 (aIf (aOr (aTest (aBin aGt (aVar 6) (aC (.int 0)))) (aAnd (aTest (aBin aEq (aVar 6) (aC (.int 0)))) (aTest (aBin aGt (aVar 7) (aC (.int 0)))))) (aVar 8) (aBin aSub (aC (.int 0)) (aVar 8))))
    (aRet (aTup (aCons (aBin aFdivN (aVar 6) (aVar 8)) (aCons (aBin aFdivN (aVar 7) (aVar 8)) aNil))))))))))
def fn__law_column : AFn := fun avs s Q => ∃ t : T4, avs = [.d (tbD t)] ∧ Bt 1000 t ∧ ¬((rawL (sgT t) t).1 = 0 ∧ (rawL (sgT t) t).2 = 0) ∧ Q (.d (clD (colL t))) s
def mu9 (a : AS) : Nat := match a.g[9]? with
  | some (some (AV.d (PyData.int j))) => j.toNat
  | _ => 0
theorem col_while (E : AEnds) (x0 x1 x2 x3 x4 x5 x6 x7 : D) (s : Option Src) (x y : Nat) (h : ∀ k : Int, E.nx ⟨[some (.d x0), some (.d x1), some (.d x2), some (.d x3), some (.d x4), some (.d x5), some (.d x6), some (.d x7), some (.d (.int ((Nat.gcd x y : Nat) : Int))), some (.d (.int k))], ⟨s, []⟩⟩) :
    aWhile [] lc__law_column_1 lb__law_column_2 E ⟨[some (.d x0), some (.d x1), some (.d x2), some (.d x3), some (.d x4), some (.d x5), some (.d x6), some (.d x7), some (.d (.int (x : Int))), some (.d (.int (y : Int)))], ⟨s, []⟩⟩ := by
  rw [aWhile_ap]
  refine ⟨fun a => ∃ m n : Nat, Nat.gcd m n = Nat.gcd x y ∧ a = ⟨[some (.d x0), some (.d x1), some (.d x2), some (.d x3), some (.d x4), some (.d x5), some (.d x6), some (.d x7), some (.d (.int (m : Int))), some (.d (.int (n : Int)))], ⟨s, []⟩⟩,
    mu9, ⟨x, y, rfl, rfl⟩, ?_⟩
  rintro _ ⟨m, n, hg, rfl⟩
  unfold lc__law_column_1 lb__law_column_2
  walk_at "qs"
  by_cases c : n = 0
  · subst c
    have c0 : ¬ (0 : Int) < ((0 : Nat) : Int) := by decide
    rw [if_neg c0]
    rw [Nat.gcd_zero_right] at hg
    subst hg
    exact h _
  · have c' : (0 : Int) < ((n : Nat) : Int) := by omega
    rw [if_pos c']
    refine ⟨c', ?_⟩
    have e : ((m : Int) % (n : Int)) = ((m % n : Nat) : Int) := by omega
    rw [e]
    refine ⟨⟨n, m % n, ?_, rfl⟩, ?_⟩
    · rw [Nat.gcd_comm, ← Nat.gcd_rec, Nat.gcd_comm]; exact hg
    · have := Nat.mod_lt m (by omega : n > 0)
      show ((m % n : Nat) : Int).toNat < ((n : Nat) : Int).toNat
      omega
theorem eqv_p2 (a b : Int) : PyData.eqv (.tuple [.int a, .int b]) (.tuple [.int 0, .int 0]) = decide (a = 0 ∧ b = 0) := by
  simp only [PyData.eqv, PyData.eqvAll, Bool.beq_eq_decide_eq]
  by_cases h1 : a = 0 <;> by_cases h2 : b = 0 <;> simp [h1, h2]
theorem h__law_column : ∀ avs s AQ, fn__law_column avs s AQ → t__law_column (endsA AQ) ⟨startA N__law_column avs, ⟨s, []⟩⟩ := by
  rintro _ s AQ ⟨⟨p, q, r, v⟩, rfl, ⟨h1, h2, h3, h4⟩, h0, hq⟩
  show t__law_column (endsA AQ) ⟨[some (.d (.tuple [.int p, .int q, .int r, .int v])), none, none, none, none, none, none, none, none, none], ⟨s, []⟩⟩
  have he : ∃ e : Int, sgT (p, q, r, v) = e ∧ Bd 8 e := by
    refine ⟨_, rfl, ?_⟩
    unfold sgT
    split
    · exact Bd.lit
    · exact Bd.lit
  obtain ⟨e, he, hbe⟩ := he
  unfold colL at hq
  rw [he] at h0 hq
  have hs : (if 0 < p + v then (1 : Int) else -1) = e := he
  have hraw : (rawL e (p, q, r, v) = (0 - q, p - e) ∧ ¬(p - e = 0 ∧ q = 0)) ∨ (rawL e (p, q, r, v) = (0 - (v - e), r) ∧ (p - e = 0 ∧ q = 0)) := by
    unfold rawL
    by_cases c : p - e = 0 ∧ q = 0
    · right
      refine ⟨?_, c⟩
      rw [if_neg]
      simp only [Prod.mk.injEq, ne_eq]
      exact fun h => h c
    · left
      refine ⟨?_, c⟩
      rw [if_pos]
      simp only [Prod.mk.injEq, ne_eq]
      exact c
  have fin : ∀ (E : AEnds) (U V : Int) (x0 x1 x2 x3 x4 x5 : D), Bd 1002 U → Bd 1002 V → ¬(U = 0 ∧ V = 0) → (AQ (.d (clD (nrm (U, V)))) s) → 
      ∀ k : Int, (aSeq (aSet 8
                  (aIf
                    (aOr (aTest (aBin (intsR0 fun i j => PyData.bool (decide (j < i))) (aVar 6) (aC (PyData.int 0))))
                      (aAnd (aTest (aBin aEq (aVar 6) (aC (PyData.int 0))))
                        (aTest (aBin (intsR0 fun i j => PyData.bool (decide (j < i))) (aVar 7) (aC (PyData.int 0))))))
                    (aVar 8) (aBin (intsR0 fun i j => PyData.int (i - j)) (aC (PyData.int 0)) (aVar 8))))
                (aRet
                  (aTup
                    (aCons (aBin (intsR DivN fun i j => PyData.int (i.fdiv j)) (aVar 6) (aVar 8))
                      (aCons (aBin (intsR DivN fun i j => PyData.int (i.fdiv j)) (aVar 7) (aVar 8)) aNil))))) (endsA AQ) ⟨[some (.d x0), some (.d x1), some (.d x2), some (.d x3), some (.d x4), some (.d x5), some (.d (.int U)), some (.d (.int V)), some (.d (.int ((Nat.gcd U.natAbs V.natAbs : Nat) : Int))), some (.d (.int k))], ⟨s, []⟩⟩ := by
    intro E U V x0 x1 x2 x3 x4 x5 bu bv h0 hq k
    have hg := nrmD_ne h0
    have hb := nrmD_bd (k := 1002) h0 bu bv
    have hn : nrmD U V = if (if U ≠ 0 then U else V) > 0 then ((Nat.gcd U.natAbs V.natAbs : Nat) : Int) else -((Nat.gcd U.natAbs V.natAbs : Nat) : Int) := rfl
    have hq' : AQ (.d (.tuple [.int (U.fdiv (nrmD U V)), .int (V.fdiv (nrmD U V))])) s := hq
    generalize nrmD U V = n at *
    generalize ((Nat.gcd U.natAbs V.natAbs : Nat) : Int) = g at *
    walk_at "qs"
    have e0 : ∀ i : Int, 0 - i = -i := fun i => by omega
    rw [e0]
    have dv : ∀ i : Int, DivN i n := fun i => ⟨hg, hb.log_lt (by decide)⟩
    by_cases c1 : 0 < U
    · rw [if_pos c1]
      rw [if_pos (by rw [if_pos (by omega)]; exact c1)] at hn
      subst hn
      exact ⟨dv _, dv _, hq'⟩
    · rw [if_neg c1]
      by_cases c2 : U = 0
      · rw [if_pos c2]
        by_cases c3 : 0 < V
        · rw [if_pos c3]
          rw [if_pos (by rw [if_neg (by omega)]; exact c3)] at hn
          subst hn
          exact ⟨dv _, dv _, hq'⟩
        · rw [if_neg c3]
          rw [if_neg (by rw [if_neg (by omega)]; exact c3)] at hn
          subst hn
          exact ⟨dv _, dv _, hq'⟩
      · rw [if_neg c2]
        rw [if_neg (by rw [if_pos c2]; exact c1)] at hn
        subst hn
        exact ⟨dv _, dv _, hq'⟩
  unfold t__law_column
  rw [aSeq_ap, aSet_ap]
  have s1 : ∀ (K : AV → Mm → Prop), K (.d (.int e)) ⟨s, []⟩ → (aIf (aTest (aBin aGt (aBin aAdd (aBin aIx (aVar 0) (aC (.int 0))) (aBin aIx (aVar 0) (aC (.int 3)))) (aC (.int 0)))) (aC (.int 1)) (aUn aNeg (aC (.int 1)))) ⟨[some (.d (.tuple [.int p, .int q, .int r, .int v])), none, none, none, none, none, none, none, none, none], ⟨s, []⟩⟩ K := by
    intro K hK
    walk_at "qs"
    by_cases c : 0 < p + v
    · rw [if_pos c] at hs ⊢; rw [hs]; exact hK
    · rw [if_neg c] at hs ⊢; rw [hs]; exact hK
  refine s1 _ ?_
  walk_at "qs"
  refine ⟨rfl, rfl, ?_⟩
  rw [eqv_p2]
  rcases hraw with ⟨e1, c⟩ | ⟨e1, c⟩
  · rw [e1] at h0 hq
    rw [if_pos (by simpa using c), abs_i, abs_i]
    refine col_while _ _ _ _ _ _ _ _ _ s _ _ (fun k => ?_)
    exact fin (endsA AQ) _ _ _ _ _ _ _ _ ((Bd.sub' (Bd.lit (i := 0)) h2).le (by decide)) ((h1.sub' hbe).le (by decide)) h0 hq k
  · rw [e1] at h0 hq
    rw [if_neg (by simpa using c), abs_i, abs_i]
    refine col_while _ _ _ _ _ _ _ _ _ s _ _ (fun k => ?_)
    exact fin (endsA AQ) _ _ _ _ _ _ _ _ ((Bd.sub' (Bd.lit (i := 0)) (h4.sub' hbe)).le (by decide)) (h3.le (by decide)) h0 hq k
def N__law_due : List Str := ["one", "other", "some", "trace", "table"]
def lt__law_due_1 : ATT := (aTest (aBin aNinT (aVar 4) (aTup (aCons (aTup (aCons (aC (.int 1)) (aCons (aC (.int 0)) (aCons (aC (.int 0)) (aCons (aC (.int 1)) aNil))))) (aCons (aTup (aCons (aUn aNeg (aC (.int 1))) (aCons (aC (.int 0)) (aCons (aC (.int 0)) (aCons (aUn aNeg (aC (.int 1))) aNil))))) aNil)))))
def le__law_due_2 : ATE := (aVar 4)
def t__law_due : ATS := (aSeq (aIfS (aTest (aBin aNe (aFn 1 fn__law_k (aCons (aFn 2 fn__law_triple (aCons (aVar 0) (aCons (aVar 1) aNil))) aNil)) (aC (.int 2)))) (aRet (aTup (aCons (aC (.str "none")) aNil))) aNext)
    (aSeq (aSet 2 (aLc (aItT (aTup (aCons (aVar 0) (aCons (aVar 1) aNil)))) (aGName 4) lt__law_due_1 le__law_due_2 [4]))
    (aSeq (aIfS (aTest (aBin aEq (aVar 2) (aLst aNil))) (aRet (aTup (aCons (aC (.str "every")) aNil))) aNext)
    (aSeq (aSet 3 (aBin aAdd (aBin aIx (aBin aIx (aVar 2) (aC (.int 0))) (aC (.int 0))) (aBin aIx (aBin aIx (aVar 2) (aC (.int 0))) (aC (.int 3)))))
    (aRet (aIf (aTest (aBin aEq (aCall bAbs (aCons (aVar 3) aNil)) (aC (.int 2)))) (aTup (aCons (aC (.str "one")) (aCons (aFn 1 fn__law_column (aCons (aBin aIx (aVar 2) (aC (.int 0))) aNil)) aNil))) (aTup (aCons (aC (.str "root")) (aCons (aBin aSub (aBin aMul (aVar 3) (aVar 3)) (aC (.int 4))) aNil)))))))))
theorem abs_two {x : Int} : (if x < 0 then -x else x) = 2 ↔ x * x - 4 = 0 := by
  constructor
  · intro h
    have : x = 2 ∨ x = -2 := by split at h <;> omega
    rcases this with rfl | rfl <;> decide
  · intro h
    have : (x - 2) * (x + 2) = 0 := by grind
    rcases Int.mul_eq_zero.mp this with h | h <;> split <;> omega
theorem rawL_ok {t : T4} (h1 : detT t = 1) (hE : isE t = false) (h : trT t * trT t - 4 = 0) : ¬((rawL (sgT t) t).1 = 0 ∧ (rawL (sgT t) t).2 = 0) := by
  obtain ⟨a, b, c⟩ := tr_two h
  have := raw_ne c h1 a hE
  generalize sgT t = e at *
  obtain ⟨p, q, r, v⟩ := t
  simp only [trT] at a
  simp only [rawC] at this
  by_cases hc : p - e = 0 ∧ q = 0
  · have hn : ¬(q ≠ 0 ∨ e ≠ p) := by omega
    rw [if_neg hn] at this
    have e1 : rawL e (p, q, r, v) = (0 - (v - e), r) := by
      unfold rawL
      rw [if_neg]
      simp only [Prod.mk.injEq, ne_eq]
      exact fun h => h hc
    rw [e1]
    simp only [] at this ⊢
    omega
  · have e1 : rawL e (p, q, r, v) = (0 - q, p - e) := by
      unfold rawL
      rw [if_pos]
      simp only [Prod.mk.injEq, ne_eq]
      exact hc
    rw [e1]
    simp only [] at ⊢
    omega
def fn__law_due : AFn := fun avs s Q => ∃ t u : T4, avs = [.d (tbD t), .d (tbD u)] ∧ (Bt 500 t ∧ Bt 500 u) ∧ (detT t = 1 ∧ detT u = 1) ∧ Q (.d (toldD (LTg colL t u))) s
theorem due_st (x y : D) (t : T4) (s : Option Src) (K : Option D → Mm → Prop) (h : K (if isE t = true then none else some (tbD t)) ⟨s, []⟩) : stepC (aGName 4) lt__law_due_1 le__law_due_2 [some (.d x), some (.d y), none, none, none] (tbD t) ⟨s, []⟩ K := by
  unfold stepC lt__law_due_1 le__law_due_2
  walk_at "qs"
  refine ⟨rfl, rfl, ?_⟩
  rw [show ([PyData.tuple [PyData.int 1, PyData.int 0, PyData.int 0, PyData.int 1], PyData.tuple [PyData.int (-1), PyData.int 0, PyData.int 0, PyData.int (-1)]].any fun z => PyData.eqv z (tbD t)) = isE t from each_any t]
  cases c : isE t
  · rw [c] at h; exact h
  · rw [c] at h; exact h
theorem h__law_due : ∀ avs s AQ, fn__law_due avs s AQ → t__law_due (endsA AQ) ⟨startA N__law_due avs, ⟨s, []⟩⟩ := by
  rintro _ s AQ ⟨t, u, rfl, ⟨b1, b2⟩, ⟨d1, d2⟩, hq⟩
  show t__law_due (endsA AQ) ⟨[some (.d (tbD t)), some (.d (tbD u)), none, none, none], ⟨s, []⟩⟩
  unfold t__law_due
  rw [aSeq_ap, aIfS_ap]
  walk_at "qs"
  refine ⟨t, u, rfl, b1.le (by decide), b2.le (by decide), ?_⟩
  refine ⟨rfl, _, rfl, (Bt3.of b1 b2).le (by decide), ?_⟩
  unfold LTg at hq
  by_cases ck : kT3 (trM t u) = 2
  · have ck' : ¬ kT3 (trM t u) ≠ 2 := by omega
    rw [if_neg ck'] at hq
    simp only [ck, not_true_eq_false, if_false, decide_true, Bool.not_true, Bool.false_eq_true]
    refine aLcL_step (due_st _ _ t s _ ?_)
    cases et : isE t
    · rw [et] at hq
      rw [if_neg (by decide)]
      refine aLcL_step (due_st _ _ u s _ ?_)
      cases eu : isE u
      · rw [if_neg (by decide)]
        unfold aLcL
        refine ⟨rfl, rfl, ?_⟩
        rw [if_neg (by rw [show (PyData.list ([] ++ [tbD t] ++ [tbD u])).eqv (PyData.list []) = false from rfl]; decide)]
        have b1' : Bd 501 (trT t) := b1.1.add b1.2.2.2
        show (if (if trT t < 0 then -(trT t) else trT t) = 2 then fn__law_column [.d (tbD t)] s _ else MulOk (trT t) (trT t) ∧ AQ (.d (.tuple [.str "root", .int (trT t * trT t - 4)])) s)
        have hq : AQ (AV.d (toldD (lineOf colL t))) s := hq
        unfold lineOf at hq
        by_cases c : trT t * trT t - 4 = 0
        · rw [if_pos c] at hq
          rw [if_pos (abs_two.mpr c)]
          refine ⟨t, rfl, b1.le (by decide), rawL_ok d1 et c, ?_⟩
          exact ⟨by simp, hq⟩
        · rw [if_neg c] at hq
          rw [if_neg (fun h => c (abs_two.mp h))]
          exact ⟨MulOk.bd b1' b1' (by decide), hq⟩
      · rw [if_pos rfl]
        unfold aLcL
        refine ⟨rfl, rfl, ?_⟩
        rw [if_neg (by rw [show (PyData.list ([] ++ [tbD t])).eqv (PyData.list []) = false from rfl]; decide)]
        have b1' : Bd 501 (trT t) := b1.1.add b1.2.2.2
        show (if (if trT t < 0 then -(trT t) else trT t) = 2 then fn__law_column [.d (tbD t)] s _ else MulOk (trT t) (trT t) ∧ AQ (.d (.tuple [.str "root", .int (trT t * trT t - 4)])) s)
        have hq : AQ (AV.d (toldD (lineOf colL t))) s := hq
        unfold lineOf at hq
        by_cases c : trT t * trT t - 4 = 0
        · rw [if_pos c] at hq
          rw [if_pos (abs_two.mpr c)]
          refine ⟨t, rfl, b1.le (by decide), rawL_ok d1 et c, ?_⟩
          exact ⟨by simp, hq⟩
        · rw [if_neg c] at hq
          rw [if_neg (fun h => c (abs_two.mp h))]
          exact ⟨MulOk.bd b1' b1' (by decide), hq⟩
    · rw [et] at hq
      rw [if_neg (by decide)] at hq
      rw [if_pos rfl]
      refine aLcL_step (due_st _ _ u s _ ?_)
      cases eu : isE u
      · rw [eu] at hq
        rw [if_neg (by decide)]
        unfold aLcL
        refine ⟨rfl, rfl, ?_⟩
        rw [if_neg (by rw [show (PyData.list ([] ++ [tbD u])).eqv (PyData.list []) = false from rfl]; decide)]
        have b1' : Bd 501 (trT u) := b2.1.add b2.2.2.2
        show (if (if trT u < 0 then -(trT u) else trT u) = 2 then fn__law_column [.d (tbD u)] s _ else MulOk (trT u) (trT u) ∧ AQ (.d (.tuple [.str "root", .int (trT u * trT u - 4)])) s)
        have hq : AQ (AV.d (toldD (lineOf colL u))) s := hq
        unfold lineOf at hq
        by_cases c : trT u * trT u - 4 = 0
        · rw [if_pos c] at hq
          rw [if_pos (abs_two.mpr c)]
          refine ⟨u, rfl, b2.le (by decide), rawL_ok d2 eu c, ?_⟩
          exact ⟨by simp, hq⟩
        · rw [if_neg c] at hq
          rw [if_neg (fun h => c (abs_two.mp h))]
          exact ⟨MulOk.bd b1' b1' (by decide), hq⟩
      · rw [eu, if_neg (by decide)] at hq
        rw [if_pos rfl]
        unfold aLcL
        refine ⟨rfl, rfl, ?_⟩
        rw [if_pos (by decide)]
        exact hq
  · rw [if_pos ck] at hq
    simp only [ck, decide_false, Bool.not_false, if_true, not_false_eq_true]
    exact hq
def N__law_pair : List Str := ["source", "way", "lead", "signs", "both", "sign", "by", "one", "found", "lap", "turn"]
def le__law_pair_1 : ATE := (aFn 2 fn__law_of (aCons (aVar 0) (aCons (aLst (aCons (aC (.int 1)) (aCons (aC (.int 1)) (aCons (aUn aNeg (aC (.int 1))) aNil)))) aNil)))
def lb__law_pair_2 : ATS := (aSeq (aSet 6 (aBin aSub (aFn 2 fn__law_pick (aCons (aVar 0) (aCons (aC (.int 7)) aNil))) (aC (.int 3))))
    (aDrop (aMt mApp (aVar 4) (aCons (aFn 2 fn__law_led (aCons (aVar 2) (aCons (aTup (aCons (aVar 5) (aCons (aBin aMul (aVar 5) (aVar 6)) (aCons (aC (.int 0)) (aCons (aVar 5) aNil))))) aNil))) aNil))))
def lb__law_pair_3 : ATS := (aSet 8 (aFn 2 fn__law_table_times (aCons (aVar 8) (aCons (aVar 7) aNil))))
def lb__law_pair_4 : ATS := (aSeq (aSet 8 (aTup (aCons (aVar 5) (aCons (aC (.int 0)) (aCons (aC (.int 0)) (aCons (aVar 5) aNil))))))
    (aSeq (aFor [9] (aRng1 (aCons (aFn 2 fn__law_pick (aCons (aVar 0) (aCons (aC (.int 4)) aNil))) aNil)) (aGName 9) lb__law_pair_3)
    (aDrop (aMt mApp (aVar 4) (aCons (aIf (aTest (aBin aEq (aFn 2 fn__law_pick (aCons (aVar 0) (aCons (aC (.int 2)) aNil))) (aC (.int 0)))) (aVar 8) (aFn 1 fn__law_table_undone (aCons (aVar 8) aNil))) aNil)))))
def t__law_pair : ATS := (aSeq (aPar 1 2 (aCons (aFn 2 fn__law_pick (aCons (aVar 0) (aCons (aC (.int 5)) aNil))) (aCons (aFn 2 fn__law_drawn_table (aCons (aVar 0) (aCons (aC (.int 3)) aNil))) aNil)))
    (aSeq (aSet 3 (aLc (aRng1 (aCons (aC (.int 2)) aNil)) (aGName 10) aYes le__law_pair_1 [10]))
    (aSeq (aIfS (aTest (aBin aLt (aVar 1) (aC (.int 2)))) (aSeq (aSet 4 (aLstM aNil))
    (aSeq (aFor [5, 6] (aItL (aVar 3)) (aGName 5) lb__law_pair_2)
    (aRet (aVar 4)))) aNext)
    (aSeq (aIfS (aTest (aBin aEq (aVar 1) (aC (.int 2)))) (aSeq (aPar 7 4 (aCons (aFn 2 fn__law_drawn_table (aCons (aVar 0) (aCons (aC (.int 4)) aNil))) (aCons (aLstM aNil) aNil)))
    (aSeq (aFor [5, 8, 9] (aItL (aVar 3)) (aGName 5) lb__law_pair_4)
    (aRet (aVar 4)))) aNext)
    (aRet (aLst (aCons (aFn 2 fn__law_drawn_table (aCons (aVar 0) (aCons (aC (.int 4)) aNil))) (aCons (aFn 2 fn__law_drawn_table (aCons (aVar 0) (aCons (aC (.int 4)) aNil))) aNil))))))))
theorem bd0 (k : Nat) : Bd k 0 := by unfold Bd; exact Nat.two_pow_pos k
def Sg (e : Int) : Prop := e = 1 ∨ e = -1
def fn__law_pair : AFn := fun avs s Q => ∃ S : Src, avs = [.src] ∧ s = some S ∧ ∀ (t u : T4) (S' : Src), detT t = 1 → detT u = 1 → Bt 60 t → Bt 60 u → Q (.d (.list [tbD t, tbD u])) (some S')
theorem led_det {l t : T4} (hl : detT l = 1) : detT (ledT l t) = detT t := by
  have hi : detT (invT l) = 1 := by
    obtain ⟨a, b, c, d⟩ := l
    simp only [detT] at hl
    simp only [invT, detT]; grind
  unfold ledT
  rw [det_mul, det_mul, hl, hi]; omega
theorem inv_det (t : T4) : detT (invT t) = detT t := by
  obtain ⟨a, b, c, d⟩ := t
  simp only [invT, detT]; grind
theorem pair_step1 (E : AEnds) (x1 x3 : D) (l : T4) (hl : detT l = 1) (hb : Bt 10 l) (S : Src) (acc ds : List D) (hacc : acc.length ≤ 1000000) (e : Int) (he : Sg e)
    (h : ∀ (t : T4) (S' : Src), detT t = 1 → Bt 60 t → aForL 1 [5, 6] (aGName 5) lb__law_pair_2 E ds ⟨[some .src, some (.d x1), some (.d (tbD l)), some (.d x3), some (.o 0), none, none, none, none, none, none], ⟨some S', [.l (acc ++ [tbD t])]⟩⟩) :
    aForL 1 [5, 6] (aGName 5) lb__law_pair_2 E (.int e :: ds) ⟨[some .src, some (.d x1), some (.d (tbD l)), some (.d x3), some (.o 0), none, none, none, none, none, none], ⟨some S, [.l acc]⟩⟩ := by
  unfold aForL
  unfold lb__law_pair_2
  walk_at "qs"
  refine ⟨S, 7, rfl, rfl, by decide, fun r S1 r1 r2 => ?_⟩
  walk_at "qs"
  have hbe : Bd 1 e := by unfold Bd; rcases he with rfl | rfl <;> decide
  have hby : Bd 3 (r - 3) := by unfold Bd; omega
  refine ⟨MulOk.bd hbe hby (by decide), ?_⟩
  refine ⟨l, (e, e * (r - 3), 0, e), rfl, hb.le (by decide), ⟨hbe.le (by decide), (hbe.mul hby).le (by decide), bd0 _, hbe.le (by decide)⟩, ?_⟩
  have hd : detT (e, e * (r - 3), 0, e) = 1 := by rcases he with rfl | rfl <;> simp [detT]
  have hB : Bt 4 (e, e * (r - 3), 0, e) := ⟨hbe.le (by decide), hbe.mul hby, bd0 _, hbe.le (by decide)⟩
  refine ⟨hacc, ?_⟩
  exact h _ S1 ((led_det hl).trans hd) (((hb.mul hB).mul hb.inv).le (by decide))
theorem pair_in (E : AEnds) (x1 x2 x3 : D) (e : Int) (y : T4) (hy : detT y = 1) (hby : Bt 13 y) (s : Option Src) (acc : List D) (n : Nat)
    (h : ∀ (t : T4), detT t = 1 → Bt n t → E.nx ⟨[some .src, some (.d x1), some (.d x2), some (.d x3), some (.o 0), some (.d (.int e)), none, some (.d (tbD y)), some (.d (tbD t)), none, none], ⟨s, [.l acc]⟩⟩) :
    ∀ (ds : List D) (t : T4) (k : Nat), detT t = 1 → Bt k t → k + 14 * ds.length = n → n ≤ 900 → aForL 1 [9] (aGName 9) lb__law_pair_3 E ds ⟨[some .src, some (.d x1), some (.d x2), some (.d x3), some (.o 0), some (.d (.int e)), none, some (.d (tbD y)), some (.d (tbD t)), none, none], ⟨s, [.l acc]⟩⟩ := by
  intro ds
  induction ds with
  | nil => intro t k ht hk hn _; exact h t ht (hk.le (by simp at hn; omega))
  | cons d ds ih =>
    intro t k ht hk hn hn9
    unfold aForL
    unfold lb__law_pair_3
    walk_at "qs"
    have hlen : k + 14 + 14 * ds.length = n := by simp only [List.length_cons] at hn; omega
    refine ⟨t, y, rfl, hk.le (by omega), hby.le (by decide), ?_⟩
    exact ih (mulT t y) (k + 14) (by rw [det_mul, ht, hy]; rfl) ((hk.mul hby).le (by omega)) hlen hn9
theorem pair_step2 (E : AEnds) (x1 x2 x3 : D) (y : T4) (hy : detT y = 1) (hby : Bt 13 y) (S : Src) (acc ds : List D) (hacc : acc.length ≤ 1000000) (e : Int) (he : Sg e)
    (h : ∀ (t : T4) (S' : Src), detT t = 1 → Bt 60 t → aForL 1 [5, 8, 9] (aGName 5) lb__law_pair_4 E ds ⟨[some .src, some (.d x1), some (.d x2), some (.d x3), some (.o 0), none, none, some (.d (tbD y)), none, none, none], ⟨some S', [.l (acc ++ [tbD t])]⟩⟩) :
    aForL 1 [5, 8, 9] (aGName 5) lb__law_pair_4 E (.int e :: ds) ⟨[some .src, some (.d x1), some (.d x2), some (.d x3), some (.o 0), none, none, some (.d (tbD y)), none, none, none], ⟨some S, [.l acc]⟩⟩ := by
  have hbe : Bd 1 e := by unfold Bd; rcases he with rfl | rfl <;> decide
  unfold aForL
  unfold lb__law_pair_4
  walk_at "qs"
  refine ⟨S, 4, rfl, rfl, by decide, fun r S1 r1 r2 => ?_⟩
  walk_at "qs"
  refine ⟨Rg.of (by omega) (by omega), ?_⟩
  refine pair_in _ x1 x2 x3 e y hy hby _ acc 43 (fun t ht hb => ?_) _ (e, 0, 0, e) (43 - 14 * (rngD 0 r.toNat).length) ?_ ?_ ?_ (by decide)
  · walk_at "qs"
    refine ⟨S1, 2, rfl, rfl, by decide, fun r S2 r1 r2 => ?_⟩
    walk_at "qs"
    by_cases c : r = 0
    · rw [if_pos c]
      refine ⟨hacc, ?_⟩
      exact h t S2 ht (hb.le (by decide))
    · rw [if_neg c]
      refine ⟨t, rfl, ?_⟩
      refine ⟨hacc, ?_⟩
      exact h (invT t) S2 ((inv_det t).trans ht) (hb.inv.le (by decide))
  · rcases he with rfl | rfl <;> decide
  · have : (rngD 0 r.toNat).length ≤ 3 := by rw [rngD_len]; omega
    exact ⟨hbe.le (by omega), bd0 _, bd0 _, hbe.le (by omega)⟩
  · have : (rngD 0 r.toNat).length ≤ 3 := by rw [rngD_len]; omega
    omega
theorem h__law_pair : ∀ avs s AQ, fn__law_pair avs s AQ → t__law_pair (endsA AQ) ⟨startA N__law_pair avs, ⟨s, []⟩⟩ := by
  rintro _ _ AQ ⟨S, rfl, rfl, hq⟩
  show t__law_pair (endsA AQ) ⟨[some .src, none, none, none, none, none, none, none, none, none, none], ⟨some S, []⟩⟩
  unfold t__law_pair
  walk_at "qs"
  refine ⟨S, 5, rfl, rfl, by decide, fun w S1 w1 w2 => ?_⟩
  walk_at "qs"
  refine ⟨S1, 3, rfl, rfl, by decide, fun l S2 hl hlb => ?_⟩
  walk_at "qs"
  refine ⟨Rg.of (by decide) (by decide), by rw [rng_2]; decide, ?_⟩
  have st : ∀ (i : Int) (S : Src) (K : Option D → Mm → Prop) (x1 x2 : D), (∀ (e : Int) S', Sg e → K (some (.int e)) ⟨some S', []⟩) → stepC (aGName 10) aYes le__law_pair_1 [some .src, some (.d x1), some (.d x2), none, none, none, none, none, none, none, none] (.int i) ⟨some S, []⟩ K := by
    intro i S K x1 x2 hK
    unfold stepC le__law_pair_1
    walk_at "qs"
    refine ⟨S, _, rfl, rfl, by decide, by decide, fun d hd S1 => ?_⟩
    simp only [List.mem_cons, List.not_mem_nil, or_false] at hd
    rcases hd with rfl | rfl | rfl
    · exact hK _ _ (.inl rfl)
    · exact hK _ _ (.inl rfl)
    · exact hK _ _ (.inr rfl)
  rw [rng_2]
  refine aLcL_step (st _ _ _ _ _ fun e1 S3 he1 => ?_)
  refine aLcL_step (st _ _ _ _ _ fun e2 S4 he2 => ?_)
  unfold aLcL
  have hB : ∀ n : Nat, n ≤ 20 → 1 + 3 * n ≤ 61 := fun n h => by omega
  walk_at "qs"
  by_cases c : w < 2
  · rw [if_pos c]
    refine pair_step1 _ _ _ l hl (hlb.le (by decide)) S4 [] _ (by decide) e1 he1 fun t S5 ht hbt => ?_
    refine pair_step1 _ _ _ l hl (hlb.le (by decide)) S5 _ _ (by simp) e2 he2 fun u S6 hu hbu => ?_
    unfold aForL
    walk_at "qs"
    exact hq t u S6 ht hu hbt hbu
  · rw [if_neg c]
    by_cases c2 : w = 2
    · rw [if_pos c2]
      refine ⟨S4, 4, rfl, rfl, by decide, fun y S5 hy hyb => ?_⟩
      refine pair_step2 _ _ _ _ y hy (hyb.le (by decide)) S5 [] _ (by decide) e1 he1 fun t S6 ht hbt => ?_
      refine pair_step2 _ _ _ _ y hy (hyb.le (by decide)) S6 _ _ (by simp) e2 he2 fun u S7 hu hbu => ?_
      unfold aForL
      walk_at "qs"
      exact hq t u S7 ht hu hbt hbu
    · rw [if_neg c2]
      refine ⟨S4, 4, rfl, rfl, by decide, fun t S5 ht hbt => ?_⟩
      refine ⟨S5, 4, rfl, rfl, by decide, fun u S6 hu hbu => ?_⟩
      exact ⟨by simp, hq t u S6 ht hu (hbt.le (by decide)) (hbu.le (by decide))⟩
def N_law : List Str := ["script", "source", "turn", "one", "other", "told", "triple", "k", "turned", "some", "column", "both", "lead", "late", "odd", "value", "u"]
def le_law_1 : ATE := (aTup (aCons (aVar 16) (aCons (aC (.int 1)) aNil)))
def lb_law_2 : ATS := (aSeq (aSet 11 (aAndV (aFn 2 fn__law_is_kept (aCons (aVar 3) (aCons (aVar 10) aNil))) (aFn 2 fn__law_is_kept (aCons (aVar 4) (aCons (aVar 10) aNil)))))
    (aIfS (aAnd (aTru (aVar 11)) (aOr (aTest (aBin aEq (aBin aIx (aVar 5) (aC (.int 0))) (aC (.str "none")))) (aTest (aBin aNe (aBin aMul (aBin aIx (aBin aIx (aVar 5) (aC (.int 1))) (aC (.int 0))) (aBin aIx (aVar 10) (aC (.int 1)))) (aBin aMul (aBin aIx (aBin aIx (aVar 5) (aC (.int 1))) (aC (.int 1))) (aBin aIx (aVar 10) (aC (.int 0)))))))) (aRet (aC (.bool false))) aNext))
def lb_law_3 : ATS := (aIfS (aTest (aBin aNe (aCall bRepr (aCons (aFn 1 fn_is_table (aCons (aVar 15) aNil)) aNil)) (aCall bRepr (aCons (aFn 1 fn__law_is_table (aCons (aVar 15) aNil)) aNil)))) (aRet (aC (.bool false))) aNext)
def le_law_4 : ATE := (aFn 1 fn_is_pair (aCons (aVar 15) aNil))
def rs_law_5 : ATS := (aSeq (aSet 14 (aLst (aCons (aVar 3) (aCons (aCall bList (aCons (aVar 3) aNil)) (aCons (aSlice (aVar 3) aNoPart (aPart (aC (.int 3)))) (aCons (aBin aAdd (aSlice (aVar 3) aNoPart (aPart (aC (.int 3)))) (aTup (aCons (aBin aAdd (aBin aIx (aVar 3) (aC (.int 3))) (aC (.int 1))) aNil))) (aCons (aTup (aCons (aC (.int 1)) (aCons (aC (.int 0)) (aCons (aC (.int 0)) (aCons (aC (.bool true)) aNil))))) (aCons (aC .none) (aCons (aTup (aCons (aVar 3) (aCons (aVar 4) aNil))) aNil)))))))))
    (aSeq (aFor [15] (aItL (aVar 14)) (aGName 15) lb_law_3)
    (aSeq (aSet 14 (aLst (aCons (aTup (aCons (aVar 3) (aCons (aVar 4) aNil))) (aCons (aLst (aCons (aVar 3) (aCons (aVar 4) aNil))) (aCons (aTup (aCons (aVar 3) aNil)) (aCons (aTup (aCons (aVar 3) (aCons (aSlice (aVar 3) aNoPart (aPart (aC (.int 3)))) aNil))) (aCons (aC .none) aNil)))))))
    (aIfS (aTest (aBin aNe (aLc (aItL (aVar 14)) (aGName 15) aYes le_law_4 [15]) (aBin aAdd (aLst (aCons (aC (.bool true)) aNil)) (aBin aRepL (aLst (aCons (aC (.bool false)) aNil)) (aC (.int 4)))))) (aRet (aC (.bool false))) aNext))))
def rs_law_6 : ATS := (aSeq (aSet 12 (aFn 2 fn__law_drawn_table (aCons (aVar 1) (aCons (aC (.int 2)) aNil))))
    (aSeq (aSet 13 (aFn 1 fn_line_told (aCons (aTup (aCons (aFn 2 fn__law_led (aCons (aVar 12) (aCons (aVar 3) aNil))) (aCons (aFn 2 fn__law_led (aCons (aVar 12) (aCons (aVar 4) aNil))) aNil))) aNil)))
    (aSeq (aIfS (aOr (aTest (aBin aNe (aBin aIx (aVar 13) (aC (.int 0))) (aBin aIx (aVar 5) (aC (.int 0))))) (aAnd (aTest (aBin aEq (aBin aIx (aVar 5) (aC (.int 0))) (aC (.str "root")))) (aTest (aBin aNe (aVar 13) (aVar 5))))) (aRet (aC (.bool false))) aNext)
    rs_law_5)))
def rs_law_7 : ATS := (aSeq (aIfS (aTest (aBin aInT (aBin aIx (aVar 5) (aC (.int 0))) (aTup (aCons (aC (.str "none")) (aCons (aC (.str "one")) aNil))))) (aSeq (aSet 9 (aBin aAdd (aLst (aCons (aTup (aCons (aC (.int 1)) (aCons (aC (.int 0)) aNil))) aNil)) (aLc (aRng2 (aCons (aUn aNeg (aC (.int 3))) (aCons (aC (.int 4)) aNil))) (aGName 16) aYes le_law_1 [16])))
    (aFor [10, 11] (aItL (aVar 9)) (aGName 10) lb_law_2)) aNext)
    rs_law_6)
def rs_law_8 : ATS := (aSeq (aIfS (aAnd (aTest (aBin aEq (aBin aIx (aVar 5) (aC (.int 0))) (aC (.str "root")))) (aTest (aBin aNe (aFn 2 fn__law_table_times (aCons (aVar 3) (aCons (aVar 4) aNil))) (aFn 2 fn__law_table_times (aCons (aVar 4) (aCons (aVar 3) aNil)))))) (aRet (aC (.bool false))) aNext)
    rs_law_7)
def rs_law_9 : ATS := (aSeq (aIfS (aAnd (aTest (aBin aEq (aBin aIx (aVar 5) (aC (.int 0))) (aC (.str "one")))) (aNot (aAnd (aTru (aFn 2 fn__law_is_kept (aCons (aVar 3) (aCons (aBin aIx (aVar 5) (aC (.int 1))) aNil)))) (aTru (aFn 2 fn__law_is_kept (aCons (aVar 4) (aCons (aBin aIx (aVar 5) (aC (.int 1))) aNil))))))) (aRet (aC (.bool false))) aNext)
    rs_law_8)
def rs_law_10 : ATS := (aSeq (aSet 7 (aFn 1 fn__law_k (aCons (aVar 6) aNil)))
    (aSeq (aSet 8 (aFn 2 fn__law_table_times (aCons (aFn 2 fn__law_table_times (aCons (aVar 3) (aCons (aVar 4) aNil))) (aCons (aFn 1 fn__law_table_undone (aCons (aFn 2 fn__law_table_times (aCons (aVar 4) (aCons (aVar 3) aNil))) aNil)) aNil))))
    (aSeq (aIfS (aOr (aTest (aBin aNe (aFn 1 fn_k_of (aCons (aVar 6) aNil)) (aVar 7))) (aTest (aBin aNe (aBin aAdd (aBin aIx (aVar 8) (aC (.int 0))) (aBin aIx (aVar 8) (aC (.int 3)))) (aVar 7)))) (aRet (aC (.bool false))) aNext)
    rs_law_9)))
def lb_law_11 : ATS := (aSeq (aAsg (aFn 1 fn__law_pair (aCons (aVar 1) aNil)) (aGLst 2 (aGCons (aGName 3) (aGCons (aGName 4) aGNil))))
    (aSeq (aPar 5 6 (aCons (aFn 1 fn_line_told (aCons (aTup (aCons (aVar 3) (aCons (aVar 4) aNil))) aNil)) (aCons (aFn 2 fn__law_triple (aCons (aVar 3) (aCons (aVar 4) aNil))) aNil)))
    (aSeq (aIfS (aOr (aTest (aBin aNe (aCall bRepr (aCons (aVar 5) aNil)) (aCall bRepr (aCons (aFn 2 fn__law_due (aCons (aVar 3) (aCons (aVar 4) aNil))) aNil)))) (aTest (aBin aNe (aCall bRepr (aCons (aFn 1 fn_traced (aCons (aTup (aCons (aVar 3) (aCons (aVar 4) aNil))) aNil)) aNil)) (aCall bRepr (aCons (aVar 6) aNil))))) (aRet (aC (.bool false))) aNext)
    rs_law_10)))
def t_law : ATS := (aSeq (aSet 1 (aFn 1 fn__law_source (aCons (aVar 0) aNil)))
    (aSeq (aFor [2, 3, 4, 5, 6, 7, 8, 9, 10, 11, 12, 13, 14, 15, 16] (aRng1 (aCons (aC (.int 5)) aNil)) (aGName 2) lb_law_11)
    (aSeq (aSet 5 (aLst (aCons (aFn 1 fn_line_told (aCons (aTup (aCons (aTup (aCons (aC (.int 1)) (aCons (aC (.int 1)) (aCons (aC (.int 0)) (aCons (aC (.int 1)) aNil))))) (aCons (aTup (aCons (aC (.int 1)) (aCons (aC (.int 5)) (aCons (aC (.int 0)) (aCons (aC (.int 1)) aNil))))) aNil))) aNil)) (aCons (aFn 1 fn_line_told (aCons (aTup (aCons (aTup (aCons (aC (.int 2)) (aCons (aC (.int 1)) (aCons (aC (.int 1)) (aCons (aC (.int 1)) aNil))))) (aCons (aTup (aCons (aC (.int 2)) (aCons (aC (.int 1)) (aCons (aC (.int 1)) (aCons (aC (.int 1)) aNil))))) aNil))) aNil)) aNil))))
    (aRet (aBin aEq (aCall bRepr (aCons (aVar 5) aNil)) (aCall bRepr (aCons (aLst (aCons (aTup (aCons (aC (.str "one")) (aCons (aTup (aCons (aC (.int 1)) (aCons (aC (.int 0)) aNil))) aNil))) (aCons (aTup (aCons (aC (.str "root")) (aCons (aC (.int 5)) aNil))) aNil))) aNil)))))))
def fn_law : AFn := lawFn
theorem nrm_bd {k : Nat} {c : Int × Int} (h : ¬(c.1 = 0 ∧ c.2 = 0)) (h1 : Bd k c.1) (h2 : Bd k c.2) : Bd k (nrm c).1 ∧ Bd k (nrm c).2 := by
  obtain ⟨x, y⟩ := c
  obtain ⟨e1, e2⟩ := nrm_mul h
  have h0 := nrmD_ne h
  simp only [] at h0 e1 e2 h1 h2
  have key : ∀ a b : Int, a = nrmD x y * b → Bd k a → Bd k b := by
    intro a b e hb
    unfold Bd at *
    have : b.natAbs ≤ a.natAbs := by
      rw [e, Int.natAbs_mul]
      exact Nat.le_mul_of_pos_left _ (by omega)
    omega
  exact ⟨key _ _ e1 h1, key _ _ e2 h2⟩
theorem col_bd {t : T4} (hb : Bt 60 t) (h1 : detT t = 1) (hE : isE t = false) (h : trT t * trT t - 4 = 0) : Bd 100 (colC t).1 ∧ Bd 100 (colC t).2 := by
  obtain ⟨a, b, c⟩ := tr_two h
  have hne := raw_ok h1 hE h
  unfold colC
  refine nrm_bd hne ?_ ?_ <;> rw [b]
  · have he : Bd 8 (sgT t) := by rcases c with c | c <;> rw [c] <;> exact Bd.lit
    unfold rawC
    split
    · exact hb.2.1.le (by decide)
    · exact (he.sub' hb.2.2.2).le (by decide)
  · have he : Bd 8 (sgT t) := by rcases c with c | c <;> rw [c] <;> exact Bd.lit
    unfold rawC
    split
    · exact (he.sub' hb.1).le (by decide)
    · exact hb.2.2.1.le (by decide)
def TBd : Told → Prop
  | .one c => Bd 200 c.1 ∧ Bd 200 c.2
  | .root n => Bd 200 n
  | _ => True
theorem LT_bd {t u : T4} (bt : Bt 60 t) (bu : Bt 60 u) (h1 : detT t = 1) (h2 : detT u = 1) : TBd (LTg colC t u) := by
  have one : ∀ v : T4, Bt 60 v → detT v = 1 → isE v = false → TBd (lineOf colC v) := by
    intro v hb hd hE
    unfold lineOf
    split
    · exact ⟨(col_bd hb hd hE ‹_›).1.le (by decide), (col_bd hb hd hE ‹_›).2.le (by decide)⟩
    · have b1 : Bd 61 (trT v) := hb.1.add hb.2.2.2
      exact ((b1.mul b1).sub' (Bd.lit (i := 4))).le (by decide)
  unfold LTg
  split
  · trivial
  · split
    · exact one t bt h1 ‹_›
    · split
      · exact one u bu h2 ‹_›
      · trivial
theorem ints_i {k : Nat} {i : Int} (h : Bd k i) (hk : k < 1900) : IntsB (.int i) := h.log_lt hk
theorem rep_told {T : Told} (h : TBd T) : RepOk (toldD T) := by
  refine RepOk.of ?_ ?_ ?_
  · cases T with
    | none => simp only [toldD, IntsB, IntsBs]; decide
    | every => simp only [toldD, IntsB, IntsBs]; decide
    | one c =>
      have h1 : IntsB (.int c.1) := ints_i h.1 (by decide)
      have h2 : IntsB (.int c.2) := ints_i h.2 (by decide)
      simp only [IntsB] at h1 h2
      simp only [toldD, clD, IntsB, IntsBs, and_true]
      exact ⟨by decide, h1, h2⟩
    | root n =>
      have h1 : IntsB (.int n) := ints_i h (by decide)
      simp only [IntsB] at h1
      simp only [toldD, IntsB, IntsBs, and_true]
      exact ⟨by decide, h1⟩
  · cases T <;> simp [toldD, clD, PyData.depth, PyData.depthAll]
  · cases T <;> simp [toldD, clD, PyData.bulk, PyData.bulkAll] <;> decide
theorem rep_tri {t : T3} (h : Bt3 1000 t) : RepOk (triD t) := by
  refine RepOk.of ?_ ?_ ?_
  · have h1 : IntsB (.int t.1) := ints_i h.1 (by decide)
    have h2 : IntsB (.int t.2.1) := ints_i h.2.1 (by decide)
    have h3 : IntsB (.int t.2.2) := ints_i h.2.2 (by decide)
    simp only [IntsB] at h1 h2 h3
    simp only [triD, IntsB, IntsBs, and_true]
    exact ⟨h1, h2, h3⟩
  · simp [triD, PyData.depth, PyData.depthAll]
  · simp [triD, PyData.bulk, PyData.bulkAll]
theorem told_0 (T : Told) : ∃ x r, toldD T = .tuple (.str x :: r) := by cases T <;> exact ⟨_, _, rfl⟩
/-- what the loop of small columns asks -/
def ColOk (t u : T4) (T : Told) (c : Int × Int) : Prop := keptT t c = true → keptT u c = true → T ≠ .none ∧ ∀ c0, T = .one c0 → c0.1 * c.2 = c0.2 * c.1
theorem col_loop (E : AEnds) (ns : List Int) (s : Option Src) (t u : T4) (T : Told) (bt : Bt 1000 t) (bu : Bt 1000 u) (hT : T = .none ∨ ∃ c0, T = .one c0) (hTb : TBd T)
    (h : ∀ a2 a6 a7 a8 a9, E.nx ⟨[some (.scr ns), some .src, a2, some (.d (tbD t)), some (.d (tbD u)), some (.d (toldD T)), a6, a7, a8, a9, none, none, none, none, none, none, none], ⟨s, []⟩⟩) :
    ∀ (cs : List (Int × Int)) (a2 a6 a7 a8 a9 : Option AV), (∀ c ∈ cs, ColOk t u T c ∧ Bd 8 c.1 ∧ Bd 8 c.2) →
    aForL 0 [10, 11] (aGName 10) lb_law_2 E (cs.map clD) ⟨[some (.scr ns), some .src, a2, some (.d (tbD t)), some (.d (tbD u)), some (.d (toldD T)), a6, a7, a8, a9, none, none, none, none, none, none, none], ⟨s, []⟩⟩ := by
  intro cs
  induction cs with
  | nil => intro a2 a6 a7 a8 a9 _; exact h ..
  | cons c cs ih =>
    intro a2 a6 a7 a8 a9 hc
    obtain ⟨hc0, hb1, hb2⟩ := hc c (List.mem_cons_self ..)
    have ih' := fun a2 a6 a7 a8 a9 => ih a2 a6 a7 a8 a9 fun c h => hc c (List.mem_cons_of_mem _ h)
    clear ih
    rw [List.map_cons]
    unfold aForL
    unfold lb_law_2
    walk_at "qs"
    refine ⟨t, c, rfl, bt, ⟨hb1.le (by decide), hb2.le (by decide)⟩, ?_⟩
    walk_at "qs"
    cases k1 : keptT t c
    · simp only [Bool.false_eq_true, if_false]
      exact ih' ..
    · simp only [if_true]
      refine ⟨u, c, rfl, bu, ⟨hb1.le (by decide), hb2.le (by decide)⟩, ?_⟩
      cases k2 : keptT u c
      · exact ih' ..
      · obtain ⟨n1, n2⟩ := hc0 k1 k2
        rcases hT with rfl | ⟨c0, rfl⟩
        · exact absurd rfl n1
        · have e := n2 c0 rfl
          obtain ⟨x0, y0⟩ := c0
          obtain ⟨x, y⟩ := c
          obtain ⟨b1, b2⟩ := hTb
          simp only [] at e b1 b2 hb1 hb2
          have s1 : ((("one" : Str) = "none") : Prop) = False := eq_false (by decide)
          simp only [toldD, clD]
          walk_at "qs"
          rw [if_neg (by rw [s1]; exact id)]
          refine ⟨MulOk.bd b1 hb2 (by decide), MulOk.bd b2 hb1 (by decide), ?_⟩
          rw [if_neg (by rw [e]; exact fun h => h rfl)]
          exact ih' ..
theorem odd_loop (E : AEnds) (ns : List Int) (s : Option Src) (t u : T4) (T : Told) (h : ∀ a2 a6 a7 a8 a9 a12 a13 a14, E.nx ⟨[some (.scr ns), some .src, a2, some (.d (tbD t)), some (.d (tbD u)), some (.d (toldD T)), a6, a7, a8, a9, none, none, a12, a13, a14, none, none], ⟨s, []⟩⟩) :
    ∀ (ds : List D) (a2 a6 a7 a8 a9 a12 a13 a14 : Option AV), (∀ d ∈ ds, SmallT d ∧ (∀ l, d = .tuple l → l.length < 1000) ∧ (∀ l, d = .tuple l → l.length = 4 → (∃ a b c e : Int, l = [.int a, .int b, .int c, .int e]) ∨ l = [.int 1, .int 0, .int 0, .bool true])) →
    aForL 0 [15] (aGName 15) lb_law_3 E ds ⟨[some (.scr ns), some .src, a2, some (.d (tbD t)), some (.d (tbD u)), some (.d (toldD T)), a6, a7, a8, a9, none, none, a12, a13, a14, none, none], ⟨s, []⟩⟩ := by
  have rb : ∀ b, RepOk (.bool b) := fun b => RepOk.of (by trivial) (by cases b <;> decide) (by cases b <;> decide)
  intro ds
  induction ds with
  | nil => intro a2 a6 a7 a8 a9 a12 a13 a14 _; exact h ..
  | cons d ds ih =>
    intro a2 a6 a7 a8 a9 a12 a13 a14 hd
    obtain ⟨h1, h2, h3⟩ := hd d (List.mem_cons_self ..)
    have ih' := fun a2 a6 a7 a8 a9 a12 a13 a14 => ih a2 a6 a7 a8 a9 a12 a13 a14 fun c h => hd c (List.mem_cons_of_mem _ h)
    clear ih
    unfold aForL
    unfold lb_law_3
    walk_at "qs"
    refine ⟨d, rfl, h1, h2, ?_⟩
    walk_at "qs"
    refine ⟨rb _, d, rfl, h1, h3, ?_⟩
    walk_at "qs"
    refine ⟨rb _, ?_⟩
    rw [if_neg (fun h => h trivial)]
    exact ih' ..
theorem tb_small {t : T4} (h : Bt 1000 t) : SmallT (tbD t) := by
  rintro a b c e hd
  obtain ⟨p, q, r, v⟩ := t
  simp only [tbD, PyData.tuple.injEq, List.cons.injEq, PyData.int.injEq, and_true] at hd
  obtain ⟨rfl, rfl, rfl, rfl⟩ := hd
  exact h
theorem tb_four (t : T4) : ∀ l, tbD t = .tuple l → l.length = 4 → (∃ a b c e : Int, l = [.int a, .int b, .int c, .int e]) ∨ l = [.int 1, .int 0, .int 0, .bool true] := by
  rintro l hd _
  obtain ⟨p, q, r, v⟩ := t
  simp only [tbD, PyData.tuple.injEq] at hd
  exact .inl ⟨_, _, _, _, hd.symm⟩
theorem isTb_tb (t : T4) : isTb (tbD t) = decide (detT t = 1) := rfl
theorem L5 (E : AEnds) (ns : List Int) (s : Option Src) (t u : T4) (T : Told) (bt : Bt 60 t) (bu : Bt 60 u) (h1 : detT t = 1) (h2 : detT u = 1) (h : ∀ a2 a6 a7 a8 a9 a12 a13 a14, E.nx ⟨[some (.scr ns), some .src, a2, some (.d (tbD t)), some (.d (tbD u)), some (.d (toldD T)), a6, a7, a8, a9, none, none, a12, a13, a14, none, none], ⟨s, []⟩⟩)
    (a2 a6 a7 a8 a9 a12 a13 a14 : Option AV) : rs_law_5 E ⟨[some (.scr ns), some .src, a2, some (.d (tbD t)), some (.d (tbD u)), some (.d (toldD T)), a6, a7, a8, a9, none, none, a12, a13, a14, none, none], ⟨s, []⟩⟩ := by
  unfold rs_law_5
  obtain ⟨p, q, r, v⟩ := t
  unfold tbD
  walk_at "qs"
  have ec : cutD [PyData.int p, PyData.int q, PyData.int r, PyData.int v] none (some 3) = [PyData.int p, .int q, .int r] := rfl
  rw [ec]
  refine ⟨by rw [sizeLine_eq]; simp, ?_⟩
  refine odd_loop _ ns s (p, q, r, v) u T (fun a2 a6 a7 a8 a9 a12 a13 a14 => ?_) _ _ _ _ _ _ _ _ _ ?_
  · unfold tbD
    walk_at "qs"
    rw [ec]
    have st : ∀ (d : D) (x3 x4 x5 x14 : D) (K : Option D → Mm → Prop), (∀ a b, d = .tuple [a, b] → SmallT a ∧ SmallT b ∧ (∀ ds, a = .tuple ds → ds.length < 1000) ∧ (∀ ds, b = .tuple ds → ds.length < 1000)) → K (some (.bool (isPr d))) ⟨s, []⟩ →
        stepC (aGName 15) aYes le_law_4 [some (.scr ns), some .src, a2, some (.d x3), some (.d x4), some (.d x5), a6, a7, a8, a9, none, none, a12, a13, some (.d x14), none, none] d ⟨s, []⟩ K := by
      intro d x3 x4 x5 x14 K hd hK
      unfold stepC le_law_4
      walk_at "qs"
      exact ⟨d, rfl, hd, hK⟩
    have sp : SmallT (tbD (p, q, r, v)) := tb_small (bt.le (by decide))
    have su : SmallT (tbD u) := tb_small (bu.le (by decide))
    have l3 : ∀ (t : T4) (ds : List D), tbD t = .tuple ds → ds.length < 1000 := by
      rintro t ds h; cases h; simp
    have nt : ∀ {a b : D} {l : List D}, l.length ≠ 2 → PyData.tuple l = PyData.tuple [a, b] → False := by
      rintro a b l hl h; cases h; exact hl rfl
    refine aLcL_step (st _ _ _ _ _ _ (fun a b h => ?_) ?_)
    · cases h
      exact ⟨sp, su, l3 (p, q, r, v), l3 u⟩
    rw [show isPr (.tuple [.tuple [.int p, .int q, .int r, .int v], .tuple [.int u.1, .int u.2.1, .int u.2.2.1, .int u.2.2.2]]) = (isTb (tbD (p, q, r, v)) && isTb (tbD u)) from rfl, isTb_tb, isTb_tb, h1, h2]
    refine aLcL_step (st _ _ _ _ _ _ (fun a b h => nomatch h) ?_)
    rw [show isPr (.list [.tuple [.int p, .int q, .int r, .int v], .tuple [.int u.1, .int u.2.1, .int u.2.2.1, .int u.2.2.2]]) = false from rfl]
    refine aLcL_step (st _ _ _ _ _ _ (fun a b h => nomatch h) ?_)
    rw [show isPr (.tuple [.tuple [.int p, .int q, .int r, .int v]]) = false from rfl]
    refine aLcL_step (st _ _ _ _ _ _ (fun a b h => ?_) ?_)
    · cases h
      refine ⟨sp, ?_, l3 (p, q, r, v), ?_⟩
      · rintro a b c e hd; cases hd
      · rintro ds h; cases h; simp
    rw [show isPr (.tuple [.tuple [.int p, .int q, .int r, .int v], .tuple [.int p, .int q, .int r]]) = (isTb (tbD (p, q, r, v)) && false) from rfl, Bool.and_false]
    refine aLcL_step (st _ _ _ _ _ _ (fun a b h => nomatch h) ?_)
    rw [show isPr .none = false from rfl]
    unfold aLcL
    refine ⟨by decide, by decide, by rw [sizeLine_eq]; decide, by rw [sizeLine_eq]; decide, by decide, by decide, ?_⟩
    rw [if_neg (by decide)]
    exact h ..
  · intro d hd
    simp only [List.mem_cons, List.not_mem_nil, or_false] at hd
    have sp : SmallT (tbD (p, q, r, v)) := tb_small (bt.le (by decide))
    have b1 : Bd 1000 (v + 1) := (Bd.add' bt.2.2.2 (Bd.lit (i := 1))).le (by decide)
    rcases hd with rfl | rfl | rfl | rfl | rfl | rfl | rfl
    · exact ⟨sp, (by rintro l h; cases h; simp), tb_four (p, q, r, v)⟩
    · exact ⟨(fun a b c e hd => nomatch hd), (fun l h => nomatch h), (fun l h => nomatch h)⟩
    · exact ⟨(fun a b c e hd => nomatch hd), (by rintro l h; cases h; simp), by rintro l h hl; cases h; exact absurd hl (by simp)⟩
    · refine ⟨?_, (by rintro l h; cases h; simp), by rintro l h hl; cases h; exact .inl ⟨_, _, _, _, rfl⟩⟩
      rintro a b c e hd
      cases hd
      exact ⟨bt.1.le (by decide), bt.2.1.le (by decide), bt.2.2.1.le (by decide), b1⟩
    · exact ⟨(fun a b c e hd => nomatch hd), (by rintro l h; cases h; simp), by rintro l h hl; cases h; exact .inr rfl⟩
    · exact ⟨(fun a b c e hd => nomatch hd), (fun l h => nomatch h), (fun l h => nomatch h)⟩
    · exact ⟨(fun a b c e hd => nomatch hd), (by rintro l h; cases h; simp), by rintro l h hl; cases h; exact absurd hl (by simp)⟩
theorem shaped_told (T : Told) : SeqAt.shaped (toldD T) = true := by
  cases T <;> simp [toldD, clD, SeqAt.shaped, PyData.canLay0, PyData.canLayAll0, PyData.depth, PyData.depthAll] <;> decide +kernel
theorem s_n_r : ((("none" : Str) = "root") : Prop) = False := eq_false (by decide)
theorem s_e_r : ((("every" : Str) = "root") : Prop) = False := eq_false (by decide)
theorem s_o_r : ((("one" : Str) = "root") : Prop) = False := eq_false (by decide)
theorem L6 (E : AEnds) (ns : List Int) (S : Src) (t u : T4) (bt : Bt 60 t) (bu : Bt 60 u) (h1 : detT t = 1) (h2 : detT u = 1) (h : ∀ a2 a6 a7 a8 a9 a12 a13 a14 S, E.nx ⟨[some (.scr ns), some .src, a2, some (.d (tbD t)), some (.d (tbD u)), some (.d (toldD (LTg colC t u))), a6, a7, a8, a9, none, none, a12, a13, a14, none, none], ⟨some S, []⟩⟩)
    (a2 a6 a7 a8 a9 a12 a13 a14 : Option AV) : rs_law_6 E ⟨[some (.scr ns), some .src, a2, some (.d (tbD t)), some (.d (tbD u)), some (.d (toldD (LTg colC t u))), a6, a7, a8, a9, none, none, a12, a13, a14, none, none], ⟨some S, []⟩⟩ := by
  unfold rs_law_6
  walk_at "qs"
  refine ⟨S, 2, rfl, rfl, by decide, fun l S1 hl hlb => ?_⟩
  walk_at "qs"
  refine ⟨l, t, rfl, hlb.le (by decide), bt.le (by decide), ?_⟩
  refine ⟨l, u, rfl, hlb.le (by decide), bu.le (by decide), ?_⟩
  have bl : ∀ t, Bt 60 t → Bt 76 (ledT l t) := fun t h => ((hlb.mul h).mul hlb.inv).le (by decide)
  refine ⟨by simp, ledT l t, ledT l u, rfl, ⟨(bl t bt).le (by decide), (bl u bu).le (by decide)⟩, ⟨(led_det hl).trans h1, (led_det hl).trans h2⟩, ?_⟩
  obtain ⟨e1, e2, e3, e4⟩ := LT_led hl t u
  have sh := shaped_told
  cases hT : LTg colC t u with
  | none =>
    rw [e1 hT]
    rw [hT] at h
    simp only [toldD] at h ⊢
    walk_at "qs"
    rw [if_neg (fun h => h trivial), if_neg (by rw [s_n_r]; exact id)]
    exact L5 E ns _ t u .none bt bu h1 h2 (fun _ _ _ _ _ _ _ _ => h ..) ..
  | every =>
    rw [e2 hT]
    rw [hT] at h
    simp only [toldD] at h ⊢
    walk_at "qs"
    rw [if_neg (fun h => h trivial), if_neg (by rw [s_e_r]; exact id)]
    exact L5 E ns _ t u .every bt bu h1 h2 (fun _ _ _ _ _ _ _ _ => h ..) ..
  | one c =>
    obtain ⟨c', e⟩ := e3 c hT
    rw [e]
    rw [hT] at h
    simp only [toldD] at h ⊢
    walk_at "qs"
    rw [if_neg (fun h => h trivial), if_neg (by rw [s_o_r]; exact id)]
    exact L5 E ns _ t u (.one c) bt bu h1 h2 (fun _ _ _ _ _ _ _ _ => h ..) ..
  | root n =>
    rw [e4 n hT]
    rw [hT] at h
    have sr := sh (.root n)
    simp only [toldD] at h sr ⊢
    walk_at "qs"
    rw [if_neg (fun h => h trivial)]
    refine ⟨sr, sr, ?_⟩
    rw [if_neg (by rw [show PyData.eqv (.tuple [.str "root", .int n]) (.tuple [.str "root", .int n]) = true by simp [PyData.eqv, PyData.eqvAll]]; decide)]
    exact L5 E ns _ t u (.root n) bt bu h1 h2 (fun _ _ _ _ _ _ _ _ => h ..) ..
theorem L7 (E : AEnds) (ns : List Int) (S : Src) (t u : T4) (bt : Bt 60 t) (bu : Bt 60 u) (h1 : detT t = 1) (h2 : detT u = 1) (h : ∀ a2 a6 a7 a8 a9 a12 a13 a14 S, E.nx ⟨[some (.scr ns), some .src, a2, some (.d (tbD t)), some (.d (tbD u)), some (.d (toldD (LTg colC t u))), a6, a7, a8, a9, none, none, a12, a13, a14, none, none], ⟨some S, []⟩⟩)
    (a2 a6 a7 a8 a9 : Option AV) : rs_law_7 E ⟨[some (.scr ns), some .src, a2, some (.d (tbD t)), some (.d (tbD u)), some (.d (toldD (LTg colC t u))), a6, a7, a8, a9, none, none, none, none, none, none, none], ⟨some S, []⟩⟩ := by
  unfold rs_law_7
  have go : ∀ (T : Told), T = LTg colC t u → (T = .none ∨ ∃ c0, T = .one c0) → ∀ (a2 a6 a7 a8 a9 : Option AV) (E : AEnds), (∀ a2 a6 a7 a8 a9, E.nx ⟨[some (.scr ns), some .src, a2, some (.d (tbD t)), some (.d (tbD u)), some (.d (toldD T)), a6, a7, a8, a9, none, none, none, none, none, none, none], ⟨some S, []⟩⟩) →
      aSeq (aSet 9 (aBin aAdd (aLst (aCons (aTup (aCons (aC (.int 1)) (aCons (aC (.int 0)) aNil))) aNil)) (aLc (aRng2 (aCons (aUn aNeg (aC (.int 3))) (aCons (aC (.int 4)) aNil))) (aGName 16) aYes le_law_1 [16])))
    (aFor [10, 11] (aItL (aVar 9)) (aGName 10) lb_law_2) E ⟨[some (.scr ns), some .src, a2, some (.d (tbD t)), some (.d (tbD u)), some (.d (toldD T)), a6, a7, a8, a9, none, none, none, none, none, none, none], ⟨some S, []⟩⟩ := by
    intro T hT hk a2 a6 a7 a8 a9 E hrs
    walk_at "qs"
    refine ⟨Rg.of (by decide) (by decide), Rg.of (by decide) (by decide), by decide, ?_⟩
    rw [show rngD (-3) (Int.toNat (4 - -3)) = ([-3, -2, -1, 0, 1, 2, 3] : List Int).map PyData.int from rfl]
    refine aLcL_all PyData.int (fun i => .tuple [.int i, .int 1]) (fun i _ K hK => ?_) ?_
    · unfold stepC le_law_1
      walk_at "qs"
      exact hK
    refine ⟨by rw [sizeLine_eq]; decide, ?_⟩
    have hcs : ∀ c ∈ ([(1, 0), (-3, 1), (-2, 1), (-1, 1), (0, 1), (1, 1), (2, 1), (3, 1)] : List (Int × Int)), ColOk t u T c ∧ Bd 8 c.1 ∧ Bd 8 c.2 := by
      intro c hc
      have hne : ¬(c.1 = 0 ∧ c.2 = 0) ∧ Bd 8 c.1 ∧ Bd 8 c.2 := by
        simp only [List.mem_cons, List.not_mem_nil, or_false] at hc
        rcases hc with rfl | rfl | rfl | rfl | rfl | rfl | rfl | rfl <;> exact ⟨by decide, Bd.lit, Bd.lit⟩
      refine ⟨?_, hne.2⟩
      intro k1 k2
      have w1 := (kept_iff t c.1 c.2).mp k1
      have w2 := (kept_iff u c.1 c.2).mp k2
      refine ⟨fun e => ?_, fun c0 e => ?_⟩
      · rw [hT] at e
        exact LT_none h1 h2 e hne.1 w1 w2
      · rw [hT] at e
        exact (LT_one h1 h2 e).2 _ _ w1 w2
    have hb : TBd T := by rw [hT]; exact LT_bd bt bu h1 h2
    refine col_loop _ ns _ t u T (bt.le (by decide)) (bu.le (by decide)) hk hb (fun a2 a6 a7 a8 a9 => ?_) _ _ _ _ _ _ hcs
    exact hrs ..
  have six := fun a2 a6 a7 a8 a9 => L6 E ns S t u bt bu h1 h2 h a2 a6 a7 a8 a9 none none none
  have tst : ∀ (T : Told) (b : Bool) (K : Bool → Mm → Prop) (a2 a6 a7 a8 a9 : Option AV), (([PyData.str "none", .str "one"].any fun z => PyData.eqv z (match toldD T with | .tuple (d :: _) => d | _ => .none)) = b) → K b ⟨some S, []⟩ →
      aTest (aBin aInT (aBin aIx (aVar 5) (aC (.int 0))) (aTup (aCons (aC (.str "none")) (aCons (aC (.str "one")) aNil)))) ⟨[some (.scr ns), some .src, a2, some (.d (tbD t)), some (.d (tbD u)), some (.d (toldD T)), a6, a7, a8, a9, none, none, none, none, none, none, none], ⟨some S, []⟩⟩ K := by
    intro T b K a2 a6 a7 a8 a9 hb hK
    cases T <;> simp only [toldD] at hb ⊢ <;> walk_at "qs" <;> refine ⟨by decide +kernel, by decide +kernel, ?_⟩ <;> (simp only [List.any_cons, List.any_nil] at hb; simp only [List.any_cons, List.any_nil]; rw [hb]; exact hK)
  rw [aSeq_ap, aIfS_ap]
  cases hT : LTg colC t u with
  | none =>
    rw [hT] at six
    refine tst .none true _ _ _ _ _ _ (by decide +kernel) ?_
    rw [if_pos rfl]
    exact go .none hT.symm (.inl rfl) _ _ _ _ _ _ six
  | every =>
    rw [hT] at six
    refine tst .every false _ _ _ _ _ _ (by decide +kernel) ?_
    rw [if_neg (by decide), aNext_ap]
    exact six ..
  | one c =>
    rw [hT] at six
    refine tst (.one c) true _ _ _ _ _ _ (by show ([PyData.str "none", .str "one"].any fun z => PyData.eqv z (.str "one")) = true; decide +kernel) ?_
    rw [if_pos rfl]
    exact go (.one c) hT.symm (.inr ⟨c, rfl⟩) _ _ _ _ _ _ six
  | root n =>
    rw [hT] at six
    refine tst (.root n) false _ _ _ _ _ _ (by show ([PyData.str "none", .str "one"].any fun z => PyData.eqv z (.str "root")) = false; decide +kernel) ?_
    rw [if_neg (by decide), aNext_ap]
    exact six ..
theorem s_o_o : ((("one" : Str) = "one") : Prop) = True := eq_true rfl
theorem s_r_r : ((("root" : Str) = "root") : Prop) = True := eq_true rfl
theorem s_n_o : ((("none" : Str) = "one") : Prop) = False := eq_false (by decide)
theorem s_e_o : ((("every" : Str) = "one") : Prop) = False := eq_false (by decide)
theorem s_r_o : ((("root" : Str) = "one") : Prop) = False := eq_false (by decide)
theorem L8 (E : AEnds) (ns : List Int) (S : Src) (t u : T4) (bt : Bt 60 t) (bu : Bt 60 u) (h1 : detT t = 1) (h2 : detT u = 1) (h : ∀ a2 a6 a7 a8 a9 a12 a13 a14 S, E.nx ⟨[some (.scr ns), some .src, a2, some (.d (tbD t)), some (.d (tbD u)), some (.d (toldD (LTg colC t u))), a6, a7, a8, a9, none, none, a12, a13, a14, none, none], ⟨some S, []⟩⟩)
    (a2 a6 a7 a8 a9 : Option AV) : rs_law_8 E ⟨[some (.scr ns), some .src, a2, some (.d (tbD t)), some (.d (tbD u)), some (.d (toldD (LTg colC t u))), a6, a7, a8, a9, none, none, none, none, none, none, none], ⟨some S, []⟩⟩ := by
  have sev := fun a2 a6 a7 a8 a9 => L7 E ns S t u bt bu h1 h2 h a2 a6 a7 a8 a9
  unfold rs_law_8
  rw [aSeq_ap]
  cases hT : LTg colC t u with
  | none =>
    rw [hT] at sev
    simp only [toldD] at sev ⊢
    walk_at "qs"
    rw [if_neg (by rw [s_n_r]; exact id)]
    exact sev ..
  | every =>
    rw [hT] at sev
    simp only [toldD] at sev ⊢
    walk_at "qs"
    rw [if_neg (by rw [s_e_r]; exact id)]
    exact sev ..
  | one c =>
    rw [hT] at sev
    simp only [toldD] at sev ⊢
    walk_at "qs"
    rw [if_neg (by rw [s_o_r]; exact id)]
    exact sev ..
  | root n =>
    have e := LT_root h1 h2 hT
    rw [hT] at sev
    simp only [toldD] at sev ⊢
    walk_at "qs"
    refine ⟨t, u, rfl, bt.le (by decide), bu.le (by decide), ?_⟩
    refine ⟨u, t, rfl, bu.le (by decide), bt.le (by decide), ?_⟩
    rw [e]
    show SeqAt.shaped (tbD (mulT u t)) = true ∧ SeqAt.shaped (tbD (mulT u t)) = true ∧ _
    refine ⟨rfl, rfl, ?_⟩
    rw [eqv_tb]
    simp only [decide_true, Bool.not_true, Bool.false_eq_true, if_false]
    exact sev ..
theorem L9 (E : AEnds) (ns : List Int) (S : Src) (t u : T4) (bt : Bt 60 t) (bu : Bt 60 u) (h1 : detT t = 1) (h2 : detT u = 1) (h : ∀ a2 a6 a7 a8 a9 a12 a13 a14 S, E.nx ⟨[some (.scr ns), some .src, a2, some (.d (tbD t)), some (.d (tbD u)), some (.d (toldD (LTg colC t u))), a6, a7, a8, a9, none, none, a12, a13, a14, none, none], ⟨some S, []⟩⟩)
    (a2 a6 a7 a8 a9 : Option AV) : rs_law_9 E ⟨[some (.scr ns), some .src, a2, some (.d (tbD t)), some (.d (tbD u)), some (.d (toldD (LTg colC t u))), a6, a7, a8, a9, none, none, none, none, none, none, none], ⟨some S, []⟩⟩ := by
  have sev := fun a2 a6 a7 a8 a9 => L8 E ns S t u bt bu h1 h2 h a2 a6 a7 a8 a9
  unfold rs_law_9
  rw [aSeq_ap]
  cases hT : LTg colC t u with
  | none =>
    rw [hT] at sev
    simp only [toldD] at sev ⊢
    walk_at "qs"
    rw [if_neg (by rw [s_n_o]; exact id)]
    exact sev ..
  | every =>
    rw [hT] at sev
    simp only [toldD] at sev ⊢
    walk_at "qs"
    rw [if_neg (by rw [s_e_o]; exact id)]
    exact sev ..
  | root n =>
    rw [hT] at sev
    simp only [toldD] at sev ⊢
    walk_at "qs"
    rw [if_neg (by rw [s_r_o]; exact id)]
    exact sev ..
  | one c =>
    obtain ⟨⟨w1, w2⟩, _⟩ := LT_one h1 h2 hT
    have k1 : keptT t c = true := (kept_iff t c.1 c.2).mpr w1
    have k2 : keptT u c = true := (kept_iff u c.1 c.2).mpr w2
    have hb : TBd (.one c) := hT ▸ LT_bd bt bu h1 h2
    rw [hT] at sev
    simp only [toldD] at sev ⊢
    walk_at "qs"
    refine ⟨t, c, rfl, bt.le (by decide), ⟨hb.1.le (by decide), hb.2.le (by decide)⟩, ?_⟩
    rw [k1]
    refine ⟨u, c, rfl, bu.le (by decide), ⟨hb.1.le (by decide), hb.2.le (by decide)⟩, ?_⟩
    rw [k2]
    exact sev ..
theorem L10 (E : AEnds) (ns : List Int) (S : Src) (t u : T4) (bt : Bt 60 t) (bu : Bt 60 u) (h1 : detT t = 1) (h2 : detT u = 1) (h : ∀ a2 a6 a7 a8 a9 a12 a13 a14 S, E.nx ⟨[some (.scr ns), some .src, a2, some (.d (tbD t)), some (.d (tbD u)), some (.d (toldD (LTg colC t u))), a6, a7, a8, a9, none, none, a12, a13, a14, none, none], ⟨some S, []⟩⟩)
    (a2 : Option AV) : rs_law_10 E ⟨[some (.scr ns), some .src, a2, some (.d (tbD t)), some (.d (tbD u)), some (.d (toldD (LTg colC t u))), some (.d (triD (trM t u))), none, none, none, none, none, none, none, none, none, none], ⟨some S, []⟩⟩ := by
  have sev := fun a2 a6 a7 a8 a9 => L9 E ns S t u bt bu h1 h2 h a2 a6 a7 a8 a9
  have hk := k_comm t u h1 h2
  have b3 := Bt3.of bt bu
  unfold rs_law_10
  walk_at "qs"
  refine ⟨trM t u, rfl, b3.le (by decide), ?_⟩
  refine ⟨t, u, rfl, bt.le (by decide), bu.le (by decide), ?_⟩
  refine ⟨u, t, rfl, bu.le (by decide), bt.le (by decide), ?_⟩
  refine ⟨rfl, mulT u t, rfl, ?_⟩
  refine ⟨rfl, mulT t u, invT (mulT u t), rfl, (bt.mul bu).le (by decide), (bu.mul bt).inv.le (by decide), ?_⟩
  refine ⟨trM t u, rfl, b3.le (by decide), ?_⟩
  generalize mulT (mulT t u) (invT (mulT u t)) = W at *
  obtain ⟨w1, w2, w3, w4⟩ := W
  simp only [trT] at hk
  show (if ¬ kT3 (trM t u) = kT3 (trM t u) then _ else if ¬ w1 + w4 = kT3 (trM t u) then _ else _)
  rw [if_neg (fun h => h rfl), hk, if_neg (fun h => h rfl)]
  exact sev ..
theorem turn_loop (E : AEnds) (ns : List Int) (h : ∀ a2 a3 a4 a5 a6 a7 a8 a9 a12 a13 a14 S, E.nx ⟨[some (.scr ns), some .src, a2, a3, a4, a5, a6, a7, a8, a9, none, none, a12, a13, a14, none, none], ⟨some S, []⟩⟩) : ∀ (ds : List D) (S : Src),
    aForL 0 [2, 3, 4, 5, 6, 7, 8, 9, 10, 11, 12, 13, 14, 15, 16] (aGName 2) lb_law_11 E ds ⟨[some (.scr ns), some .src, none, none, none, none, none, none, none, none, none, none, none, none, none, none, none], ⟨some S, []⟩⟩ := by
  intro ds
  induction ds with
  | nil => intro S; exact h ..
  | cons d ds ih =>
    intro S
    unfold aForL
    unfold lb_law_11
    walk_at "qs"
    refine ⟨S, rfl, rfl, fun t u S1 h1 h2 bt bu => ?_⟩
    walk_at "qs"
    refine ⟨t, u, rfl, ⟨bt.le (by decide), bu.le (by decide)⟩, ⟨h1, h2⟩, ?_⟩
    refine ⟨t, u, rfl, bt.le (by decide), bu.le (by decide), ?_⟩
    have hb := LT_bd bt bu h1 h2
    have b3 := Bt3.of bt bu
    have rt := rep_told hb
    have r3 := rep_tri (b3.le (by decide) : Bt3 1000 _)
    show RepOk (toldD (LTg colC t u)) ∧ _
    refine ⟨rt, t, u, rfl, ⟨bt.le (by decide), bu.le (by decide)⟩, ⟨h1, h2⟩, ?_⟩
    rw [← LT_eq h1 h2]
    refine ⟨rt, ?_⟩
    rw [if_neg (fun h => h rfl)]
    refine ⟨t, u, rfl, bt.le (by decide), bu.le (by decide), ?_⟩
    refine ⟨r3, r3, ?_⟩
    rw [if_neg (fun h => h rfl)]
    refine L10 _ ns S1 t u bt bu h1 h2 (fun a2 a6 a7 a8 a9 a12 a13 a14 S => ?_) _
    exact ih S
theorem h_law : ∀ avs s AQ, fn_law avs s AQ → t_law (endsA AQ) ⟨startA N_law avs, ⟨s, []⟩⟩ := by
  rintro _ _ AQ ⟨ns, rfl, rfl, hn, hq⟩
  show t_law (endsA AQ) ⟨[some (.scr ns), none, none, none, none, none, none, none, none, none, none, none, none, none, none, none, none], ⟨none, []⟩⟩
  unfold t_law
  walk_at "qs"
  refine ⟨ns, rfl, rfl, hn, fun S => ?_⟩
  walk_at "qs"
  refine ⟨Rg.of (by decide) (by decide), ?_⟩
  refine turn_loop _ ns (fun a2 a3 a4 a5 a6 a7 a8 a9 a12 a13 a14 S => ?_) _ S
  walk_at "qs"
  have b0 : ∀ b, (b = 0 ∨ b = 1 ∨ b = 2 ∨ b = 5) → Bd 500 b := by
    intro b hb; rcases hb with rfl | rfl | rfl | rfl <;> exact Bd.le (a := 8) Bd.lit (by decide)
  refine ⟨(1, 1, 0, 1), (1, 5, 0, 1), rfl, ⟨⟨b0 _ (by simp), b0 _ (by simp), b0 _ (by simp), b0 _ (by simp)⟩, ⟨b0 _ (by simp), b0 _ (by simp), b0 _ (by simp), b0 _ (by simp)⟩⟩, ⟨rfl, rfl⟩, ?_⟩
  refine ⟨(2, 1, 1, 1), (2, 1, 1, 1), rfl, ⟨⟨b0 _ (by simp), b0 _ (by simp), b0 _ (by simp), b0 _ (by simp)⟩, ⟨b0 _ (by simp), b0 _ (by simp), b0 _ (by simp), b0 _ (by simp)⟩⟩, ⟨rfl, rfl⟩, ?_⟩
  have e1 : LTg colC (1, 1, 0, 1) (1, 5, 0, 1) = .one (1, 0) := by rfl
  have e2 : LTg colC (2, 1, 1, 1) (2, 1, 1, 1) = .root 5 := by rfl
  rw [e1, e2]
  simp only [toldD, clD]
  walk_at "qs"
  have r : RepOk (.list [.tuple [.str "one", .tuple [.int 1, .int 0]], .tuple [.str "root", .int 5]]) := RepOk.of (by simp only [IntsB, IntsBs]; decide) (by decide) (by decide)
  exact ⟨r, r, hq _⟩
theorem eachAt {K : PySem.W.Frag} {h : Heap} {mg : Str → Option Value} {tE t1 t2 : Addr} {u1 u2 u3 u4 v1 v2 v3 v4 : _} {oE o1 o2 : Option Addr} {nE n1 n2 : Nat} {sE s1 s2 : Array (Option Value)} (X : K.In h) (G : h.Ns mainGlobals mg)
    (kc : PySem.W.nsIn K mainGlobals "EACH_ONE" = some (some (.ref tE))) (lE : K.lookup tE = some ⟨.type "tuple", oE, .seq #[.ref t1, .ref t2] nE, sE⟩)
    (l1 : K.lookup t1 = some ⟨.type "tuple", o1, .seq #[.int 1 u1, .int 0 u2, .int 0 u3, .int 1 u4] n1, s1⟩)
    (l2 : K.lookup t2 = some ⟨.type "tuple", o2, .seq #[.int (-1) v1, .int 0 v2, .int 0 v3, .int (-1) v4] n2, s2⟩) :
    ConstAt K mg "EACH_ONE" (.tuple [.tuple [.int 1,.int 0,.int 0,.int 1],.tuple [.int (-1),.int 0,.int 0,.int (-1)]]) := by
  refine ⟨.ref tE, .ref tE, PySem.W.mg_of X G kc, rfl, fun H => ?_⟩
  refine .tup (xs := [.ref t1, .ref t2]) (.inr ⟨_, _, _, lE, rfl, rfl, by rw [sizeLine_eq]; simp, .cons rfl (.cons rfl .nil)⟩) (.cons ?_ (.cons ?_ .nil))
  · exact .tup (xs := [.int 1, .int 0, .int 0, .int 1]) (.inr ⟨_, _, _, l1, rfl, rfl, by rw [sizeLine_eq]; simp, .cons ⟨_, rfl⟩ (.cons ⟨_, rfl⟩ (.cons ⟨_, rfl⟩ (.cons ⟨_, rfl⟩ .nil)))⟩) (.cons (.int _) (.cons (.int _) (.cons (.int _) (.cons (.int _) .nil))))
  · exact .tup (xs := [.int (-1), .int 0, .int 0, .int (-1)]) (.inr ⟨_, _, _, l2, rfl, rfl, by rw [sizeLine_eq]; simp, .cons ⟨_, rfl⟩ (.cons ⟨_, rfl⟩ (.cons ⟨_, rfl⟩ (.cons ⟨_, rfl⟩ .nil)))⟩) (.cons (.int _) (.cons (.int _) (.cons (.int _) (.cons (.int _) .nil))))

/-! ### the text by places -/
def topS (i : Nat) : Stmt := PySem.Challenge.pw_tracetriples_k52_lines_in_common.main.body.getD i (.Pass ⟨0, 0, 0, 0⟩)
/-- what the top leaves of names -/
structure Txt (w : World) (K : PySem.W.Frag) (mg : Str → Option Value) : Prop where
  n_abs : mg "abs" = none
  n_all : mg "all" = none
  n_bool : mg "bool" = none
  n_int : mg "int" = none
  n_isinstance : mg "isinstance" = none
  n_len : mg "len" = none
  n_list : mg "list" = none
  n_max : mg "max" = none
  n_range : mg "range" = none
  n_repr : mg "repr" = none
  n_tuple : mg "tuple" = none
  k_EACH_ONE : ConstAt K mg "EACH_ONE" (.tuple [.tuple [.int 1,.int 0,.int 0,.int 1],.tuple [.int (-1),.int 0,.int 0,.int (-1)]])
  k_HAS_LINE : ConstAt K mg "HAS_LINE" (.int 2)
  f_gcd : mg "gcd" = some (.builtin "math.gcd")
theorem hu65 {k : Nat} {A : Around} (hr : Room k A) : A.units + 65 < cLine := by have := hr.un; omega
theorem reprU {k : Nat} {A : Around} (hr : Room k A) : A.units + 100 < cLine := by have := hr.un; omega
abbrev s__law_pick : Stmt := topS 18
theorem sc__law_pick : FnScope N__law_pick ["source", "many"] (defScope s__law_pick) := ⟨rfl, rfl, rfl, by decide +kernel, rfl, by decide +kernel, by decide +kernel⟩
theorem ok__law_pick {P : Program} {w : World} {K : PySem.W.Frag} {mg : Str → Option Value} {base : Heap} (T : Txt w K mg) (D : DefAt K mg "_law_pick" s__law_pick ["source", "many"]) : Callee P w K mg base "_law_pick" 1 2 fn__law_pick :=
  D.callee (N := N__law_pick) (t := t__law_pick) sc__law_pick rfl (fun f cdv A outer s H E hr hgd => (qss_cons (qs_while [] PassesOwn.never (qt_w (qw_and (qt_cmp oq_gt (qv 1) q_int (nomark _)) (qw_and (qt_cmp oq_lt (q_srcF .left (hu_of hr) (qv 0)) q_int (nomark _)) (qw_and1 (qt_cmp oq_gt (q_callB cq_len (by rfl) T.n_len bt_len (qa_cons (q_srcC (hu_of hr) (qv 0)) qa_nil)) q_int (nomark _)))))) (qss_one (qs_srcPut .left (hu_of hr) (qv 0) (q_mt0 mq_popC PySem.F.slot_list_pop PySem.F.type_list_pop (q_srcC (hu_of hr) (qv 0))))))
      (qss_cons (qs_set (i := 2) sc__law_pick.nd rfl (.inl rfl) (q_srcF .left (hu_of hr) (qv 0)))
      (qss_cons (qs_if (qt_w (qw_or (qt_cmp oq_lt (qv 1) q_int (nomark _)) (qw_or1 (qt_cmp oq_gt (qv 2) q_int (nomark _))))) (qss_cons (qs_srcPut .left (hu_of hr) (qv 0) (q_op oq_fdiv (qv 2) (q_callB (cq_max rfl) (by rfl) T.n_max bt_max (qa_cons q_int (qa_cons (qv 1) qa_nil)))))
      (qss_one (qs_ret (q_op oq_mod (q_callTy cq_int (by rfl) T.n_int bt_int (qa_cons (qv 2) qa_nil)) (q_callB (cq_max rfl) (by rfl) T.n_max bt_max (qa_cons q_int (qa_cons (qv 1) qa_nil))))))) qss_nil)
      (qss_cons (qs_srcPut .turn (hu_of hr) (qv 0) (q_op oq_add (q_srcF .turn (hu_of hr) (qv 0)) q_int))
      (qss_cons (qs_set (i := 3) sc__law_pick.nd rfl (.inl rfl) (q_op oq_mod (q_callTy cq_int (by rfl) T.n_int bt_int (qa_cons (q_op oq_add (q_srcF .mixed (hu_of hr) (qv 0)) (q_op oq_mul (q_srcF .turn (hu_of hr) (qv 0)) q_int)) qa_nil)) q_int))
      (qss_cons (qs_set (i := 3) sc__law_pick.nd rfl (.inl rfl) (q_op oq_mod (q_callTy cq_int (by rfl) T.n_int bt_int (qa_cons (q_op oq_add (q_op oq_mul (qv 3) (qv 3)) (q_op oq_mul (q_srcF .turn (hu_of hr) (qv 0)) q_int)) qa_nil)) q_int))
      (qss_cons (qs_srcPut .mixed (hu_of hr) (qv 0) (qv 3))
      (qss_one (qs_ret (q_op oq_mod (q_callTy cq_int (by rfl) T.n_int bt_int (qa_cons (q_op oq_fdiv (qv 3) q_int) qa_nil)) (qv 1)))))))))))) h__law_pick
abbrev s__law_of : Stmt := topS 19
theorem sc__law_of : FnScope N__law_of ["source", "some"] (defScope s__law_of) := ⟨rfl, rfl, rfl, by decide +kernel, rfl, by decide +kernel, by decide +kernel⟩
theorem ok__law_of {P : Program} {w : World} {K : PySem.W.Frag} {mg : Str → Option Value} {base : Heap} (T : Txt w K mg) (c__law_pick : Callee P w K mg base "_law_pick" 1 2 fn__law_pick) (D : DefAt K mg "_law_of" s__law_of ["source", "some"]) : Callee P w K mg base "_law_of" 2 2 fn__law_of :=
  D.callee (N := N__law_of) (t := t__law_of) sc__law_of rfl (fun f cdv A outer s H E hr hgd => (qss_one (qs_ret (q_ix iq_seq (qv 1) (q_call c__law_pick (hr.mono (by decide)) hgd (qa_cons (qv 0) (qa_cons (q_callB cq_len (by rfl) T.n_len bt_len (qa_cons (qv 1) qa_nil)) qa_nil))) (fun _ _ => rfl))))) h__law_of
abbrev s__law_table_times : Stmt := topS 20
theorem sc__law_table_times : FnScope N__law_table_times ["one", "other"] (defScope s__law_table_times) := ⟨rfl, rfl, rfl, by decide +kernel, rfl, by decide +kernel, by decide +kernel⟩
theorem ok__law_table_times {P : Program} {w : World} {K : PySem.W.Frag} {mg : Str → Option Value} {base : Heap} (T : Txt w K mg) (D : DefAt K mg "_law_table_times" s__law_table_times ["one", "other"]) : Callee P w K mg base "_law_table_times" 1 2 fn__law_table_times :=
  D.callee (N := N__law_table_times) (t := t__law_table_times) sc__law_table_times rfl (fun f cdv A outer s H E hr hgd => (qss_cons (qs_asg (vs := allv) (qv 0) (qg_tup rfl (qgs_cons (qg_name (i := 2) sc__law_table_times.nd rfl (.inl rfl) (by decide)) (qgs_cons (qg_name (i := 3) sc__law_table_times.nd rfl (.inl rfl) (by decide)) (qgs_cons (qg_name (i := 4) sc__law_table_times.nd rfl (.inl rfl) (by decide)) (qgs_cons (qg_name (i := 5) sc__law_table_times.nd rfl (.inl rfl) (by decide)) qgs_nil))))))
      (qss_cons (qs_asg (vs := allv) (qv 1) (qg_tup rfl (qgs_cons (qg_name (i := 6) sc__law_table_times.nd rfl (.inl rfl) (by decide)) (qgs_cons (qg_name (i := 7) sc__law_table_times.nd rfl (.inl rfl) (by decide)) (qgs_cons (qg_name (i := 8) sc__law_table_times.nd rfl (.inl rfl) (by decide)) (qgs_cons (qg_name (i := 9) sc__law_table_times.nd rfl (.inl rfl) (by decide)) qgs_nil))))))
      (qss_one (qs_ret (q_tup (qa_cons (q_op oq_add (q_op oq_mul (qv 2) (qv 6)) (q_op oq_mul (qv 3) (qv 8))) (qa_cons (q_op oq_add (q_op oq_mul (qv 2) (qv 7)) (q_op oq_mul (qv 3) (qv 9))) (qa_cons (q_op oq_add (q_op oq_mul (qv 4) (qv 6)) (q_op oq_mul (qv 5) (qv 8))) (qa_cons (q_op oq_add (q_op oq_mul (qv 4) (qv 7)) (q_op oq_mul (qv 5) (qv 9))) qa_nil)))))))))) h__law_table_times
abbrev s__law_drawn_table : Stmt := topS 22
theorem sc__law_drawn_table : FnScope N__law_drawn_table ["source", "many"] (defScope s__law_drawn_table) := ⟨rfl, rfl, rfl, by decide +kernel, rfl, by decide +kernel, by decide +kernel⟩
theorem ok__law_drawn_table {P : Program} {w : World} {K : PySem.W.Frag} {mg : Str → Option Value} {base : Heap} (T : Txt w K mg) (c__law_of : Callee P w K mg base "_law_of" 2 2 fn__law_of) (c__law_pick : Callee P w K mg base "_law_pick" 1 2 fn__law_pick) (c__law_table_times : Callee P w K mg base "_law_table_times" 1 2 fn__law_table_times) (D : DefAt K mg "_law_drawn_table" s__law_drawn_table ["source", "many"]) : Callee P w K mg base "_law_drawn_table" 3 2 fn__law_drawn_table :=
  D.callee (N := N__law_drawn_table) (t := t__law_drawn_table) sc__law_drawn_table rfl (fun f cdv A outer s H E hr hgd => (qss_cons (qs_set (i := 2) sc__law_drawn_table.nd rfl (.inl rfl) (q_tup (qa_cons q_int (qa_cons q_int (qa_cons q_int (qa_cons q_int qa_nil))))))
      (qss_cons (qs_for (vs := allv) [3, 4] PassesOwn.never rfl (qi_range1 (by rfl) T.n_range (qa_cons (qv 1) qa_nil)) (qg_name (i := 3) sc__law_drawn_table.nd rfl (.inl rfl) (by decide)) (qss_cons (qs_set (i := 4) sc__law_drawn_table.nd rfl (.inl rfl) (q_call c__law_of (hr.mono (by decide)) hgd (qa_cons (qv 0) (qa_cons (q_lst (qa_cons q_int (qa_cons (q_neg q_int) (qa_cons q_int qa_nil)))) qa_nil))))
      (qss_one (qs_set (i := 2) sc__law_drawn_table.nd rfl (.inl rfl) (q_call c__law_table_times (hr.mono (by decide)) hgd (qa_cons (qv 2) (qa_cons (q_if (qt_cmp (oq_eq hr.units) (q_call c__law_pick (hr.mono (by decide)) hgd (qa_cons (qv 0) (qa_cons q_int qa_nil))) q_int (nomark _)) (q_tup (qa_cons q_int (qa_cons (qv 4) (qa_cons q_int (qa_cons q_int qa_nil))))) (q_tup (qa_cons q_int (qa_cons q_int (qa_cons (qv 4) (qa_cons q_int qa_nil)))))) qa_nil)))))))
      (qss_one (qs_ret (qv 2)))))) h__law_drawn_table
abbrev s__law_column : Stmt := topS 26
theorem sc__law_column : FnScope N__law_column ["one"] (defScope s__law_column) := ⟨rfl, rfl, rfl, by decide +kernel, rfl, by decide +kernel, by decide +kernel⟩
theorem ok__law_column {P : Program} {w : World} {K : PySem.W.Frag} {mg : Str → Option Value} {base : Heap} (T : Txt w K mg) (D : DefAt K mg "_law_column" s__law_column ["one"]) : Callee P w K mg base "_law_column" 1 1 fn__law_column :=
  D.callee (N := N__law_column) (t := t__law_column) sc__law_column rfl (fun f cdv A outer s H E hr hgd => (qss_cons (qs_set (i := 1) sc__law_column.nd rfl (.inl rfl) (q_if (qt_cmp oq_gt (q_op oq_add (q_ix iq_seq (qv 0) q_int (fun _ _ => rfl)) (q_ix iq_seq (qv 0) q_int (fun _ _ => rfl))) q_int (nomark _)) q_int (q_neg q_int)))
      (qss_cons (qs_asg (vs := allv) (q_tup (qa_cons (q_op oq_sub (q_ix iq_seq (qv 0) q_int (fun _ _ => rfl)) (qv 1)) (qa_cons (q_ix iq_seq (qv 0) q_int (fun _ _ => rfl)) (qa_cons (q_ix iq_seq (qv 0) q_int (fun _ _ => rfl)) (qa_cons (q_op oq_sub (q_ix iq_seq (qv 0) q_int (fun _ _ => rfl)) (qv 1)) qa_nil))))) (qg_tup rfl (qgs_cons (qg_name (i := 2) sc__law_column.nd rfl (.inl rfl) (by decide)) (qgs_cons (qg_name (i := 3) sc__law_column.nd rfl (.inl rfl) (by decide)) (qgs_cons (qg_name (i := 4) sc__law_column.nd rfl (.inl rfl) (by decide)) (qgs_cons (qg_name (i := 5) sc__law_column.nd rfl (.inl rfl) (by decide)) qgs_nil))))))
      (qss_cons (qs_asg (vs := allv) (q_if (qt_cmp (oq_ne hr.units) (q_tup (qa_cons (qv 2) (qa_cons (qv 3) qa_nil))) (q_tup (qa_cons q_int (qa_cons q_int qa_nil))) (nomark _)) (q_tup (qa_cons (q_op oq_sub q_int (qv 3)) (qa_cons (qv 2) qa_nil))) (q_tup (qa_cons (q_op oq_sub q_int (qv 5)) (qa_cons (qv 4) qa_nil)))) (qg_tup rfl (qgs_cons (qg_name (i := 6) sc__law_column.nd rfl (.inl rfl) (by decide)) (qgs_cons (qg_name (i := 7) sc__law_column.nd rfl (.inl rfl) (by decide)) qgs_nil))))
      (qss_cons (qs_par (i := 8) (j := 9) rfl sc__law_column.nd rfl rfl (by decide) rfl rfl (qa_cons (q_callB cq_abs (by rfl) T.n_abs bt_abs (qa_cons (qv 6) qa_nil)) (qa_cons (q_callB cq_abs (by rfl) T.n_abs bt_abs (qa_cons (qv 7) qa_nil)) qa_nil)) (by rfl))
      (qss_cons (qs_while [] PassesOwn.never (qt_cmp oq_gt (qv 9) q_int (nomark _)) (qss_one (qs_par (i := 8) (j := 9) rfl sc__law_column.nd rfl rfl (by decide) rfl rfl (qa_cons (qv 9) (qa_cons (q_op oq_mod (q_callTy cq_int (by rfl) T.n_int bt_int (qa_cons (qv 8) qa_nil)) (qv 9)) qa_nil)) (by rfl))))
      (qss_cons (qs_set (i := 8) sc__law_column.nd rfl (.inl rfl) (q_if (qt_w (qw_or (qt_cmp oq_gt (qv 6) q_int (nomark _)) (qw_or1 (qt_w (qw_and (qt_cmp (oq_eq hr.units) (qv 6) q_int (nomark _)) (qw_and1 (qt_cmp oq_gt (qv 7) q_int (nomark _)))))))) (qv 8) (q_op oq_sub q_int (qv 8))))
      (qss_one (qs_ret (q_tup (qa_cons (q_op oq_fdivN (qv 6) (qv 8)) (qa_cons (q_op oq_fdivN (qv 7) (qv 8)) qa_nil)))))))))))) h__law_column
abbrev s__law_k : Stmt := topS 24
theorem sc__law_k : FnScope N__law_k ["triple"] (defScope s__law_k) := ⟨rfl, rfl, rfl, by decide +kernel, rfl, by decide +kernel, by decide +kernel⟩
theorem ok__law_k {P : Program} {w : World} {K : PySem.W.Frag} {mg : Str → Option Value} {base : Heap} (T : Txt w K mg) (D : DefAt K mg "_law_k" s__law_k ["triple"]) : Callee P w K mg base "_law_k" 1 1 fn__law_k :=
  D.callee (N := N__law_k) (t := t__law_k) sc__law_k rfl (fun f cdv A outer s H E hr hgd => (qss_cons (qs_asg (vs := allv) (qv 0) (qg_tup rfl (qgs_cons (qg_name (i := 1) sc__law_k.nd rfl (.inl rfl) (by decide)) (qgs_cons (qg_name (i := 2) sc__law_k.nd rfl (.inl rfl) (by decide)) (qgs_cons (qg_name (i := 3) sc__law_k.nd rfl (.inl rfl) (by decide)) qgs_nil)))))
      (qss_one (qs_ret (q_op oq_sub (q_op oq_sub (q_op oq_add (q_op oq_add (q_op oq_mul (qv 1) (qv 1)) (q_op oq_mul (qv 2) (qv 2))) (q_op oq_mul (qv 3) (qv 3))) (q_op oq_mul (q_op oq_mul (qv 1) (qv 2)) (qv 3))) q_int))))) h__law_k
abbrev s__law_triple : Stmt := topS 23
theorem sc__law_triple : FnScope N__law_triple ["one", "other"] (defScope s__law_triple) := ⟨rfl, rfl, rfl, by decide +kernel, rfl, by decide +kernel, by decide +kernel⟩
theorem ok__law_triple {P : Program} {w : World} {K : PySem.W.Frag} {mg : Str → Option Value} {base : Heap} (T : Txt w K mg) (c__law_table_times : Callee P w K mg base "_law_table_times" 1 2 fn__law_table_times) (D : DefAt K mg "_law_triple" s__law_triple ["one", "other"]) : Callee P w K mg base "_law_triple" 2 2 fn__law_triple :=
  D.callee (N := N__law_triple) (t := t__law_triple) sc__law_triple rfl (fun f cdv A outer s H E hr hgd => (qss_cons (qs_set (i := 2) sc__law_triple.nd rfl (.inl rfl) (q_call c__law_table_times (hr.mono (by decide)) hgd (qa_cons (qv 0) (qa_cons (qv 1) qa_nil))))
      (qss_one (qs_ret (q_tup (qa_cons (q_op oq_add (q_ix iq_seq (qv 0) q_int (fun _ _ => rfl)) (q_ix iq_seq (qv 0) q_int (fun _ _ => rfl))) (qa_cons (q_op oq_add (q_ix iq_seq (qv 1) q_int (fun _ _ => rfl)) (q_ix iq_seq (qv 1) q_int (fun _ _ => rfl))) (qa_cons (q_op oq_add (q_ix iq_seq (qv 2) q_int (fun _ _ => rfl)) (q_ix iq_seq (qv 2) q_int (fun _ _ => rfl))) qa_nil)))))))) h__law_triple
abbrev s__law_due : Stmt := topS 29
theorem sc__law_due : FnScope N__law_due ["one", "other"] (defScope s__law_due) := ⟨rfl, rfl, rfl, by decide +kernel, rfl, by decide +kernel, by decide +kernel⟩
theorem ok__law_due {P : Program} {w : World} {K : PySem.W.Frag} {mg : Str → Option Value} {base : Heap} (T : Txt w K mg) (c__law_column : Callee P w K mg base "_law_column" 1 1 fn__law_column) (c__law_k : Callee P w K mg base "_law_k" 1 1 fn__law_k) (c__law_triple : Callee P w K mg base "_law_triple" 2 2 fn__law_triple) (D : DefAt K mg "_law_due" s__law_due ["one", "other"]) : Callee P w K mg base "_law_due" 3 2 fn__law_due :=
  D.callee (N := N__law_due) (t := t__law_due) sc__law_due rfl (fun f cdv A outer s H E hr hgd => (qss_cons (qs_if (qt_cmp (oq_ne hr.units) (q_call c__law_k (hr.mono (by decide)) hgd (qa_cons (q_call c__law_triple (hr.mono (by decide)) hgd (qa_cons (qv 0) (qa_cons (qv 1) qa_nil))) qa_nil)) q_int (nomark _)) (qss_one (qs_ret (q_tup (qa_cons q_str qa_nil)))) qss_nil)
      (qss_cons (qs_setLc (i := 2) (own := [("table", 4)]) rfl sc__law_due.nd rfl rfl (sw_true rfl rfl rfl (by decide +kernel)) (qi_tup (q_tup (qa_cons (qv 0) (qa_cons (qv 1) qa_nil)))) (blkOk_by (N := N__law_due) (sc := defScope s__law_due) (own := [("table", 4)]) (by decide +kernel)) (fun _ _ _ _ _ => (qg_name (i := 4) sc__law_due.nd rfl (.inl rfl) (by decide))) (fun _ _ _ _ _ => (qts_one (qt_cmp (oq_ninT (hu65 hr)) (qv 4) (q_tup (qa_cons (q_tup (qa_cons q_int (qa_cons q_int (qa_cons q_int (qa_cons q_int qa_nil))))) (qa_cons (q_tup (qa_cons (q_neg q_int) (qa_cons q_int (qa_cons q_int (qa_cons (q_neg q_int) qa_nil))))) qa_nil))) (by rfl)))) (fun _ _ _ _ _ => (qv 4)))
      (qss_cons (qs_if (qt_cmp (oq_eq hr.units) (qv 2) (q_lst qa_nil) (nomark _)) (qss_one (qs_ret (q_tup (qa_cons q_str qa_nil)))) qss_nil)
      (qss_cons (qs_set (i := 3) sc__law_due.nd rfl (.inl rfl) (q_op oq_add (q_ix iq_seq (q_ix iq_seq (qv 2) q_int (fun _ _ => rfl)) q_int (fun _ _ => rfl)) (q_ix iq_seq (q_ix iq_seq (qv 2) q_int (fun _ _ => rfl)) q_int (fun _ _ => rfl))))
      (qss_one (qs_ret (q_if (qt_cmp (oq_eq hr.units) (q_callB cq_abs (by rfl) T.n_abs bt_abs (qa_cons (qv 3) qa_nil)) q_int (nomark _)) (q_tup (qa_cons q_str (qa_cons (q_call c__law_column (hr.mono (by decide)) hgd (qa_cons (q_ix iq_seq (qv 2) q_int (fun _ _ => rfl)) qa_nil)) qa_nil))) (q_tup (qa_cons q_str (qa_cons (q_op oq_sub (q_op oq_mul (qv 3) (qv 3)) q_int) qa_nil))))))))))) h__law_due
abbrev s__law_is_kept : Stmt := topS 27
theorem sc__law_is_kept : FnScope N__law_is_kept ["one", "column"] (defScope s__law_is_kept) := ⟨rfl, rfl, rfl, by decide +kernel, rfl, by decide +kernel, by decide +kernel⟩
theorem ok__law_is_kept {P : Program} {w : World} {K : PySem.W.Frag} {mg : Str → Option Value} {base : Heap} (T : Txt w K mg) (D : DefAt K mg "_law_is_kept" s__law_is_kept ["one", "column"]) : Callee P w K mg base "_law_is_kept" 1 2 fn__law_is_kept :=
  D.callee (N := N__law_is_kept) (t := t__law_is_kept) sc__law_is_kept rfl (fun f cdv A outer s H E hr hgd => (qss_cons (qs_asg (vs := allv) (qv 1) (qg_tup rfl (qgs_cons (qg_name (i := 2) sc__law_is_kept.nd rfl (.inl rfl) (by decide)) (qgs_cons (qg_name (i := 3) sc__law_is_kept.nd rfl (.inl rfl) (by decide)) qgs_nil))))
      (qss_one (qs_ret (q_cmp (oq_eq hr.units) (q_op oq_mul (q_op oq_add (q_op oq_mul (q_ix iq_seq (qv 0) q_int (fun _ _ => rfl)) (qv 2)) (q_op oq_mul (q_ix iq_seq (qv 0) q_int (fun _ _ => rfl)) (qv 3))) (qv 3)) (q_op oq_mul (q_op oq_add (q_op oq_mul (q_ix iq_seq (qv 0) q_int (fun _ _ => rfl)) (qv 2)) (q_op oq_mul (q_ix iq_seq (qv 0) q_int (fun _ _ => rfl)) (qv 3))) (qv 2)) (nomark _)))))) h__law_is_kept
abbrev s__law_is_table : Stmt := topS 30
theorem sc__law_is_table : FnScope N__law_is_table ["value"] (defScope s__law_is_table) := ⟨rfl, rfl, rfl, by decide +kernel, rfl, by decide +kernel, by decide +kernel⟩
theorem ok__law_is_table {P : Program} {w : World} {K : PySem.W.Frag} {mg : Str → Option Value} {base : Heap} (T : Txt w K mg) (D : DefAt K mg "_law_is_table" s__law_is_table ["value"]) : Callee P w K mg base "_law_is_table" 1 1 fn__law_is_table :=
  D.callee (N := N__law_is_table) (t := t__law_is_table) sc__law_is_table rfl (fun f cdv A outer s H E hr hgd => (qss_cons (qs_if (qt_w (qw_or (qt_not (qt_tru (q_callB cq_isi (by rfl) T.n_isinstance bt_isinstance (qa_cons (qv 0) (qa_cons (q_ty (by rfl) T.n_tuple bt_tuple) qa_nil))) (by intro _; rfl))) (qw_or1 (qt_cmp (oq_ne hr.units) (q_callB cq_len (by rfl) T.n_len bt_len (qa_cons (qv 0) qa_nil)) q_int (nomark _))))) (qss_one (qs_ret q_bl)) qss_nil)
      (qss_cons (qs_if (qt_cmp (oq_ne hr.units) (q_lc (own := [("one", 1)]) rfl sc__law_is_table.nd (qi_tup (qv 0)) (blkOk_by (N := N__law_is_table) (sc := defScope s__law_is_table) (own := [("one", 1)]) (by decide +kernel)) (fun _ _ _ _ _ => (qg_name (i := 1) sc__law_is_table.nd rfl (.inl rfl) (by decide))) (fun _ _ _ _ _ => (qts_one (qt_w (qw_or (qt_not (qt_tru (q_callB cq_isi (by rfl) T.n_isinstance bt_isinstance (qa_cons (qv 1) (qa_cons (q_ty (by rfl) T.n_int bt_int) qa_nil))) (by intro _; rfl))) (qw_or1 (qt_tru (q_callB cq_isi (by rfl) T.n_isinstance bt_isinstance (qa_cons (qv 1) (qa_cons (q_ty (by rfl) T.n_bool bt_bool) qa_nil))) (by intro _; rfl))))))) (fun _ _ _ _ _ => (qv 1))) (q_lst qa_nil) (nomark _)) (qss_one (qs_ret q_bl)) qss_nil)
      (qss_one (qs_ret (q_cmp (oq_eq hr.units) (q_op oq_sub (q_op oq_mul (q_ix iq_seq (qv 0) q_int (fun _ _ => rfl)) (q_ix iq_seq (qv 0) q_int (fun _ _ => rfl))) (q_op oq_mul (q_ix iq_seq (qv 0) q_int (fun _ _ => rfl)) (q_ix iq_seq (qv 0) q_int (fun _ _ => rfl)))) q_int (nomark _))))))) h__law_is_table
abbrev s__law_table_undone : Stmt := topS 21
theorem sc__law_table_undone : FnScope N__law_table_undone ["one"] (defScope s__law_table_undone) := ⟨rfl, rfl, rfl, by decide +kernel, rfl, by decide +kernel, by decide +kernel⟩
theorem ok__law_table_undone {P : Program} {w : World} {K : PySem.W.Frag} {mg : Str → Option Value} {base : Heap} (T : Txt w K mg) (D : DefAt K mg "_law_table_undone" s__law_table_undone ["one"]) : Callee P w K mg base "_law_table_undone" 1 1 fn__law_table_undone :=
  D.callee (N := N__law_table_undone) (t := t__law_table_undone) sc__law_table_undone rfl (fun f cdv A outer s H E hr hgd => (qss_one (qs_ret (q_tup (qa_cons (q_ix iq_seq (qv 0) q_int (fun _ _ => rfl)) (qa_cons (q_op oq_sub q_int (q_ix iq_seq (qv 0) q_int (fun _ _ => rfl))) (qa_cons (q_op oq_sub q_int (q_ix iq_seq (qv 0) q_int (fun _ _ => rfl))) (qa_cons (q_ix iq_seq (qv 0) q_int (fun _ _ => rfl)) qa_nil)))))))) h__law_table_undone
abbrev s__law_led : Stmt := topS 25
theorem sc__law_led : FnScope N__law_led ["lead", "one"] (defScope s__law_led) := ⟨rfl, rfl, rfl, by decide +kernel, rfl, by decide +kernel, by decide +kernel⟩
theorem ok__law_led {P : Program} {w : World} {K : PySem.W.Frag} {mg : Str → Option Value} {base : Heap} (T : Txt w K mg) (c__law_table_times : Callee P w K mg base "_law_table_times" 1 2 fn__law_table_times) (c__law_table_undone : Callee P w K mg base "_law_table_undone" 1 1 fn__law_table_undone) (D : DefAt K mg "_law_led" s__law_led ["lead", "one"]) : Callee P w K mg base "_law_led" 2 2 fn__law_led :=
  D.callee (N := N__law_led) (t := t__law_led) sc__law_led rfl (fun f cdv A outer s H E hr hgd => (qss_one (qs_ret (q_call c__law_table_times (hr.mono (by decide)) hgd (qa_cons (q_call c__law_table_times (hr.mono (by decide)) hgd (qa_cons (qv 0) (qa_cons (qv 1) qa_nil))) (qa_cons (q_call c__law_table_undone (hr.mono (by decide)) hgd (qa_cons (qv 0) qa_nil)) qa_nil)))))) h__law_led
abbrev s__law_pair : Stmt := topS 28
theorem sc__law_pair : FnScope N__law_pair ["source"] (defScope s__law_pair) := ⟨rfl, rfl, rfl, by decide +kernel, rfl, by decide +kernel, by decide +kernel⟩
theorem ok__law_pair {P : Program} {w : World} {K : PySem.W.Frag} {mg : Str → Option Value} {base : Heap} (T : Txt w K mg) (c__law_drawn_table : Callee P w K mg base "_law_drawn_table" 3 2 fn__law_drawn_table) (c__law_led : Callee P w K mg base "_law_led" 2 2 fn__law_led) (c__law_of : Callee P w K mg base "_law_of" 2 2 fn__law_of) (c__law_pick : Callee P w K mg base "_law_pick" 1 2 fn__law_pick) (c__law_table_times : Callee P w K mg base "_law_table_times" 1 2 fn__law_table_times) (c__law_table_undone : Callee P w K mg base "_law_table_undone" 1 1 fn__law_table_undone) (D : DefAt K mg "_law_pair" s__law_pair ["source"]) : Callee P w K mg base "_law_pair" 4 1 fn__law_pair :=
  D.callee (N := N__law_pair) (t := t__law_pair) sc__law_pair rfl (fun f cdv A outer s H E hr hgd => (qss_cons (qs_par (i := 1) (j := 2) rfl sc__law_pair.nd rfl rfl (by decide) rfl rfl (qa_cons (q_call c__law_pick (hr.mono (by decide)) hgd (qa_cons (qv 0) (qa_cons q_int qa_nil))) (qa_cons (q_call c__law_drawn_table (hr.mono (by decide)) hgd (qa_cons (qv 0) (qa_cons q_int qa_nil))) qa_nil)) (by rfl))
      (qss_cons (qs_setLc (i := 3) (own := [("turn", 10)]) rfl sc__law_pair.nd rfl rfl (sw_true rfl rfl rfl (by decide +kernel)) (qi_range1 (by rfl) T.n_range (qa_cons q_int qa_nil)) (blkOk_by (N := N__law_pair) (sc := defScope s__law_pair) (own := [("turn", 10)]) (by decide +kernel)) (fun _ _ _ _ _ => (qg_name (i := 10) sc__law_pair.nd rfl (.inl rfl) (by decide))) (fun _ _ _ _ _ => qts_nil) (fun _ _ _ _ _ => (q_call c__law_of (hr.mono (by decide)) hgd (qa_cons (qv 0) (qa_cons (q_lst (qa_cons q_int (qa_cons q_int (qa_cons (q_neg q_int) qa_nil)))) qa_nil)))))
      (qss_cons (qs_if (qt_cmp oq_lt (qv 1) q_int (nomark _)) (qss_cons (qs_set (i := 4) sc__law_pair.nd rfl (.inl rfl) (q_lstM qa_nil))
      (qss_cons (qs_for (vs := allv) [5, 6] PassesOwn.never rfl (qi_lst (qv 3)) (qg_name (i := 5) sc__law_pair.nd rfl (.inl rfl) (by decide)) (qss_cons (qs_set (i := 6) sc__law_pair.nd rfl (.inl rfl) (q_op oq_sub (q_call c__law_pick (hr.mono (by decide)) hgd (qa_cons (qv 0) (qa_cons q_int qa_nil))) q_int))
      (qss_one (qs_expr (q_mt mq_append PySem.F.slot_list_append PySem.F.type_list_append (qv 4) (qa_cons (q_call c__law_led (hr.mono (by decide)) hgd (qa_cons (qv 2) (qa_cons (q_tup (qa_cons (qv 5) (qa_cons (q_op oq_mul (qv 5) (qv 6)) (qa_cons q_int (qa_cons (qv 5) qa_nil))))) qa_nil))) qa_nil))))))
      (qss_one (qs_ret (qv 4))))) qss_nil)
      (qss_cons (qs_if (qt_cmp (oq_eq hr.units) (qv 1) q_int (nomark _)) (qss_cons (qs_par (i := 7) (j := 4) rfl sc__law_pair.nd rfl rfl (by decide) rfl rfl (qa_cons (q_call c__law_drawn_table (hr.mono (by decide)) hgd (qa_cons (qv 0) (qa_cons q_int qa_nil))) (qa_cons (q_lstM qa_nil) qa_nil)) (by rfl))
      (qss_cons (qs_for (vs := allv) [5, 8, 9] PassesOwn.never rfl (qi_lst (qv 3)) (qg_name (i := 5) sc__law_pair.nd rfl (.inl rfl) (by decide)) (qss_cons (qs_set (i := 8) sc__law_pair.nd rfl (.inl rfl) (q_tup (qa_cons (qv 5) (qa_cons q_int (qa_cons q_int (qa_cons (qv 5) qa_nil))))))
      (qss_cons (qs_for (vs := allv) [9] PassesOwn.never rfl (qi_range1 (by rfl) T.n_range (qa_cons (q_call c__law_pick (hr.mono (by decide)) hgd (qa_cons (qv 0) (qa_cons q_int qa_nil))) qa_nil)) (qg_name (i := 9) sc__law_pair.nd rfl (.inl rfl) (by decide)) (qss_one (qs_set (i := 8) sc__law_pair.nd rfl (.inl rfl) (q_call c__law_table_times (hr.mono (by decide)) hgd (qa_cons (qv 8) (qa_cons (qv 7) qa_nil))))))
      (qss_one (qs_expr (q_mt mq_append PySem.F.slot_list_append PySem.F.type_list_append (qv 4) (qa_cons (q_if (qt_cmp (oq_eq hr.units) (q_call c__law_pick (hr.mono (by decide)) hgd (qa_cons (qv 0) (qa_cons q_int qa_nil))) q_int (nomark _)) (qv 8) (q_call c__law_table_undone (hr.mono (by decide)) hgd (qa_cons (qv 8) qa_nil))) qa_nil)))))))
      (qss_one (qs_ret (qv 4))))) qss_nil)
      (qss_one (qs_ret (q_lst (qa_cons (q_call c__law_drawn_table (hr.mono (by decide)) hgd (qa_cons (qv 0) (qa_cons q_int qa_nil))) (qa_cons (q_call c__law_drawn_table (hr.mono (by decide)) hgd (qa_cons (qv 0) (qa_cons q_int qa_nil))) qa_nil)))))))))) h__law_pair
abbrev s__law_source : Stmt := topS 17
theorem sc__law_source : FnScope N__law_source ["script"] (defScope s__law_source) := ⟨rfl, rfl, rfl, by decide +kernel, rfl, by decide +kernel, by decide +kernel⟩
theorem ok__law_source {P : Program} {w : World} {K : PySem.W.Frag} {mg : Str → Option Value} {base : Heap} (T : Txt w K mg) (D : DefAt K mg "_law_source" s__law_source ["script"]) : Callee P w K mg base "_law_source" 1 1 fn__law_source :=
  D.callee (N := N__law_source) (t := t__law_source) sc__law_source rfl (fun f cdv A outer s H E hr hgd => (qss_cons (qs_set (i := 1) sc__law_source.nd rfl (.inl rfl) q_int)
      (qss_cons (qs_for (vs := allv) [2] PassesOwn.never rfl (qi_scr (qv 0)) (qg_name (i := 2) sc__law_source.nd rfl (.inl rfl) (by decide)) (qss_one (qs_set (i := 1) sc__law_source.nd rfl (.inl rfl) (q_op oq_mod (q_callTy cq_int (by rfl) T.n_int bt_int (qa_cons (q_op oq_add (q_op oq_add (q_op oq_mul (qv 1) q_int) (q_op oq_mul (qv 2) q_int)) q_int) qa_nil)) q_int))))
      (qss_one (qs_ret (q_srcNew (q_revM (q_lc (own := [("cell", 2)]) rfl sc__law_source.nd (qi_scr (qv 0)) (blkOk_by (N := N__law_source) (sc := defScope s__law_source) (own := [("cell", 2)]) (by decide +kernel)) (fun _ _ _ _ _ => (qg_name (i := 2) sc__law_source.nd rfl (.inl rfl) (by decide))) (fun _ _ _ _ _ => qts_nil) (fun _ _ _ _ _ => (q_callB cq_abs (by rfl) T.n_abs bt_abs (qa_cons (qv 2) qa_nil))))) q_int (qv 1) q_int)))))) h__law_source
abbrev s_is_whole : Stmt := topS 2
theorem sc_is_whole : FnScope N_is_whole ["value"] (defScope s_is_whole) := ⟨rfl, rfl, rfl, by decide +kernel, rfl, by decide +kernel, by decide +kernel⟩
theorem ok_is_whole {P : Program} {w : World} {K : PySem.W.Frag} {mg : Str → Option Value} {base : Heap} (T : Txt w K mg) (D : DefAt K mg "is_whole" s_is_whole ["value"]) : Callee P w K mg base "is_whole" 1 1 fn_is_whole :=
  D.callee (N := N_is_whole) (t := t_is_whole) sc_is_whole rfl (fun f cdv A outer s H E hr hgd => (qss_one (qs_ret (q_and (q_callB cq_isi (by rfl) T.n_isinstance bt_isinstance (qa_cons (qv 0) (qa_cons (q_ty (by rfl) T.n_int bt_int) qa_nil))) (q_one (q_not (q_callB cq_isi (by rfl) T.n_isinstance bt_isinstance (qa_cons (qv 0) (qa_cons (q_ty (by rfl) T.n_bool bt_bool) qa_nil))))))))) h_is_whole
abbrev s_is_table : Stmt := topS 3
theorem sc_is_table : FnScope N_is_table ["value"] (defScope s_is_table) := ⟨rfl, rfl, rfl, by decide +kernel, rfl, by decide +kernel, by decide +kernel⟩
theorem ok_is_table {P : Program} {w : World} {K : PySem.W.Frag} {mg : Str → Option Value} {base : Heap} (T : Txt w K mg) (c_is_whole : Callee P w K mg base "is_whole" 1 1 fn_is_whole) (D : DefAt K mg "is_table" s_is_table ["value"]) : Callee P w K mg base "is_table" 2 1 fn_is_table :=
  D.callee (N := N_is_table) (t := t_is_table) sc_is_table rfl (fun f cdv A outer s H E hr hgd => (qss_cons (qs_if (qt_w (qw_or (qt_not (qt_tru (q_callB cq_isi (by rfl) T.n_isinstance bt_isinstance (qa_cons (qv 0) (qa_cons (q_ty (by rfl) T.n_tuple bt_tuple) qa_nil))) (by intro _; rfl))) (qw_or (qt_cmp (oq_ne hr.units) (q_callB cq_len (by rfl) T.n_len bt_len (qa_cons (qv 0) qa_nil)) q_int (nomark _)) (qw_or1 (qt_not (qt_tru (q_callB (cq_all rfl) (by rfl) T.n_all bt_all (qa_cons (q_lc (own := [("one", 1)]) rfl sc_is_table.nd (qi_tup (qv 0)) (blkOk_by (N := N_is_table) (sc := defScope s_is_table) (own := [("one", 1)]) (by decide +kernel)) (fun _ _ _ _ _ => (qg_name (i := 1) sc_is_table.nd rfl (.inl rfl) (by decide))) (fun _ _ _ _ _ => qts_nil) (fun _ _ _ _ _ => (q_call c_is_whole (hr.mono (by decide)) hgd (qa_cons (qv 1) qa_nil)))) qa_nil)) (by intro _; rfl))))))) (qss_one (qs_ret q_bl)) qss_nil)
      (qss_one (qs_ret (q_cmp (oq_eq hr.units) (q_op oq_sub (q_op oq_mul (q_ix iq_seq (qv 0) q_int (fun _ _ => rfl)) (q_ix iq_seq (qv 0) q_int (fun _ _ => rfl))) (q_op oq_mul (q_ix iq_seq (qv 0) q_int (fun _ _ => rfl)) (q_ix iq_seq (qv 0) q_int (fun _ _ => rfl)))) q_int (nomark _)))))) h_is_table
abbrev s_is_pair : Stmt := topS 4
theorem sc_is_pair : FnScope N_is_pair ["value"] (defScope s_is_pair) := ⟨rfl, rfl, rfl, by decide +kernel, rfl, by decide +kernel, by decide +kernel⟩
theorem ok_is_pair {P : Program} {w : World} {K : PySem.W.Frag} {mg : Str → Option Value} {base : Heap} (T : Txt w K mg) (c_is_table : Callee P w K mg base "is_table" 2 1 fn_is_table) (D : DefAt K mg "is_pair" s_is_pair ["value"]) : Callee P w K mg base "is_pair" 3 1 fn_is_pair :=
  D.callee (N := N_is_pair) (t := t_is_pair) sc_is_pair rfl (fun f cdv A outer s H E hr hgd => (qss_one (qs_ret (q_and (q_callB cq_isi (by rfl) T.n_isinstance bt_isinstance (qa_cons (qv 0) (qa_cons (q_ty (by rfl) T.n_tuple bt_tuple) qa_nil))) (q_and (q_cmp (oq_eq hr.units) (q_callB cq_len (by rfl) T.n_len bt_len (qa_cons (qv 0) qa_nil)) q_int (nomark _)) (q_one (q_callB (cq_all rfl) (by rfl) T.n_all bt_all (qa_cons (q_lc (own := [("one", 1)]) rfl sc_is_pair.nd (qi_tup (qv 0)) (blkOk_by (N := N_is_pair) (sc := defScope s_is_pair) (own := [("one", 1)]) (by decide +kernel)) (fun _ _ _ _ _ => (qg_name (i := 1) sc_is_pair.nd rfl (.inl rfl) (by decide))) (fun _ _ _ _ _ => qts_nil) (fun _ _ _ _ _ => (q_call c_is_table (hr.mono (by decide)) hgd (qa_cons (qv 1) qa_nil)))) qa_nil)))))))) h_is_pair
abbrev s_k_of : Stmt := topS 8
theorem sc_k_of : FnScope N_k_of ["triple"] (defScope s_k_of) := ⟨rfl, rfl, rfl, by decide +kernel, rfl, by decide +kernel, by decide +kernel⟩
theorem ok_k_of {P : Program} {w : World} {K : PySem.W.Frag} {mg : Str → Option Value} {base : Heap} (T : Txt w K mg) (D : DefAt K mg "k_of" s_k_of ["triple"]) : Callee P w K mg base "k_of" 1 1 fn_k_of :=
  D.callee (N := N_k_of) (t := t_k_of) sc_k_of rfl (fun f cdv A outer s H E hr hgd => (qss_cons (qs_asg (vs := allv) (qv 0) (qg_tup rfl (qgs_cons (qg_name (i := 1) sc_k_of.nd rfl (.inl rfl) (by decide)) (qgs_cons (qg_name (i := 2) sc_k_of.nd rfl (.inl rfl) (by decide)) (qgs_cons (qg_name (i := 3) sc_k_of.nd rfl (.inl rfl) (by decide)) qgs_nil)))))
      (qss_one (qs_ret (q_op oq_sub (q_op oq_sub (q_op oq_add (q_op oq_add (q_op oq_mul (qv 1) (qv 1)) (q_op oq_mul (qv 2) (qv 2))) (q_op oq_mul (qv 3) (qv 3))) (q_op oq_mul (q_op oq_mul (qv 1) (qv 2)) (qv 3))) q_int))))) h_k_of
abbrev s_least_row : Stmt := topS 11
theorem sc_least_row : FnScope N_least_row ["row"] (defScope s_least_row) := ⟨rfl, rfl, rfl, by decide +kernel, rfl, by decide +kernel, by decide +kernel⟩
theorem ok_least_row {P : Program} {w : World} {K : PySem.W.Frag} {mg : Str → Option Value} {base : Heap} (T : Txt w K mg) (D : DefAt K mg "least_row" s_least_row ["row"]) : Callee P w K mg base "least_row" 1 1 fn_least_row :=
  D.callee (N := N_least_row) (t := t_least_row) sc_least_row rfl (fun f cdv A outer s H E hr hgd => (qss_cons (qs_set (i := 1) sc_least_row.nd rfl (.inr rfl) q_int)
      (qss_cons (qs_for (vs := allv) [2] PassesOwn.never rfl (qi_tup (qv 0)) (qg_name (i := 2) sc_least_row.nd rfl (.inl rfl) (by decide)) (qss_one (qs_set (i := 1) sc_least_row.nd rfl (.inr rfl) (q_callF cq_gcd (by rfl) T.f_gcd (qa_cons (qv 1) (qa_cons (q_callB cq_abs (by rfl) T.n_abs bt_abs (qa_cons (qv 2) qa_nil)) qa_nil))))))
      (qss_cons (qs_setLc (i := 3) (own := [("number", 2)]) rfl sc_least_row.nd rfl rfl (sw_true rfl rfl rfl (by decide +kernel)) (qi_tup (qv 0)) (blkOk_by (N := N_least_row) (sc := defScope s_least_row) (own := [("number", 2)]) (by decide +kernel)) (fun _ _ _ _ _ => (qg_name (i := 2) sc_least_row.nd rfl (.inl rfl) (by decide))) (fun _ _ _ _ _ => (qts_one (qt_cmp (oq_ne hr.units) (qv 2) q_int (nomark _)))) (fun _ _ _ _ _ => (qv 2)))
      (qss_cons (qs_if (qt_cmp (oq_eq hr.units) (qv 3) (q_lst qa_nil) (nomark _)) (qss_one (qs_ret (q_callTy cq_list (by rfl) T.n_list bt_list (qa_cons (qv 0) qa_nil)))) qss_nil)
      (qss_cons (qs_set (i := 1) sc_least_row.nd rfl (.inr rfl) (q_if (qt_cmp oq_gt (q_ix iq_seq (qv 3) q_int (fun _ _ => rfl)) q_int (nomark _)) (qv 1) (q_neg (qv 1))))
      (qss_one (qs_ret (q_lc (own := [("number", 2)]) rfl sc_least_row.nd (qi_tup (qv 0)) (blkOk_by (N := N_least_row) (sc := defScope s_least_row) (own := [("number", 2)]) (by decide +kernel)) (fun _ _ _ _ _ => (qg_name (i := 2) sc_least_row.nd rfl (.inl rfl) (by decide))) (fun _ _ _ _ _ => qts_nil) (fun _ _ _ _ _ => (q_op oq_fdivN (qv 2) (qv 1)))))))))))) h_least_row
abbrev s_kept_column : Stmt := topS 14
theorem sc_kept_column : FnScope N_kept_column ["table"] (defScope s_kept_column) := ⟨rfl, rfl, rfl, by decide +kernel, rfl, by decide +kernel, by decide +kernel⟩
theorem ok_kept_column {P : Program} {w : World} {K : PySem.W.Frag} {mg : Str → Option Value} {base : Heap} (T : Txt w K mg) (c_least_row : Callee P w K mg base "least_row" 1 1 fn_least_row) (D : DefAt K mg "kept_column" s_kept_column ["table"]) : Callee P w K mg base "kept_column" 2 1 fn_kept_column :=
  D.callee (N := N_kept_column) (t := t_kept_column) sc_kept_column rfl (fun f cdv A outer s H E hr hgd => (qss_cons (qs_asg (vs := allv) (qv 0) (qg_tup rfl (qgs_cons (qg_name (i := 1) sc_kept_column.nd rfl (.inl rfl) (by decide)) (qgs_cons (qg_name (i := 2) sc_kept_column.nd rfl (.inl rfl) (by decide)) (qgs_cons (qg_name (i := 3) sc_kept_column.nd rfl (.inl rfl) (by decide)) (qgs_cons (qg_name (i := 4) sc_kept_column.nd rfl (.inl rfl) (by decide)) qgs_nil))))))
      (qss_cons (qs_set (i := 5) sc_kept_column.nd rfl (.inl rfl) (q_op oq_fdiv (q_op oq_add (qv 1) (qv 4)) q_int))
      (qss_cons (qs_set (i := 6) sc_kept_column.nd rfl (.inl rfl) (q_if (qt_w (qw_or (qt_cmp (oq_ne hr.units) (qv 2) q_int (nomark _)) (qw_or1 (qt_cmp (oq_ne hr.units) (qv 5) (qv 1) (nomark _))))) (q_tup (qa_cons (qv 2) (qa_cons (q_op oq_sub (qv 5) (qv 1)) qa_nil))) (q_tup (qa_cons (q_op oq_sub (qv 5) (qv 4)) (qa_cons (qv 3) qa_nil)))))
      (qss_one (qs_ret (q_callTy cq_tuple (by rfl) T.n_tuple bt_tuple (qa_cons (q_call c_least_row (hr.mono (by decide)) hgd (qa_cons (qv 6) qa_nil)) qa_nil)))))))) h_kept_column
abbrev s_trace_of : Stmt := topS 6
theorem sc_trace_of : FnScope N_trace_of ["one"] (defScope s_trace_of) := ⟨rfl, rfl, rfl, by decide +kernel, rfl, by decide +kernel, by decide +kernel⟩
theorem ok_trace_of {P : Program} {w : World} {K : PySem.W.Frag} {mg : Str → Option Value} {base : Heap} (T : Txt w K mg) (D : DefAt K mg "trace_of" s_trace_of ["one"]) : Callee P w K mg base "trace_of" 1 1 fn_trace_of :=
  D.callee (N := N_trace_of) (t := t_trace_of) sc_trace_of rfl (fun f cdv A outer s H E hr hgd => (qss_one (qs_ret (q_op oq_add (q_ix iq_seq (qv 0) q_int (fun _ _ => rfl)) (q_ix iq_seq (qv 0) q_int (fun _ _ => rfl)))))) h_trace_of
abbrev s_table_times : Stmt := topS 5
theorem sc_table_times : FnScope N_table_times ["one", "other"] (defScope s_table_times) := ⟨rfl, rfl, rfl, by decide +kernel, rfl, by decide +kernel, by decide +kernel⟩
theorem ok_table_times {P : Program} {w : World} {K : PySem.W.Frag} {mg : Str → Option Value} {base : Heap} (T : Txt w K mg) (D : DefAt K mg "table_times" s_table_times ["one", "other"]) : Callee P w K mg base "table_times" 1 2 fn_table_times :=
  D.callee (N := N_table_times) (t := t_table_times) sc_table_times rfl (fun f cdv A outer s H E hr hgd => (qss_cons (qs_asg (vs := allv) (qv 0) (qg_tup rfl (qgs_cons (qg_name (i := 2) sc_table_times.nd rfl (.inl rfl) (by decide)) (qgs_cons (qg_name (i := 3) sc_table_times.nd rfl (.inl rfl) (by decide)) (qgs_cons (qg_name (i := 4) sc_table_times.nd rfl (.inl rfl) (by decide)) (qgs_cons (qg_name (i := 5) sc_table_times.nd rfl (.inl rfl) (by decide)) qgs_nil))))))
      (qss_cons (qs_asg (vs := allv) (qv 1) (qg_tup rfl (qgs_cons (qg_name (i := 6) sc_table_times.nd rfl (.inl rfl) (by decide)) (qgs_cons (qg_name (i := 7) sc_table_times.nd rfl (.inl rfl) (by decide)) (qgs_cons (qg_name (i := 8) sc_table_times.nd rfl (.inl rfl) (by decide)) (qgs_cons (qg_name (i := 9) sc_table_times.nd rfl (.inl rfl) (by decide)) qgs_nil))))))
      (qss_one (qs_ret (q_tup (qa_cons (q_op oq_add (q_op oq_mul (qv 2) (qv 6)) (q_op oq_mul (qv 3) (qv 8))) (qa_cons (q_op oq_add (q_op oq_mul (qv 2) (qv 7)) (q_op oq_mul (qv 3) (qv 9))) (qa_cons (q_op oq_add (q_op oq_mul (qv 4) (qv 6)) (q_op oq_mul (qv 5) (qv 8))) (qa_cons (q_op oq_add (q_op oq_mul (qv 4) (qv 7)) (q_op oq_mul (qv 5) (qv 9))) qa_nil)))))))))) h_table_times
abbrev s_traced : Stmt := topS 7
theorem sc_traced : FnScope N_traced ["pair"] (defScope s_traced) := ⟨rfl, rfl, rfl, by decide +kernel, rfl, by decide +kernel, by decide +kernel⟩
theorem ok_traced {P : Program} {w : World} {K : PySem.W.Frag} {mg : Str → Option Value} {base : Heap} (T : Txt w K mg) (c_table_times : Callee P w K mg base "table_times" 1 2 fn_table_times) (c_trace_of : Callee P w K mg base "trace_of" 1 1 fn_trace_of) (D : DefAt K mg "traced" s_traced ["pair"]) : Callee P w K mg base "traced" 2 1 fn_traced :=
  D.callee (N := N_traced) (t := t_traced) sc_traced rfl (fun f cdv A outer s H E hr hgd => (qss_one (qs_ret (q_tup (qa_cons (q_call c_trace_of (hr.mono (by decide)) hgd (qa_cons (q_ix iq_seq (qv 0) q_int (fun _ _ => rfl)) qa_nil)) (qa_cons (q_call c_trace_of (hr.mono (by decide)) hgd (qa_cons (q_ix iq_seq (qv 0) q_int (fun _ _ => rfl)) qa_nil)) (qa_cons (q_call c_trace_of (hr.mono (by decide)) hgd (qa_cons (q_call c_table_times (hr.mono (by decide)) hgd (qa_cons (q_ix iq_seq (qv 0) q_int (fun _ _ => rfl)) (qa_cons (q_ix iq_seq (qv 0) q_int (fun _ _ => rfl)) qa_nil))) qa_nil)) qa_nil))))))) h_traced
abbrev s_line_told : Stmt := topS 15
theorem sc_line_told : FnScope N_line_told ["pair"] (defScope s_line_told) := ⟨rfl, rfl, rfl, by decide +kernel, rfl, by decide +kernel, by decide +kernel⟩
theorem ok_line_told {P : Program} {w : World} {K : PySem.W.Frag} {mg : Str → Option Value} {base : Heap} (T : Txt w K mg) (c_k_of : Callee P w K mg base "k_of" 1 1 fn_k_of) (c_kept_column : Callee P w K mg base "kept_column" 2 1 fn_kept_column) (c_trace_of : Callee P w K mg base "trace_of" 1 1 fn_trace_of) (c_traced : Callee P w K mg base "traced" 2 1 fn_traced) (D : DefAt K mg "line_told" s_line_told ["pair"]) : Callee P w K mg base "line_told" 3 1 fn_line_told :=
  D.callee (N := N_line_told) (t := t_line_told) sc_line_told rfl (fun f cdv A outer s H E hr hgd => (qss_cons (qs_if (qt_cmp (oq_ne hr.units) (q_call c_k_of (hr.mono (by decide)) hgd (qa_cons (q_call c_traced (hr.mono (by decide)) hgd (qa_cons (qv 0) qa_nil)) qa_nil)) (q_const T.k_HAS_LINE) (nomark _)) (qss_one (qs_ret (q_tup (qa_cons q_str qa_nil)))) qss_nil)
      (qss_cons (qs_setLc (i := 1) (own := [("table", 3)]) rfl sc_line_told.nd rfl rfl (sw_true rfl rfl rfl (by decide +kernel)) (qi_tup (qv 0)) (blkOk_by (N := N_line_told) (sc := defScope s_line_told) (own := [("table", 3)]) (by decide +kernel)) (fun _ _ _ _ _ => (qg_name (i := 3) sc_line_told.nd rfl (.inl rfl) (by decide))) (fun _ _ _ _ _ => (qts_one (qt_cmp (oq_ninT (hu65 hr)) (qv 3) (q_const T.k_EACH_ONE) (by rfl)))) (fun _ _ _ _ _ => (qv 3)))
      (qss_cons (qs_if (qt_cmp (oq_eq hr.units) (qv 1) (q_lst qa_nil) (nomark _)) (qss_one (qs_ret (q_tup (qa_cons q_str qa_nil)))) qss_nil)
      (qss_cons (qs_set (i := 2) sc_line_told.nd rfl (.inl rfl) (q_op oq_sub (q_op oq_mul (q_call c_trace_of (hr.mono (by decide)) hgd (qa_cons (q_ix iq_seq (qv 1) q_int (fun _ _ => rfl)) qa_nil)) (q_call c_trace_of (hr.mono (by decide)) hgd (qa_cons (q_ix iq_seq (qv 1) q_int (fun _ _ => rfl)) qa_nil))) q_int))
      (qss_one (qs_ret (q_if (qt_cmp (oq_eq hr.units) (qv 2) q_int (nomark _)) (q_tup (qa_cons q_str (qa_cons (q_call c_kept_column (hr.mono (by decide)) hgd (qa_cons (q_ix iq_seq (qv 1) q_int (fun _ _ => rfl)) qa_nil)) qa_nil))) (q_tup (qa_cons q_str (qa_cons (qv 2) qa_nil))))))))))) h_line_told
abbrev s_law : Stmt := topS 31
theorem sc_law : FnScope N_law ["script"] (defScope s_law) := ⟨rfl, rfl, rfl, by decide +kernel, rfl, by decide +kernel, by decide +kernel⟩
theorem ok_law {P : Program} {w : World} {K : PySem.W.Frag} {mg : Str → Option Value} {base : Heap} {f : Addr} {fd : FuncData} (T : Txt w K mg) (c__law_drawn_table : Callee P w K mg base "_law_drawn_table" 3 2 fn__law_drawn_table) (c__law_due : Callee P w K mg base "_law_due" 3 2 fn__law_due) (c__law_is_kept : Callee P w K mg base "_law_is_kept" 1 2 fn__law_is_kept) (c__law_is_table : Callee P w K mg base "_law_is_table" 1 1 fn__law_is_table) (c__law_k : Callee P w K mg base "_law_k" 1 1 fn__law_k) (c__law_led : Callee P w K mg base "_law_led" 2 2 fn__law_led) (c__law_pair : Callee P w K mg base "_law_pair" 4 1 fn__law_pair) (c__law_source : Callee P w K mg base "_law_source" 1 1 fn__law_source) (c__law_table_times : Callee P w K mg base "_law_table_times" 1 2 fn__law_table_times) (c__law_table_undone : Callee P w K mg base "_law_table_undone" 1 1 fn__law_table_undone) (c__law_triple : Callee P w K mg base "_law_triple" 2 2 fn__law_triple) (c_is_pair : Callee P w K mg base "is_pair" 3 1 fn_is_pair) (c_is_table : Callee P w K mg base "is_table" 2 1 fn_is_table) (c_k_of : Callee P w K mg base "k_of" 1 1 fn_k_of) (c_line_told : Callee P w K mg base "line_told" 3 1 fn_line_told) (c_traced : Callee P w K mg base "traced" 2 1 fn_traced) (F : Fun K "law" "law" s_law f fd) : FnG P w K mg base CX0 5 f fd ["script"] (spOf K 1 fn_law) :=
  fn_okA (N := N_law) (t := t_law) F sc_law rfl (fun cdv A outer s H E hr hgd => (qss_cons (qs_set (i := 1) sc_law.nd rfl (.inl rfl) (q_call c__law_source (hr.mono (by decide)) hgd (qa_cons (qv 0) qa_nil)))
      (qss_cons (qs_for (vs := allv) [2, 3, 4, 5, 6, 7, 8, 9, 10, 11, 12, 13, 14, 15, 16] PassesOwn.never rfl (qi_range1 (by rfl) T.n_range (qa_cons q_int qa_nil)) (qg_name (i := 2) sc_law.nd rfl (.inl rfl) (by decide)) (qss_cons (qs_asg (vs := allv) (q_call c__law_pair (hr.mono (by decide)) hgd (qa_cons (qv 1) qa_nil)) (qg_lst rfl (qgs_cons (qg_name (i := 3) sc_law.nd rfl (.inl rfl) (by decide)) (qgs_cons (qg_name (i := 4) sc_law.nd rfl (.inl rfl) (by decide)) qgs_nil))))
      (qss_cons (qs_par (i := 5) (j := 6) rfl sc_law.nd rfl rfl (by decide) rfl rfl (qa_cons (q_call c_line_told (hr.mono (by decide)) hgd (qa_cons (q_tup (qa_cons (qv 3) (qa_cons (qv 4) qa_nil))) qa_nil)) (qa_cons (q_call c__law_triple (hr.mono (by decide)) hgd (qa_cons (qv 3) (qa_cons (qv 4) qa_nil))) qa_nil)) (by rfl))
      (qss_cons (qs_if (qt_w (qw_or (qt_cmp (oq_ne hr.units) (q_callB (cq_repr hgd (reprU hr)) (by rfl) T.n_repr bt_repr (qa_cons (qv 5) qa_nil)) (q_callB (cq_repr hgd (reprU hr)) (by rfl) T.n_repr bt_repr (qa_cons (q_call c__law_due (hr.mono (by decide)) hgd (qa_cons (qv 3) (qa_cons (qv 4) qa_nil))) qa_nil)) (nomark _)) (qw_or1 (qt_cmp (oq_ne hr.units) (q_callB (cq_repr hgd (reprU hr)) (by rfl) T.n_repr bt_repr (qa_cons (q_call c_traced (hr.mono (by decide)) hgd (qa_cons (q_tup (qa_cons (qv 3) (qa_cons (qv 4) qa_nil))) qa_nil)) qa_nil)) (q_callB (cq_repr hgd (reprU hr)) (by rfl) T.n_repr bt_repr (qa_cons (qv 6) qa_nil)) (nomark _))))) (qss_one (qs_ret q_bl)) qss_nil)
      (qss_cons (qs_set (i := 7) sc_law.nd rfl (.inl rfl) (q_call c__law_k (hr.mono (by decide)) hgd (qa_cons (qv 6) qa_nil)))
      (qss_cons (qs_set (i := 8) sc_law.nd rfl (.inl rfl) (q_call c__law_table_times (hr.mono (by decide)) hgd (qa_cons (q_call c__law_table_times (hr.mono (by decide)) hgd (qa_cons (qv 3) (qa_cons (qv 4) qa_nil))) (qa_cons (q_call c__law_table_undone (hr.mono (by decide)) hgd (qa_cons (q_call c__law_table_times (hr.mono (by decide)) hgd (qa_cons (qv 4) (qa_cons (qv 3) qa_nil))) qa_nil)) qa_nil))))
      (qss_cons (qs_if (qt_w (qw_or (qt_cmp (oq_ne hr.units) (q_call c_k_of (hr.mono (by decide)) hgd (qa_cons (qv 6) qa_nil)) (qv 7) (nomark _)) (qw_or1 (qt_cmp (oq_ne hr.units) (q_op oq_add (q_ix iq_seq (qv 8) q_int (fun _ _ => rfl)) (q_ix iq_seq (qv 8) q_int (fun _ _ => rfl))) (qv 7) (nomark _))))) (qss_one (qs_ret q_bl)) qss_nil)
      (qss_cons (qs_if (qt_w (qw_and (qt_cmp (oq_eq hr.units) (q_ix iq_seq (qv 5) q_int (fun _ _ => rfl)) q_str (nomark _)) (qw_and1 (qt_not (qt_w (qw_and (qt_tru (q_call c__law_is_kept (hr.mono (by decide)) hgd (qa_cons (qv 3) (qa_cons (q_ix iq_seq (qv 5) q_int (fun _ _ => rfl)) qa_nil))) (by intro _; rfl)) (qw_and1 (qt_tru (q_call c__law_is_kept (hr.mono (by decide)) hgd (qa_cons (qv 4) (qa_cons (q_ix iq_seq (qv 5) q_int (fun _ _ => rfl)) qa_nil))) (by intro _; rfl))))))))) (qss_one (qs_ret q_bl)) qss_nil)
      (qss_cons (qs_if (qt_w (qw_and (qt_cmp (oq_eq hr.units) (q_ix iq_seq (qv 5) q_int (fun _ _ => rfl)) q_str (nomark _)) (qw_and1 (qt_cmp (oq_ne hr.units) (q_call c__law_table_times (hr.mono (by decide)) hgd (qa_cons (qv 3) (qa_cons (qv 4) qa_nil))) (q_call c__law_table_times (hr.mono (by decide)) hgd (qa_cons (qv 4) (qa_cons (qv 3) qa_nil))) (nomark _))))) (qss_one (qs_ret q_bl)) qss_nil)
      (qss_cons (qs_if (qt_cmp (oq_inT (hu65 hr)) (q_ix iq_seq (qv 5) q_int (fun _ _ => rfl)) (q_tup (qa_cons q_str (qa_cons q_str qa_nil))) (by rfl)) (qss_cons (qs_set (i := 9) sc_law.nd rfl (.inl rfl) (q_op oq_add (q_lst (qa_cons (q_tup (qa_cons q_int (qa_cons q_int qa_nil))) qa_nil)) (q_lc (own := [("u", 16)]) rfl sc_law.nd (qi_range2 (by rfl) T.n_range (qa_cons (q_neg q_int) (qa_cons q_int qa_nil))) (blkOk_by (N := N_law) (sc := defScope s_law) (own := [("u", 16)]) (by decide +kernel)) (fun _ _ _ _ _ => (qg_name (i := 16) sc_law.nd rfl (.inl rfl) (by decide))) (fun _ _ _ _ _ => qts_nil) (fun _ _ _ _ _ => (q_tup (qa_cons (qv 16) (qa_cons q_int qa_nil)))))))
      (qss_one (qs_for (vs := allv) [10, 11] PassesOwn.never rfl (qi_lst (qv 9)) (qg_name (i := 10) sc_law.nd rfl (.inl rfl) (by decide)) (qss_cons (qs_set (i := 11) sc_law.nd rfl (.inl rfl) (q_and (q_call c__law_is_kept (hr.mono (by decide)) hgd (qa_cons (qv 3) (qa_cons (qv 10) qa_nil))) (q_one (q_call c__law_is_kept (hr.mono (by decide)) hgd (qa_cons (qv 4) (qa_cons (qv 10) qa_nil))))))
      (qss_one (qs_if (qt_w (qw_and (qt_tru (qv 11) (by intro _; rfl)) (qw_and1 (qt_w (qw_or (qt_cmp (oq_eq hr.units) (q_ix iq_seq (qv 5) q_int (fun _ _ => rfl)) q_str (nomark _)) (qw_or1 (qt_cmp (oq_ne hr.units) (q_op oq_mul (q_ix iq_seq (q_ix iq_seq (qv 5) q_int (fun _ _ => rfl)) q_int (fun _ _ => rfl)) (q_ix iq_seq (qv 10) q_int (fun _ _ => rfl))) (q_op oq_mul (q_ix iq_seq (q_ix iq_seq (qv 5) q_int (fun _ _ => rfl)) q_int (fun _ _ => rfl)) (q_ix iq_seq (qv 10) q_int (fun _ _ => rfl))) (nomark _)))))))) (qss_one (qs_ret q_bl)) qss_nil)))))) qss_nil)
      (qss_cons (qs_set (i := 12) sc_law.nd rfl (.inl rfl) (q_call c__law_drawn_table (hr.mono (by decide)) hgd (qa_cons (qv 1) (qa_cons q_int qa_nil))))
      (qss_cons (qs_set (i := 13) sc_law.nd rfl (.inl rfl) (q_call c_line_told (hr.mono (by decide)) hgd (qa_cons (q_tup (qa_cons (q_call c__law_led (hr.mono (by decide)) hgd (qa_cons (qv 12) (qa_cons (qv 3) qa_nil))) (qa_cons (q_call c__law_led (hr.mono (by decide)) hgd (qa_cons (qv 12) (qa_cons (qv 4) qa_nil))) qa_nil))) qa_nil)))
      (qss_cons (qs_if (qt_w (qw_or (qt_cmp (oq_ne hr.units) (q_ix iq_seq (qv 13) q_int (fun _ _ => rfl)) (q_ix iq_seq (qv 5) q_int (fun _ _ => rfl)) (nomark _)) (qw_or1 (qt_w (qw_and (qt_cmp (oq_eq hr.units) (q_ix iq_seq (qv 5) q_int (fun _ _ => rfl)) q_str (nomark _)) (qw_and1 (qt_cmp (oq_ne hr.units) (qv 13) (qv 5) (nomark _)))))))) (qss_one (qs_ret q_bl)) qss_nil)
      (qss_cons (qs_set (i := 14) sc_law.nd rfl (.inl rfl) (q_lst (qa_cons (qv 3) (qa_cons (q_callTy cq_list (by rfl) T.n_list bt_list (qa_cons (qv 3) qa_nil)) (qa_cons (q_slice (qv 3) qo_none (qo_some q_int)) (qa_cons (q_op oq_add (q_slice (qv 3) qo_none (qo_some q_int)) (q_tup (qa_cons (q_op oq_add (q_ix iq_seq (qv 3) q_int (fun _ _ => rfl)) q_int) qa_nil))) (qa_cons (q_tup (qa_cons q_int (qa_cons q_int (qa_cons q_int (qa_cons q_bl qa_nil))))) (qa_cons q_non (qa_cons (q_tup (qa_cons (qv 3) (qa_cons (qv 4) qa_nil))) qa_nil)))))))))
      (qss_cons (qs_for (vs := allv) [15] PassesOwn.never rfl (qi_lst (qv 14)) (qg_name (i := 15) sc_law.nd rfl (.inl rfl) (by decide)) (qss_one (qs_if (qt_cmp (oq_ne hr.units) (q_callB (cq_repr hgd (reprU hr)) (by rfl) T.n_repr bt_repr (qa_cons (q_call c_is_table (hr.mono (by decide)) hgd (qa_cons (qv 15) qa_nil)) qa_nil)) (q_callB (cq_repr hgd (reprU hr)) (by rfl) T.n_repr bt_repr (qa_cons (q_call c__law_is_table (hr.mono (by decide)) hgd (qa_cons (qv 15) qa_nil)) qa_nil)) (nomark _)) (qss_one (qs_ret q_bl)) qss_nil)))
      (qss_cons (qs_set (i := 14) sc_law.nd rfl (.inl rfl) (q_lst (qa_cons (q_tup (qa_cons (qv 3) (qa_cons (qv 4) qa_nil))) (qa_cons (q_lst (qa_cons (qv 3) (qa_cons (qv 4) qa_nil))) (qa_cons (q_tup (qa_cons (qv 3) qa_nil)) (qa_cons (q_tup (qa_cons (qv 3) (qa_cons (q_slice (qv 3) qo_none (qo_some q_int)) qa_nil))) (qa_cons q_non qa_nil)))))))
      (qss_one (qs_if (qt_cmp (oq_ne hr.units) (q_lc (own := [("value", 15)]) rfl sc_law.nd (qi_lst (qv 14)) (blkOk_by (N := N_law) (sc := defScope s_law) (own := [("value", 15)]) (by decide +kernel)) (fun _ _ _ _ _ => (qg_name (i := 15) sc_law.nd rfl (.inl rfl) (by decide))) (fun _ _ _ _ _ => qts_nil) (fun _ _ _ _ _ => (q_call c_is_pair (hr.mono (by decide)) hgd (qa_cons (qv 15) qa_nil)))) (q_op oq_add (q_lst (qa_cons q_bl qa_nil)) (q_op oq_repL (q_lst (qa_cons q_bl qa_nil)) q_int)) (nomark _)) (qss_one (qs_ret q_bl)) qss_nil))))))))))))))))))
      (qss_cons (qs_set (i := 5) sc_law.nd rfl (.inl rfl) (q_lst (qa_cons (q_call c_line_told (hr.mono (by decide)) hgd (qa_cons (q_tup (qa_cons (q_tup (qa_cons q_int (qa_cons q_int (qa_cons q_int (qa_cons q_int qa_nil))))) (qa_cons (q_tup (qa_cons q_int (qa_cons q_int (qa_cons q_int (qa_cons q_int qa_nil))))) qa_nil))) qa_nil)) (qa_cons (q_call c_line_told (hr.mono (by decide)) hgd (qa_cons (q_tup (qa_cons (q_tup (qa_cons q_int (qa_cons q_int (qa_cons q_int (qa_cons q_int qa_nil))))) (qa_cons (q_tup (qa_cons q_int (qa_cons q_int (qa_cons q_int (qa_cons q_int qa_nil))))) qa_nil))) qa_nil)) qa_nil))))
      (qss_one (qs_ret (q_cmp (oq_eq hr.units) (q_callB (cq_repr hgd (reprU hr)) (by rfl) T.n_repr bt_repr (qa_cons (qv 5) qa_nil)) (q_callB (cq_repr hgd (reprU hr)) (by rfl) T.n_repr bt_repr (qa_cons (q_lst (qa_cons (q_tup (qa_cons q_str (qa_cons (q_tup (qa_cons q_int (qa_cons q_int qa_nil))) qa_nil))) (qa_cons (q_tup (qa_cons q_str (qa_cons q_int qa_nil))) qa_nil))) qa_nil)) (nomark _)))))))) h_law
theorem defAt_mk {K : PySem.W.Frag} {h : Heap} {mg : Str → Option Value} {x : Str} {st : Stmt} {ps : List Str} {f : Addr} {an : Option Addr} {kV dc pm cd ct : Value} (X : K.In h) (G : h.Ns mainGlobals mg)
    (a : PySem.W.nsIn K mainGlobals x = some (some (.ref f))) (F : Fun K x x st f (PySem.W.fnOf x x (defArgs st) (defBody st) (defScope st) .none kV dc pm an cd ct)) (b : Binds K (PySem.W.fnOf x x (defArgs st) (defBody st) (defScope st) .none kV dc pm an cd ct) ps []) : DefAt K mg x st ps := ⟨f, _, PySem.W.mg_of X G a, F, b⟩
theorem all_mk {l : PySem.W.OpenLaw} {w : World} {K : PySem.W.Frag} {h : Heap} {mg : Str → Option Value} {fa f0 f1 f2 f3 f4 f5 f6 f7 f8 f9 f10 f11 f12 f13 f14 f15 f16 f17 f18 f19 f20 f21 f22 f23 f24 : Addr} (X : K.In h) (G : h.Ns mainGlobals mg) (hfa : mg "law" = some (.ref fa))
    {od0 an0 od1 an1 od2 an2 od3 an3 od4 an4 od5 an5 od6 an6 od7 an7 od8 an8 od9 an9 od10 an10 od11 an11 od12 an12 od13 an13 od14 an14 od15 an15 od16 an16 od17 an17 od18 an18 od19 an19 od20 an20 od21 an21 od22 an22 od23 an23 od24 an24 : Option Addr} {sl0 sl1 sl2 sl3 sl4 sl5 sl6 sl7 sl8 sl9 sl10 sl11 sl12 sl13 sl14 sl15 sl16 sl17 sl18 sl19 sl20 sl21 sl22 sl23 sl24 : Array (Option Value)} {oc0 kV0 dc0 pm0 cd0 ct0 oc1 kV1 dc1 pm1 cd1 ct1 oc2 kV2 dc2 pm2 cd2 ct2 oc3 kV3 dc3 pm3 cd3 ct3 oc4 kV4 dc4 pm4 cd4 ct4 oc5 kV5 dc5 pm5 cd5 ct5 oc6 kV6 dc6 pm6 cd6 ct6 oc7 kV7 dc7 pm7 cd7 ct7 oc8 kV8 dc8 pm8 cd8 ct8 oc9 kV9 dc9 pm9 cd9 ct9 oc10 kV10 dc10 pm10 cd10 ct10 oc11 kV11 dc11 pm11 cd11 ct11 oc12 kV12 dc12 pm12 cd12 ct12 oc13 kV13 dc13 pm13 cd13 ct13 oc14 kV14 dc14 pm14 cd14 ct14 oc15 kV15 dc15 pm15 cd15 ct15 oc16 kV16 dc16 pm16 cd16 ct16 oc17 kV17 dc17 pm17 cd17 ct17 oc18 kV18 dc18 pm18 cd18 ct18 oc19 kV19 dc19 pm19 cd19 ct19 oc20 kV20 dc20 pm20 cd20 ct20 oc21 kV21 dc21 pm21 cd21 ct21 oc22 kV22 dc22 pm22 cd22 ct22 oc23 kV23 dc23 pm23 cd23 ct23 oc24 kV24 dc24 pm24 cd24 ct24 : Value}
    (a0 : PySem.W.nsIn K mainGlobals "_law_pick" = some (some (.ref f0))) (l0 : K.lookup f0 = some ⟨oc0, od0, .func (PySem.W.fnOf "_law_pick" "_law_pick" (defArgs s__law_pick) (defBody s__law_pick) (defScope s__law_pick) .none kV0 dc0 pm0 an0 cd0 ct0), sl0⟩) (c0 : PySem.W.codeIn K cd0 "_law_pick" = true) (k0 : PySem.W.keepIn K (.ref f0) = true)
    (a1 : PySem.W.nsIn K mainGlobals "_law_of" = some (some (.ref f1))) (l1 : K.lookup f1 = some ⟨oc1, od1, .func (PySem.W.fnOf "_law_of" "_law_of" (defArgs s__law_of) (defBody s__law_of) (defScope s__law_of) .none kV1 dc1 pm1 an1 cd1 ct1), sl1⟩) (c1 : PySem.W.codeIn K cd1 "_law_of" = true) (k1 : PySem.W.keepIn K (.ref f1) = true)
    (a2 : PySem.W.nsIn K mainGlobals "_law_table_times" = some (some (.ref f2))) (l2 : K.lookup f2 = some ⟨oc2, od2, .func (PySem.W.fnOf "_law_table_times" "_law_table_times" (defArgs s__law_table_times) (defBody s__law_table_times) (defScope s__law_table_times) .none kV2 dc2 pm2 an2 cd2 ct2), sl2⟩) (c2 : PySem.W.codeIn K cd2 "_law_table_times" = true) (k2 : PySem.W.keepIn K (.ref f2) = true)
    (a3 : PySem.W.nsIn K mainGlobals "_law_drawn_table" = some (some (.ref f3))) (l3 : K.lookup f3 = some ⟨oc3, od3, .func (PySem.W.fnOf "_law_drawn_table" "_law_drawn_table" (defArgs s__law_drawn_table) (defBody s__law_drawn_table) (defScope s__law_drawn_table) .none kV3 dc3 pm3 an3 cd3 ct3), sl3⟩) (c3 : PySem.W.codeIn K cd3 "_law_drawn_table" = true) (k3 : PySem.W.keepIn K (.ref f3) = true)
    (a4 : PySem.W.nsIn K mainGlobals "_law_column" = some (some (.ref f4))) (l4 : K.lookup f4 = some ⟨oc4, od4, .func (PySem.W.fnOf "_law_column" "_law_column" (defArgs s__law_column) (defBody s__law_column) (defScope s__law_column) .none kV4 dc4 pm4 an4 cd4 ct4), sl4⟩) (c4 : PySem.W.codeIn K cd4 "_law_column" = true) (k4 : PySem.W.keepIn K (.ref f4) = true)
    (a5 : PySem.W.nsIn K mainGlobals "_law_k" = some (some (.ref f5))) (l5 : K.lookup f5 = some ⟨oc5, od5, .func (PySem.W.fnOf "_law_k" "_law_k" (defArgs s__law_k) (defBody s__law_k) (defScope s__law_k) .none kV5 dc5 pm5 an5 cd5 ct5), sl5⟩) (c5 : PySem.W.codeIn K cd5 "_law_k" = true) (k5 : PySem.W.keepIn K (.ref f5) = true)
    (a6 : PySem.W.nsIn K mainGlobals "_law_triple" = some (some (.ref f6))) (l6 : K.lookup f6 = some ⟨oc6, od6, .func (PySem.W.fnOf "_law_triple" "_law_triple" (defArgs s__law_triple) (defBody s__law_triple) (defScope s__law_triple) .none kV6 dc6 pm6 an6 cd6 ct6), sl6⟩) (c6 : PySem.W.codeIn K cd6 "_law_triple" = true) (k6 : PySem.W.keepIn K (.ref f6) = true)
    (a7 : PySem.W.nsIn K mainGlobals "_law_due" = some (some (.ref f7))) (l7 : K.lookup f7 = some ⟨oc7, od7, .func (PySem.W.fnOf "_law_due" "_law_due" (defArgs s__law_due) (defBody s__law_due) (defScope s__law_due) .none kV7 dc7 pm7 an7 cd7 ct7), sl7⟩) (c7 : PySem.W.codeIn K cd7 "_law_due" = true) (k7 : PySem.W.keepIn K (.ref f7) = true)
    (a8 : PySem.W.nsIn K mainGlobals "_law_is_kept" = some (some (.ref f8))) (l8 : K.lookup f8 = some ⟨oc8, od8, .func (PySem.W.fnOf "_law_is_kept" "_law_is_kept" (defArgs s__law_is_kept) (defBody s__law_is_kept) (defScope s__law_is_kept) .none kV8 dc8 pm8 an8 cd8 ct8), sl8⟩) (c8 : PySem.W.codeIn K cd8 "_law_is_kept" = true) (k8 : PySem.W.keepIn K (.ref f8) = true)
    (a9 : PySem.W.nsIn K mainGlobals "_law_is_table" = some (some (.ref f9))) (l9 : K.lookup f9 = some ⟨oc9, od9, .func (PySem.W.fnOf "_law_is_table" "_law_is_table" (defArgs s__law_is_table) (defBody s__law_is_table) (defScope s__law_is_table) .none kV9 dc9 pm9 an9 cd9 ct9), sl9⟩) (c9 : PySem.W.codeIn K cd9 "_law_is_table" = true) (k9 : PySem.W.keepIn K (.ref f9) = true)
    (a10 : PySem.W.nsIn K mainGlobals "_law_table_undone" = some (some (.ref f10))) (l10 : K.lookup f10 = some ⟨oc10, od10, .func (PySem.W.fnOf "_law_table_undone" "_law_table_undone" (defArgs s__law_table_undone) (defBody s__law_table_undone) (defScope s__law_table_undone) .none kV10 dc10 pm10 an10 cd10 ct10), sl10⟩) (c10 : PySem.W.codeIn K cd10 "_law_table_undone" = true) (k10 : PySem.W.keepIn K (.ref f10) = true)
    (a11 : PySem.W.nsIn K mainGlobals "_law_led" = some (some (.ref f11))) (l11 : K.lookup f11 = some ⟨oc11, od11, .func (PySem.W.fnOf "_law_led" "_law_led" (defArgs s__law_led) (defBody s__law_led) (defScope s__law_led) .none kV11 dc11 pm11 an11 cd11 ct11), sl11⟩) (c11 : PySem.W.codeIn K cd11 "_law_led" = true) (k11 : PySem.W.keepIn K (.ref f11) = true)
    (a12 : PySem.W.nsIn K mainGlobals "_law_pair" = some (some (.ref f12))) (l12 : K.lookup f12 = some ⟨oc12, od12, .func (PySem.W.fnOf "_law_pair" "_law_pair" (defArgs s__law_pair) (defBody s__law_pair) (defScope s__law_pair) .none kV12 dc12 pm12 an12 cd12 ct12), sl12⟩) (c12 : PySem.W.codeIn K cd12 "_law_pair" = true) (k12 : PySem.W.keepIn K (.ref f12) = true)
    (a13 : PySem.W.nsIn K mainGlobals "_law_source" = some (some (.ref f13))) (l13 : K.lookup f13 = some ⟨oc13, od13, .func (PySem.W.fnOf "_law_source" "_law_source" (defArgs s__law_source) (defBody s__law_source) (defScope s__law_source) .none kV13 dc13 pm13 an13 cd13 ct13), sl13⟩) (c13 : PySem.W.codeIn K cd13 "_law_source" = true) (k13 : PySem.W.keepIn K (.ref f13) = true)
    (a14 : PySem.W.nsIn K mainGlobals "is_whole" = some (some (.ref f14))) (l14 : K.lookup f14 = some ⟨oc14, od14, .func (PySem.W.fnOf "is_whole" "is_whole" (defArgs s_is_whole) (defBody s_is_whole) (defScope s_is_whole) .none kV14 dc14 pm14 an14 cd14 ct14), sl14⟩) (c14 : PySem.W.codeIn K cd14 "is_whole" = true) (k14 : PySem.W.keepIn K (.ref f14) = true)
    (a15 : PySem.W.nsIn K mainGlobals "is_table" = some (some (.ref f15))) (l15 : K.lookup f15 = some ⟨oc15, od15, .func (PySem.W.fnOf "is_table" "is_table" (defArgs s_is_table) (defBody s_is_table) (defScope s_is_table) .none kV15 dc15 pm15 an15 cd15 ct15), sl15⟩) (c15 : PySem.W.codeIn K cd15 "is_table" = true) (k15 : PySem.W.keepIn K (.ref f15) = true)
    (a16 : PySem.W.nsIn K mainGlobals "is_pair" = some (some (.ref f16))) (l16 : K.lookup f16 = some ⟨oc16, od16, .func (PySem.W.fnOf "is_pair" "is_pair" (defArgs s_is_pair) (defBody s_is_pair) (defScope s_is_pair) .none kV16 dc16 pm16 an16 cd16 ct16), sl16⟩) (c16 : PySem.W.codeIn K cd16 "is_pair" = true) (k16 : PySem.W.keepIn K (.ref f16) = true)
    (a17 : PySem.W.nsIn K mainGlobals "k_of" = some (some (.ref f17))) (l17 : K.lookup f17 = some ⟨oc17, od17, .func (PySem.W.fnOf "k_of" "k_of" (defArgs s_k_of) (defBody s_k_of) (defScope s_k_of) .none kV17 dc17 pm17 an17 cd17 ct17), sl17⟩) (c17 : PySem.W.codeIn K cd17 "k_of" = true) (k17 : PySem.W.keepIn K (.ref f17) = true)
    (a18 : PySem.W.nsIn K mainGlobals "least_row" = some (some (.ref f18))) (l18 : K.lookup f18 = some ⟨oc18, od18, .func (PySem.W.fnOf "least_row" "least_row" (defArgs s_least_row) (defBody s_least_row) (defScope s_least_row) .none kV18 dc18 pm18 an18 cd18 ct18), sl18⟩) (c18 : PySem.W.codeIn K cd18 "least_row" = true) (k18 : PySem.W.keepIn K (.ref f18) = true)
    (a19 : PySem.W.nsIn K mainGlobals "kept_column" = some (some (.ref f19))) (l19 : K.lookup f19 = some ⟨oc19, od19, .func (PySem.W.fnOf "kept_column" "kept_column" (defArgs s_kept_column) (defBody s_kept_column) (defScope s_kept_column) .none kV19 dc19 pm19 an19 cd19 ct19), sl19⟩) (c19 : PySem.W.codeIn K cd19 "kept_column" = true) (k19 : PySem.W.keepIn K (.ref f19) = true)
    (a20 : PySem.W.nsIn K mainGlobals "trace_of" = some (some (.ref f20))) (l20 : K.lookup f20 = some ⟨oc20, od20, .func (PySem.W.fnOf "trace_of" "trace_of" (defArgs s_trace_of) (defBody s_trace_of) (defScope s_trace_of) .none kV20 dc20 pm20 an20 cd20 ct20), sl20⟩) (c20 : PySem.W.codeIn K cd20 "trace_of" = true) (k20 : PySem.W.keepIn K (.ref f20) = true)
    (a21 : PySem.W.nsIn K mainGlobals "table_times" = some (some (.ref f21))) (l21 : K.lookup f21 = some ⟨oc21, od21, .func (PySem.W.fnOf "table_times" "table_times" (defArgs s_table_times) (defBody s_table_times) (defScope s_table_times) .none kV21 dc21 pm21 an21 cd21 ct21), sl21⟩) (c21 : PySem.W.codeIn K cd21 "table_times" = true) (k21 : PySem.W.keepIn K (.ref f21) = true)
    (a22 : PySem.W.nsIn K mainGlobals "traced" = some (some (.ref f22))) (l22 : K.lookup f22 = some ⟨oc22, od22, .func (PySem.W.fnOf "traced" "traced" (defArgs s_traced) (defBody s_traced) (defScope s_traced) .none kV22 dc22 pm22 an22 cd22 ct22), sl22⟩) (c22 : PySem.W.codeIn K cd22 "traced" = true) (k22 : PySem.W.keepIn K (.ref f22) = true)
    (a23 : PySem.W.nsIn K mainGlobals "line_told" = some (some (.ref f23))) (l23 : K.lookup f23 = some ⟨oc23, od23, .func (PySem.W.fnOf "line_told" "line_told" (defArgs s_line_told) (defBody s_line_told) (defScope s_line_told) .none kV23 dc23 pm23 an23 cd23 ct23), sl23⟩) (c23 : PySem.W.codeIn K cd23 "line_told" = true) (k23 : PySem.W.keepIn K (.ref f23) = true)
    (a24 : PySem.W.nsIn K mainGlobals "law" = some (some (.ref f24))) (l24 : K.lookup f24 = some ⟨oc24, od24, .func (PySem.W.fnOf "law" "law" (defArgs s_law) (defBody s_law) (defScope s_law) .none kV24 dc24 pm24 an24 cd24 ct24), sl24⟩) (c24 : PySem.W.codeIn K cd24 "law" = true) (k24 : PySem.W.keepIn K (.ref f24) = true)
    (z_abs : PySem.W.nsIn K mainGlobals "abs" = some none)
    (z_all : PySem.W.nsIn K mainGlobals "all" = some none)
    (z_bool : PySem.W.nsIn K mainGlobals "bool" = some none)
    (z_int : PySem.W.nsIn K mainGlobals "int" = some none)
    (z_isinstance : PySem.W.nsIn K mainGlobals "isinstance" = some none)
    (z_len : PySem.W.nsIn K mainGlobals "len" = some none)
    (z_list : PySem.W.nsIn K mainGlobals "list" = some none)
    (z_max : PySem.W.nsIn K mainGlobals "max" = some none)
    (z_range : PySem.W.nsIn K mainGlobals "range" = some none)
    (z_repr : PySem.W.nsIn K mainGlobals "repr" = some none)
    (z_tuple : PySem.W.nsIn K mainGlobals "tuple" = some none)
    (z_gcd : PySem.W.nsIn K mainGlobals "gcd" = some (some (.builtin "math.gcd")))
    {h2 : _} {tE t1 t2 : Addr} {u1 u2 u3 u4 v1 v2 v3 v4 : _} {oE o1 o2 : Option Addr} {nE n1 n2 : Nat} {sE s1 s2 : Array (Option Value)}
    (kc_HAS_LINE : PySem.W.nsIn K mainGlobals "HAS_LINE" = some (some (.int 2 h2)))
    (kc_EACH_ONE : PySem.W.nsIn K mainGlobals "EACH_ONE" = some (some (.ref tE)))
    (kt_E : K.lookup tE = some ⟨.type "tuple", oE, .seq #[.ref t1, .ref t2] nE, sE⟩)
    (kt_1 : K.lookup t1 = some ⟨.type "tuple", o1, .seq #[.int 1 u1, .int 0 u2, .int 0 u3, .int 1 u4] n1, s1⟩)
    (kt_2 : K.lookup t2 = some ⟨.type "tuple", o2, .seq #[.int (-1) v1, .int 0 v2, .int 0 v3, .int (-1) v4] n2, s2⟩)
    : ∃ fd : FuncData, (∀ (s : Shared) (v : Value), BindsTo s fd ⟨[v], []⟩ [("script", v)]) ∧ ∀ base : Heap, K.In base → base.Ns mainGlobals mg → FnG l.prog w K mg base CX0 5 fa fd ["script"] (spOf K 1 lawFn) := by
  have e := hfa.symm.trans (PySem.W.mg_of X G a24)
  cases e
  have F0 := fun_mk (st := s__law_pick) l0 c0 k0
  have D__law_pick : DefAt K mg "_law_pick" s__law_pick ["source", "many"] := defAt_mk X G a0 F0 (F0.binds (ps := ["source", "many"]) fun _ _ _ _ _ _ us hl => match us, hl with | [_, _], _ => rfl)
  have F1 := fun_mk (st := s__law_of) l1 c1 k1
  have D__law_of : DefAt K mg "_law_of" s__law_of ["source", "some"] := defAt_mk X G a1 F1 (F1.binds (ps := ["source", "some"]) fun _ _ _ _ _ _ us hl => match us, hl with | [_, _], _ => rfl)
  have F2 := fun_mk (st := s__law_table_times) l2 c2 k2
  have D__law_table_times : DefAt K mg "_law_table_times" s__law_table_times ["one", "other"] := defAt_mk X G a2 F2 (F2.binds (ps := ["one", "other"]) fun _ _ _ _ _ _ us hl => match us, hl with | [_, _], _ => rfl)
  have F3 := fun_mk (st := s__law_drawn_table) l3 c3 k3
  have D__law_drawn_table : DefAt K mg "_law_drawn_table" s__law_drawn_table ["source", "many"] := defAt_mk X G a3 F3 (F3.binds (ps := ["source", "many"]) fun _ _ _ _ _ _ us hl => match us, hl with | [_, _], _ => rfl)
  have F4 := fun_mk (st := s__law_column) l4 c4 k4
  have D__law_column : DefAt K mg "_law_column" s__law_column ["one"] := defAt_mk X G a4 F4 (F4.binds (ps := ["one"]) fun _ _ _ _ _ _ us hl => match us, hl with | [_], _ => rfl)
  have F5 := fun_mk (st := s__law_k) l5 c5 k5
  have D__law_k : DefAt K mg "_law_k" s__law_k ["triple"] := defAt_mk X G a5 F5 (F5.binds (ps := ["triple"]) fun _ _ _ _ _ _ us hl => match us, hl with | [_], _ => rfl)
  have F6 := fun_mk (st := s__law_triple) l6 c6 k6
  have D__law_triple : DefAt K mg "_law_triple" s__law_triple ["one", "other"] := defAt_mk X G a6 F6 (F6.binds (ps := ["one", "other"]) fun _ _ _ _ _ _ us hl => match us, hl with | [_, _], _ => rfl)
  have F7 := fun_mk (st := s__law_due) l7 c7 k7
  have D__law_due : DefAt K mg "_law_due" s__law_due ["one", "other"] := defAt_mk X G a7 F7 (F7.binds (ps := ["one", "other"]) fun _ _ _ _ _ _ us hl => match us, hl with | [_, _], _ => rfl)
  have F8 := fun_mk (st := s__law_is_kept) l8 c8 k8
  have D__law_is_kept : DefAt K mg "_law_is_kept" s__law_is_kept ["one", "column"] := defAt_mk X G a8 F8 (F8.binds (ps := ["one", "column"]) fun _ _ _ _ _ _ us hl => match us, hl with | [_, _], _ => rfl)
  have F9 := fun_mk (st := s__law_is_table) l9 c9 k9
  have D__law_is_table : DefAt K mg "_law_is_table" s__law_is_table ["value"] := defAt_mk X G a9 F9 (F9.binds (ps := ["value"]) fun _ _ _ _ _ _ us hl => match us, hl with | [_], _ => rfl)
  have F10 := fun_mk (st := s__law_table_undone) l10 c10 k10
  have D__law_table_undone : DefAt K mg "_law_table_undone" s__law_table_undone ["one"] := defAt_mk X G a10 F10 (F10.binds (ps := ["one"]) fun _ _ _ _ _ _ us hl => match us, hl with | [_], _ => rfl)
  have F11 := fun_mk (st := s__law_led) l11 c11 k11
  have D__law_led : DefAt K mg "_law_led" s__law_led ["lead", "one"] := defAt_mk X G a11 F11 (F11.binds (ps := ["lead", "one"]) fun _ _ _ _ _ _ us hl => match us, hl with | [_, _], _ => rfl)
  have F12 := fun_mk (st := s__law_pair) l12 c12 k12
  have D__law_pair : DefAt K mg "_law_pair" s__law_pair ["source"] := defAt_mk X G a12 F12 (F12.binds (ps := ["source"]) fun _ _ _ _ _ _ us hl => match us, hl with | [_], _ => rfl)
  have F13 := fun_mk (st := s__law_source) l13 c13 k13
  have D__law_source : DefAt K mg "_law_source" s__law_source ["script"] := defAt_mk X G a13 F13 (F13.binds (ps := ["script"]) fun _ _ _ _ _ _ us hl => match us, hl with | [_], _ => rfl)
  have F14 := fun_mk (st := s_is_whole) l14 c14 k14
  have D_is_whole : DefAt K mg "is_whole" s_is_whole ["value"] := defAt_mk X G a14 F14 (F14.binds (ps := ["value"]) fun _ _ _ _ _ _ us hl => match us, hl with | [_], _ => rfl)
  have F15 := fun_mk (st := s_is_table) l15 c15 k15
  have D_is_table : DefAt K mg "is_table" s_is_table ["value"] := defAt_mk X G a15 F15 (F15.binds (ps := ["value"]) fun _ _ _ _ _ _ us hl => match us, hl with | [_], _ => rfl)
  have F16 := fun_mk (st := s_is_pair) l16 c16 k16
  have D_is_pair : DefAt K mg "is_pair" s_is_pair ["value"] := defAt_mk X G a16 F16 (F16.binds (ps := ["value"]) fun _ _ _ _ _ _ us hl => match us, hl with | [_], _ => rfl)
  have F17 := fun_mk (st := s_k_of) l17 c17 k17
  have D_k_of : DefAt K mg "k_of" s_k_of ["triple"] := defAt_mk X G a17 F17 (F17.binds (ps := ["triple"]) fun _ _ _ _ _ _ us hl => match us, hl with | [_], _ => rfl)
  have F18 := fun_mk (st := s_least_row) l18 c18 k18
  have D_least_row : DefAt K mg "least_row" s_least_row ["row"] := defAt_mk X G a18 F18 (F18.binds (ps := ["row"]) fun _ _ _ _ _ _ us hl => match us, hl with | [_], _ => rfl)
  have F19 := fun_mk (st := s_kept_column) l19 c19 k19
  have D_kept_column : DefAt K mg "kept_column" s_kept_column ["table"] := defAt_mk X G a19 F19 (F19.binds (ps := ["table"]) fun _ _ _ _ _ _ us hl => match us, hl with | [_], _ => rfl)
  have F20 := fun_mk (st := s_trace_of) l20 c20 k20
  have D_trace_of : DefAt K mg "trace_of" s_trace_of ["one"] := defAt_mk X G a20 F20 (F20.binds (ps := ["one"]) fun _ _ _ _ _ _ us hl => match us, hl with | [_], _ => rfl)
  have F21 := fun_mk (st := s_table_times) l21 c21 k21
  have D_table_times : DefAt K mg "table_times" s_table_times ["one", "other"] := defAt_mk X G a21 F21 (F21.binds (ps := ["one", "other"]) fun _ _ _ _ _ _ us hl => match us, hl with | [_, _], _ => rfl)
  have F22 := fun_mk (st := s_traced) l22 c22 k22
  have D_traced : DefAt K mg "traced" s_traced ["pair"] := defAt_mk X G a22 F22 (F22.binds (ps := ["pair"]) fun _ _ _ _ _ _ us hl => match us, hl with | [_], _ => rfl)
  have F23 := fun_mk (st := s_line_told) l23 c23 k23
  have D_line_told : DefAt K mg "line_told" s_line_told ["pair"] := defAt_mk X G a23 F23 (F23.binds (ps := ["pair"]) fun _ _ _ _ _ _ us hl => match us, hl with | [_], _ => rfl)
  have T : Txt w K mg := ⟨PySem.W.mg_none_of X G z_abs, PySem.W.mg_none_of X G z_all, PySem.W.mg_none_of X G z_bool, PySem.W.mg_none_of X G z_int, PySem.W.mg_none_of X G z_isinstance, PySem.W.mg_none_of X G z_len, PySem.W.mg_none_of X G z_list, PySem.W.mg_none_of X G z_max, PySem.W.mg_none_of X G z_range, PySem.W.mg_none_of X G z_repr, PySem.W.mg_none_of X G z_tuple, eachAt X G kc_EACH_ONE kt_E kt_1 kt_2, ⟨.int 2, _, PySem.W.mg_of X G kc_HAS_LINE, ⟨_, rfl⟩, fun _ => by constructor⟩, PySem.W.mg_of X G z_gcd⟩
  refine ⟨PySem.W.fnOf "law" "law" (defArgs s_law) (defBody s_law) (defScope s_law) .none kV24 dc24 pm24 an24 cd24 ct24, fun s v => .of_eq rfl, fun base _ _ => ?_⟩
  have C__law_pick := ok__law_pick (P := l.prog) (w := w) (base := base) T  D__law_pick
  have C__law_of := ok__law_of (P := l.prog) (w := w) (base := base) T C__law_pick D__law_of
  have C__law_table_times := ok__law_table_times (P := l.prog) (w := w) (base := base) T  D__law_table_times
  have C__law_drawn_table := ok__law_drawn_table (P := l.prog) (w := w) (base := base) T C__law_of C__law_pick C__law_table_times D__law_drawn_table
  have C__law_column := ok__law_column (P := l.prog) (w := w) (base := base) T  D__law_column
  have C__law_k := ok__law_k (P := l.prog) (w := w) (base := base) T  D__law_k
  have C__law_triple := ok__law_triple (P := l.prog) (w := w) (base := base) T C__law_table_times D__law_triple
  have C__law_due := ok__law_due (P := l.prog) (w := w) (base := base) T C__law_column C__law_k C__law_triple D__law_due
  have C__law_is_kept := ok__law_is_kept (P := l.prog) (w := w) (base := base) T  D__law_is_kept
  have C__law_is_table := ok__law_is_table (P := l.prog) (w := w) (base := base) T  D__law_is_table
  have C__law_table_undone := ok__law_table_undone (P := l.prog) (w := w) (base := base) T  D__law_table_undone
  have C__law_led := ok__law_led (P := l.prog) (w := w) (base := base) T C__law_table_times C__law_table_undone D__law_led
  have C__law_pair := ok__law_pair (P := l.prog) (w := w) (base := base) T C__law_drawn_table C__law_led C__law_of C__law_pick C__law_table_times C__law_table_undone D__law_pair
  have C__law_source := ok__law_source (P := l.prog) (w := w) (base := base) T  D__law_source
  have C_is_whole := ok_is_whole (P := l.prog) (w := w) (base := base) T  D_is_whole
  have C_is_table := ok_is_table (P := l.prog) (w := w) (base := base) T C_is_whole D_is_table
  have C_is_pair := ok_is_pair (P := l.prog) (w := w) (base := base) T C_is_table D_is_pair
  have C_k_of := ok_k_of (P := l.prog) (w := w) (base := base) T  D_k_of
  have C_least_row := ok_least_row (P := l.prog) (w := w) (base := base) T  D_least_row
  have C_kept_column := ok_kept_column (P := l.prog) (w := w) (base := base) T C_least_row D_kept_column
  have C_trace_of := ok_trace_of (P := l.prog) (w := w) (base := base) T  D_trace_of
  have C_table_times := ok_table_times (P := l.prog) (w := w) (base := base) T  D_table_times
  have C_traced := ok_traced (P := l.prog) (w := w) (base := base) T C_table_times C_trace_of D_traced
  have C_line_told := ok_line_told (P := l.prog) (w := w) (base := base) T C_k_of C_kept_column C_trace_of C_traced D_line_told
  exact ok_law T C__law_drawn_table C__law_due C__law_is_kept C__law_is_table C__law_k C__law_led C__law_pair C__law_source C__law_table_times C__law_table_undone C__law_triple C_is_pair C_is_table C_k_of C_line_told C_traced (fun_mk (st := s_law) l24 c24 k24)
end QL

open PySem PySem.W PyProof.Rows in
set_option maxRecDepth 100000 in
set_option maxHeartbeats 0 in
theorem PySem.Challenge.cw_tracetriples_k52_lines_in_common_holds : PySem.Challenge.rw_tracetriples_k52_lines_in_common.Holds := by
  w_on; o_law; k_head; (case hw => w_witness2)
  k_fill
  refine QL.walkG (k := 5) (x := "script") (l := PySem.Challenge.rw_tracetriples_k52_lines_in_common) rfl rfl ⟨rfl, by decide, by decide⟩ (fun w h Y => PySem.W.kIn_of Y) ?F
  case F =>
    intro w mg fa h KX G hmg
    refine' QL.all_mk KX G hmg ?a0 ?l0 ?c0 ?k0 ?a1 ?l1 ?c1 ?k1 ?a2 ?l2 ?c2 ?k2 ?a3 ?l3 ?c3 ?k3 ?a4 ?l4 ?c4 ?k4 ?a5 ?l5 ?c5 ?k5 ?a6 ?l6 ?c6 ?k6 ?a7 ?l7 ?c7 ?k7 ?a8 ?l8 ?c8 ?k8 ?a9 ?l9 ?c9 ?k9 ?a10 ?l10 ?c10 ?k10 ?a11 ?l11 ?c11 ?k11 ?a12 ?l12 ?c12 ?k12 ?a13 ?l13 ?c13 ?k13 ?a14 ?l14 ?c14 ?k14 ?a15 ?l15 ?c15 ?k15 ?a16 ?l16 ?c16 ?k16 ?a17 ?l17 ?c17 ?k17 ?a18 ?l18 ?c18 ?k18 ?a19 ?l19 ?c19 ?k19 ?a20 ?l20 ?c20 ?k20 ?a21 ?l21 ?c21 ?k21 ?a22 ?l22 ?c22 ?k22 ?a23 ?l23 ?c23 ?k23 ?a24 ?l24 ?c24 ?k24 ?z_abs ?z_all ?z_bool ?z_int ?z_isinstance ?z_len ?z_list ?z_max ?z_range ?z_repr ?z_tuple ?z_gcd ?kc_HAS_LINE ?kc_EACH_ONE ?kt_E ?kt_1 ?kt_2
    (case a0 => k_is)
    (case l0 => k_is)
    (case c0 => k_is)
    (case k0 => k_is)
    (case a1 => k_is)
    (case l1 => k_is)
    (case c1 => k_is)
    (case k1 => k_is)
    (case a2 => k_is)
    (case l2 => k_is)
    (case c2 => k_is)
    (case k2 => k_is)
    (case a3 => k_is)
    (case l3 => k_is)
    (case c3 => k_is)
    (case k3 => k_is)
    (case a4 => k_is)
    (case l4 => k_is)
    (case c4 => k_is)
    (case k4 => k_is)
    (case a5 => k_is)
    (case l5 => k_is)
    (case c5 => k_is)
    (case k5 => k_is)
    (case a6 => k_is)
    (case l6 => k_is)
    (case c6 => k_is)
    (case k6 => k_is)
    (case a7 => k_is)
    (case l7 => k_is)
    (case c7 => k_is)
    (case k7 => k_is)
    (case a8 => k_is)
    (case l8 => k_is)
    (case c8 => k_is)
    (case k8 => k_is)
    (case a9 => k_is)
    (case l9 => k_is)
    (case c9 => k_is)
    (case k9 => k_is)
    (case a10 => k_is)
    (case l10 => k_is)
    (case c10 => k_is)
    (case k10 => k_is)
    (case a11 => k_is)
    (case l11 => k_is)
    (case c11 => k_is)
    (case k11 => k_is)
    (case a12 => k_is)
    (case l12 => k_is)
    (case c12 => k_is)
    (case k12 => k_is)
    (case a13 => k_is)
    (case l13 => k_is)
    (case c13 => k_is)
    (case k13 => k_is)
    (case a14 => k_is)
    (case l14 => k_is)
    (case c14 => k_is)
    (case k14 => k_is)
    (case a15 => k_is)
    (case l15 => k_is)
    (case c15 => k_is)
    (case k15 => k_is)
    (case a16 => k_is)
    (case l16 => k_is)
    (case c16 => k_is)
    (case k16 => k_is)
    (case a17 => k_is)
    (case l17 => k_is)
    (case c17 => k_is)
    (case k17 => k_is)
    (case a18 => k_is)
    (case l18 => k_is)
    (case c18 => k_is)
    (case k18 => k_is)
    (case a19 => k_is)
    (case l19 => k_is)
    (case c19 => k_is)
    (case k19 => k_is)
    (case a20 => k_is)
    (case l20 => k_is)
    (case c20 => k_is)
    (case k20 => k_is)
    (case a21 => k_is)
    (case l21 => k_is)
    (case c21 => k_is)
    (case k21 => k_is)
    (case a22 => k_is)
    (case l22 => k_is)
    (case c22 => k_is)
    (case k22 => k_is)
    (case a23 => k_is)
    (case l23 => k_is)
    (case c23 => k_is)
    (case k23 => k_is)
    (case a24 => k_is)
    (case l24 => k_is)
    (case c24 => k_is)
    (case k24 => k_is)
    (case z_abs => k_is)
    (case z_all => k_is)
    (case z_bool => k_is)
    (case z_int => k_is)
    (case z_isinstance => k_is)
    (case z_len => k_is)
    (case z_list => k_is)
    (case z_max => k_is)
    (case z_range => k_is)
    (case z_repr => k_is)
    (case z_tuple => k_is)
    (case z_gcd => k_is)
    (case kc_HAS_LINE => k_is)
    (case kc_EACH_ONE => k_is)
    (case kt_E => k_is)
    (case kt_1 => k_is)
    (case kt_2 => k_is)
#print axioms PySem.Challenge.cw_tracetriples_k52_lines_in_common_holds
