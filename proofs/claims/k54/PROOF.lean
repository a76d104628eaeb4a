import PyProof.Rows.All
import Wide.All
import OpenK.AllK
import Wide.FinOn
import HandS.ForMost
import HandS.TupAny
import HandS.NoneIn
import HandS.Wide
import HandS.Style
import HandS.More
import PyProof.ReprBulk
import HandS.Zip
import HandS.Deep
import PySem.Challenge.RW_tracetriples_k54_rests_by_all_pairs
set_option Elab.async false
set_option linter.all false
set_option maxRecDepth 100000
set_option maxHeartbeats 2000000
/-! QA: plain data over the hand layer. Values are told as data (PyData), mutable things of a def as local objects, the law's source as one state. -/
namespace QL
open PySem PySem.Spec PyProof.Rows L2

abbrev D := PyData
/-- a key as data -/
def kD : Key → D
  | .inl i => .int i
  | .inr x => .str x
mutual
inductive Dq (K : PySem.W.Frag) (H : Hp) : V → D → Prop
  | non : Dq K H .non .none
  | bl (b : Bool) : Dq K H (.bl b) (.bool b)
  | int (i : Int) : Dq K H (.int i) (.int i)
  | str (x : Str) : Dq K H (.str x) (.str x)
  | lst {a : Addr} {xs : List V} {ds : List D} : H a = some (.lst xs) → DqAll K H xs ds → Dq K H (.ref a) (.list ds)
  | tup {a : Addr} {xs : List V} {ds : List D} : SqT K H a xs → DqAll K H xs ds → Dq K H (.ref a) (.tuple ds)
  | dk {a : Addr} {ys : List (Key × V)} {kvs : List (D × D)} : H a = some (.dK ys) → DqK K H ys kvs → Dq K H (.ref a) (.dict kvs)
inductive DqK (K : PySem.W.Frag) (H : Hp) : List (Key × V) → List (D × D) → Prop
  | nil : DqK K H [] []
  | cons {k : Key} {v : V} {d : D} {ys : List (Key × V)} {kvs : List (D × D)} : Dq K H v d → DqK K H ys kvs → DqK K H ((k, v) :: ys) ((kD k, d) :: kvs)
inductive DqAll (K : PySem.W.Frag) (H : Hp) : List V → List D → Prop
  | nil : DqAll K H [] []
  | cons {v : V} {vs : List V} {d : D} {ds : List D} : Dq K H v d → DqAll K H vs ds → DqAll K H (v :: vs) (d :: ds)
end
section
variable {K : PySem.W.Frag} {H H' : Hp}
theorem same_tup (e : Same H H') {a : Addr} {xs : List V} (h : SqT K H a xs) : SqT K H' a xs := by
  rcases h with (h | ⟨o, h⟩) | h
  · exact .inl (.inl (e _ _ h))
  · exact .inl (.inr ⟨o, e _ _ h⟩)
  · exact .inr h
mutual
theorem Dq.mono (e : Same H H') : ∀ (d : D) (v : V), Dq K H v d → Dq K H' v d
  | .none, _, h => by cases h; exact .non
  | .bool b, _, h => by cases h; exact .bl b
  | .int i, _, h => by cases h; exact .int i
  | .str x, _, h => by cases h; exact .str x
  | .list ds, _, h => by
    cases h with
    | lst h1 h2 => exact .lst (e _ _ h1) (DqAll.mono e ds _ h2)
  | .tuple ds, _, h => by
    cases h with
    | tup h1 h2 => exact .tup (same_tup e h1) (DqAll.mono e ds _ h2)
  | .dict kvs, _, h => by
    cases h with
    | dk h1 h2 => exact .dk (e _ _ h1) (DqK.mono e kvs _ h2)
theorem DqK.mono (e : Same H H') : ∀ (kvs : List (D × D)) (ys : List (Key × V)), DqK K H ys kvs → DqK K H' ys kvs
  | [], _, h => by cases h; exact .nil
  | (k, d) :: kvs, _, h => by
    cases h with
    | cons h1 h2 => exact .cons (Dq.mono e d _ h1) (DqK.mono e kvs _ h2)
theorem DqAll.mono (e : Same H H') : ∀ (ds : List D) (vs : List V), DqAll K H vs ds → DqAll K H' vs ds
  | [], _, h => by cases h; exact .nil
  | d :: ds, _, h => by
    cases h with
    | cons h1 h2 => exact .cons (Dq.mono e d _ h1) (DqAll.mono e ds _ h2)
end
mutual
theorem Dq.toDp : ∀ (d : D) (v : V), d.hasDict = false → Dq K H v d → Dp K H v d
  | .none, _, _, h => by cases h; exact .non
  | .bool b, _, _, h => by cases h; exact .bl b
  | .int i, _, _, h => by cases h; exact .int i
  | .str x, _, _, h => by cases h; exact .str x
  | .list ds, _, n, h => by
    simp only [PyData.hasDict] at n
    cases h with
    | lst h1 h2 => exact .lst (SqL.of h1) (DqAll.toDp ds _ n h2)
  | .tuple ds, _, n, h => by
    simp only [PyData.hasDict] at n
    cases h with
    | tup h1 h2 => exact .tup h1 (DqAll.toDp ds _ n h2)
  | .dict _, _, n, h => by simp [PyData.hasDict] at n
theorem DqAll.toDp : ∀ (ds : List D) (vs : List V), PyData.hasDictAll ds = false → DqAll K H vs ds → DpAll K H vs ds
  | [], _, _, h => by cases h; exact .nil
  | d :: ds, _, n, h => by
    simp only [PyData.hasDictAll, Bool.or_eq_false_iff] at n
    cases h with
    | cons h1 h2 => exact .cons (Dq.toDp d _ n.1 h1) (DqAll.toDp ds _ n.2 h2)
end
mutual
theorem canLay_noDict : ∀ d : D, d.canLay0 = true → d.hasDict = false
  | .none, _ => by simp [PyData.hasDict]
  | .bool _, _ => by simp [PyData.hasDict]
  | .int _, _ => by simp [PyData.hasDict]
  | .str _, _ => by simp [PyData.hasDict]
  | .list ds, h => by simp only [PyData.hasDict]; simp only [PyData.canLay0] at h; exact canLayAll_noDict ds h
  | .tuple ds, h => by simp only [PyData.hasDict]; simp only [PyData.canLay0] at h; exact canLayAll_noDict ds h
  | .dict _, h => by simp [PyData.canLay0] at h
theorem canLayAll_noDict : ∀ ds : List D, PyData.canLayAll0 ds = true → PyData.hasDictAll ds = false
  | [], _ => by simp [PyData.hasDictAll]
  | d :: ds, h => by
    simp only [PyData.canLayAll0, Bool.and_eq_true] at h
    simp [PyData.hasDictAll, canLay_noDict d h.1, canLayAll_noDict ds h.2]
end
theorem shaped_noDict {d : D} (h : SeqAt.shaped d = true) : d.hasDict = false := canLay_noDict d (SeqAt.canLay_of_shaped h)
theorem DqAll.len : ∀ {ds : List D} {vs : List V}, DqAll K H vs ds → vs.length = ds.length
  | [], _, h => by cases h; rfl
  | d :: ds, _, h => by
    cases h with
    | cons h1 h2 => simp [DqAll.len h2]
theorem DqAll.at : ∀ {ds : List D} {vs : List V} {i : Nat} {d : D}, DqAll K H vs ds → ds[i]? = some d → ∃ v, vs[i]? = some v ∧ Dq K H v d
  | [], _, _, _, h, e => by simp at e
  | d :: ds, _, 0, _, h, e => by
    cases h with
    | cons h1 h2 => simp at e; subst e; exact ⟨_, rfl, h1⟩
  | d :: ds, _, i + 1, _, h, e => by
    cases h with
    | cons h1 h2 =>
      obtain ⟨v, q1, q2⟩ := DqAll.at (i := i) h2 (by simpa using e)
      exact ⟨v, by simpa using q1, q2⟩
theorem DqAll.app : ∀ {ds es : List D} {vs ws : List V}, DqAll K H vs ds → DqAll K H ws es → DqAll K H (vs ++ ws) (ds ++ es)
  | [], _, _, _, h, k => by cases h; exact k
  | d :: ds, _, _, _, h, k => by
    cases h with
    | cons h1 h2 => exact .cons h1 (DqAll.app h2 k)
theorem DqAll.drop : ∀ {ds : List D} {vs : List V} (n : Nat), DqAll K H vs ds → DqAll K H (vs.drop n) (ds.drop n)
  | _, _, 0, h => h
  | [], _, n + 1, h => by cases h; exact .nil
  | d :: ds, _, n + 1, h => by
    cases h with
    | cons h1 h2 => exact DqAll.drop n h2
theorem DqAll.take : ∀ {ds : List D} {vs : List V} (n : Nat), DqAll K H vs ds → DqAll K H (vs.take n) (ds.take n)
  | _, _, 0, h => .nil
  | [], _, n + 1, h => by cases h; exact .nil
  | d :: ds, _, n + 1, h => by
    cases h with
    | cons h1 h2 => exact .cons h1 (DqAll.take n h2)
theorem DqAll.rev {ds : List D} {vs : List V} (h : DqAll K H vs ds) : DqAll K H vs.reverse ds.reverse := by
  induction ds generalizing vs with
  | nil => cases h; exact .nil
  | cons d ds ih =>
    cases h with
    | cons h1 h2 =>
      rw [List.reverse_cons, List.reverse_cons]
      exact (ih h2).app (.cons h1 .nil)
theorem DqAll.rep {ds : List D} {vs : List V} (h : DqAll K H vs ds) : ∀ n : Nat, DqAll K H (List.replicate n vs).flatten (List.replicate n ds).flatten
  | 0 => .nil
  | n + 1 => by
    rw [List.replicate_succ, List.replicate_succ, List.flatten_cons, List.flatten_cons]
    exact h.app (DqAll.rep h n)
theorem DqAll.pop {ds : List D} {vs : List V} (h : DqAll K H vs ds) : DqAll K H vs.dropLast ds.dropLast := by
  rw [List.dropLast_eq_take, List.dropLast_eq_take, h.len]
  exact h.take _
theorem DqAll.setAt : ∀ {ds : List D} {vs : List V} {d : D} {v : V} (i : Nat), DqAll K H vs ds → Dq K H v d → DqAll K H (vs.set i v) (ds.set i d)
  | [], _, _, _, i, h, _ => by cases h; exact .nil
  | x :: ds, _, _, _, 0, h, k => by
    cases h with
    | cons h1 h2 => exact .cons k h2
  | x :: ds, _, _, _, i + 1, h, k => by
    cases h with
    | cons h1 h2 => exact .cons h1 (DqAll.setAt i h2 k)
theorem DqAll.ints : ∀ {ns : List Int} {vs : List V}, DqAll K H vs (ns.map PyData.int) → vs = ns.map V.int
  | [], _, h => by cases h; rfl
  | n :: ns, _, h => by
    cases h with
    | cons h1 h2 => cases h1; simp [DqAll.ints h2]
theorem DqAll.bls : ∀ {ns : List Bool} {vs : List V}, DqAll K H vs (ns.map PyData.bool) → vs = ns.map V.bl
  | [], _, h => by cases h; rfl
  | n :: ns, _, h => by
    cases h with
    | cons h1 h2 => cases h1; simp [DqAll.bls h2]
theorem DqAll.ofInts : ∀ (ns : List Int), DqAll K H (ns.map V.int) (ns.map PyData.int)
  | [] => .nil
  | n :: ns => .cons (.int n) (DqAll.ofInts ns)
end

/-! ### the abstract state -/
inductive AV where
  | d (x : D) | o (j : Nat) | src | cells | scr (ns : List Int) | kt (ks : List Key) | dt (kvs : List (List Key × D))
structure Src where
  cells : List Int
  left : Int
  mixed : Int
  turn : Int
inductive MO where
  | l (ds : List D) | kd (kvs : List (Key × D)) | td (kvs : List (List Key × D))
structure Mm where
  s : Option Src
  o : List MO
structure AS where
  g : List (Option AV)
  m : Mm

def hid (Z : List Addr) (H : Hp) : Hp := fun a => if a ∈ Z then none else H a
theorem hid_some {Z : List Addr} {H : Hp} {a : Addr} {o : HO} (h : hid Z H a = some o) : a ∉ Z ∧ H a = some o := by
  unfold hid at h
  split at h
  · cases h
  · exact ⟨‹_›, h⟩
theorem hid_of {Z : List Addr} {H : Hp} {a : Addr} (h : a ∉ Z) : hid Z H a = H a := if_neg h
theorem hid_same {Z : List Addr} {H : Hp} : Same (hid Z H) H := fun a o h => (hid_some h).2

structure Ct where
  K : PySem.W.Frag
  Z : List Addr
  L0 : List Addr
  H0 : Hp
abbrev Ct.hd (C : Ct) (L Mo : List Addr) (H : Hp) : Hp := hid (C.Z ++ (L ++ Mo)) H
def srcKv (S : Src) (c : Addr) : List (Key × V) := [(.inr "cells", .ref c), (.inr "left", .int S.left), (.inr "mixed", .int S.mixed), (.inr "turn", .int S.turn)]
def SrcAt (H : Hp) : Option Src → List Addr → Prop
  | none, L => L = []
  | some S, L => ∃ d c, L = [d, c] ∧ H d = some (.dK (srcKv S c)) ∧ H c = some (.lst (S.cells.map V.int))
def KQ {κ : Type} (K : PySem.W.Frag) (h : Hp) : List (κ × V) → List (κ × D) → Prop := Paired fun (p : κ × V) (q : κ × D) => p.1 = q.1 ∧ Dq K h p.2 q.2
theorem KQ.mono {κ : Type} {K : PySem.W.Frag} {h h' : Hp} (e : Same h h') {l : List (κ × V)} {r : List (κ × D)} (q : KQ K h l r) : KQ K h' l r := Paired.mapP q fun a b ⟨q1, q2⟩ => ⟨q1, Dq.mono e _ _ q2⟩
def kvD (kvs : List (Key × D)) : List (D × D) := kvs.map fun p => (kD p.1, p.2)
theorem KQ.toK {K : PySem.W.Frag} {h : Hp} : ∀ {ys : List (Key × V)} {kvs : List (Key × D)}, KQ K h ys kvs → DqK K h ys (kvD kvs)
  | _, _, .nil => .nil
  | (_, _) :: _, (_, _) :: _, .cons q t => by
    obtain ⟨q1, q2⟩ := q
    simp only at q1 q2
    subst q1
    exact .cons q2 (KQ.toK t)
def MOk (K : PySem.W.Frag) (h H : Hp) : MO → Addr → Prop
  | .l ds, l => ∃ xs, H l = some (.lst xs) ∧ DqAll K h xs ds
  | .kd kvs, l => ∃ ys, H l = some (.dK ys) ∧ KQ K h ys kvs
  | .td kvs, l => ∃ ys, H l = some (.dT ys) ∧ KQ K h ys kvs
theorem MOk.mono {K : PySem.W.Frag} {h h' H H' : Hp} {o : MO} {l : Addr} (q : MOk K h H o l) (e : Same h h') (f : H' l = H l) : MOk K h' H' o l := by
  cases o with
  | l ds => obtain ⟨xs, q1, q2⟩ := q; exact ⟨xs, f.trans q1, DqAll.mono e _ _ q2⟩
  | kd ds => obtain ⟨xs, q1, q2⟩ := q; exact ⟨xs, f.trans q1, q2.mono e⟩
  | td ds => obtain ⟨xs, q1, q2⟩ := q; exact ⟨xs, f.trans q1, q2.mono e⟩
theorem MOk.there {K : PySem.W.Frag} {h H : Hp} {o : MO} {l : Addr} (q : MOk K h H o l) : ∃ u, H l = some u := by
  cases o with
  | l ds => obtain ⟨xs, q1, q2⟩ := q; exact ⟨_, q1⟩
  | kd ds => obtain ⟨xs, q1, q2⟩ := q; exact ⟨_, q1⟩
  | td ds => obtain ⟨xs, q1, q2⟩ := q; exact ⟨_, q1⟩

structure B (C : Ct) (m : Mm) (L Mo : List Addr) (H : Hp) : Prop where
  nd : (C.Z ++ (L ++ Mo)).Nodup
  sr : SrcAt H m.s L
  ob : Paired (MOk C.K (C.hd L Mo H) H) m.o Mo
  kp : ∀ a u, C.H0 a = some u → a ∉ C.L0 → H a = some u
  nl : ∀ x ∈ L, x ∈ C.L0 ∨ C.H0 x = none
  no : ∀ x ∈ Mo, C.H0 x = none ∧ x ∉ C.L0
  zt : ∀ z ∈ C.Z, (∃ u, C.H0 z = some u) ∧ z ∉ C.L0
  l0 : C.L0 = [] ∨ L = C.L0
theorem paired_mem {α β : Type} {F : α → β → Prop} : ∀ {l : List α} {r : List β} {b : β}, Paired F l r → b ∈ r → ∃ a ∈ l, F a b
  | _, _, _, .nil, h => by cases h
  | _, _, _, .cons q t, h => by
    rcases List.mem_cons.mp h with rfl | h
    · exact ⟨_, List.mem_cons_self, q⟩
    · obtain ⟨a, h1, h2⟩ := paired_mem t h
      exact ⟨a, List.mem_cons_of_mem _ h1, h2⟩
theorem paired_at {α β : Type} {F : α → β → Prop} : ∀ {l : List α} {r : List β} {i : Nat} {a : α}, Paired F l r → l[i]? = some a → ∃ b, r[i]? = some b ∧ F a b
  | _, _, _, _, .nil, h => by simp at h
  | _, _, 0, _, .cons q t, h => by simp at h; subst h; exact ⟨_, rfl, q⟩
  | _, _, i + 1, _, .cons q t, h => by
    obtain ⟨b, h1, h2⟩ := paired_at (i := i) t (by simpa using h)
    exact ⟨b, by simpa using h1, h2⟩
theorem paired_app {α β : Type} {F : α → β → Prop} : ∀ {l l2 : List α} {r r2 : List β}, Paired F l r → Paired F l2 r2 → Paired F (l ++ l2) (r ++ r2)
  | _, _, _, _, .nil, k => k
  | _, _, _, _, .cons q t, k => .cons q (paired_app t k)
theorem paired_impM {α β : Type} {F G : α → β → Prop} : ∀ {l : List α} {r : List β}, Paired F l r → (∀ a b, b ∈ r → F a b → G a b) → Paired G l r
  | _, _, .nil, _ => .nil
  | _, _, .cons q t, f => .cons (f _ _ List.mem_cons_self q) (paired_impM t fun a b hb => f a b (List.mem_cons_of_mem _ hb))
theorem paired_take {α β : Type} {F : α → β → Prop} : ∀ {l : List α} {r : List β} (n : Nat), Paired F l r → Paired F (l.take n) (r.take n)
  | _, _, 0, _ => .nil
  | _, _, n + 1, .nil => .nil
  | _, _, n + 1, .cons q t => .cons q (paired_take n t)
theorem paired_set {α β : Type} {F : α → β → Prop} : ∀ {l : List α} {r : List β} {i : Nat} {a : α} {b : β}, Paired F l r → r[i]? = some b → F a b → Paired F (l.set i a) r
  | _, _, _, _, _, .nil, h, _ => by simp at h
  | _, _, 0, _, _, .cons q t, h, k => by simp at h; subst h; exact .cons k t
  | _, _, i + 1, _, _, .cons q t, h, k => .cons q (paired_set t (by simpa using h) k)

structure X2 (C : Ct) (L Mo : List Addr) (H : Hp) (L' Mo' : List Addr) (H' : Hp) : Prop where
  pl : L = [] ∨ L' = L
  po : Mo <+: Mo'
  sm : Same (C.hd L Mo H) (C.hd L' Mo' H')
section
variable {C : Ct} {m : Mm} {L Mo L' Mo' L2 Mo2 : List Addr} {H H' H2 : Hp} {p : Addr} {ho : HO}
theorem X2.refl : X2 C L Mo H L Mo H := ⟨.inr rfl, List.prefix_rfl, Same.refl _⟩
theorem X2.trans (a : X2 C L Mo H L' Mo' H') (b : X2 C L' Mo' H' L2 Mo2 H2) : X2 C L Mo H L2 Mo2 H2 :=
  ⟨by rcases a.pl with h | h
      · exact .inl h
      · rcases b.pl with k | k
        · exact .inl (h ▸ k)
        · exact .inr (k.trans h), a.po.trans b.po, a.sm.trans b.sm⟩
theorem B.there (b : B C m L Mo H) {x : Addr} (hx : x ∈ C.Z ++ (L ++ Mo)) : ∃ u, H x = some u := by
  rcases List.mem_append.mp hx with h | h
  · obtain ⟨⟨u, h1⟩, h2⟩ := b.zt x h
    exact ⟨u, b.kp x u h1 h2⟩
  · rcases List.mem_append.mp h with h | h
    · have q := b.sr
      cases e : m.s with
      | none => rw [e] at q; rw [show L = [] from q] at h; cases h
      | some S =>
        rw [e] at q
        obtain ⟨d, c, rfl, h1, h2⟩ := q
        rcases List.mem_cons.mp h with rfl | h
        · exact ⟨_, h1⟩
        · rcases List.mem_cons.mp h with rfl | h
          · exact ⟨_, h2⟩
          · cases h
    · obtain ⟨o, _, q⟩ := paired_mem b.ob h
      exact q.there
theorem B.fresh (b : B C m L Mo H) (hp : H p = none) : p ∉ C.Z ++ (L ++ Mo) := fun h => by
  obtain ⟨u, q⟩ := b.there h
  rw [hp] at q; cases q
theorem B.freshL (b : B C m L Mo H) (hp : H p = none) : p ∉ C.L0 := fun h => by
  rcases b.l0 with z | z
  · rw [z] at h; cases h
  · exact b.fresh hp (by simp [z, h])
theorem B.fresh0 (b : B C m L Mo H) (hp : H p = none) : C.H0 p = none := by
  cases e : C.H0 p with
  | none => rfl
  | some u => rw [b.kp p u e (b.freshL hp)] at hp; cases hp
theorem hd_upd (hp : H p = none) : Same (C.hd L Mo H) (C.hd L Mo (upd H p ho)) := fun a o h => by
  obtain ⟨h1, h2⟩ := hid_some h
  rw [Ct.hd, hid_of h1, upd_ne (ne_of_none h2 hp)]
  exact h2
theorem hd_updIn {x : Addr} (hx : x ∈ C.Z ++ (L ++ Mo)) : C.hd L Mo (upd H x ho) = C.hd L Mo H := by
  funext a
  unfold Ct.hd hid
  by_cases h : a ∈ C.Z ++ (L ++ Mo)
  · rw [if_pos h, if_pos h]
  · rw [if_neg h, if_neg h]
    exact upd_ne fun e => h (e ▸ hx)
theorem X2.alloc (hp : H p = none) : X2 C L Mo H L Mo (upd H p ho) := ⟨.inr rfl, List.prefix_rfl, hd_upd hp⟩
theorem srcAt_upd {s : Option Src} (q : SrcAt H s L) (hn : p ∉ L) : SrcAt (upd H p ho) s L := by
  cases s with
  | none => exact q
  | some S =>
    obtain ⟨d, c, rfl, h1, h2⟩ := q
    refine ⟨d, c, rfl, ?_, ?_⟩
    · rw [upd_ne (fun e => hn (by simp [e]))]; exact h1
    · rw [upd_ne (fun e => hn (by simp [e]))]; exact h2
theorem B.alloc (b : B C m L Mo H) (hp : H p = none) : B C m L Mo (upd H p ho) := by
  have hf := b.fresh hp
  refine ⟨b.nd, srcAt_upd b.sr fun h => hf (by simp [h]), paired_impM b.ob fun o l hl q => q.mono (hd_upd hp) ?_, fun a u h1 h2 => ?_, b.nl, b.no, b.zt, b.l0⟩
  · exact upd_ne fun e => hf (by simp [← e, hl])
  · have := b.kp a u h1 h2
    rw [upd_ne (ne_of_none this hp)]; exact this
theorem hd_snoc (hp : H p = none) : Same (C.hd L Mo H) (C.hd L (Mo ++ [p]) (upd H p ho)) := fun a o h => by
  obtain ⟨h1, h2⟩ := hid_some h
  have ne : a ≠ p := ne_of_none h2 hp
  rw [Ct.hd, hid_of (fun z => h1 (by simp [ne] at z ⊢; exact z)), upd_ne ne]
  exact h2
theorem X2.allocO (hp : H p = none) : X2 C L Mo H L (Mo ++ [p]) (upd H p ho) := ⟨.inr rfl, List.prefix_append _ _, hd_snoc hp⟩
theorem B.allocO {o : MO} (b : B C m L Mo H) (hp : H p = none) (ok : ∀ h, Same (C.hd L Mo H) h → MOk C.K h (upd H p ho) o p) : B C ⟨m.s, m.o ++ [o]⟩ L (Mo ++ [p]) (upd H p ho) := by
  have hf := b.fresh hp
  have hs : Same (C.hd L Mo H) (C.hd L (Mo ++ [p]) (upd H p ho)) := hd_snoc hp
  refine ⟨?_, srcAt_upd b.sr fun h => hf (by simp [h]), paired_app (paired_impM b.ob fun o l hl q => q.mono hs ?_) (.cons (ok _ hs) .nil), fun a u h1 h2 => ?_, b.nl, fun x hx => ?_, b.zt, b.l0⟩
  · rw [← List.append_assoc, ← List.append_assoc]
    refine List.nodup_append.mpr ⟨by rw [List.append_assoc]; exact b.nd, by simp, fun x hx y hy e => ?_⟩
    have : y = p := by simpa using hy
    subst this; subst e
    exact hf (by rw [← List.append_assoc]; exact hx)
  · exact upd_ne fun e => hf (by simp [← e, hl])
  · have := b.kp a u h1 h2
    rw [upd_ne (ne_of_none this hp)]; exact this
  · rcases List.mem_append.mp hx with h | h
    · exact b.no x h
    · have : x = p := by simpa using h
      subst this
      exact ⟨b.fresh0 hp, b.freshL hp⟩
end
end QL

namespace QL
open PySem PySem.Spec PyProof.Rows L2

def AVR (C : Ct) (L Mo : List Addr) (H : Hp) : AV → V → Prop
  | .d x, v => Dq C.K (C.hd L Mo H) v x
  | .o j, v => ∃ l, Mo[j]? = some l ∧ v = .ref l
  | .src, v => ∃ d c, L = [d, c] ∧ v = .ref d
  | .cells, v => ∃ d c, L = [d, c] ∧ v = .ref c
  | .scr ns, v => ∃ a, v = .ref a ∧ SqL C.K (C.hd L Mo H) a (ns.map V.int)
  | .kt ks, v => ∃ a, v = .ref a ∧ C.hd L Mo H a = some (.tup (ks.map kV))
  | .dt kvs, v => ∃ a ys, v = .ref a ∧ C.hd L Mo H a = some (.dT ys) ∧ KQ C.K (C.hd L Mo H) ys kvs
abbrev AVRs (C : Ct) (L Mo : List Addr) (H : Hp) : List AV → List V → Prop := Paired (AVR C L Mo H)
section
variable {C : Ct} {m m' : Mm} {L Mo L' Mo' L2 Mo2 : List Addr} {H H' H2 : Hp} {av : AV} {v : V}
theorem AVR.mono (h : AVR C L Mo H av v) (x : X2 C L Mo H L' Mo' H') : AVR C L' Mo' H' av v := by
  cases av with
  | d y => exact Dq.mono x.sm _ _ h
  | o j =>
    obtain ⟨l, h1, rfl⟩ := h
    obtain ⟨t, rfl⟩ := x.po
    exact ⟨l, by rw [List.getElem?_append_left (List.getElem?_eq_some_iff.mp h1).1]; exact h1, rfl⟩
  | src =>
    obtain ⟨d, c, e, rfl⟩ := h
    rcases x.pl with z | z
    · rw [z] at e; cases e
    · exact ⟨d, c, z.trans e, rfl⟩
  | cells =>
    obtain ⟨d, c, e, rfl⟩ := h
    rcases x.pl with z | z
    · rw [z] at e; cases e
    · exact ⟨d, c, z.trans e, rfl⟩
  | scr ns =>
    obtain ⟨a, rfl, h⟩ := h
    exact ⟨a, rfl, x.sm.seq h⟩
  | kt ks =>
    obtain ⟨a, rfl, h⟩ := h
    exact ⟨a, rfl, x.sm _ _ h⟩
  | dt kvs =>
    obtain ⟨a, ys, rfl, h, h2⟩ := h
    exact ⟨a, ys, rfl, x.sm _ _ h, h2.mono x.sm⟩
theorem AVRs.mono {avs : List AV} {vs : List V} (h : AVRs C L Mo H avs vs) (x : X2 C L Mo H L' Mo' H') : AVRs C L' Mo' H' avs vs := Paired.mapP h fun _ _ q => q.mono x
end
structure R (C : Ct) (a : AS) (L Mo : List Addr) (σ : List (Option V)) (H : Hp) : Prop where
  b : B C a.m L Mo H
  ln : a.g.length = σ.length
  sl : ∀ (i : Nat) (av : AV), a.g[i]? = some (some av) → ∃ v, σ[i]? = some (some v) ∧ AVR C L Mo H av v
section
variable {C : Ct} {a : AS} {m' : Mm} {L Mo L' Mo' : List Addr} {σ : List (Option V)} {H H' : Hp} {av : AV} {v : V}
theorem R.next (r : R C a L Mo σ H) (b : B C m' L' Mo' H') (x : X2 C L Mo H L' Mo' H') : R C ⟨a.g, m'⟩ L' Mo' σ H' :=
  ⟨b, r.ln, fun i av h => let ⟨v, h1, h2⟩ := r.sl i av h; ⟨v, h1, h2.mono x⟩⟩
theorem R.set (r : R C a L Mo σ H) (i : Nat) (h : AVR C L Mo H av v) : R C ⟨a.g.set i (some av), a.m⟩ L Mo (σ.set i (some v)) H := by
  refine ⟨r.b, by simp [r.ln], fun j av' e => ?_⟩
  have e' : (a.g.set i (some av))[j]? = some (some av') := e
  by_cases hj : i = j
  · subst hj
    have hl : i < a.g.length := by
      have := (List.getElem?_eq_some_iff.mp e').1
      simpa using this
    rw [List.getElem?_set_self hl] at e'
    cases e'
    exact ⟨v, List.getElem?_set_self (by rw [← r.ln]; exact hl), h⟩
  · rw [List.getElem?_set_ne hj] at e'
    obtain ⟨w, h1, h2⟩ := r.sl j av' e'
    exact ⟨w, by rw [List.getElem?_set_ne hj]; exact h1, h2⟩
end
abbrev ATE := AS → (AV → Mm → Prop) → Prop
abbrev ATA := AS → (List AV → Mm → Prop) → Prop
abbrev ATT := AS → (Bool → Mm → Prop) → Prop
abbrev AR1 := AV → Mm → (AV → Mm → Prop) → Prop
abbrev AR2 := AV → AV → Mm → (AV → Mm → Prop) → Prop
/-- what follows a value -/
def Cont (C : Ct) (L Mo : List Addr) (H : Hp) (AQ : AV → Mm → Prop) (Q : VK) : Prop := ∀ av m' v L' Mo' H', AQ av m' → B C m' L' Mo' H' → AVR C L' Mo' H' av v → X2 C L Mo H L' Mo' H' → Q v H'
def lft (C : Ct) (t : ATE) : TE := fun σ H Q => ∃ a L Mo AQ, R C a L Mo σ H ∧ Cont C L Mo H AQ Q ∧ t a AQ
def ContA (C : Ct) (L Mo : List Addr) (H : Hp) (AQ : List AV → Mm → Prop) (Q : List V → Hp → Prop) : Prop := ∀ av m' v L' Mo' H', AQ av m' → B C m' L' Mo' H' → AVRs C L' Mo' H' av v → X2 C L Mo H L' Mo' H' → Q v H'
def lftA (C : Ct) (t : ATA) : TA := fun σ H Q => ∃ a L Mo AQ, R C a L Mo σ H ∧ ContA C L Mo H AQ Q ∧ t a AQ
def ContT (C : Ct) (L Mo : List Addr) (H : Hp) (AQ : Bool → Mm → Prop) (Q : Bool → Hp → Prop) : Prop := ∀ b m' L' Mo' H', AQ b m' → B C m' L' Mo' H' → X2 C L Mo H L' Mo' H' → Q b H'
def lftT (C : Ct) (t : ATT) : TT := fun σ H Q => ∃ a L Mo AQ, R C a L Mo σ H ∧ ContT C L Mo H AQ Q ∧ t a AQ

theorem PE.imp {X : Cx} {e : Expr} {t t' : TE} (h : PE X e t) (i : ∀ σ H Q, t' σ H Q → t σ H Q) : PE X e t' := ⟨fun pins s σ H Q I q => h.run pins s σ H Q I (i σ H Q q)⟩
theorem PA.imp {X : Cx} {e : List Expr} {t t' : TA} (h : PA X e t) (i : ∀ σ H Q, t' σ H Q → t σ H Q) : PA X e t' := ⟨fun pos pins s σ H Q I q => h.run pos pins s σ H Q I (i σ H Q q)⟩
theorem PT.imp {X : Cx} {e : Expr} {t t' : TT} (h : PT X e t) (i : ∀ σ H Q, t' σ H Q → t σ H Q) : PT X e t' := ⟨fun pins s σ H Q I q => h.run pins s σ H Q I (i σ H Q q)⟩
theorem PW.imp {X : Cx} {e : Expr} {t t' : TT} (h : PW X e t) (i : ∀ σ H Q, t' σ H Q → t σ H Q) : PW X e t' := ⟨fun wh pins s σ H Q I q => h.run wh pins s σ H Q I (i σ H Q q)⟩

def QE (X : Cx) (e : Expr) (t : ATE) : Prop := ∀ C : Ct, C.K = X.K → PE X e (lft C t)
def QA (X : Cx) (e : List Expr) (t : ATA) : Prop := ∀ C : Ct, C.K = X.K → PA X e (lftA C t)
def QT (X : Cx) (e : Expr) (t : ATT) : Prop := ∀ C : Ct, C.K = X.K → PT X e (lftT C t)
def QW (X : Cx) (e : Expr) (t : ATT) : Prop := ∀ C : Ct, C.K = X.K → PW X e (lftT C t)
section
variable {C : Ct} {m : Mm} {L Mo L' Mo' : List Addr} {H H' : Hp} {AQ : AV → Mm → Prop} {Q : VK} {av : AV} {v : V}
theorem Cont.ret (k : Cont C L Mo H AQ Q) (h : AQ av m) (b : B C m L Mo H) (r : AVR C L Mo H av v) : Q v H := k _ _ _ _ _ _ h b r X2.refl
theorem Cont.aft (k : Cont C L Mo H AQ Q) (x : X2 C L Mo H L' Mo' H') : Cont C L' Mo' H' AQ Q := fun av m' v L2 Mo2 H2 h b r y => k av m' v L2 Mo2 H2 h b r (x.trans y)
theorem hd_new {p : Addr} {o : HO} (b : B C m L Mo H) (hp : H p = none) : C.hd L Mo (upd H p o) p = some o := by
  rw [Ct.hd, hid_of (b.fresh hp)]; exact upd_same
theorem Cont.tup {p : Addr} {xs : List V} {ds : List D} (k : Cont C L Mo H AQ Q) (b : B C m L Mo H) (hp : H p = none) (r : DqAll C.K (C.hd L Mo H) xs ds) (h : AQ (.d (.tuple ds)) m) : Q (.ref p) (upd H p (.tup xs)) :=
  k _ _ _ _ _ _ h (b.alloc hp) (Dq.tup (SqT.of (hd_new b hp)) (DqAll.mono (hd_upd hp) _ _ r)) (X2.alloc hp)
theorem Cont.lst {p : Addr} {xs : List V} {ds : List D} (k : Cont C L Mo H AQ Q) (b : B C m L Mo H) (hp : H p = none) (r : DqAll C.K (C.hd L Mo H) xs ds) (h : AQ (.d (.list ds)) m) : Q (.ref p) (upd H p (.lst xs)) :=
  k _ _ _ _ _ _ h (b.alloc hp) (Dq.lst (hd_new b hp) (DqAll.mono (hd_upd hp) _ _ r)) (X2.alloc hp)
/-- a new list as a local object -/
theorem Cont.lstM {p : Addr} {xs : List V} {ds : List D} (k : Cont C L Mo H AQ Q) (b : B C m L Mo H) (hp : H p = none) (r : DqAll C.K (C.hd L Mo H) xs ds) (h : AQ (.o m.o.length) ⟨m.s, m.o ++ [.l ds]⟩) : Q (.ref p) (upd H p (.lst xs)) :=
  k _ _ _ _ _ _ h (b.allocO (o := .l ds) hp fun h' e => ⟨xs, upd_same, DqAll.mono e _ _ r⟩) ⟨p, by rw [Paired.length b.ob]; simp, rfl⟩ (X2.allocO hp)
end

/-! ### names, constants -/
def slotA : List (Option AV) → Nat → Option AV
  | [], _ => none
  | o :: _, 0 => o
  | _ :: r, i + 1 => slotA r i
def aVar (i : Nat) : ATE := fun a Q => match slotA a.g i with
  | some av => Q av a.m
  | none => False
def aC (x : D) : ATE := fun a Q => Q (.d x) a.m
theorem slotA_get : ∀ {g : List (Option AV)} {i : Nat} {av : AV}, slotA g i = some av → g[i]? = some (some av)
  | [], _, _, h => by simp [slotA] at h
  | o :: _, 0, _, h => by simp [slotA] at h; simp [h]
  | _ :: r, i + 1, _, h => by
    simp only [slotA] at h
    simpa using slotA_get (g := r) (i := i) h
section
variable {X : Cx} {C : Ct} {e a b c : Expr} {ta tb tc : ATE} {pos : Pos}
theorem q_var {i : Nat} {x : Str} (hN : X.N[i]? = some x) (hv : Vis X.env.scope x) (hd : (x == ("__debug__" : Str)) = false := by decide) (hcd : (x == ("__classdict__" : Str)) = false := by decide) : QE X (.Name x pos) (aVar i) := fun C hK =>
  PE.imp (pe_var hN hv hd hcd) fun σ H Q ⟨a, L, Mo, AQ, r, k, h⟩ => by
    unfold aVar at h
    split at h
    · rename_i av e
      obtain ⟨v, h1, h2⟩ := r.sl i av (slotA_get e)
      exact ⟨v, h1, k.ret h r.b h2⟩
    · exact h.elim
theorem q_of {v : V} {x : D} (h : PE X e (tC v)) (hd : ∀ H, Dq X.K H v x) : QE X e (aC x) := fun C hK =>
  PE.imp h fun σ H Q ⟨a, L, Mo, AQ, r, k, h⟩ => k.ret h r.b (by rw [AVR, hK]; exact hd _)
theorem q_int {i j} : QE X (.Constant (.int i) j pos) (aC (.int i)) := q_of pe_int fun _ => .int i
theorem q_bl {i j} : QE X (.Constant (.bool i) j pos) (aC (.bool i)) := q_of pe_bl fun _ => .bl i
theorem q_non {j} : QE X (.Constant .none j pos) (aC .none) := q_of pe_non fun _ => .non
theorem q_str {i j} : QE X (.Constant (.str i) j pos) (aC (.str i)) := q_of pe_str fun _ => .str i
/-- a module's constant -/
theorem q_glob {x : Str} {v : V} {u : Value} {d : D} (hg : Gl X x) (hm : X.mg x = some u) (r : RelV v u) (hd : ∀ H, Dq X.K H v d) (hdb : (x == ("__debug__" : Str)) = false := by decide) : QE X (.Name x pos) (aC d) := q_of (pe_glob hg hm r hdb) hd

/-! ### operators -/
def aBin (r : AR2) (ta tb : ATE) : ATE := fun a Q => ta a fun x m1 => tb ⟨a.g, m1⟩ fun y m2 => r x y m2 Q
def OpQ (X : Cx) (f : Value → Value → Sem Value) (r : AR2) : Prop := ∃ r2, OpR X f r2 ∧ ∀ (C : Ct) L Mo H m x y v w Q AQ, C.K = X.K → B C m L Mo H → AVR C L Mo H x v → AVR C L Mo H y w → Cont C L Mo H AQ Q → r x y m AQ → r2 v w H Q
theorem bin_imp {r : AR2} {r2 : R2} (hK : C.K = X.K) (ho : ∀ (C : Ct) L Mo H m x y v w Q AQ, C.K = X.K → B C m L Mo H → AVR C L Mo H x v → AVR C L Mo H y w → Cont C L Mo H AQ Q → r x y m AQ → r2 v w H Q) (σ : List (Option V)) (H : Hp) (Q : VK)
    (h : lft C (aBin r ta tb) σ H Q) : tOp r2 (lft C ta) (lft C tb) σ H Q := by
  obtain ⟨a, L, Mo, AQ, rr, k, h⟩ := h
  exact ⟨a, L, Mo, _, rr, fun x m1 v L1 Mo1 H1 h1 b1 v1 e1 => ⟨⟨a.g, m1⟩, L1, Mo1, _, rr.next b1 e1, fun y m2 w L2 Mo2 H2 h2 b2 w2 e2 => ho C L2 Mo2 H2 m2 x y v w Q AQ hK b2 (v1.mono e2) w2 (k.aft (e1.trans e2)) h2, h1⟩, h⟩
theorem q_op {op : Operator} {r : AR2} (o : OpQ X (binaryOp op) r) (ha : QE X a ta) (hb : QE X b tb) : QE X (.BinOp a op b pos) (aBin r ta tb) := fun C hK => by
  obtain ⟨r2, ho, hi⟩ := o
  exact PE.imp (pe_op ho (ha C hK) (hb C hK)) (bin_imp hK hi)
theorem q_cmp {op : CmpOp} {r : AR2} (o : OpQ X (compareOp op) r) (ha : QE X a ta) (hb : QE X b tb) (hm : behindInMarks op b = false) : QE X (.Compare a [op] [b] pos) (aBin r ta tb) := fun C hK => by
  obtain ⟨r2, ho, hi⟩ := o
  exact PE.imp (pe_cmpR ho (ha C hK) (hb C hK) hm) (bin_imp hK hi)
/-- tests -/
def isB : AV → Option Bool
  | .d (.bool b) => some b
  | _ => none
def aTest (t : ATE) : ATT := fun a Q => t a fun x m => match isB x with
  | some b => Q b m
  | none => False
theorem isB_rel {L Mo : List Addr} {H : Hp} {x : AV} {v : V} {b : Bool} (h : isB x = some b) (r : AVR C L Mo H x v) : v = .bl b := by
  cases x with
  | d y =>
    cases y <;> simp [isB] at h
    subst h
    cases r; rfl
  | o j => simp [isB] at h
  | src => simp [isB] at h
  | cells => simp [isB] at h
  | scr ns => simp [isB] at h
  | kt ks => simp [isB] at h
  | dt ks => simp [isB] at h
theorem test_imp (σ : List (Option V)) (H : Hp) (Q : Bool → Hp → Prop) (h : lftT C (aTest ta) σ H Q) : tTest (lft C ta) σ H Q := by
  obtain ⟨a, L, Mo, AQ, rr, k, h⟩ := h
  refine ⟨a, L, Mo, _, rr, fun x m1 v L1 Mo1 H1 h1 b1 v1 e1 => ?_, h⟩
  have h1' : (match isB x with | some b => AQ b m1 | none => False) := h1
  split at h1'
  · rename_i b e
    exact ⟨b, isB_rel e v1, k _ _ _ _ _ h1' b1 e1⟩
  · exact h1'.elim
theorem qt_cmp {op : CmpOp} {r : AR2} (o : OpQ X (compareOp op) r) (ha : QE X a ta) (hb : QE X b tb) (hm : behindInMarks op b = false) : QT X (.Compare a [op] [b] pos) (aTest (aBin r ta tb)) := fun C hK => by
  obtain ⟨r2, ho, hi⟩ := o
  refine PT.imp (pt_cmpR ho (ha C hK) (hb C hK) hm) fun σ H Q h => ?_
  obtain ⟨a, L, Mo, AQ, rr, k, h⟩ := test_imp σ H Q h
  exact bin_imp hK hi σ H _ ⟨a, L, Mo, AQ, rr, k, h⟩
/-- a op1 b op2 c -/
def aChain (r r' : AR2) (ta tb tc : ATE) : ATE := fun a Q => ta a fun x m1 => tb ⟨a.g, m1⟩ fun y m2 => r x y m2 fun z m3 => match isB z with
  | some k => if k = true then tc ⟨a.g, m3⟩ fun w m4 => r' y w m4 Q else Q (.d (.bool false)) m3
  | none => False
theorem chain_imp {r r' : AR2} {r2 r2' : R2} (hK : C.K = X.K) (ho : ∀ (C : Ct) L Mo H m x y v w Q AQ, C.K = X.K → B C m L Mo H → AVR C L Mo H x v → AVR C L Mo H y w → Cont C L Mo H AQ Q → r x y m AQ → r2 v w H Q)
    (ho' : ∀ (C : Ct) L Mo H m x y v w Q AQ, C.K = X.K → B C m L Mo H → AVR C L Mo H x v → AVR C L Mo H y w → Cont C L Mo H AQ Q → r' x y m AQ → r2' v w H Q) (σ : List (Option V)) (H : Hp) (Q : VK)
    (h : lft C (aChain r r' ta tb tc) σ H Q) : tChain r2 r2' (lft C ta) (lft C tb) (lft C tc) σ H Q := by
  obtain ⟨a, L, Mo, AQ, rr, k, h⟩ := h
  refine ⟨a, L, Mo, _, rr, fun x m1 v L1 Mo1 H1 h1 b1 v1 e1 => ⟨⟨a.g, m1⟩, L1, Mo1, _, rr.next b1 e1, fun y m2 w L2 Mo2 H2 h2 b2 w2 e2 => ?_, h1⟩, h⟩
  refine ho C L2 Mo2 H2 m2 x y v w _ _ hK b2 (v1.mono e2) w2 (fun z m3 vz L3 Mo3 H3 h3 b3 v3 e3 => ?_) h2
  have h3' : (match isB z with | some k => if k = true then tc ⟨a.g, m3⟩ fun w m4 => r' y w m4 AQ else AQ (.d (.bool false)) m3 | none => False) := h3
  split at h3'
  · rename_i kk ek
    refine ⟨kk, isB_rel ek v3, ?_⟩
    cases kk with
    | true =>
      rw [if_pos rfl] at h3' ⊢
      exact ⟨⟨a.g, m3⟩, L3, Mo3, _, (rr.next b1 e1).next b3 (e2.trans e3), fun u m4 vu L4 Mo4 H4 h4 b4 v4 e4 => ho' C L4 Mo4 H4 m4 y u w vu Q AQ hK b4 (w2.mono (e3.trans e4)) v4 (k.aft (e1.trans (e2.trans (e3.trans e4)))) h4, h3'⟩
    | false =>
      rw [if_neg Bool.false_ne_true] at h3' ⊢
      exact (k.aft (e1.trans (e2.trans e3))).ret h3' b3 (.bl false)
  · exact h3'.elim
theorem q_chain {op op' : CmpOp} {r r' : AR2} (o : OpQ X (compareOp op) r) (o' : OpQ X (compareOp op') r') (ha : QE X a ta) (hb : QE X b tb) (hc : QE X c tc) (hm : lastMarks [op, op'] [b, c] = false) :
    QE X (.Compare a [op, op'] [b, c] pos) (aChain r r' ta tb tc) := fun C hK => by
  obtain ⟨r2, ho, hi⟩ := o
  obtain ⟨r3, ho', hi'⟩ := o'
  exact PE.imp (pe_chain ho ho' (ha C hK) (hb C hK) (hc C hK) hm) (chain_imp hK hi hi')
theorem qt_chain {op op' : CmpOp} {r r' : AR2} (o : OpQ X (compareOp op) r) (o' : OpQ X (compareOp op') r') (ha : QE X a ta) (hb : QE X b tb) (hc : QE X c tc) (hm : lastMarks [op, op'] [b, c] = false) :
    QT X (.Compare a [op, op'] [b, c] pos) (aTest (aChain r r' ta tb tc)) := fun C hK => by
  obtain ⟨r2, ho, hi⟩ := o
  obtain ⟨r3, ho', hi'⟩ := o'
  refine PT.imp (pt_chain ho ho' (ha C hK) (hb C hK) (hc C hK) hm) fun σ H Q h => ?_
  obtain ⟨a, L, Mo, AQ, rr, k, h⟩ := test_imp σ H Q h
  exact chain_imp hK hi hi' σ H _ ⟨a, L, Mo, AQ, rr, k, h⟩
end
end QL

namespace QL
open PySem PySem.Spec PyProof.Rows L2

/-! ### what an abstract value holds -/
def lstA (m : Mm) : AV → Option (List D)
  | .d (.list ds) => some ds
  | .o j => match m.o[j]? with
    | some (.l ds) => some ds
    | _ => none
  | .cells => match m.s with
    | some S => some (S.cells.map PyData.int)
    | none => none
  | _ => none
def tupA : AV → Option (List D)
  | .d (.tuple ds) => some ds
  | _ => none
def seqA (m : Mm) (x : AV) : Option (List D) := match tupA x with
  | some ds => some ds
  | none => lstA m x
section
variable {C : Ct} {m : Mm} {L Mo : List Addr} {H : Hp} {x : AV} {v : V} {ds : List D}
theorem dq_hid (h : DqAll C.K (C.hd L Mo H) [] []) : True := trivial
theorem lstA_ok (b : B C m L Mo H) (r : AVR C L Mo H x v) (h : lstA m x = some ds) : ∃ l xs, v = .ref l ∧ H l = some (.lst xs) ∧ DqAll C.K (C.hd L Mo H) xs ds := by
  cases x with
  | d y =>
    cases y <;> simp [lstA] at h
    subst h
    cases r with
    | lst h1 h2 => exact ⟨_, _, rfl, (hid_some h1).2, h2⟩
  | o j =>
    simp only [lstA] at h
    split at h
    · rename_i ds' e
      cases h
      obtain ⟨l, h1, rfl⟩ := r
      obtain ⟨l', h2, xs, h3, h4⟩ := paired_at b.ob e
      rw [h1] at h2; cases h2
      exact ⟨l, xs, rfl, h3, h4⟩
    · cases h
  | src => simp [lstA] at h
  | scr ns => simp [lstA] at h
  | kt ns => simp [lstA] at h
  | dt ns => simp [lstA] at h
  | cells =>
    simp only [lstA] at h
    split at h
    · rename_i S e
      cases h
      obtain ⟨d, c, h1, rfl⟩ := r
      have q := b.sr
      rw [e] at q
      obtain ⟨d', c', h2, h3, h4⟩ := q
      rw [h1] at h2; cases h2
      exact ⟨c, _, rfl, h4, DqAll.ofInts _⟩
    · cases h
theorem tupA_ok (r : AVR C L Mo H x v) (h : tupA x = some ds) : ∃ l xs, v = .ref l ∧ SqT C.K H l xs ∧ DqAll C.K (C.hd L Mo H) xs ds := by
  cases x with
  | d y =>
    cases y <;> simp [tupA] at h
    subst h
    cases r with
    | tup h1 h2 => exact ⟨_, _, rfl, same_tup hid_same h1, h2⟩
  | o j => simp [tupA] at h
  | src => simp [tupA] at h
  | cells => simp [tupA] at h
  | scr ns => simp [tupA] at h
  | kt ns => simp [tupA] at h
  | dt ns => simp [tupA] at h
theorem seqA_ok (b : B C m L Mo H) (r : AVR C L Mo H x v) (h : seqA m x = some ds) : ∃ l xs, v = .ref l ∧ (SqL C.K H l xs ∨ SqT C.K H l xs) ∧ DqAll C.K (C.hd L Mo H) xs ds := by
  unfold seqA at h
  split at h
  · rename_i ds' e
    cases h
    obtain ⟨l, xs, h1, h2, h3⟩ := tupA_ok r e
    exact ⟨l, xs, h1, .inr h2, h3⟩
  · obtain ⟨l, xs, h1, h2, h3⟩ := lstA_ok b r h
    exact ⟨l, xs, h1, .inl (SqL.of h2), h3⟩
end
theorem dq_int {K : PySem.W.Frag} {H : Hp} {v : V} {i : Int} (h : Dq K H v (.int i)) : v = .int i := by cases h; rfl
theorem dq_str {K : PySem.W.Frag} {H : Hp} {v : V} {i : Str} (h : Dq K H v (.str i)) : v = .str i := by cases h; rfl
theorem dq_bl {K : PySem.W.Frag} {H : Hp} {v : V} {i : Bool} (h : Dq K H v (.bool i)) : v = .bl i := by cases h; rfl

/-! ### operators -/
def intsR (c : Int → Int → Prop) (g : Int → Int → D) : AR2 := fun x y m Q => match x, y with
  | .d (.int i), .d (.int j) => c i j ∧ Q (.d (g i j)) m
  | _, _ => False
def intsR0 (g : Int → Int → D) : AR2 := fun x y m Q => match x, y with
  | .d (.int i), .d (.int j) => Q (.d (g i j)) m
  | _, _ => False
section
variable {X : Cx}
theorem opq_ints {f : Value → Value → Sem Value} {c : Int → Int → Prop} {g : Int → Int → V} {g' : Int → Int → D} (h : OpR X f (rI c g)) (hg : ∀ i j K H, Dq K H (g i j) (g' i j)) : OpQ X f (intsR c g') := by
  refine ⟨_, h, fun C L Mo H m x y v w Q AQ hK b r1 r2 k hh => ?_⟩
  unfold intsR at hh
  split at hh
  · exact ⟨_, _, dq_int r1, dq_int r2, hh.1, k.ret hh.2 b (hg _ _ _ _)⟩
  · exact hh.elim
theorem opq_ints0 {f : Value → Value → Sem Value} {g : Int → Int → V} {g' : Int → Int → D} (h : OpR X f (rI0 g)) (hg : ∀ i j K H, Dq K H (g i j) (g' i j)) : OpQ X f (intsR0 g') := by
  refine ⟨_, h, fun C L Mo H m x y v w Q AQ hK b r1 r2 k hh => ?_⟩
  unfold intsR0 at hh
  split at hh
  · exact ⟨_, _, dq_int r1, dq_int r2, k.ret hh b (hg _ _ _ _)⟩
  · exact hh.elim
def aSub : AR2 := intsR0 fun i j => .int (i - j)
theorem oq_sub : OpQ X (binaryOp .Sub) aSub := opq_ints0 op_sub fun _ _ _ _ => .int _
def aMod : AR2 := intsR (fun _ j => 0 < j) fun i j => .int (i % j)
theorem oq_mod : OpQ X (binaryOp .Mod) aMod := opq_ints op_mod fun _ _ _ _ => .int _
def DivOk (i j : Int) : Prop := CDiv i j ∨ CDivW i j
theorem rI_or {f : Value → Value → Sem Value} {c c' : Int → Int → Prop} {g : Int → Int → V} (h : OpR X f (rI c g)) (h' : OpR X f (rI c' g)) : OpR X f (rI (fun i j => c i j ∨ c' i j) g) := by
  intro pins s σ H x y v u Q I rx ry ⟨i, j, e1, e2, hc, q⟩
  rcases hc with hc | hc
  · exact h pins s σ H x y v u Q I rx ry ⟨i, j, e1, e2, hc, q⟩
  · exact h' pins s σ H x y v u Q I rx ry ⟨i, j, e1, e2, hc, q⟩
def aFdiv : AR2 := intsR DivOk fun i j => .int (i / j)
theorem oq_fdiv : OpQ X (binaryOp .FloorDiv) aFdiv := opq_ints (rI_or op_fdiv op_fdivW) fun _ _ _ _ => .int _
def aPow : AR2 := intsR CPow fun i j => .int (i ^ j.toNat)
theorem oq_pow : OpQ X (binaryOp .Pow) aPow := opq_ints op_pow fun _ _ _ _ => .int _
def aLt : AR2 := intsR0 fun i j => .bool (decide (i < j))
def aLe : AR2 := intsR0 fun i j => .bool (decide (i ≤ j))
def aGt : AR2 := intsR0 fun i j => .bool (decide (j < i))
def aGe : AR2 := intsR0 fun i j => .bool (decide (j ≤ i))
theorem oq_lt : OpQ X (compareOp .Lt) aLt := opq_ints0 op_lt fun _ _ _ _ => .bl _
theorem oq_le : OpQ X (compareOp .LtE) aLe := opq_ints0 op_le fun _ _ _ _ => .bl _
theorem oq_gt : OpQ X (compareOp .Gt) aGt := opq_ints0 op_gt fun _ _ _ _ => .bl _
theorem oq_ge : OpQ X (compareOp .GtE) aGe := opq_ints0 op_ge fun _ _ _ _ => .bl _
/-- == of data (a local list as its items) -/
def datA (m : Mm) : AV → Option D
  | .d x => some x
  | .o j => match m.o[j]? with
    | some (.l ds) => some (.list ds)
    | _ => none
  | .kt ks => some (.tuple (ks.map kD))
  | _ => none
theorem DqAll.keys {K : PySem.W.Frag} {H : Hp} : ∀ ks : List Key, DqAll K H (ks.map kV) (ks.map kD)
  | [] => .nil
  | .inl i :: r => .cons (.int i) (DqAll.keys r)
  | .inr x :: r => .cons (.str x) (DqAll.keys r)
theorem datA_ok {C : Ct} {m : Mm} {L Mo : List Addr} {H : Hp} {x : AV} {v : V} {d : D} (b : B C m L Mo H) (r : AVR C L Mo H x v) (h : datA m x = some d) : Dq C.K H v d := by
  cases x with
  | d y => simp [datA] at h; subst h; exact Dq.mono hid_same _ _ r
  | o j =>
    simp only [datA] at h
    split at h
    · rename_i ds' e
      cases h
      obtain ⟨l, xs, rfl, h1, h2⟩ := lstA_ok (ds := ds') b r (by simp [lstA, e])
      exact .lst h1 (DqAll.mono hid_same _ _ h2)
    · cases h
  | src => simp [datA] at h
  | cells => simp [datA] at h
  | scr ns => simp [datA] at h
  | kt ns =>
    simp [datA] at h
    subst h
    obtain ⟨a, rfl, q⟩ := r
    exact .tup (.inl (.inl (hid_some q).2)) (DqAll.keys ns)
  | dt ns => simp [datA] at h
def aEq : AR2 := fun x y m Q => match datA m x, datA m y with
  | some (.int i), some (.int j) => Q (.d (.bool (decide (i = j)))) m
  | some (.str i), some (.str j) => Q (.d (.bool (decide (i = j)))) m
  | some d, some e => SeqAt.shaped d = true ∧ SeqAt.shaped e = true ∧ Q (.d (.bool (PyData.eqv d e))) m
  | _, _ => False
def aNe : AR2 := fun x y m Q => match datA m x, datA m y with
  | some (.int i), some (.int j) => Q (.d (.bool (!decide (i = j)))) m
  | some (.str i), some (.str j) => Q (.d (.bool (!decide (i = j)))) m
  | some d, some e => SeqAt.shaped d = true ∧ SeqAt.shaped e = true ∧ Q (.d (.bool (!PyData.eqv d e))) m
  | _, _ => False
theorem dec_i {i j : Int} : decide (V.int i = V.int j) = decide (i = j) := by by_cases h : i = j <;> simp [h]
theorem dec_s {i j : Str} : decide (V.str i = V.str j) = decide (i = j) := by by_cases h : i = j <;> simp [h]
theorem oq_eq (hu : X.A.units + 64 < cLine) : OpQ X (compareOp .Eq) aEq := by
  refine ⟨_, OpR.or op_eq (op_eqD hu), fun C L Mo H m x y v w Q AQ hK b r1 r2 k hh => ?_⟩
  unfold aEq at hh
  split at hh
  · rename_i i j e1 e2
    have q1 := dq_int (datA_ok b r1 e1); have q2 := dq_int (datA_ok b r2 e2)
    subst q1; subst q2
    exact .inl ⟨rfl, by rw [dec_i]; exact k.ret hh b (.bl _)⟩
  · rename_i i j e1 e2
    have q1 := dq_str (datA_ok b r1 e1); have q2 := dq_str (datA_ok b r2 e2)
    subst q1; subst q2
    exact .inl ⟨rfl, by rw [dec_s]; exact k.ret hh b (.bl _)⟩
  · rename_i d e _ _ e1 e2
    exact .inr ⟨d, e, Dq.toDp _ _ (shaped_noDict hh.1) (hK ▸ datA_ok b r1 e1), Dq.toDp _ _ (shaped_noDict hh.2.1) (hK ▸ datA_ok b r2 e2), hh.1, hh.2.1, k.ret hh.2.2 b (.bl _)⟩
  · exact hh.elim
theorem oq_ne (hu : X.A.units + 64 < cLine) : OpQ X (compareOp .NotEq) aNe := by
  refine ⟨_, OpR.or op_ne (op_neD hu), fun C L Mo H m x y v w Q AQ hK b r1 r2 k hh => ?_⟩
  unfold aNe at hh
  split at hh
  · rename_i i j e1 e2
    have q1 := dq_int (datA_ok b r1 e1); have q2 := dq_int (datA_ok b r2 e2)
    subst q1; subst q2
    exact .inl ⟨rfl, by rw [dec_i]; exact k.ret hh b (.bl _)⟩
  · rename_i i j e1 e2
    have q1 := dq_str (datA_ok b r1 e1); have q2 := dq_str (datA_ok b r2 e2)
    subst q1; subst q2
    exact .inl ⟨rfl, by rw [dec_s]; exact k.ret hh b (.bl _)⟩
  · rename_i d e _ _ e1 e2
    exact .inr ⟨d, e, Dq.toDp _ _ (shaped_noDict hh.1) (hK ▸ datA_ok b r1 e1), Dq.toDp _ _ (shaped_noDict hh.2.1) (hK ▸ datA_ok b r2 e2), hh.1, hh.2.1, k.ret hh.2.2 b (.bl _)⟩
  · exact hh.elim
/-- + -/
def aAdd : AR2 := fun x y m Q => match x, y with
  | .d (.int i), .d (.int j) => Q (.d (.int (i + j))) m
  | .d (.str i), .d (.str j) => i.length + j.length ≤ sizeLine ∧ Q (.d (.str (i ++ j))) m
  | .d (.tuple xs), .d (.tuple ys) => xs.length + ys.length ≤ sizeLine ∧ Q (.d (.tuple (xs ++ ys))) m
  | x, y => match lstA m x, lstA m y with
    | some xs, some ys => xs.length + ys.length ≤ sizeLine ∧ Q (.d (.list (xs ++ ys))) m
    | _, _ => False
theorem nil_of_len {xs : List V} {ds : List D} (h : xs.length = ds.length) (e : xs = []) : ds = [] := by subst e; exact List.length_eq_zero_iff.mp h.symm
theorem oq_add : OpQ X (binaryOp .Add) aAdd := by
  refine ⟨_, OpR.or op_add (OpR.or op_add_str (OpR.or op_catA op_cat)), fun C L Mo H m x y v w Q AQ hK b r1 r2 k hh => ?_⟩
  unfold aAdd at hh
  split at hh
  · exact .inl ⟨_, _, dq_int r1, dq_int r2, k.ret hh b (.int _)⟩
  · exact .inr (.inl ⟨_, _, dq_str r1, dq_str r2, hh.1, k.ret hh.2 b (.str _)⟩)
  · rename_i xs ys
    obtain ⟨l1, vs, rfl, h1, h2⟩ := tupA_ok (ds := xs) r1 rfl
    obtain ⟨l2, ws, rfl, h3, h4⟩ := tupA_ok (ds := ys) r2 rfl
    refine .inr (.inr (.inl ⟨l1, l2, vs, ws, rfl, rfl, hK ▸ h1, hK ▸ h3, by rw [h2.len, h4.len]; exact hh.1, fun e => ?_, fun _ e => ?_, fun _ _ p hp => k.tup b hp (h2.app h4) hh.2⟩))
    · have e' := nil_of_len h2.len e
      subst e'
      exact k.ret (by simpa using hh.2) b r2
    · have e' := nil_of_len h4.len e
      subst e'
      exact k.ret (by simpa using hh.2) b r1
  · split at hh
    · rename_i xs ys e1 e2
      obtain ⟨l1, vs, rfl, h1, h2⟩ := lstA_ok b r1 e1
      obtain ⟨l2, ws, rfl, h3, h4⟩ := lstA_ok b r2 e2
      exact .inr (.inr (.inr ⟨l1, l2, vs, ws, rfl, rfl, h1, h3, by rw [h2.len, h4.len]; exact hh.1, fun p hp => k.lst b hp (h2.app h4) hh.2⟩))
    · exact hh.elim
/-- * -/
def MulOk (i j : Int) : Prop := CMul i j ∨ CMulW i j
def aMul : AR2 := intsR MulOk fun i j => .int (i * j)
theorem oq_mul : OpQ X (binaryOp .Mult) aMul := opq_ints (rI_or op_mul op_mulW) fun _ _ _ _ => .int _
/-- a list or tuple of data at a place -/
def atD (ds : List D) (i : Int) : Option D := if 0 ≤ i then ds[i.toNat]? else if -(ds.length : Int) ≤ i then ds[(i + ds.length).toNat]? else none
theorem atD_at {K : PySem.W.Frag} {H : Hp} {ds : List D} {xs : List V} {i : Int} {d : D} (h : DqAll K H xs ds) (e : atD ds i = some d) : ∃ v, atI xs i = some v ∧ Dq K H v d := by
  unfold atD at e
  have hl := h.len
  unfold atI ixN
  by_cases h0 : 0 ≤ i
  · rw [if_pos h0] at e ⊢
    obtain ⟨v, h1, h2⟩ := h.at e
    have hlt : i.toNat < ds.length := (List.getElem?_eq_some_iff.mp e).1
    rw [if_pos (by omega)]
    exact ⟨v, by simpa using h1, h2⟩
  · rw [if_neg h0] at e ⊢
    split at e
    · rename_i h1
      obtain ⟨v, h2, h3⟩ := h.at e
      rw [if_pos (by omega)]
      exact ⟨v, by simpa [hl] using h2, h3⟩
    · cases e
def aIx : AR2 := fun x y m Q => match y with
  | .d (.int i) => match seqA m x with
    | some ds => match atD ds i with
      | some d => Q (.d d) m
      | none => False
    | none => False
  | _ => False
def IxQ (X : Cx) (r : AR2) : Prop := ∃ r2, IxR X r2 ∧ ∀ (C : Ct) L Mo H m x y v w Q AQ, C.K = X.K → B C m L Mo H → AVR C L Mo H x v → AVR C L Mo H y w → Cont C L Mo H AQ Q → r x y m AQ → r2 v w H Q
theorem iq_seq : IxQ X aIx := by
  refine ⟨_, ix_seq, fun C L Mo H m x y v w Q AQ hK b r1 r2 k hh => ?_⟩
  unfold aIx at hh
  split at hh
  · split at hh
    · rename_i ds e
      split at hh
      · rename_i d e2
        obtain ⟨l, xs, rfl, h1, h2⟩ := seqA_ok b r1 e
        obtain ⟨u, h3, h4⟩ := atD_at h2 e2
        rcases h1 with h1 | h1
        · exact .inl ⟨_, _, _, _, rfl, dq_int r2, hK ▸ h1, h3, k.ret hh b h4⟩
        · exact .inr (.inl ⟨_, _, _, _, rfl, dq_int r2, hK ▸ h1, h3, k.ret hh b h4⟩)
      · exact hh.elim
    · exact hh.elim
  · exact hh.elim
variable {C : Ct} {e a b c : Expr} {ta tb tc : ATE} {pos : Pos}
theorem q_ix {r : AR2} (o : IxQ X r) (ha : QE X a ta) (hb : QE X b tb) (hs : PlainIx b) : QE X (.Subscript a b pos) (aBin r ta tb) := fun C hK => by
  obtain ⟨r2, ho, hi⟩ := o
  exact PE.imp (pe_ix ho (ha C hK) (hb C hK) hs) (bin_imp hK hi)

/-! ### unary, tests -/
def aUn (r : AR1) (ta : ATE) : ATE := fun a Q => ta a fun x m1 => r x m1 Q
def aNeg : AR1 := fun x m Q => match x with
  | .d (.int i) => Q (.d (.int (-i))) m
  | _ => False
theorem q_neg (ha : QE X a ta) : QE X (.UnaryOp .USub a pos) (aUn aNeg ta) := fun C hK => PE.imp (pe_un un_neg (ha C hK)) fun σ H Q ⟨a, L, Mo, AQ, r, k, h⟩ => by
  refine ⟨a, L, Mo, _, r, fun x m1 v L1 Mo1 H1 h1 b1 v1 e1 => ?_, h⟩
  unfold aNeg at h1
  split at h1
  · exact ⟨_, dq_int v1, (k.aft e1).ret h1 b1 (.int _)⟩
  · exact h1.elim
def aNot (t : ATT) : ATT := fun a Q => t a fun b m => Q (!b) m
theorem qt_not {t : ATT} (h : QT X a t) : QT X (.UnaryOp .Not a pos) (aNot t) := fun C hK => PT.imp (pt_not (h C hK)) fun σ H Q ⟨a, L, Mo, AQ, r, k, h⟩ =>
  ⟨a, L, Mo, _, r, fun b m1 L1 Mo1 H1 h1 b1 e1 => k _ _ _ _ _ h1 b1 e1, h⟩
def aNotV (t : ATE) : ATE := fun a Q => t a fun x m => match isB x with
  | some b => Q (.d (.bool (!b))) m
  | none => False
theorem q_not (h : QE X a ta) : QE X (.UnaryOp .Not a pos) (aNotV ta) := fun C hK => PE.imp (pe_not (h C hK)) fun σ H Q ⟨a, L, Mo, AQ, r, k, h⟩ => by
  refine ⟨a, L, Mo, _, r, fun x m1 v L1 Mo1 H1 h1 b1 v1 e1 => ?_, h⟩
  have h1' : (match isB x with | some b => AQ (.d (.bool (!b))) m1 | none => False) := h1
  split at h1'
  · rename_i b e
    exact ⟨b, isB_rel e v1, (k.aft e1).ret h1' b1 (.bl _)⟩
  · exact h1'.elim
def aAnd (t u : ATT) : ATT := fun a Q => t a fun b m => if b = true then u ⟨a.g, m⟩ Q else Q false m
def aOr (t u : ATT) : ATT := fun a Q => t a fun b m => if b = true then Q true m else u ⟨a.g, m⟩ Q
theorem ContT.aft {L Mo L' Mo' : List Addr} {H H' : Hp} {AQ : Bool → Mm → Prop} {Q : Bool → Hp → Prop} (k : ContT C L Mo H AQ Q) (x : X2 C L Mo H L' Mo' H') : ContT C L' Mo' H' AQ Q := fun b m' L2 Mo2 H2 h b2 y => k b m' L2 Mo2 H2 h b2 (x.trans y)
variable {t u : ATT} {rest : List Expr}
theorem qw_and1 (h : QT X a t) : QW X (.BoolOp .And [a] pos) t := fun C hK => pw_and1 (h C hK)
theorem qw_or1 (h : QT X a t) : QW X (.BoolOp .Or [a] pos) t := fun C hK => pw_or1 (h C hK)
theorem qw_and (h : QT X a t) (h2 : QW X (.BoolOp .And (b :: rest) pos) u) : QW X (.BoolOp .And (a :: b :: rest) pos) (aAnd t u) := fun C hK => PW.imp (pw_and (h C hK) (h2 C hK)) fun σ H Q ⟨a, L, Mo, AQ, r, k, h⟩ => by
  refine ⟨a, L, Mo, _, r, fun b m1 L1 Mo1 H1 h1 b1 e1 => ?_, h⟩
  have h1' : if b = true then u ⟨a.g, m1⟩ AQ else AQ false m1 := h1
  cases b with
  | true => exact ⟨⟨a.g, m1⟩, L1, Mo1, AQ, r.next b1 e1, k.aft e1, h1'⟩
  | false => exact k _ _ _ _ _ h1' b1 e1
theorem qw_or (h : QT X a t) (h2 : QW X (.BoolOp .Or (b :: rest) pos) u) : QW X (.BoolOp .Or (a :: b :: rest) pos) (aOr t u) := fun C hK => PW.imp (pw_or (h C hK) (h2 C hK)) fun σ H Q ⟨a, L, Mo, AQ, r, k, h⟩ => by
  refine ⟨a, L, Mo, _, r, fun b m1 L1 Mo1 H1 h1 b1 e1 => ?_, h⟩
  have h1' : if b = true then AQ true m1 else u ⟨a.g, m1⟩ AQ := h1
  cases b with
  | false => exact ⟨⟨a.g, m1⟩, L1, Mo1, AQ, r.next b1 e1, k.aft e1, h1'⟩
  | true => exact k _ _ _ _ _ h1' b1 e1
theorem qt_w (h : QW X a t) : QT X a t := fun C hK => (h C hK).pt
/-- and, or as values: truth values but for the last -/
def aAndV (ta tb : ATE) : ATE := fun a Q => ta a fun x m => match isB x with
  | some c => if c = true then tb ⟨a.g, m⟩ Q else Q (.d (.bool false)) m
  | none => False
def aOrV (ta tb : ATE) : ATE := fun a Q => ta a fun x m => match isB x with
  | some c => if c = true then Q (.d (.bool true)) m else tb ⟨a.g, m⟩ Q
  | none => False
theorem q_one {op} (h : QE X a ta) : QE X (.BoolOp op [a] pos) ta := fun C hK => pe_one (h C hK)
theorem q_and (ha : QE X a ta) (hb : QE X (.BoolOp .And (b :: rest) pos) tb) : QE X (.BoolOp .And (a :: b :: rest) pos) (aAndV ta tb) := fun C hK => PE.imp (pe_and (ha C hK) (hb C hK)) fun σ H Q ⟨a, L, Mo, AQ, r, k, h⟩ => by
  refine ⟨a, L, Mo, _, r, fun x m1 v L1 Mo1 H1 h1 b1 v1 e1 => ?_, h⟩
  have h1' : (match isB x with | some c => if c = true then tb ⟨a.g, m1⟩ AQ else AQ (.d (.bool false)) m1 | none => False) := h1
  split at h1'
  · rename_i c e
    refine ⟨c, isB_rel e v1, ?_⟩
    cases c with
    | true => exact ⟨⟨a.g, m1⟩, L1, Mo1, AQ, r.next b1 e1, k.aft e1, h1'⟩
    | false => exact (k.aft e1).ret h1' b1 (.bl _)
  · exact h1'.elim
theorem q_or (ha : QE X a ta) (hb : QE X (.BoolOp .Or (b :: rest) pos) tb) : QE X (.BoolOp .Or (a :: b :: rest) pos) (aOrV ta tb) := fun C hK => PE.imp (pe_or (ha C hK) (hb C hK)) fun σ H Q ⟨a, L, Mo, AQ, r, k, h⟩ => by
  refine ⟨a, L, Mo, _, r, fun x m1 v L1 Mo1 H1 h1 b1 v1 e1 => ?_, h⟩
  have h1' : (match isB x with | some c => if c = true then AQ (.d (.bool true)) m1 else tb ⟨a.g, m1⟩ AQ | none => False) := h1
  split at h1'
  · rename_i c e
    refine ⟨c, isB_rel e v1, ?_⟩
    cases c with
    | false => exact ⟨⟨a.g, m1⟩, L1, Mo1, AQ, r.next b1 e1, k.aft e1, h1'⟩
    | true => exact (k.aft e1).ret h1' b1 (.bl _)
  · exact h1'.elim
def aIf (t : ATT) (ta tb : ATE) : ATE := fun a Q => t a fun b m => if b = true then ta ⟨a.g, m⟩ Q else tb ⟨a.g, m⟩ Q
theorem q_if (h : QT X c t) (ha : QE X a ta) (hb : QE X b tb) : QE X (.IfExp c a b pos) (aIf t ta tb) := fun C hK => PE.imp (pe_ifExp (h C hK) (ha C hK) (hb C hK)) fun σ H Q ⟨a, L, Mo, AQ, r, k, h⟩ => by
  refine ⟨a, L, Mo, _, r, fun b m1 L1 Mo1 H1 h1 b1 e1 => ?_, h⟩
  have h1' : if b = true then ta ⟨a.g, m1⟩ AQ else tb ⟨a.g, m1⟩ AQ := h1
  cases b with
  | true => exact ⟨⟨a.g, m1⟩, L1, Mo1, AQ, r.next b1 e1, k.aft e1, h1'⟩
  | false => exact ⟨⟨a.g, m1⟩, L1, Mo1, AQ, r.next b1 e1, k.aft e1, h1'⟩
/-- a value's truth -/
def truA (m : Mm) (x : AV) : Option Bool := match x with
  | .d .none => some false
  | .d (.bool b) => some b
  | .d (.int i) => some (i != 0)
  | x => match seqA m x with
    | some ds => some (!ds.isEmpty)
    | none => none
def aTru (t : ATE) : ATT := fun a Q => t a fun x m => match truA m x with
  | some b => Q b m
  | none => False
theorem isEmpty_len {α β : Type} {xs : List α} {ds : List β} (h : xs.length = ds.length) : xs.isEmpty = ds.isEmpty := by cases xs <;> cases ds <;> simp_all
theorem truA_ok {m : Mm} {L Mo : List Addr} {H : Hp} {x : AV} {v : V} {k : Bool} (bb : B C m L Mo H) (r : AVR C L Mo H x v) (h : truA m x = some k) : TruV C.K v H k := by
  unfold truA at h
  split at h
  · cases h; cases r; rfl
  · cases h; cases r; rfl
  · cases h; cases r; rfl
  · split at h
    · rename_i ds e
      cases h
      obtain ⟨l, xs, rfl, h1, h2⟩ := seqA_ok bb r e
      rcases h1 with h1 | h1
      · exact .inl ⟨xs, h1, by rw [isEmpty_len h2.len]⟩
      · exact .inr (.inl ⟨xs, h1, by rw [isEmpty_len h2.len]⟩)
    · cases h
theorem qt_tru (ha : QE X a ta) (he : ∀ whole, isTrue a X.env whole = (do let v ← whole; standAt a.pos; holding [v] (truthy v))) : QT X a (aTru ta) := fun C hK => PT.imp (pt_truth (ha C hK) he) fun σ H Q ⟨a, L, Mo, AQ, r, k, h⟩ => by
  refine ⟨a, L, Mo, _, r, fun x m1 v L1 Mo1 H1 h1 b1 v1 e1 => ?_, h⟩
  have h1' : (match truA m1 x with | some b => AQ b m1 | none => False) := h1
  split at h1'
  · rename_i b e
    exact ⟨b, hK ▸ truA_ok b1 v1 e, k _ _ _ _ _ h1' b1 e1⟩
  · exact h1'.elim

/-! ### arguments, displays -/
def aNil : ATA := fun a Q => Q [] a.m
def aCons (ta : ATE) (tr : ATA) : ATA := fun a Q => ta a fun x m1 => tr ⟨a.g, m1⟩ fun xs m2 => Q (x :: xs) m2
variable {es : List Expr} {tr : ATA}
theorem qa_nil : QA X [] aNil := fun C hK => PA.imp pa_nil fun σ H Q ⟨a, L, Mo, AQ, r, k, h⟩ => k _ _ _ _ _ _ h r.b .nil X2.refl
theorem qa_cons (ha : QE X e ta) (hr : QA X es tr) (hs : starEach (e :: es) X.env = (false, eval e X.env) :: starEach es X.env := by rfl) : QA X (e :: es) (aCons ta tr) := fun C hK => PA.imp (pa_cons (ha C hK) (hr C hK) hs) fun σ H Q ⟨a, L, Mo, AQ, r, k, h⟩ =>
  ⟨a, L, Mo, _, r, fun x m1 v L1 Mo1 H1 h1 b1 v1 e1 => ⟨⟨a.g, m1⟩, L1, Mo1, _, r.next b1 e1, fun xs m2 vs L2 Mo2 H2 h2 b2 v2 e2 => k _ _ _ _ _ _ h2 b2 (.cons (v1.mono e2) v2) (e1.trans e2), h1⟩, h⟩
def datas : List AV → Option (List D)
  | [] => some []
  | .d x :: r => match datas r with
    | some l => some (x :: l)
    | none => none
  | _ => none
theorem datas_ok {L Mo : List Addr} {H : Hp} : ∀ {avs : List AV} {vs : List V} {ds : List D}, AVRs C L Mo H avs vs → datas avs = some ds → DqAll C.K (C.hd L Mo H) vs ds
  | [], _, _, .nil, h => by cases h; exact .nil
  | .d x :: r, _, _, .cons q t, h => by
    simp only [datas] at h
    split at h
    · rename_i l e
      cases h
      exact .cons q (datas_ok t e)
    · cases h
  | .o j :: r, _, _, .cons q t, h => by simp [datas] at h
  | .src :: r, _, _, .cons q t, h => by simp [datas] at h
  | .cells :: r, _, _, .cons q t, h => by simp [datas] at h
  | .scr _ :: r, _, _, .cons q t, h => by simp [datas] at h
  | .kt _ :: r, _, _, .cons q t, h => by simp [datas] at h
  | .dt _ :: r, _, _, .cons q t, h => by simp [datas] at h
def aTup (t : ATA) : ATE := fun a Q => t a fun avs m => match datas avs with
  | some ds => ds.length ≤ 1000 ∧ Q (.d (.tuple ds)) m
  | none => False
def aLst (t : ATA) : ATE := fun a Q => t a fun avs m => match datas avs with
  | some ds => ds.length ≤ 1000 ∧ Q (.d (.list ds)) m
  | none => False
/-- a list that its def may change -/
def aLstM (t : ATA) : ATE := fun a Q => t a fun avs m => match datas avs with
  | some ds => ds.length ≤ 1000 ∧ Q (.o m.o.length) ⟨m.s, m.o ++ [.l ds]⟩
  | none => False
theorem line1000 {n : Nat} (h : n ≤ 1000) : n ≤ sizeLine := Nat.le_of_lt (small1000 h)
theorem q_tup {x1} (h : QA X es tr) : QE X (.Tuple es x1 pos) (aTup tr) := fun C hK => PE.imp (pe_tup (h C hK)) fun σ H Q ⟨a, L, Mo, AQ, r, k, h⟩ => by
  refine ⟨a, L, Mo, _, r, fun xs m1 vs L1 Mo1 H1 h1 b1 v1 e1 => ?_, h⟩
  have h1' : (match datas xs with | some ds => ds.length ≤ 1000 ∧ AQ (.d (.tuple ds)) m1 | none => False) := h1
  split at h1'
  · rename_i ds e
    have q := datas_ok v1 e
    exact ⟨line1000 (by rw [q.len]; exact h1'.1), fun p hp => (k.aft e1).tup b1 hp q h1'.2⟩
  · exact h1'.elim
theorem q_lst (h : QA X es tr) : QE X (.List es pos) (aLst tr) := fun C hK => PE.imp (pe_lst (h C hK)) fun σ H Q ⟨a, L, Mo, AQ, r, k, h⟩ => by
  refine ⟨a, L, Mo, _, r, fun xs m1 vs L1 Mo1 H1 h1 b1 v1 e1 => ?_, h⟩
  have h1' : (match datas xs with | some ds => ds.length ≤ 1000 ∧ AQ (.d (.list ds)) m1 | none => False) := h1
  split at h1'
  · rename_i ds e
    have q := datas_ok v1 e
    exact ⟨line1000 (by rw [q.len]; exact h1'.1), fun p hp => (k.aft e1).lst b1 hp q h1'.2⟩
  · exact h1'.elim
theorem q_lstM (h : QA X es tr) : QE X (.List es pos) (aLstM tr) := fun C hK => PE.imp (pe_lst (h C hK)) fun σ H Q ⟨a, L, Mo, AQ, r, k, h⟩ => by
  refine ⟨a, L, Mo, _, r, fun xs m1 vs L1 Mo1 H1 h1 b1 v1 e1 => ?_, h⟩
  have h1' : (match datas xs with | some ds => ds.length ≤ 1000 ∧ AQ (.o m1.o.length) ⟨m1.s, m1.o ++ [.l ds]⟩ | none => False) := h1
  split at h1'
  · rename_i ds e
    have q := datas_ok v1 e
    exact ⟨line1000 (by rw [q.len]; exact h1'.1), fun p hp => (k.aft e1).lstM b1 hp q h1'.2⟩
  · exact h1'.elim

/-! ### calls of built-ins -/
abbrev AC1 := List AV → Mm → (AV → Mm → Prop) → Prop
def CallQ (X : Cx) (f : Value) (r : AC1) : Prop := ∃ r2, CallR X f r2 ∧ ∀ (C : Ct) L Mo H m avs vs Q AQ, C.K = X.K → B C m L Mo H → AVRs C L Mo H avs vs → Cont C L Mo H AQ Q → r avs m AQ → r2 vs H Q
def aCall (r : AC1) (t : ATA) : ATE := fun a Q => t a fun avs m => r avs m Q
theorem call_imp {r : AC1} {r2 : List V → Hp → VK → Prop} (hK : C.K = X.K) (ho : ∀ (C : Ct) L Mo H m avs vs Q AQ, C.K = X.K → B C m L Mo H → AVRs C L Mo H avs vs → Cont C L Mo H AQ Q → r avs m AQ → r2 vs H Q) (σ : List (Option V)) (H : Hp) (Q : VK)
    (h : lft C (aCall r tr) σ H Q) : tCB r2 (lftA C tr) σ H Q := by
  obtain ⟨a, L, Mo, AQ, rr, k, h⟩ := h
  exact ⟨a, L, Mo, _, rr, fun xs m1 vs L1 Mo1 H1 h1 b1 v1 e1 => ho C L1 Mo1 H1 m1 xs vs Q AQ hK b1 v1 (k.aft e1) h1, h⟩
variable {x : Str} {id T : String} {p : Pos}
theorem q_callB {r : AC1} (o : CallQ X (.builtin id) r) (hg : Gl X x) (hm : X.mg x = none) (hv : bootBuiltins x = some (.builtin id)) (ha : QA X (e :: es) tr) (hn : x ≠ "__name__" := by decide) (hdb : (x == ("__debug__" : Str)) = false := by decide)
    (he : starEach (e :: es) X.env = (false, eval e X.env) :: starEach es X.env := by rfl) (hpl : (backTo pos (starEach es X.env)).any (·.1) = false := by rfl) : QE X (.Call (.Name x p) (e :: es) [] pos) (aCall r tr) := fun C hK => by
  obtain ⟨r2, ho, hi⟩ := o
  exact PE.imp (pe_callB ho hg hm hv (ha C hK) hn hdb he hpl) (call_imp hK hi)
theorem q_callTy {r : AC1} (o : CallQ X (.type T) r) (hg : Gl X x) (hm : X.mg x = none) (hv : bootBuiltins x = some (.type T)) (ha : QA X (e :: es) tr) (hn : x ≠ "__name__" := by decide) (hdb : (x == ("__debug__" : Str)) = false := by decide)
    (he : starEach (e :: es) X.env = (false, eval e X.env) :: starEach es X.env := by rfl) (hpl : (backTo pos (starEach es X.env)).any (·.1) = false := by rfl) : QE X (.Call (.Name x p) (e :: es) [] pos) (aCall r tr) := fun C hK => by
  obtain ⟨r2, ho, hi⟩ := o
  exact PE.imp (pe_callTy ho hg hm hv (ha C hK) hn hdb he hpl) (call_imp hK hi)
theorem av1 {L Mo : List Addr} {H : Hp} {x : AV} {vs : List V} (h : AVRs C L Mo H [x] vs) : ∃ v, vs = [v] ∧ AVR C L Mo H x v := by
  cases h with
  | cons q t => cases t; exact ⟨_, rfl, q⟩
theorem av2 {L Mo : List Addr} {H : Hp} {x y : AV} {vs : List V} (h : AVRs C L Mo H [x, y] vs) : ∃ v w, vs = [v, w] ∧ AVR C L Mo H x v ∧ AVR C L Mo H y w := by
  cases h with
  | cons q t => cases t with
    | cons q2 t2 => cases t2; exact ⟨_, _, rfl, q, q2⟩
def bLen : AC1 := fun avs m Q => match avs with
  | [.d (.str x)] => x.length ≤ sizeLine ∧ Q (.d (.int x.length)) m
  | [x] => match seqA m x with
    | some ds => Q (.d (.int ds.length)) m
    | none => False
  | _ => False
theorem cq_len : CallQ X (.builtin "len") bLen := by
  refine ⟨_, call_len, fun C L Mo H m avs vs Q AQ hK b r k hh => ?_⟩
  unfold bLen at hh
  split at hh
  · obtain ⟨v, rfl, rv⟩ := av1 r
    have := dq_str rv
    subst this
    exact ⟨_, _, rfl, ⟨hh.1, rfl⟩, k.ret hh.2 b (.int _)⟩
  · split at hh
    · rename_i ds e
      obtain ⟨v, rfl, rv⟩ := av1 r
      obtain ⟨l, xs, rfl, h1, h2⟩ := seqA_ok b rv e
      rcases h1 with h1 | h1
      · exact ⟨_, xs.length, rfl, .inl ⟨xs, hK ▸ h1, rfl⟩, by rw [h2.len]; exact k.ret hh b (.int _)⟩
      · exact ⟨_, xs.length, rfl, .inr ⟨xs, hK ▸ h1, rfl⟩, by rw [h2.len]; exact k.ret hh b (.int _)⟩
    · exact hh.elim
  · exact hh.elim
def bInt : AC1 := fun avs m Q => match avs with
  | [.d (.int i)] => Q (.d (.int i)) m
  | [.d (.bool k)] => Q (.d (.int (if k then 1 else 0))) m
  | _ => False
theorem cq_int : CallQ X (.type "int") bInt := by
  refine ⟨_, call_int1, fun C L Mo H m avs vs Q AQ hK b r k hh => ?_⟩
  unfold bInt at hh
  split at hh
  · obtain ⟨v, rfl, rv⟩ := av1 r
    exact .inl ⟨_, by rw [dq_int rv], k.ret hh b (.int _)⟩
  · obtain ⟨v, rfl, rv⟩ := av1 r
    exact .inr ⟨_, by rw [dq_bl rv], k.ret hh b (.int _)⟩
  · exact hh.elim
def bAbs : AC1 := fun avs m Q => match avs with
  | [.d (.int i)] => Q (.d (.int (if i < 0 then -i else i))) m
  | _ => False
theorem cq_abs : CallQ X (.builtin "abs") bAbs := by
  refine ⟨_, call_abs, fun C L Mo H m avs vs Q AQ hK b r k hh => ?_⟩
  unfold bAbs at hh
  split at hh
  · obtain ⟨v, rfl, rv⟩ := av1 r
    exact ⟨_, by rw [dq_int rv], k.ret hh b (.int _)⟩
  · exact hh.elim
def bMax : AC1 := fun avs m Q => match avs with
  | [.d (.int i), .d (.int j)] => Q (.d (.int (if j > i then j else i))) m
  | _ => False
theorem cq_max (hc : X.calm = true) : CallQ X (.builtin "max") bMax := by
  refine ⟨_, call_max2 hc, fun C L Mo H m avs vs Q AQ hK b r k hh => ?_⟩
  unfold bMax at hh
  split at hh
  · obtain ⟨v, w, rfl, rv, rw_⟩ := av2 r
    exact ⟨_, _, by rw [dq_int rv, dq_int rw_], k.ret hh b (.int _)⟩
  · exact hh.elim
def bMin : AC1 := fun avs m Q => match avs with
  | [.d (.int i), .d (.int j)] => Q (.d (.int (if j < i then j else i))) m
  | _ => False
theorem cq_min (hc : X.calm = true) : CallQ X (.builtin "min") bMin := by
  refine ⟨_, call_min2 hc, fun C L Mo H m avs vs Q AQ hK b r k hh => ?_⟩
  unfold bMin at hh
  split at hh
  · obtain ⟨v, w, rfl, rv, rw_⟩ := av2 r
    exact ⟨_, _, by rw [dq_int rv, dq_int rw_], k.ret hh b (.int _)⟩
  · exact hh.elim
def bTuple : AC1 := fun avs m Q => match avs with
  | [.d (.tuple ds)] => Q (.d (.tuple ds)) m
  | [x] => match lstA m x with
    | some ds => Q (.d (.tuple ds)) m
    | none => False
  | _ => False
theorem cq_tuple : CallQ X (.type "tuple") bTuple := by
  refine ⟨_, call_tuple_of, fun C L Mo H m avs vs Q AQ hK b r k hh => ?_⟩
  unfold bTuple at hh
  split at hh
  · rename_i ds
    obtain ⟨v, rfl, rv⟩ := av1 r
    obtain ⟨l, xs, rfl, h1, h2⟩ := tupA_ok (ds := ds) rv rfl
    exact ⟨l, xs, rfl, .inr ⟨hK ▸ h1, k.ret hh b rv⟩⟩
  · split at hh
    · rename_i ds e
      obtain ⟨v, rfl, rv⟩ := av1 r
      obtain ⟨l, xs, rfl, h1, h2⟩ := lstA_ok b rv e
      exact ⟨l, xs, rfl, .inl ⟨SqL.of h1, fun p hp => k.tup b hp h2 hh⟩⟩
    · exact hh.elim
  · exact hh.elim
/-- list(x): a new list, not changed afterwards; one that may be changed -/
def bList : AC1 := fun avs m Q => match avs with
  | [x] => match seqA m x with
    | some ds => Q (.d (.list ds)) m
    | none => False
  | _ => False
theorem cq_list : CallQ X (.type "list") bList := by
  refine ⟨_, call_list_of, fun C L Mo H m avs vs Q AQ hK b r k hh => ?_⟩
  unfold bList at hh
  split at hh
  · split at hh
    · rename_i ds e
      obtain ⟨v, rfl, rv⟩ := av1 r
      obtain ⟨l, xs, rfl, h1, h2⟩ := seqA_ok b rv e
      exact ⟨l, xs, rfl, hK ▸ h1, fun p hp => k.lst b hp h2 hh⟩
    · exact hh.elim
  · exact hh.elim
def bListM : AC1 := fun avs m Q => match avs with
  | [x] => match seqA m x with
    | some ds => Q (.o m.o.length) ⟨m.s, m.o ++ [.l ds]⟩
    | none => False
  | _ => False
theorem cq_listM : CallQ X (.type "list") bListM := by
  refine ⟨_, call_list_of, fun C L Mo H m avs vs Q AQ hK b r k hh => ?_⟩
  unfold bListM at hh
  split at hh
  · split at hh
    · rename_i ds e
      obtain ⟨v, rfl, rv⟩ := av1 r
      obtain ⟨l, xs, rfl, h1, h2⟩ := seqA_ok b rv e
      exact ⟨l, xs, rfl, hK ▸ h1, fun p hp => k.lstM b hp h2 hh⟩
    · exact hh.elim
  · exact hh.elim
def intsD : List D → Option (List Int)
  | [] => some []
  | .int i :: r => match intsD r with
    | some l => some (i :: l)
    | none => none
  | _ => none
theorem intsD_ok {K : PySem.W.Frag} {H : Hp} : ∀ {ds : List D} {xs : List V} {ns : List Int}, DqAll K H xs ds → intsD ds = some ns → xs = ns.map V.int
  | [], _, _, h, e => by cases e; cases h; rfl
  | .int i :: r, _, _, h, e => by
    simp only [intsD] at e
    split at e
    · rename_i l e'
      cases e
      cases h with
      | cons h1 h2 => cases h1; simp [intsD_ok h2 e']
    · cases e
  | .none :: r, _, _, h, e => by simp [intsD] at e
  | .bool _ :: r, _, _, h, e => by simp [intsD] at e
  | .str _ :: r, _, _, h, e => by simp [intsD] at e
  | .list _ :: r, _, _, h, e => by simp [intsD] at e
  | .tuple _ :: r, _, _, h, e => by simp [intsD] at e
  | .dict _ :: r, _, _, h, e => by simp [intsD] at e
theorem intsD_map (ns : List Int) : intsD (ns.map PyData.int) = some ns := by
  induction ns with
  | nil => rfl
  | cons n ns ih => simp [intsD, ih]
def bSum : AC1 := fun avs m Q => match avs with
  | [x] => match lstA m x with
    | some ds => match intsD ds with
      | some ns => Q (.d (.int ns.sum)) m
      | none => False
    | none => False
  | _ => False
theorem cq_sum (hc : X.calm = true) : CallQ X (.builtin "sum") bSum := by
  refine ⟨_, cr_sum hc, fun C L Mo H m avs vs Q AQ hK b r k hh => ?_⟩
  unfold bSum at hh
  split at hh
  · split at hh
    · rename_i ds e
      split at hh
      · rename_i ns e2
        obtain ⟨v, rfl, rv⟩ := av1 r
        obtain ⟨l, xs, rfl, h1, h2⟩ := lstA_ok b rv e
        exact ⟨l, ns, rfl, SqL.of (by rw [h1, intsD_ok h2 e2]), k.ret hh b (.int _)⟩
      · exact hh.elim
    · exact hh.elim
  · exact hh.elim
end
end QL

namespace QL
open PySem PySem.Spec PyProof.Rows L2

/-! ### statements -/
structure AEnds where
  nx : AS → Prop
  rt : AV → Mm → Prop
  bk : AS → Prop := fun _ => False
  ct : AS → Prop := fun _ => False
abbrev ATS := AEnds → AS → Prop
structure Bel (C : Ct) (AD : AEnds) (D : Ends) : Prop where
  nx : ∀ a L Mo σ H, AD.nx a → R C a L Mo σ H → D.nx σ H
  rt : ∀ av m L Mo H v, AD.rt av m → B C m L Mo H → AVR C L Mo H av v → D.rt v H
  bk : ∀ a L Mo σ H, AD.bk a → R C a L Mo σ H → D.bk σ H
  ct : ∀ a L Mo σ H, AD.ct a → R C a L Mo σ H → D.ct σ H
def lftS (C : Ct) (t : ATS) : TS := fun D σ H => ∃ a L Mo AD, R C a L Mo σ H ∧ Bel C AD D ∧ t AD a
theorem PS.imp {X : Cx} {e : Stmt} {t t' : TS} (h : PS X e t) (i : ∀ D σ H, t' D σ H → t D σ H) : PS X e t' := ⟨fun pins s σ H Q I q => h.run pins s σ H Q I (i Q σ H q)⟩
theorem PSs.imp {X : Cx} {e : List Stmt} {t t' : TS} (h : PSs X e t) (i : ∀ D σ H, t' D σ H → t D σ H) : PSs X e t' := ⟨fun pins s σ H Q I q => h.run pins s σ H Q I (i Q σ H q)⟩
def QS (X : Cx) (st : Stmt) (t : ATS) : Prop := ∀ C : Ct, C.K = X.K → PS X st (lftS C t)
def QSs (X : Cx) (st : List Stmt) (t : ATS) : Prop := ∀ C : Ct, C.K = X.K → PSs X st (lftS C t)
def aNext : ATS := fun D a => D.nx a
def aSeq (t u : ATS) : ATS := fun D a => t { D with nx := u D } a
section
variable {X : Cx} {st : Stmt} {sts : List Stmt} {t u : ATS} {e : Expr} {te : ATE} {pos : Pos}
theorem qss_nil : QSs X [] aNext := fun C hK => PSs.imp pss_nil fun D σ H ⟨a, L, Mo, AD, r, b, h⟩ => b.nx _ _ _ _ _ h r
theorem qss_cons (h1 : QS X st t) (h2 : QSs X sts u) : QSs X (st :: sts) (aSeq t u) := fun C hK => PSs.imp (pss_cons (h1 C hK) (h2 C hK)) fun D σ H ⟨a, L, Mo, AD, r, b, h⟩ =>
  ⟨a, L, Mo, { AD with nx := u AD }, r, ⟨fun a' L' Mo' σ' H' q r' => ⟨a', L', Mo', AD, r', b, q⟩, b.rt, b.bk, b.ct⟩, h⟩
theorem qss_one (h1 : QS X st t) : QSs X [st] t := fun C hK => pss_one (h1 C hK)
def aBreak : ATS := fun D a => D.bk a
def aCont : ATS := fun D a => D.ct a
theorem qs_pass : QS X (.Pass pos) aNext := fun C hK => PS.imp ps_pass fun D σ H ⟨a, L, Mo, AD, r, b, h⟩ => b.nx _ _ _ _ _ h r
theorem qs_break : QS X (.Break pos) aBreak := fun C hK => PS.imp ps_break fun D σ H ⟨a, L, Mo, AD, r, b, h⟩ => b.bk _ _ _ _ _ h r
theorem qs_continue : QS X (.Continue pos) aCont := fun C hK => PS.imp ps_continue fun D σ H ⟨a, L, Mo, AD, r, b, h⟩ => b.ct _ _ _ _ _ h r
def aDrop (te : ATE) : ATS := fun D a => te a fun _ m => D.nx ⟨a.g, m⟩
theorem qs_expr (he : QE X e te) (hs : swapsWith e none pos.line X.env = pure false := by rfl) : QS X (.Expr e pos) (aDrop te) := fun C hK => PS.imp (ps_expr (he C hK) hs) fun D σ H ⟨a, L, Mo, AD, r, b, h⟩ =>
  ⟨a, L, Mo, _, r, fun av m' v L' Mo' H' q b' rv x => b.nx _ _ _ _ _ q (r.next b' x), h⟩
def aRet (te : ATE) : ATS := fun D a => te a D.rt
theorem qs_ret (he : QE X e te) : QS X (.Return (some e) pos) (aRet te) := fun C hK => PS.imp (ps_ret (he C hK)) fun D σ H ⟨a, L, Mo, AD, r, b, h⟩ =>
  ⟨a, L, Mo, _, r, fun av m' v L' Mo' H' q b' rv x => b.rt _ _ _ _ _ _ q b' rv, h⟩
def aRetN : ATS := fun D a => D.rt (.d .none) a.m
theorem qs_retN : QS X (.Return none pos) aRetN := fun C hK => PS.imp ps_retN fun D σ H ⟨a, L, Mo, AD, r, b, h⟩ => b.rt _ _ _ _ _ _ h r.b .non
def aIfS (c : ATT) (t u : ATS) : ATS := fun D a => c a fun b m => if b = true then t D ⟨a.g, m⟩ else u D ⟨a.g, m⟩
theorem qs_if {c : Expr} {x y : List Stmt} {tc : ATT} (hc : QT X c tc) (ha : QSs X x t) (hb : QSs X y u) : QS X (.If c x y pos) (aIfS tc t u) := fun C hK => PS.imp (ps_if (hc C hK) (ha C hK) (hb C hK)) fun D σ H ⟨a, L, Mo, AD, r, b, h⟩ => by
  refine ⟨a, L, Mo, _, r, fun k m1 L1 Mo1 H1 h1 b1 e1 => ?_, h⟩
  have h1' : if k = true then t AD ⟨a.g, m1⟩ else u AD ⟨a.g, m1⟩ := h1
  cases k with
  | true => exact ⟨⟨a.g, m1⟩, L1, Mo1, AD, r.next b1 e1, b, h1'⟩
  | false => exact ⟨⟨a.g, m1⟩, L1, Mo1, AD, r.next b1 e1, b, h1'⟩
def aNever : ATS := fun _ _ => False
theorem qs_never : QS X st aNever := fun C hK => PS.imp ps_never fun D σ H ⟨a, L, Mo, AD, r, b, h⟩ => h
end

/-! ### targets: the slots alone change -/
abbrev ATG := AV → Mm → List (Option AV) → (List (Option AV) → Prop) → Prop
abbrev ATGs := List D → Mm → List (Option AV) → (List (Option AV) → Prop) → Prop
def lftG (C : Ct) (vs : List Nat) (t : ATG) : TG := fun v σ H Q => ∃ a L Mo av AQ, R C a L Mo σ H ∧ AVR C L Mo H av v ∧ (∀ g' σ', AQ g' → R C ⟨g', a.m⟩ L Mo σ' H → wipe σ' vs = wipe σ vs → Q σ' H) ∧ t av a.m a.g AQ
def lftGs (C : Ct) (vs : List Nat) (t : ATGs) : TGs := fun us σ H Q => ∃ a L Mo ds AQ, R C a L Mo σ H ∧ DqAll C.K (C.hd L Mo H) us ds ∧ (∀ g' σ', AQ g' → R C ⟨g', a.m⟩ L Mo σ' H → wipe σ' vs = wipe σ vs → Q σ' H) ∧ t ds a.m a.g AQ
theorem PG.imp {X : Cx} {e : Expr} {t t' : TG} (h : PG X e t) (i : ∀ v σ H Q, t' v σ H Q → t v σ H Q) : PG X e t' := ⟨fun pins s σ H v u Q I rv q => h.run pins s σ H v u Q I rv (i v σ H Q q)⟩
theorem PGs.imp {X : Cx} {e : List Expr} {t t' : TGs} (h : PGs X e t) (i : ∀ v σ H Q, t' v σ H Q → t v σ H Q) : PGs X e t' := ⟨fun pins s σ H v u Q I rv q => h.run pins s σ H v u Q I rv (i v σ H Q q)⟩
def QG (X : Cx) (vs : List Nat) (e : Expr) (t : ATG) : Prop := ∀ C : Ct, C.K = X.K → PG X e (lftG C vs t)
def QGs (X : Cx) (vs : List Nat) (e : List Expr) (t : ATGs) : Prop := ∀ C : Ct, C.K = X.K → PGs X e (lftGs C vs t)
theorem wipe_get {σ : List (Option V)} {j : Nat} : ∀ {vs : List Nat}, (wipe σ vs)[j]? = if j ∈ vs then (if j < σ.length then some none else none) else σ[j]?
  | [] => by simp [wipe]
  | v :: vs => by
    show ((wipe σ vs).set v none)[j]? = _
    by_cases h : v = j
    · subst h
      rw [if_pos List.mem_cons_self]
      by_cases hl : v < σ.length
      · rw [if_pos hl, List.getElem?_set_self (by rw [wipe_length]; exact hl)]
      · rw [if_neg hl, List.getElem?_eq_none_iff.mpr (by rw [List.length_set, wipe_length]; omega)]
    · rw [List.getElem?_set_ne h, wipe_get]
      by_cases hm : j ∈ vs
      · rw [if_pos hm, if_pos (List.mem_cons_of_mem _ hm)]
      · rw [if_neg hm, if_neg (by simp [hm]; exact fun e => h e.symm)]
theorem wipe_set {σ : List (Option V)} {i : Nat} {v : Option V} {vs : List Nat} (h : i ∈ vs) : wipe (σ.set i v) vs = wipe σ vs := by
  apply List.ext_getElem?
  intro j
  rw [wipe_get, wipe_get, List.length_set]
  by_cases hj : j ∈ vs
  · rw [if_pos hj, if_pos hj]
  · rw [if_neg hj, if_neg hj, List.getElem?_set_ne (fun e => hj (by rw [← e]; exact h))]
section
variable {X : Cx} {pos : Pos} {vs : List Nat}
def aGName (i : Nat) : ATG := fun av m g Q => Q (g.set i (some av))
theorem qg_name {i : Nat} {x : Str} (hN : X.N.Nodup) (hi : X.N[i]? = some x) (hx : Loc X.env.scope x) (hv : i ∈ vs) (hf : X.fn x = true ∨ X.env.scope.names.lookup x = some .local := by first | exact .inl rfl | exact .inr rfl | assumption) : QG X vs (.Name x pos) (aGName i) := fun C hK =>
  PG.imp (pg_name hN hi hx hf) fun v σ H Q ⟨a, L, Mo, av, AQ, r, rv, k, h⟩ => k _ _ h (r.set i rv) (wipe_set hv)
def aGNil : ATGs := fun ds m g Q => match ds with
  | [] => Q g
  | _ => False
def aGCons (t : ATG) (u : ATGs) : ATGs := fun ds m g Q => match ds with
  | d :: r => t (.d d) m g fun g' => u r m g' Q
  | [] => False
theorem qgs_nil : QGs X vs [] aGNil := fun C hK => PGs.imp pgs_nil fun us σ H Q ⟨a, L, Mo, ds, AQ, r, rv, k, h⟩ => by
  unfold aGNil at h
  split at h
  · cases rv; exact ⟨rfl, k _ _ h r rfl⟩
  · exact h.elim
theorem qgs_cons {e : Expr} {es : List Expr} {t : ATG} {u : ATGs} (h1 : QG X vs e t) (h2 : QGs X vs es u) (hs : (assignEach (e :: es) X.env).map (·.2) = assign e X.env :: (assignEach es X.env).map (·.2) := by rfl) : QGs X vs (e :: es) (aGCons t u) := fun C hK =>
  PGs.imp (pgs_cons (h1 C hK) (h2 C hK) hs) fun us σ H Q ⟨a, L, Mo, ds, AQ, r, rv, k, h⟩ => by
    unfold aGCons at h
    split at h
    · rename_i d ds'
      cases rv with
      | cons q1 q2 =>
        refine ⟨_, _, rfl, a, L, Mo, .d d, _, r, q1, fun g' σ' hg r' w => ⟨⟨g', a.m⟩, L, Mo, _, AQ, r', q2, fun g2 σ2 hg2 r2 w2 => k g2 σ2 hg2 r2 (w2.trans w), hg⟩, h⟩
    · exact h.elim
def aGTup (n : Nat) (t : ATGs) : ATG := fun av m g Q => match tupA av with
  | some ds => ds.length = n ∧ t ds m g Q
  | none => False
theorem qg_tup {es : List Expr} {k : Nat} {t : ATGs} {n : Nat} (hc : X.calm = true) (h : QGs X vs es t) (hn : (assignEach es X.env).length = n := by rfl) (hst : (assignEach es X.env).findIdx? (·.1) = none := by rfl) : QG X vs (.Tuple es k pos) (aGTup n t) := fun C hK =>
  PG.imp (pg_tup hc (h C hK) hn hst) fun v σ H Q ⟨a, L, Mo, av, AQ, r, rv, k, h⟩ => by
    unfold aGTup at h
    split at h
    · rename_i ds e
      obtain ⟨l, xs, rfl, h1, h2⟩ := tupA_ok rv e
      exact ⟨l, xs, rfl, hK ▸ h1, h2.len.trans h.1, a, L, Mo, ds, AQ, r, h2, k, h.2⟩
    · exact h.elim
/-- a list unpacked -/
def aGLst (n : Nat) (t : ATGs) : ATG := fun av m g Q => match lstA m av with
  | some ds => ds.length = n ∧ t ds m g Q
  | none => False
theorem qg_lst {es : List Expr} {k : Nat} {t : ATGs} {n : Nat} (hc : X.calm = true) (h : QGs X vs es t) (hn : (assignEach es X.env).length = n := by rfl) (hst : (assignEach es X.env).findIdx? (·.1) = none := by rfl) : QG X vs (.Tuple es k pos) (aGLst n t) := fun C hK =>
  PG.imp (pg_unl hc (h C hK) hn hst) fun v σ H Q ⟨a, L, Mo, av, AQ, r, rv, k, h⟩ => by
    unfold aGLst at h
    split at h
    · rename_i ds e
      obtain ⟨l, xs, rfl, h1, h2⟩ := lstA_ok r.b rv e
      exact ⟨l, xs, rfl, SqL.of h1, h2.len.trans h.1, a, L, Mo, ds, AQ, r, h2, k, h.2⟩
    · exact h.elim
def aAsg (te : ATE) (g : ATG) : ATS := fun D a => te a fun x m => g x m a.g fun g' => D.nx ⟨g', m⟩
theorem asg_imp {C : Ct} {te : ATE} {g : ATG} (D : Ends) (σ : List (Option V)) (H : Hp) (h : lftS C (aAsg te g) D σ H) : tAsg (lft C te) (lftG C vs g) D σ H := by
  obtain ⟨a, L, Mo, AD, r, b, h⟩ := h
  exact ⟨a, L, Mo, _, r, fun x m1 v L1 Mo1 H1 h1 b1 v1 e1 => ⟨⟨a.g, m1⟩, L1, Mo1, x, _, r.next b1 e1, v1, fun g' σ' hg r' _ => b.nx _ _ _ _ _ hg r', h1⟩, h⟩
theorem qs_asg {tg e : Expr} {te : ATE} {g : ATG} (he : QE X e te) (hg : QG X vs tg g) (hs : swapsWithSole [tg] e pos.line X.env = pure false := by rfl) (hw : swappedStores [tg] e X.env = pure none := by rfl)
    (h1 : (assignEach [tg] X.env).map (·.2) = [assign tg X.env] := by rfl) : QS X (.Assign [tg] e pos) (aAsg te g) := fun C hK => PS.imp (ps_asg (he C hK) (hg C hK) hs hw h1) asg_imp
def aSet (i : Nat) (te : ATE) : ATS := fun D a => te a fun x m => D.nx ⟨a.g.set i (some x), m⟩
theorem qs_set {i : Nat} {x : Str} {e : Expr} {te : ATE} {pos' : Pos} (hN : X.N.Nodup) (hi : X.N[i]? = some x) (hx : Loc X.env.scope x) (he : QE X e te) (hs : swapsWith e (some (.Name x pos')) pos.line X.env = pure false := by rfl) (hf : X.fn x = true ∨ X.env.scope.names.lookup x = some .local := by first | exact .inl rfl | exact .inr rfl | assumption) :
    QS X (.Assign [.Name x pos'] e pos) (aSet i te) := fun C hK => PS.imp (ps_set hN hi hx (he C hK) hs hf) fun D σ H ⟨a, L, Mo, AD, r, b, h⟩ =>
  ⟨a, L, Mo, _, r, fun x m1 v L1 Mo1 H1 h1 b1 v1 e1 => b.nx _ _ _ _ _ h1 ((r.next b1 e1).set i v1), h⟩
def aPar (i j : Nat) (ta : ATA) : ATS := fun D a => ta a fun xs m => match xs with
  | [x, y] => D.nx ⟨(a.g.set i (some x)).set j (some y), m⟩
  | _ => False
theorem qs_par {i j : Nat} {x y : Str} {a b : Expr} {ta : ATA} {px py pt : Pos} {kt k2 pt2} (hc : X.calm = true) (hN : X.N.Nodup) (hi : X.N[i]? = some x) (hj : X.N[j]? = some y) (hij : i ≠ j)
    (hx : X.env.scope.names.lookup x = some .local) (hy : X.env.scope.names.lookup y = some .local) (ha : QA X [a, b] ta)
    (hw : swappedStores [.Tuple [.Name x px, .Name y py] kt pt] (.Tuple [a, b] k2 pt2) X.env = pure (some [x, y]))
    (hs : swapsWithSole [.Tuple [.Name x px, .Name y py] kt pt] (.Tuple [a, b] k2 pt2) pos.line X.env = pure false := by rfl) :
    QS X (.Assign [.Tuple [.Name x px, .Name y py] kt pt] (.Tuple [a, b] k2 pt2) pos) (aPar i j ta) := fun C hK => PS.imp (ps_par hc hN hi hj hij hx hy (ha C hK) hw hs) fun D σ H ⟨a, L, Mo, AD, r, b, h⟩ => by
  refine ⟨a, L, Mo, _, r, fun xs m1 vs L1 Mo1 H1 h1 b1 v1 e1 => ?_, h⟩
  split at h1
  · obtain ⟨v, w, rfl, q1, q2⟩ := av2 v1
    exact ⟨v, w, rfl, b.nx _ _ _ _ _ h1 (((r.next b1 e1).set i q1).set j q2)⟩
  · exact h1.elim
/-- x += e, ints -/
def aAugI (i : Nat) (f : Int → Int → Int) (te : ATE) : ATS := fun D a => match slotA a.g i with
  | some (.d (.int k)) => te a fun y m => match y with
    | .d (.int j) => D.nx ⟨a.g.set i (some (.d (.int (f k j)))), m⟩
    | _ => False
  | _ => False
theorem qs_augI {i : Nat} {x : Str} {e : Expr} {te : ATE} {op : Operator} {f : Int → Int → Int} {pos' : Pos} (hN : X.N.Nodup) (hi : X.N[i]? = some x) (hx : Loc X.env.scope x) (he : QE X e te) (ho : PIp X op (ipI f)) (hf : X.fn x = true ∨ X.env.scope.names.lookup x = some .local := by first | exact .inl rfl | exact .inr rfl | assumption) :
    QS X (.AugAssign (.Name x pos') op e pos) (aAugI i f te) := fun C hK => PS.imp (ps_aug hN hi hx (he C hK) ho hf) fun D σ H ⟨a, L, Mo, AD, r, b, h⟩ => by
  unfold aAugI at h
  split at h
  · rename_i k e
    obtain ⟨v, h1, h2⟩ := r.sl i _ (slotA_get e)
    refine ⟨v, h1, a, L, Mo, _, r, fun y m1 w L1 Mo1 H1 h1 b1 v1 e1 => ?_, h⟩
    split at h1
    · exact ⟨_, _, dq_int h2, dq_int v1, b.nx _ _ _ _ _ h1 ((r.next b1 e1).set i (.int _))⟩
    · exact h1.elim
  · exact h.elim
end

/-! ### dropping local objects -/
def fzV (n : Nat) (m : Mm) : AV → Option AV
  | .o j => if j < n then some (.o j) else match m.o[j]? with
    | some (.l ds) => some (.d (.list ds))
    | some (.kd kvs) => some (.d (.dict (kvD kvs)))
    | some (.td kvs) => some (.dt kvs)
    | none => none
  | x => some x
def fzS (n : Nat) (m : Mm) : Option AV → Option AV
  | some x => fzV n m x
  | none => none
def clr (g : List (Option AV)) (fs : List Nat) : List (Option AV) := fs.foldr (fun v g => g.set v none) g
def norm (n : Nat) (fs : List Nat) (a : AS) : AS := ⟨clr (a.g.map (fzS n a.m)) fs, ⟨a.m.s, a.m.o.take n⟩⟩
section
variable {C : Ct} {m : Mm} {a : AS} {L Mo : List Addr} {σ : List (Option V)} {H : Hp}
theorem mem_zlm {n : Nat} {x : Addr} (h : x ∈ C.Z ++ (L ++ Mo.take n)) : x ∈ C.Z ++ (L ++ Mo) := by
  simp only [List.mem_append] at h ⊢
  rcases h with h | h | h
  · exact .inl h
  · exact .inr (.inl h)
  · exact .inr (.inr (List.mem_of_mem_take h))
theorem hd_take (n : Nat) : Same (C.hd L Mo H) (C.hd L (Mo.take n) H) := fun x o h => by
  obtain ⟨h1, h2⟩ := hid_some h
  rw [Ct.hd, hid_of (fun z => h1 (mem_zlm z))]; exact h2
theorem B.take (b : B C m L Mo H) (n : Nat) : B C ⟨m.s, m.o.take n⟩ L (Mo.take n) H := by
  refine ⟨?_, b.sr, paired_take n (paired_impM b.ob fun o l _ q => q.mono (hd_take n) rfl), b.kp, b.nl, fun x hx => b.no x (List.mem_of_mem_take hx), b.zt, b.l0⟩
  exact b.nd.sublist ((List.Sublist.refl _).append ((List.Sublist.refl _).append (List.take_sublist _ _)))
theorem AVR.fz {n : Nat} {av av' : AV} {v : V} (b : B C m L Mo H) (r : AVR C L Mo H av v) (h : fzV n m av = some av') : AVR C L (Mo.take n) H av' v := by
  cases av with
  | d x => cases h; exact Dq.mono (hd_take n) _ _ r
  | src => cases h; exact r
  | cells => cases h; exact r
  | scr ns =>
    cases h
    obtain ⟨a, rfl, q⟩ := r
    exact ⟨a, rfl, (hd_take n).seq q⟩
  | kt ns =>
    cases h
    obtain ⟨a, rfl, q⟩ := r
    exact ⟨a, rfl, hd_take n _ _ q⟩
  | dt ns =>
    cases h
    obtain ⟨a, ys, rfl, q, q2⟩ := r
    exact ⟨a, ys, rfl, hd_take n _ _ q, q2.mono (hd_take n)⟩
  | o j =>
    simp only [fzV] at h
    split at h
    · rename_i hj
      cases h
      obtain ⟨l, h1, rfl⟩ := r
      exact ⟨l, by rw [List.getElem?_take_of_lt hj]; exact h1, rfl⟩
    · rename_i hj
      obtain ⟨l, h1, rfl⟩ := r
      have up : ∀ u, H l = some u → C.hd L (Mo.take n) H l = some u := fun u h3 => by
        have hm : l ∈ Mo.drop n := by
          have : (Mo.drop n)[j - n]? = some l := by rw [List.getElem?_drop]; rw [show n + (j - n) = j by omega]; exact h1
          exact List.mem_of_getElem? this
        rw [Ct.hd, hid_of]
        · exact h3
        · intro z
          have nd := b.nd
          have e2 : C.Z ++ (L ++ Mo) = (C.Z ++ (L ++ Mo.take n)) ++ Mo.drop n := by simp [List.append_assoc]
          rw [e2] at nd
          exact (List.nodup_append.mp nd).2.2 l z l hm rfl
      split at h
      · rename_i ds e
        cases h
        obtain ⟨l', h2, xs, h3, h4⟩ := paired_at b.ob e
        rw [h1] at h2; cases h2
        exact Dq.lst (xs := xs) (up _ h3) (DqAll.mono (hd_take n) _ _ h4)
      · rename_i ds e
        cases h
        obtain ⟨l', h2, xs, h3, h4⟩ := paired_at b.ob e
        rw [h1] at h2; cases h2
        exact Dq.dk (ys := xs) (up _ h3) (KQ.toK (h4.mono (hd_take n)))
      · rename_i ds e
        cases h
        obtain ⟨l', h2, xs, h3, h4⟩ := paired_at b.ob e
        rw [h1] at h2; cases h2
        exact ⟨_, xs, rfl, up _ h3, h4.mono (hd_take n)⟩
      · cases h
theorem R.clr (r : R C a L Mo σ H) (fs : List Nat) : R C ⟨QL.clr a.g fs, a.m⟩ L Mo σ H := by
  induction fs with
  | nil => exact r
  | cons v fs ih =>
    refine ⟨r.b, by have := ih.ln; simpa [QL.clr] using this, fun i av e => ?_⟩
    have e' : ((QL.clr a.g fs).set v none)[i]? = some (some av) := e
    by_cases hv : v = i
    · subst hv
      by_cases hl : v < (QL.clr a.g fs).length
      · rw [List.getElem?_set_self hl] at e'; cases e'
      · rw [List.getElem?_eq_none_iff.mpr (by rw [List.length_set]; omega)] at e'; cases e'
    · rw [List.getElem?_set_ne hv] at e'
      exact ih.sl i av e'
theorem R.norm (r : R C a L Mo σ H) (n : Nat) (fs : List Nat) : R C (norm n fs a) L (Mo.take n) σ H := by
  suffices r0 : R C ⟨a.g.map (fzS n a.m), ⟨a.m.s, a.m.o.take n⟩⟩ L (Mo.take n) σ H from r0.clr fs
  refine ⟨r.b.take n, by simp [r.ln], fun i av e => ?_⟩
  have e' : (a.g.map (fzS n a.m))[i]? = some (some av) := e
  rw [List.getElem?_map] at e'
  cases q : a.g[i]? with
  | none => rw [q] at e'; cases e'
  | some o =>
    rw [q] at e'
    have e2 : fzS n a.m o = some av := Option.some.inj e'
    cases o with
    | none => cases e2
    | some x =>
      obtain ⟨v, h1, h2⟩ := r.sl i x q
      exact ⟨v, h1, h2.fz r.b e2⟩
end

/-! ### a context that starts here -/
def Ct.here (C : Ct) (L Mo : List Addr) (H : Hp) : Ct := ⟨C.K, C.Z, L, hid Mo H⟩
section
variable {C : Ct} {m m' : Mm} {a : AS} {L Mo L' Mo' : List Addr} {σ : List (Option V)} {H H' : Hp}
theorem B.here (b : B C m L Mo H) : B (C.here L Mo H) m L Mo H := by
  have nd := b.nd
  refine ⟨b.nd, b.sr, b.ob, fun x u h _ => (hid_some h).2, fun x h => .inl h, fun x hx => ⟨if_pos hx, fun z => ?_⟩, fun z hz => ⟨?_, fun q => ?_⟩, .inr rfl⟩
  · have q := (List.nodup_append.mp nd).2.1
    exact (List.nodup_append.mp q).2.2 x z x hx rfl
  · obtain ⟨u, hu⟩ := b.there (List.mem_append_left _ hz)
    refine ⟨u, ?_⟩
    show hid Mo H z = some u
    rw [hid_of (fun q => (List.nodup_append.mp nd).2.2 z hz z (List.mem_append_right _ q) rfl)]; exact hu
  · exact (List.nodup_append.mp nd).2.2 z hz z (List.mem_append_left _ q) rfl
theorem B.back (b : B C m L Mo H) (b' : B (C.here L Mo H) m' L' Mo' H') : B C m' L' Mo' H' := by
  refine ⟨b'.nd, b'.sr, b'.ob, fun x u h hl => ?_, fun x hx => ?_, fun x hx => ?_, b.zt, ?_⟩
  · have h1 := b.kp x u h hl
    refine b'.kp x u ?_ fun z => ?_
    · show hid Mo H x = some u
      rw [hid_of (fun z => by rw [(b.no x z).1] at h; cases h)]; exact h1
    · rcases b.nl x z with q | q
      · exact hl q
      · rw [q] at h; cases h
  · rcases b'.nl x hx with z | z
    · exact b.nl x z
    · have z' : hid Mo H x = none := z
      by_cases hm : x ∈ Mo
      · exact .inr (b.no x hm).1
      · rw [hid_of hm] at z'; exact .inr (b.fresh0 z')
  · obtain ⟨z1, z2⟩ := b'.no x hx
    have z' : hid Mo H x = none := z1
    by_cases hm : x ∈ Mo
    · exact b.no x hm
    · rw [hid_of hm] at z'; exact ⟨b.fresh0 z', b.freshL z'⟩
  · rcases b.l0 with q | q
    · exact .inl q
    · rcases b'.l0 with z | z
      · exact .inl (q.symm.trans z)
      · exact .inr (z.trans q)
theorem hereSame (b' : B (C.here L Mo H) m' L' Mo' H') : Same (C.hd L Mo H) ((C.here L Mo H).hd L' Mo' H') := fun x o h => by
  obtain ⟨h1, h2⟩ := hid_some h
  have hx : hid Mo H x = some o := by rw [hid_of (fun z => h1 (by simp [z]))]; exact h2
  have n1 : x ∉ L := fun z => h1 (by simp [z])
  have n2 : x ∉ L' := fun z => by
    rcases b'.nl x z with q | q
    · exact n1 q
    · rw [show (C.here L Mo H).H0 x = some o from hx] at q; cases q
  have n3 : x ∉ Mo' := fun z => by
    have q := (b'.no x z).1
    rw [show (C.here L Mo H).H0 x = some o from hx] at q; cases q
  rw [Ct.hd, hid_of (fun z => by
    simp only [List.mem_append] at z
    rcases z with z | z | z
    · exact h1 (by simp only [List.mem_append]; exact .inl z)
    · exact n2 z
    · exact n3 z)]
  exact b'.kp x o hx n1
theorem AVR.here {av : AV} {v : V} (h : AVR C L Mo H av v) : AVR (C.here L Mo H) L Mo H av v := by
  cases av with
  | d x => exact h
  | o j => exact h
  | src => exact h
  | cells => exact h
  | scr ns => exact h
  | kt ns => exact h
  | dt ns => exact h
theorem AVR.unhere {av : AV} {v : V} (h : AVR (C.here L Mo H) L' Mo' H' av v) : AVR C L' Mo' H' av v := by
  cases av with
  | d x => exact h
  | o j => exact h
  | src => exact h
  | cells => exact h
  | scr ns => exact h
  | kt ns => exact h
  | dt ns => exact h
theorem R.here (r : R C a L Mo σ H) : R (C.here L Mo H) a L Mo σ H := ⟨r.b.here, r.ln, fun i av e => let ⟨v, h1, h2⟩ := r.sl i av e; ⟨v, h1, h2.here⟩⟩
theorem R.back {a' : AS} {σ' : List (Option V)} (b : B C m L Mo H) (r : R (C.here L Mo H) a' L' Mo' σ' H') : R C a' L' Mo' σ' H' := ⟨b.back r.b, r.ln, fun i av e => let ⟨v, h1, h2⟩ := r.sl i av e; ⟨v, h1, h2.unhere⟩⟩
end
end QL

namespace QL
open PySem PySem.Spec PyProof.Rows L2

/-! ### what is walked -/
def ItemsOk (C : Ct) (J : It) (L Mo : List Addr) (H : Hp) (ds : List D) : Prop := ∀ (C2 : Ct) (L1 Mo1 : List Addr) (H1 : Hp) (m1 : Mm), C2.K = C.K → B C2 m1 L1 Mo1 H1 → Same (C.hd L Mo H) (C2.hd L1 Mo1 H1) →
  (∀ (i : Nat) (d : D), ds[i]? = some d → J.go i H1 ∧ ∀ x H2, J.yld i H1 x H2 → B C2 m1 L1 Mo1 H2 ∧ X2 C2 L1 Mo1 H1 L1 Mo1 H2 ∧ Dq C.K (C2.hd L1 Mo1 H2) x d) ∧ J.stop ds.length H1
abbrev AIt := AS → (List D → Mm → Prop) → Prop
def lftI (C : Ct) (t : AIt) : TI := fun σ H R' => ∃ a L Mo AQ, R C a L Mo σ H ∧ (∀ ds m' L' Mo' H' J, AQ ds m' → B C m' L' Mo' H' → X2 C L Mo H L' Mo' H' → ItemsOk C J L' Mo' H' ds → R' J H') ∧ t a AQ
theorem PI.imp {X : Cx} {tg e : Expr} {t t' : TI} (h : PI X tg e t) (i : ∀ σ H Q, t' σ H Q → t σ H Q) : PI X tg e t' := ⟨fun pins s σ H Q I q => h.run pins s σ H Q I (i σ H Q q)⟩
def QI (X : Cx) (tg e : Expr) (t : AIt) : Prop := ∀ C : Ct, C.K = X.K → PI X tg e (lftI C t)
def rngD (lo : Int) (n : Nat) : List D := (List.range n).map fun k => .int (lo + (k : Nat))
theorem rngD_len (lo : Int) (n : Nat) : (rngD lo n).length = n := by simp [rngD]
theorem rngD_at {lo : Int} {n i : Nat} {d : D} (h : (rngD lo n)[i]? = some d) : i < n ∧ d = .int (lo + i) := by
  unfold rngD at h
  rw [List.getElem?_map] at h
  cases e : (List.range n)[i]? with
  | none => rw [e] at h; cases h
  | some j =>
    rw [e] at h
    have h1 := List.getElem?_eq_some_iff.mp e
    obtain ⟨h2, h3⟩ := h1
    rw [List.getElem_range] at h3
    subst h3
    exact ⟨by simpa using h2, (Option.some.inj h).symm⟩
theorem items_rng {C : Ct} {L Mo : List Addr} {H : Hp} (lo : Int) (n : Nat) : ItemsOk C (Itr lo n) L Mo H (rngD lo n) := fun C2 L1 Mo1 H1 m1 hK b sm =>
  ⟨fun i d h => ⟨(rngD_at h).1, fun x H2 ⟨e1, e2⟩ => by subst e1; rw [e2, (rngD_at h).2]; exact ⟨b, X2.refl, .int _⟩⟩, by show n ≤ _; rw [rngD_len]; exact Nat.le_refl _⟩
theorem items_lst {C : Ct} {L Mo : List Addr} {H : Hp} {a : Addr} {xs : List V} {ds : List D} (h : C.hd L Mo H a = some (.lst xs)) (hx : DqAll C.K (C.hd L Mo H) xs ds) : ItemsOk C (Itl C.K a) L Mo H ds := fun C2 L1 Mo1 H1 m1 hK b sm => by
  have q : SqL C.K H1 a xs := SqL.of (hid_some (sm _ _ h)).2
  refine ⟨fun i d e => ?_, xs, q, by rw [hx.len]; exact Nat.le_refl _⟩
  obtain ⟨v, h1, h2⟩ := hx.at e
  refine ⟨⟨xs, v, q, h1⟩, fun x H2 ⟨e1, e2⟩ => ?_⟩
  subst e1
  have := e2 xs q
  rw [h1] at this; cases this
  exact ⟨b, X2.refl, Dq.mono sm _ _ h2⟩
theorem items_tup {C : Ct} {L Mo : List Addr} {H : Hp} {a : Addr} {xs : List V} {ds : List D} (h : SqT C.K (C.hd L Mo H) a xs) (hx : DqAll C.K (C.hd L Mo H) xs ds) : ItemsOk C (Itt C.K a) L Mo H ds := fun C2 L1 Mo1 H1 m1 hK b sm => by
  have q : SqT C.K H1 a xs := same_tup hid_same (same_tup sm h)
  refine ⟨fun i d e => ?_, xs, q, by rw [hx.len]; exact Nat.le_refl _⟩
  obtain ⟨v, h1, h2⟩ := hx.at e
  refine ⟨⟨xs, v, q, h1⟩, fun x H2 ⟨e1, e2⟩ => ?_⟩
  subst e1
  have := e2 xs q
  rw [h1] at this; cases this
  exact ⟨b, X2.refl, Dq.mono sm _ _ h2⟩
section
variable {X : Cx} {tg e : Expr} {te : ATE}
def Rg (j : Int) : Prop := -(2 ^ 62) ≤ j ∧ j < 2 ^ 62
def aRng1 (t : ATA) : AIt := fun a Q => t a fun avs m => match avs with
  | [.d (.int j)] => Rg j ∧ Q (rngD 0 j.toNat) m
  | _ => False
def aRng2 (t : ATA) : AIt := fun a Q => t a fun avs m => match avs with
  | [.d (.int i), .d (.int j)] => Rg i ∧ Rg j ∧ Q (rngD i (j - i).toNat) m
  | _ => False
theorem qi_range1 {a : Expr} {ta : ATA} {p pos : Pos} (hg : Gl X "range") (hm : X.mg "range" = none) (ha : QA X [a] ta) (hs : starEach [a] X.env = [(false, eval a X.env)] := by rfl) : QI X tg (.Call (.Name "range" p) [a] [] pos) (aRng1 ta) := fun C hK =>
  PI.imp (pi_range1 hg hm (ha C hK) hs) fun σ H R' ⟨a, L, Mo, AQ, r, k, h⟩ => by
    refine ⟨a, L, Mo, _, r, fun xs m1 vs L1 Mo1 H1 h1 b1 v1 e1 => ?_, h⟩
    split at h1
    · obtain ⟨v, rfl, q⟩ := av1 v1
      exact ⟨_, by rw [dq_int q], h1.1.1, h1.1.2, k _ _ _ _ _ _ h1.2 b1 e1 (items_rng _ _)⟩
    · exact h1.elim
theorem qi_range2 {a b : Expr} {ta : ATA} {p pos : Pos} (hg : Gl X "range") (hm : X.mg "range" = none) (ha : QA X [a, b] ta) (hs : starEach [a, b] X.env = [(false, eval a X.env), (false, eval b X.env)] := by rfl) (hs2 : starEach [b] X.env = [(false, eval b X.env)] := by rfl) :
    QI X tg (.Call (.Name "range" p) [a, b] [] pos) (aRng2 ta) := fun C hK =>
  PI.imp (pi_range2 hg hm (ha C hK) hs hs2) fun σ H R' ⟨a, L, Mo, AQ, r, k, h⟩ => by
    refine ⟨a, L, Mo, _, r, fun xs m1 vs L1 Mo1 H1 h1 b1 v1 e1 => ?_, h⟩
    split at h1
    · obtain ⟨v, w, rfl, q, q'⟩ := av2 v1
      exact ⟨_, _, by rw [dq_int q, dq_int q'], ⟨h1.1.1, h1.1.2, h1.2.1.1, h1.2.1.2⟩, k _ _ _ _ _ _ h1.2.2 b1 e1 (items_rng _ _)⟩
    · exact h1.elim
def aItT (te : ATE) : AIt := fun a Q => te a fun x m => match x with
  | .d (.tuple ds) => Q ds m
  | _ => False
def aItL (te : ATE) : AIt := fun a Q => te a fun x m => match x with
  | .d (.list ds) => Q ds m
  | _ => False
theorem qi_tup (h : QE X e te) : QI X tg e (aItT te) := fun C hK => PI.imp (pi_tup (h C hK)) fun σ H R' ⟨a, L, Mo, AQ, r, k, h⟩ => by
  refine ⟨a, L, Mo, _, r, fun x m1 v L1 Mo1 H1 h1 b1 v1 e1 => ?_, h⟩
  split at h1
  · cases v1 with
    | tup q1 q2 => exact ⟨_, rfl, ⟨_, hK ▸ same_tup hid_same q1⟩, k _ _ _ _ _ _ h1 b1 e1 (hK ▸ items_tup q1 q2)⟩
  · exact h1.elim
theorem qi_lst (h : QE X e te) : QI X tg e (aItL te) := fun C hK => PI.imp (pi_list (h C hK)) fun σ H R' ⟨a, L, Mo, AQ, r, k, h⟩ => by
  refine ⟨a, L, Mo, _, r, fun x m1 v L1 Mo1 H1 h1 b1 v1 e1 => ?_, h⟩
  split at h1
  · cases v1 with
    | lst q1 q2 => exact ⟨_, rfl, ⟨_, SqL.of (hid_some q1).2⟩, k _ _ _ _ _ _ h1 b1 e1 (hK ▸ items_lst q1 q2)⟩
  · exact h1.elim
end

/-! ### for -/
def aForL (n : Nat) (fs : List Nat) (g : ATG) (tb : ATS) (E : AEnds) : List D → AS → Prop
  | [], a => E.nx a
  | d :: r, a => g (.d d) a.m a.g fun g' => tb { E with nx := fun a2 => aForL n fs g tb E r (norm n fs a2), ct := fun a2 => aForL n fs g tb E r (norm n fs a2), bk := fun a2 => E.nx (norm n fs a2) } ⟨g', a.m⟩
def aFor (fs : List Nat) (ti : AIt) (g : ATG) (tb : ATS) : ATS := fun E a => ti a fun ds m => aForL m.o.length fs g tb E ds ⟨clr a.g fs, m⟩
section
variable {X : Cx} {pos : Pos} {vs : List Nat}
theorem Bel.here {C : Ct} {AD : AEnds} {E : Ends} {m : Mm} {L Mo : List Addr} {H : Hp} (b : Bel C AD E) (bb : B C m L Mo H) : Bel (C.here L Mo H) AD E :=
  ⟨fun a L' Mo' σ' H' q r => b.nx _ _ _ _ _ q (R.back bb r), fun av m' L' Mo' H' v q b' rv => b.rt _ _ _ _ _ _ q (bb.back b') rv.unhere, fun a L' Mo' σ' H' q r => b.bk _ _ _ _ _ q (R.back bb r), fun a L' Mo' σ' H' q r => b.ct _ _ _ _ _ q (R.back bb r)⟩
theorem drop_at {ds : List D} {i : Nat} {d : D} {r : List D} (h : ds.drop i = d :: r) : ds[i]? = some d ∧ ds.drop (i + 1) = r := by
  have h1 : (ds.drop i)[0]? = some d := by rw [h]; rfl
  rw [List.getElem?_drop] at h1
  refine ⟨by simpa using h1, ?_⟩
  have : (ds.drop i).drop 1 = r := by rw [h]; rfl
  rw [List.drop_drop] at this
  exact this
theorem qs_for (fs : List Nat) {tg iter : Expr} {body : List Stmt} {ti : AIt} {g : ATG} {tb : ATS} (hp : PassesOwn (model X.prog X.w) X.A X.env X.xe) (hc : X.calm = true) (hi : QI X tg iter ti) (hg : QG X vs tg g) (hb : QSs X body tb)
    (hs : ∀ x, foldedSetIterable iter X.env x = pure x := by intro _; rfl) : QS X (.For tg iter body [] pos) (aFor fs ti g tb) := fun C hK => by
  -- the body's reading is taken in a context that starts at the loop: one for each start
  refine ⟨fun pins s σ H E I h => ?_⟩
  obtain ⟨a, L, Mo, AD, r, bel, h⟩ := h
  -- the iterable first
  have key : ∀ (L' Mo' : List Addr) (H' : Hp) (m' : Mm), B C m' L' Mo' H' → PSs X body (lftS (C.here L' Mo' H') tb) ∧ PG X tg (lftG (C.here L' Mo' H') vs g) := fun L' Mo' H' m' _ => ⟨hb (C.here L' Mo' H') hK, hg (C.here L' Mo' H') hK⟩
  -- one reading for all: the context is chosen within
  have hb' : PSs X body (fun D σ H => ∃ L' Mo' H', lftS (C.here L' Mo' H') tb D σ H) := ⟨fun pins s σ H Q I ⟨L', Mo', H', q⟩ => (hb (C.here L' Mo' H') hK).run pins s σ H Q I q⟩
  have hg' : PG X tg (fun v σ H Q => ∃ L' Mo' H', lftG (C.here L' Mo' H') vs g v σ H Q) := ⟨fun pins s σ H v u Q I rv ⟨L', Mo', H', q⟩ => (hg (C.here L' Mo' H') hK).run pins s σ H v u Q I rv q⟩
  refine (ps_for hp hc (hi C hK) hg' hb' hs).run pins s σ H E I ?_
  refine ⟨a, L, Mo, _, r, fun ds m' L' Mo' H' J q b' x ok => ?_, h⟩
  have q' : aForL m'.o.length fs g tb AD ds ⟨clr a.g fs, m'⟩ := q
  have bel' := bel.here b'
  refine ⟨fun i k σ1 H1 => ∃ a1 L1 Mo1, R (C.here L' Mo' H') a1 L1 Mo1 σ1 H1 ∧ aForL m'.o.length fs g tb AD (ds.drop i) a1 ∧ i + k = ds.length, ⟨ds.length, ⟨clr a.g fs, m'⟩, L', Mo', (r.next b' x).here.clr fs, by simpa using q', by omega⟩, ?_⟩
  rintro i k σ1 H1 ⟨a1, L1, Mo1, r1, h1, e1⟩
  have okk := ok (C.here L' Mo' H') L1 Mo1 H1 a1.m rfl r1.b (hereSame r1.b)
  cases hd : ds.drop i with
  | nil =>
    have hl : ds.length ≤ i := List.drop_eq_nil_iff.mp hd
    have : i = ds.length := by omega
    rw [hd] at h1
    subst this
    exact .inl ⟨okk.2, bel'.nx _ _ _ _ _ h1 r1⟩
  | cons d rr =>
    rw [hd] at h1
    obtain ⟨hat, hdr⟩ := drop_at hd
    obtain ⟨hgo, hyl⟩ := okk.1 i d hat
    refine .inr ⟨hgo, fun σ2 H2 => ∃ a2 L2 Mo2, R (C.here L' Mo' H') a2 L2 Mo2 σ2 H2 ∧ aForL m'.o.length fs g tb AD rr (norm m'.o.length fs a2), ?_, ?_⟩
    · rintro σ2 H2 ⟨a2, L2, Mo2, r2, h2⟩
      have hlt : i < ds.length := (List.getElem?_eq_some_iff.mp hat).1
      exact ⟨k - 1, by omega, norm m'.o.length fs a2, L2, _, r2.norm _ _, by rw [hdr]; exact h2, by omega⟩
    · intro y H2 hy
      obtain ⟨b2, x2, dq⟩ := hyl y H2 hy
      refine ⟨L', Mo', H', a1, L1, Mo1, .d d, _, r1.next b2 x2, dq, fun g' σ' hg2 r' _ => ⟨L', Mo', H', ⟨g', a1.m⟩, L1, Mo1, _, r', ?_, hg2⟩, h1⟩
      exact ⟨fun a2 L2 Mo2 σ2 H2 q r => ⟨a2, L2, Mo2, r, q⟩, bel'.rt, fun a2 L2 Mo2 σ2 H2 q r => bel'.nx _ _ _ _ _ q (r.norm _ _), fun a2 L2 Mo2 σ2 H2 q r => ⟨a2, L2, Mo2, r, q⟩⟩
/-! ### while -/
def aWhile (fs : List Nat) (c : ATT) (tb : ATS) : ATS := fun E a0 => ∃ (I : AS → Prop) (μ : AS → Nat), I ⟨clr a0.g fs, a0.m⟩ ∧ ∀ a, I a → c a fun b m => if b = true then
  tb { E with nx := fun a2 => I (norm a0.m.o.length fs a2) ∧ μ (norm a0.m.o.length fs a2) < μ a, ct := fun a2 => I (norm a0.m.o.length fs a2) ∧ μ (norm a0.m.o.length fs a2) < μ a, bk := fun a2 => E.nx (norm a0.m.o.length fs a2) } ⟨a.g, m⟩ else E.nx ⟨a.g, m⟩
theorem qs_while (fs : List Nat) {c : Expr} {body : List Stmt} {tc : ATT} {tb : ATS} (hp : PassesOwn (model X.prog X.w) X.A X.env X.xe) (hc : QT X c tc) (hb : QSs X body tb) : QS X (.While c body [] pos) (aWhile fs tc tb) := fun C hK =>
  PS.imp (ps_while hp (hc C hK) (hb C hK)) fun E σ H ⟨a0, L, Mo, AD, r, bel, I, μ, h0, hs⟩ => by
    refine ⟨fun k σ1 H1 => ∃ a L1 Mo1, R C a L1 Mo1 σ1 H1 ∧ I a ∧ μ a = k, ⟨_, ⟨clr a0.g fs, a0.m⟩, L, Mo, r.clr fs, h0, rfl⟩, ?_⟩
    rintro k σ1 H1 ⟨a, L1, Mo1, r1, h1, rfl⟩
    refine ⟨a, L1, Mo1, _, r1, fun b m2 L2 Mo2 H2 h2 b2 x2 => ?_, hs a h1⟩
    cases b with
    | true =>
      rw [if_pos rfl] at h2 ⊢
      refine ⟨fun σ' H' => ∃ a2 L' Mo', R C a2 L' Mo' σ' H' ∧ I (norm a0.m.o.length fs a2) ∧ μ (norm a0.m.o.length fs a2) < μ a, ?_, ?_⟩
      · rintro σ' H' ⟨a2, L', Mo', r', q1, q2⟩
        exact ⟨_, q2, norm a0.m.o.length fs a2, L', _, r'.norm _ _, q1, rfl⟩
      · exact ⟨⟨a.g, m2⟩, L2, Mo2, { AD with nx := fun a2 => I (norm a0.m.o.length fs a2) ∧ μ (norm a0.m.o.length fs a2) < μ a, ct := fun a2 => I (norm a0.m.o.length fs a2) ∧ μ (norm a0.m.o.length fs a2) < μ a, bk := fun a2 => AD.nx (norm a0.m.o.length fs a2) }, r1.next b2 x2, ⟨fun a2 L' Mo' σ' H' q r => ⟨a2, L', Mo', r, q⟩, bel.rt, fun a2 L' Mo' σ' H' q r => bel.nx _ _ _ _ _ q (r.norm _ _), fun a2 L' Mo' σ' H' q r => ⟨a2, L', Mo', r, q⟩⟩, h2⟩
    | false =>
      rw [if_neg Bool.false_ne_true] at h2 ⊢
      exact bel.nx _ _ _ _ _ h2 (r1.next b2 x2)
end
end QL

namespace QL
open PySem PySem.Spec PyProof.Rows L2

/-! ### comprehensions: the new list stands at p, hidden, while it is made -/
def Ct.mk' (C : Ct) (L Mo : List Addr) (H : Hp) (p : Addr) (acc : List V) : Ct := ⟨C.K, C.Z ++ [p], L, upd (hid Mo H) p (.lst acc)⟩
section
variable {C : Ct} {m m' : Mm} {a : AS} {L Mo L' Mo' : List Addr} {σ : List (Option V)} {H H' : Hp} {p : Addr} {acc acc' : List V}
theorem mk_hd0 (hp : H p = none) : (C.mk' L Mo H p acc).hd L Mo (upd H p (.lst acc)) = C.hd L Mo H := by
  funext x
  show hid ((C.Z ++ [p]) ++ (L ++ Mo)) (upd H p (.lst acc)) x = hid (C.Z ++ (L ++ Mo)) H x
  unfold hid
  by_cases h : x = p
  · subst h
    rw [if_pos (by grind)]
    by_cases h2 : x ∈ C.Z ++ (L ++ Mo)
    · rw [if_pos h2]
    · rw [if_neg h2, hp]
  · by_cases h2 : x ∈ C.Z ++ (L ++ Mo)
    · rw [if_pos h2, if_pos (by grind)]
    · rw [if_neg h2, if_neg (by grind), upd_ne h]
theorem AVR.same {C2 : Ct} {av : AV} {v : V} (h : AVR C L Mo H av v) (hK : C2.K = C.K) (e : Same (C.hd L Mo H) (C2.hd L Mo H')) : AVR C2 L Mo H' av v := by
  cases av with
  | d x => rw [AVR, hK]; exact Dq.mono e _ _ h
  | o j => exact h
  | src => exact h
  | cells => exact h
  | scr ns =>
    obtain ⟨a, rfl, q⟩ := h
    exact ⟨a, rfl, by rw [hK]; exact e.seq q⟩
  | kt ns =>
    obtain ⟨a, rfl, q⟩ := h
    exact ⟨a, rfl, e _ _ q⟩
  | dt ns =>
    obtain ⟨a, ys, rfl, q, q2⟩ := h
    exact ⟨a, ys, rfl, e _ _ q, by rw [hK]; exact q2.mono e⟩
theorem B.mk0 (b : B C m L Mo H) (hp : H p = none) : B (C.mk' L Mo H p []) m L Mo (upd H p (.lst [])) := by
  have hf := b.fresh hp
  have nd := b.nd
  have b' := b.alloc (ho := .lst []) hp
  refine ⟨?_, b'.sr, paired_impM b.ob fun o l hl q => q.mono (by show Same _ ((C.mk' L Mo H p []).hd L Mo _); rw [mk_hd0 hp]; exact Same.refl _) (upd_ne fun e => hf (by grind)), fun x u h _ => ?_, fun x h => .inl h, fun x hx => ⟨?_, ?_⟩, fun z hz => ?_, .inr rfl⟩
  · show ((C.Z ++ [p]) ++ (L ++ Mo)).Nodup
    grind
  · have h' : upd (hid Mo H) p (.lst []) x = some u := h
    by_cases e : x = p
    · subst e; rw [upd_same] at h' ⊢; exact h'
    · rw [upd_ne e] at h' ⊢; exact (hid_some h').2
  · show upd (hid Mo H) p (.lst []) x = none
    rw [upd_ne (fun e => hf (by grind))]; exact if_pos hx
  · show x ∉ L
    intro z
    have q := (List.nodup_append.mp nd).2.1
    exact (List.nodup_append.mp q).2.2 x z x hx rfl
  · have hz' : z ∈ C.Z ++ [p] := hz
    show (∃ u, upd (hid Mo H) p (.lst []) z = some u) ∧ z ∉ L
    by_cases e : z = p
    · subst e; exact ⟨⟨_, upd_same⟩, fun q => hf (by grind)⟩
    · have hz2 : z ∈ C.Z := by grind
      obtain ⟨u, hu⟩ := b.there (List.mem_append_left _ hz2)
      refine ⟨⟨u, ?_⟩, fun q => (List.nodup_append.mp nd).2.2 z hz2 z (List.mem_append_left _ q) rfl⟩
      rw [upd_ne e, hid_of (fun q => (List.nodup_append.mp nd).2.2 z hz2 z (List.mem_append_right _ q) rfl)]; exact hu
theorem mk_at (b' : B (C.mk' L Mo H p acc) m' L' Mo' H') (hL : p ∉ L) : H' p = some (.lst acc) := b'.kp p _ (show upd (hid Mo H) p (.lst acc) p = some (.lst acc) from upd_same) hL
theorem mk_sameS (hp : H p = none) (b' : B (C.mk' L Mo H p acc) m' L' Mo' H') : Same (C.hd L Mo H) ((C.mk' L Mo H p acc).hd L' Mo' H') := fun x o h => by
  obtain ⟨h1, h2⟩ := hid_some h
  have ne : x ≠ p := ne_of_none h2 hp
  have hx : (C.mk' L Mo H p acc).H0 x = some o := by
    show upd (hid Mo H) p (.lst acc) x = some o
    rw [upd_ne ne, hid_of (fun z => h1 (by grind))]; exact h2
  have n1 : x ∉ L := fun z => h1 (by grind)
  have n2 : x ∉ L' := fun z => by
    rcases b'.nl x z with q | q
    · exact n1 q
    · rw [hx] at q; cases q
  have n3 : x ∉ Mo' := fun z => by
    have q := (b'.no x z).1
    rw [hx] at q; cases q
  have n4 : x ∉ (C.mk' L Mo H p acc).Z := by
    show x ∉ C.Z ++ [p]
    grind
  rw [Ct.hd, hid_of (by grind)]
  exact b'.kp x o hx n1
theorem B.mkStep (b : B C m L Mo H) (hp : H p = none) (b' : B (C.mk' L Mo H p acc) m' L' Mo' H') : B (C.mk' L Mo H p acc') m' L' Mo' (upd H' p (.lst acc')) := by
  have hf := b.fresh hp
  have hpZ : p ∈ (C.mk' L Mo H p acc).Z := by show p ∈ C.Z ++ [p]; simp
  have nd := b'.nd
  have np : p ∉ L' ++ Mo' := fun z => (List.nodup_append.mp nd).2.2 p hpZ p z rfl
  have e : (C.mk' L Mo H p acc').hd L' Mo' (upd H' p (.lst acc')) = (C.mk' L Mo H p acc).hd L' Mo' H' := by
    have := hd_updIn (C := C.mk' L Mo H p acc) (L := L') (Mo := Mo') (H := H') (ho := .lst acc') (x := p) (List.mem_append_left _ hpZ)
    exact this
  refine ⟨nd, srcAt_upd b'.sr fun z => np (by grind), paired_impM b'.ob fun o l hl q => q.mono (by rw [e]; exact Same.refl _) (upd_ne fun z => np (by grind)), fun x u h hl => ?_, fun x hx => ?_, fun x hx => ?_, fun z hz => ?_, b'.l0⟩
  · have h' : upd (hid Mo H) p (.lst acc') x = some u := h
    by_cases ex : x = p
    · subst ex; rw [upd_same] at h' ⊢; exact h'
    · rw [upd_ne ex] at h' ⊢
      exact b'.kp x u (show upd (hid Mo H) p (.lst acc) x = some u by rw [upd_ne ex]; exact h') hl
  · rcases b'.nl x hx with z | z
    · exact .inl z
    · have z' : upd (hid Mo H) p (.lst acc) x = none := z
      refine .inr (show upd (hid Mo H) p (.lst acc') x = none from ?_)
      have ex : x ≠ p := fun q => by subst q; rw [upd_same] at z'; cases z'
      rw [upd_ne ex] at z' ⊢; exact z'
  · obtain ⟨z, w⟩ := b'.no x hx
    have z' : upd (hid Mo H) p (.lst acc) x = none := z
    refine ⟨show upd (hid Mo H) p (.lst acc') x = none from ?_, w⟩
    have ex : x ≠ p := fun q => by subst q; rw [upd_same] at z'; cases z'
    rw [upd_ne ex] at z' ⊢; exact z'
  · obtain ⟨⟨u, z1⟩, w⟩ := b'.zt z hz
    refine ⟨?_, w⟩
    by_cases ex : z = p
    · subst ex; exact ⟨_, upd_same⟩
    · have z' : upd (hid Mo H) p (.lst acc) z = some u := z1
      rw [upd_ne ex] at z'
      exact ⟨u, show upd (hid Mo H) p (.lst acc') z = some u by rw [upd_ne ex]; exact z'⟩
theorem B.mkEnd (b : B C m L Mo H) (hp : H p = none) (b' : B (C.mk' L Mo H p acc) m' L' Mo' H') : B C m' L' Mo' H' := by
  have hf := b.fresh hp
  have hm : ∀ x, (C.mk' L Mo H p acc).H0 x = none → x ≠ p ∧ hid Mo H x = none := fun x z => by
    have z' : upd (hid Mo H) p (.lst acc) x = none := z
    have ex : x ≠ p := fun q => by subst q; rw [upd_same] at z'; cases z'
    rw [upd_ne ex] at z'; exact ⟨ex, z'⟩
  have fre : ∀ x, (C.mk' L Mo H p acc).H0 x = none → C.H0 x = none ∧ x ∉ C.L0 := fun x z => by
    obtain ⟨_, z'⟩ := hm x z
    by_cases q : x ∈ Mo
    · exact b.no x q
    · rw [hid_of q] at z'; exact ⟨b.fresh0 z', b.freshL z'⟩
  have hs : Same ((C.mk' L Mo H p acc).hd L' Mo' H') (C.hd L' Mo' H') := fun x o h => by
    obtain ⟨h1, h2⟩ := hid_some h
    have : x ∉ (C.Z ++ [p]) ++ (L' ++ Mo') := h1
    rw [Ct.hd, hid_of (by grind)]; exact h2
  refine ⟨?_, b'.sr, paired_impM b'.ob fun o l hl q => q.mono hs rfl, fun x u h hl => ?_, fun x hx => ?_, fun x hx => fre x (b'.no x hx).1, b.zt, ?_⟩
  · have nd : ((C.Z ++ [p]) ++ (L' ++ Mo')).Nodup := b'.nd
    grind
  · have h1 := b.kp x u h hl
    refine b'.kp x u ?_ fun z => ?_
    · show upd (hid Mo H) p (.lst acc) x = some u
      rw [upd_ne (ne_of_none h1 hp), hid_of (fun z => by rw [(b.no x z).1] at h; cases h)]; exact h1
    · rcases b.nl x z with q | q
      · exact hl q
      · rw [q] at h; cases h
  · rcases b'.nl x hx with z | z
    · exact b.nl x z
    · exact .inr (fre x z).1
  · rcases b.l0 with q | q
    · exact .inl q
    · rcases b'.l0 with z | z
      · exact .inl (q.symm.trans z)
      · exact .inr (z.trans q)
theorem mk_out (b' : B (C.mk' L Mo H p acc) m' L' Mo' H') : Same ((C.mk' L Mo H p acc).hd L' Mo' H') (C.hd L' Mo' H') := fun x o h => by
  obtain ⟨h1, h2⟩ := hid_some h
  have : x ∉ (C.Z ++ [p]) ++ (L' ++ Mo') := h1
  rw [Ct.hd, hid_of (by grind)]; exact h2
theorem R.wiped (r : R C a L Mo σ H) (vs : List Nat) : R C ⟨vs.foldr (fun v g => g.set v none) a.g, a.m⟩ L Mo (wipe σ vs) H := by
  induction vs with
  | nil => exact r
  | cons v vs ih =>
    refine ⟨r.b, by rw [wipe_length]; have := ih.ln; rw [wipe_length] at this; simpa using this, fun i av e => ?_⟩
    have e' : ((vs.foldr (fun v g => g.set v none) a.g).set v none)[i]? = some (some av) := e
    by_cases hv : v = i
    · subst hv
      by_cases hl : v < (vs.foldr (fun v g => g.set v none) a.g).length
      · rw [List.getElem?_set_self hl] at e'; cases e'
      · rw [List.getElem?_eq_none_iff.mpr (by rw [List.length_set]; omega)] at e'; cases e'
    · rw [List.getElem?_set_ne hv] at e'
      obtain ⟨w, h1, h2⟩ := ih.sl i av e'
      exact ⟨w, by show ((wipe σ vs).set v none)[i]? = _; rw [List.getElem?_set_ne hv]; exact h1, h2⟩
end
theorem wipe_wipe {σ : List (Option V)} {vs : List Nat} : wipe (wipe σ vs) vs = wipe σ vs := by
  apply List.ext_getElem?
  intro j
  rw [wipe_get, wipe_length, wipe_get]
  by_cases hj : j ∈ vs
  · rw [if_pos hj, if_pos hj]
  · rw [if_neg hj, if_neg hj]
def awipe (g : List (Option AV)) (vs : List Nat) : List (Option AV) := vs.foldr (fun v g => g.set v none) g
def aYes : ATT := fun a Q => Q true a.m
def QTs (X : Cx) (e : List Expr) (t : ATT) : Prop := ∀ C : Ct, C.K = X.K → PTs X e (lftT C t)
theorem PTs.imp {X : Cx} {e : List Expr} {t t' : TT} (h : PTs X e t) (i : ∀ σ H Q, t' σ H Q → t σ H Q) : PTs X e t' := ⟨fun pins s σ H Q I q => h.run pins s σ H Q I (i σ H Q q)⟩
theorem qts_nil {X : Cx} : QTs X [] aYes := fun C hK => PTs.imp pts_nil fun σ H Q ⟨a, L, Mo, AQ, r, k, h⟩ => k _ _ _ _ _ h r.b X2.refl
theorem qts_one {X : Cx} {c : Expr} {t : ATT} (h : QT X c t) : QTs X [c] t := fun C hK => pts_one (h C hK)
def aLcL (g : ATG) (tt : ATT) (te : ATE) (g0 : List (Option AV)) : List D → List D → Mm → (List D → Mm → Prop) → Prop
  | [], acc, m, Q => Q acc m
  | d :: r, acc, m, Q => g (.d d) m g0 fun g' => tt ⟨g', m⟩ fun b m1 => if b = true then te ⟨g', m1⟩ fun y m2 => (match y with
    | .d e => aLcL g tt te g0 r (acc ++ [e]) m2 Q
    | _ => False) else aLcL g tt te g0 r acc m1 Q
def aLc (ti : AIt) (g : ATG) (tt : ATT) (te : ATE) (vs : List Nat) : ATE := fun a Q => ti a fun ds m => ds.length ≤ 1000000 ∧ aLcL g tt te (awipe a.g vs) ds [] m fun acc m' => Q (.d (.list acc)) m'
section
variable {X : Cx} {elt tg iter : Expr} {ifs : List Expr} {scope : Scope} {own : List (Str × Nat)} {pos : Pos} {ti : AIt} {g : ATG} {tt : ATT} {te : ATE}
/-- the block's readings for any context -/
def exG (K : PySem.W.Frag) (vs : List Nat) (g : ATG) : TG := fun v σ H Q => ∃ C : Ct, C.K = K ∧ lftG C vs g v σ H Q
def exT (K : PySem.W.Frag) (t : ATT) : TT := fun σ H Q => ∃ C : Ct, C.K = K ∧ lftT C t σ H Q
def exE (K : PySem.W.Frag) (t : ATE) : TE := fun σ H Q => ∃ C : Ct, C.K = K ∧ lft C t σ H Q
theorem QG.ex {Y : Cx} {vs : List Nat} {e : Expr} {K : PySem.W.Frag} (h : QG Y vs e g) (hK : Y.K = K) : PG Y e (exG K vs g) := ⟨fun pins s σ H v u Q I rv ⟨C, e1, q⟩ => (h C (e1.trans hK.symm)).run pins s σ H v u Q I rv q⟩
theorem QTs.ex {Y : Cx} {e : List Expr} {K : PySem.W.Frag} (h : QTs Y e tt) (hK : Y.K = K) : PTs Y e (exT K tt) := ⟨fun pins s σ H Q I ⟨C, e1, q⟩ => (h C (e1.trans hK.symm)).run pins s σ H Q I q⟩
theorem QE.ex {Y : Cx} {e : Expr} {K : PySem.W.Frag} (h : QE Y e te) (hK : Y.K = K) : PE Y e (exE K te) := ⟨fun pins s σ H Q I ⟨C, e1, q⟩ => (h C (e1.trans hK.symm)).run pins s σ H Q I q⟩
theorem lc_imp {C : Ct} (hK : C.K = X.K) (σ : List (Option V)) (H : Hp) (Q : VK) (h : lft C (aLc ti g tt te (own.map (·.2))) σ H Q) : tLc (lftI C ti) (exG X.K (own.map (·.2)) g) (exT X.K tt) (exE X.K te) (own.map (·.2)) σ H Q := by
  obtain ⟨a, L, Mo, AQ, r, k, h⟩ := h
  refine ⟨a, L, Mo, _, r, fun ds m1 L1 Mo1 H1 J q b1 x1 ok => ?_, h⟩
  obtain ⟨hsz, q⟩ := q
  intro p hp
  have hL : p ∉ L1 := fun z => b1.fresh hp (by simp [z])
  refine ⟨fun i n H2 => ∃ (acc : List V) (da : List D) (m2 : Mm) (L2 Mo2 : List Addr), R (C.mk' L1 Mo1 H1 p acc) ⟨awipe a.g (own.map (·.2)), m2⟩ L2 Mo2 (wipe σ (own.map (·.2))) H2 ∧ DqAll C.K ((C.mk' L1 Mo1 H1 p acc).hd L2 Mo2 H2) acc da ∧
    (L1 = [] ∨ L2 = L1) ∧ Mo1 <+: Mo2 ∧ aLcL g tt te (awipe a.g (own.map (·.2))) (ds.drop i) da m2 (fun acc m' => AQ (.d (.list acc)) m') ∧ i + n = ds.length ∧ acc.length ≤ i, ⟨ds.length, ?_⟩, ?_⟩
  · have r1 : R C ⟨a.g, m1⟩ L1 Mo1 σ H1 := r.next b1 x1
    have r2 : R (C.mk' L1 Mo1 H1 p []) ⟨a.g, m1⟩ L1 Mo1 σ (upd H1 p (.lst [])) := ⟨b1.mk0 hp, r1.ln, fun i av e => let ⟨v, h1, h2⟩ := r1.sl i av e; ⟨v, h1, h2.same rfl (by rw [mk_hd0 hp]; exact Same.refl _)⟩⟩
    exact ⟨[], [], m1, L1, Mo1, r2.wiped _, .nil, .inr rfl, List.prefix_rfl, by simpa using q, by omega, Nat.le_refl _⟩
  · rintro i n H2 ⟨acc, da, m2, L2, Mo2, r2, dq2, pl, po, q2, e2, hla⟩
    have okk := ok (C.mk' L1 Mo1 H1 p acc) L2 Mo2 H2 m2 rfl r2.b (mk_sameS hp r2.b)
    cases hd : ds.drop i with
    | nil =>
      have hl : ds.length ≤ i := List.drop_eq_nil_iff.mp hd
      have : i = ds.length := by omega
      rw [hd] at q2
      subst this
      refine .inl ⟨okk.2, ?_⟩
      have hat := mk_at r2.b hL
      have bb := b1.mkEnd hp r2.b
      have hnp : p ∉ C.Z ++ (L2 ++ Mo2) := by
        have nd : ((C.Z ++ [p]) ++ (L2 ++ Mo2)).Nodup := r2.b.nd
        grind
      exact k _ _ _ _ _ _ q2 bb (Dq.lst (by rw [Ct.hd, hid_of hnp]; exact hat) (DqAll.mono (mk_out r2.b) _ _ dq2)) (x1.trans ⟨pl, po, (mk_sameS hp r2.b).trans (mk_out r2.b)⟩)
    | cons d rr =>
      rw [hd] at q2
      obtain ⟨hat, hdr⟩ := drop_at hd
      obtain ⟨hgo, hyl⟩ := okk.1 i d hat
      have hlt : i < ds.length := (List.getElem?_eq_some_iff.mp hat).1
      refine .inr ⟨hgo, fun H3 => ∃ (acc : List V) (da : List D) (m3 : Mm) (L3 Mo3 : List Addr), R (C.mk' L1 Mo1 H1 p acc) ⟨awipe a.g (own.map (·.2)), m3⟩ L3 Mo3 (wipe σ (own.map (·.2))) H3 ∧ DqAll C.K ((C.mk' L1 Mo1 H1 p acc).hd L3 Mo3 H3) acc da ∧
        (L1 = [] ∨ L3 = L1) ∧ Mo1 <+: Mo3 ∧ aLcL g tt te (awipe a.g (own.map (·.2))) rr da m3 (fun acc m' => AQ (.d (.list acc)) m') ∧ acc.length ≤ i + 1, ?_, ?_⟩
      · rintro H3 ⟨acc3, da3, m3, L3, Mo3, r3, dq3, pl3, po3, q3, hl3⟩
        exact ⟨n - 1, by omega, acc3, da3, m3, L3, Mo3, r3, dq3, pl3, po3, by rw [hdr]; exact q3, by omega, hl3⟩
      · intro y H3 hy
        obtain ⟨b3, x3, dq3⟩ := hyl y H3 hy
        have r3 := r2.next b3 x3
        have q3 : g (.d d) m2 (awipe a.g (own.map (·.2))) (fun g' => tt ⟨g', m2⟩ fun b m1 => if b = true then te ⟨g', m1⟩ fun y m2 => (match y with
          | .d e => aLcL g tt te (awipe a.g (own.map (·.2))) rr (da ++ [e]) m2 (fun acc m' => AQ (.d (.list acc)) m')
          | _ => False) else aLcL g tt te (awipe a.g (own.map (·.2))) rr da m1 (fun acc m' => AQ (.d (.list acc)) m')) := q2
        refine ⟨C.mk' L1 Mo1 H1 p acc, hK, ⟨awipe a.g (own.map (·.2)), m2⟩, L2, Mo2, .d d, _, r3, dq3, fun g' σ' hg2 r' hw => ⟨by rw [hw]; exact wipe_wipe, ?_⟩, q3⟩
        refine ⟨C.mk' L1 Mo1 H1 p acc, hK, ⟨g', m2⟩, L2, Mo2, _, r', fun b m4 L4 Mo4 H4 h4 b4 x4 => ?_, hg2⟩
        have pl4 : L1 = [] ∨ L4 = L1 := by
          rcases pl with z | z
          · exact .inl z
          · rcases x4.pl with w | w
            · exact .inl (z ▸ w)
            · exact .inr (w.trans z)
        have po4 : Mo1 <+: Mo4 := po.trans x4.po
        have dq4 : DqAll C.K ((C.mk' L1 Mo1 H1 p acc).hd L4 Mo4 H4) acc da := DqAll.mono (x3.sm.trans x4.sm) _ _ dq2
        have r4 := r3.next b4 x4
        show if b = true then _ else _
        cases b with
        | false =>
          rw [if_neg Bool.false_ne_true] at h4 ⊢
          exact ⟨acc, da, m4, L4, Mo4, r4, dq4, pl4, po4, h4, by omega⟩
        | true =>
          rw [if_pos rfl] at h4 ⊢
          refine ⟨C.mk' L1 Mo1 H1 p acc, hK, ⟨g', m4⟩, L4, Mo4, _, r'.next b4 x4, fun y5 m5 v5 L5 Mo5 H5 h5 b5 v5r x5 => ?_, h4⟩
          split at h5
          · rename_i e
            have hL5 := mk_at b5 hL
            have dq5 : DqAll C.K ((C.mk' L1 Mo1 H1 p acc).hd L5 Mo5 H5) acc da := DqAll.mono x5.sm _ _ dq4
            have pz : p ∈ (C.mk' L1 Mo1 H1 p acc).Z := by show p ∈ C.Z ++ [p]; simp
            have ehd : (C.mk' L1 Mo1 H1 p (acc ++ [v5])).hd L5 Mo5 (upd H5 p (.lst (acc ++ [v5]))) = (C.mk' L1 Mo1 H1 p acc).hd L5 Mo5 H5 :=
              hd_updIn (C := C.mk' L1 Mo1 H1 p acc) (L := L5) (Mo := Mo5) (H := H5) (ho := .lst (acc ++ [v5])) (x := p) (List.mem_append_left _ pz)
            have r5 := r4.next b5 x5
            refine ⟨acc, hL5, Nat.lt_of_le_of_lt hla (Nat.lt_of_lt_of_le hlt (Nat.le_trans hsz (by decide))), acc ++ [v5], da ++ [e], m5, L5, Mo5, ?_, ?_, ?_, po4.trans x5.po, h5, by simp; omega⟩
            · exact ⟨B.mkStep b1 hp b5, r5.ln, fun i av e => let ⟨v, h1, h2⟩ := r5.sl i av e; ⟨v, h1, h2.same rfl (by rw [ehd]; exact Same.refl _)⟩⟩
            · rw [ehd]; exact dq5.app (.cons v5r .nil)
            · rcases pl4 with z | z
              · exact .inl z
              · rcases x5.pl with w | w
                · exact .inl (z ▸ w)
                · exact .inr (w.trans z)
          · exact h5.elim
end
end QL

namespace QL
open PySem PySem.Spec PyProof.Rows L2

section
variable {X : Cx} {elt tg iter : Expr} {ifs : List Expr} {scope : Scope} {own : List (Str × Nat)} {pos : Pos} {ti : AIt} {g : ATG} {tt : ATT} {te : ATE}
theorem q_lc (hc : X.calm = true) (hN : X.N.Nodup) (hi : QI X tg iter ti) (ok : BlkOk X.N X.env.scope scope own)
    (hg : ∀ (s : Shared) (H : Hp) (Ca : Addr) (cl : List (Str × Addr)) (fp : List Addr), QG (X.blk s H scope (compEnvC scope cl Ca X.env) fp) (own.map (·.2)) tg g)
    (ht : ∀ (s : Shared) (H : Hp) (Ca : Addr) (cl : List (Str × Addr)) (fp : List Addr), QTs (X.blk s H scope (compEnvC scope cl Ca X.env) fp) ifs tt)
    (he : ∀ (s : Shared) (H : Hp) (Ca : Addr) (cl : List (Str × Addr)) (fp : List Addr), QE (X.blk s H scope (compEnvC scope cl Ca X.env) fp) elt te) (hs : ∀ x, foldedSetIterable iter X.env x = pure x := by intro _; rfl) :
    QE X (.ListComp elt [⟨tg, iter, ifs, 0⟩] scope pos) (aLc ti g tt te (own.map (·.2))) := fun C hK =>
  PE.imp (pe_lc hc hN (hi C hK) ok (fun s H Ca cl fp => (hg s H Ca cl fp).ex rfl) (fun s H Ca cl fp => (ht s H Ca cl fp).ex rfl) (fun s H Ca cl fp => (he s H Ca cl fp).ex rfl) hs) (lc_imp hK)
theorem qs_setLc {i : Nat} {y : Str} {py : Pos} {spos : Pos} (hc : X.calm = true) (hN : X.N.Nodup) (hy : X.N[i]? = some y) (hyl : X.env.scope.names.lookup y = some .local)
    (hsw : swapsWith (.ListComp elt [⟨tg, iter, ifs, 0⟩] scope pos) (some (.Name y py)) spos.line X.env = pure true) (hi : QI X tg iter ti) (ok : BlkOk X.N X.env.scope scope own)
    (hg : ∀ (s : Shared) (H : Hp) (Ca : Addr) (cl : List (Str × Addr)) (fp : List Addr), QG (X.blk s H scope (compEnvC scope cl Ca X.env) fp) (own.map (·.2)) tg g)
    (ht : ∀ (s : Shared) (H : Hp) (Ca : Addr) (cl : List (Str × Addr)) (fp : List Addr), QTs (X.blk s H scope (compEnvC scope cl Ca X.env) fp) ifs tt)
    (he : ∀ (s : Shared) (H : Hp) (Ca : Addr) (cl : List (Str × Addr)) (fp : List Addr), QE (X.blk s H scope (compEnvC scope cl Ca X.env) fp) elt te) (hs : ∀ x, foldedSetIterable iter X.env x = pure x := by intro _; rfl) :
    QS X (.Assign [.Name y py] (.ListComp elt [⟨tg, iter, ifs, 0⟩] scope pos) spos) (aSet i (aLc ti g tt te (own.map (·.2)))) := fun C hK =>
  PS.imp (ps_setLc hc hN hy hyl hsw (hi C hK) ok (fun s H Ca cl fp => (hg s H Ca cl fp).ex rfl) (fun s H Ca cl fp => (ht s H Ca cl fp).ex rfl) (fun s H Ca cl fp => (he s H Ca cl fp).ex rfl) hs) fun E σ H ⟨a, L, Mo, AD, r, b, h⟩ =>
    lc_imp hK σ H _ ⟨a, L, Mo, _, r, fun x m1 v L1 Mo1 H1 h1 b1 v1 e1 => b.nx _ _ _ _ _ h1 ((r.next b1 e1).set i v1), h⟩
end

/-! ### defs, called where no repr is under way -/
structure FnG (P : Program) (w : World) (K : PySem.W.Frag) (mg : Str → Option Value) (base : Heap) (CX : CXT) (k : Nat) (f : Addr) (fd : FuncData) (ps : List Str) (sp : Sp) : Prop where
  len : ∀ vs H Q E, sp vs H Q E → vs.length = ps.length
  run : ∀ (A : Around) (outer : List Env) (s : Shared) (H : Hp) (args : Args) (us : List Value) (vs : List V) (Q : VK) (E : XK),
    Room k A → A.guards = some [] → Env0 P w K mg base A outer s H → BindsTo s fd args (ps.zip us) → Vals vs us → sp vs H Q E →
      codeAny (model P w) A (.call (.ref f) args) (CR CX outer P w H s Q E) s
theorem FnG.of {P : Program} {w : World} {K : PySem.W.Frag} {mg : Str → Option Value} {base : Heap} {CX : CXT} {k : Nat} {f : Addr} {fd : FuncData} {ps : List Str} {sp : Sp} (F : FnOk P w K mg base CX k f fd ps sp) : FnG P w K mg base CX k f fd ps sp :=
  ⟨F.len, fun A outer s H args us vs Q E hr _ e0 hb hv hs => F.run A outer s H args us vs Q E hr e0 hb hv hs⟩
theorem FnG.mono {P : Program} {w : World} {K : PySem.W.Frag} {mg : Str → Option Value} {base : Heap} {CX : CXT} {j k : Nat} {f : Addr} {fd : FuncData} {ps : List Str} {sp : Sp} (F : FnG P w K mg base CX j f fd ps sp) (h : j ≤ k) : FnG P w K mg base CX k f fd ps sp :=
  ⟨F.len, fun A outer s H args us vs Q E hr hg e0 hb hv hs => F.run A outer s H args us vs Q E (hr.mono h) hg e0 hb hv hs⟩
section
variable {P : Program} {w : World} {K : PySem.W.Frag} {mg : Str → Option Value} {base : Heap} {CX : CXT}
theorem Fun.okG {x qual : Str} {st : Stmt} {f : Addr} {fd : FuncData} {N ps : List Str} {k : Nat} {sp : Sp} (F : Fun K x qual st f fd) (S : FnScope N ps (defScope st)) (len : ∀ vs H Q E, sp vs H Q E → vs.length = ps.length)
    (hbody : ∀ (cdv : Value) (A : Around) (outer : List Env) (s : Shared) (H : Hp) (vs : List V) (Q : VK) (E : XK), Room k (A.deeper (envOfC qual (defScope st) s.heap.objs.size f cdv)) → A.guards = some [] → sp vs H Q E →
      ∃ t, PSs (cxOf CX P w K mg base N qual (defScope st) f cdv A outer s H E) (defBody st) t ∧ t { nx := fun _ H' => Q .non H', rt := Q } (start N vs) H) : FnG P w K mg base CX (k + 1) f fd ps sp := by
  obtain ⟨oc, od, kV, doc, pm, an, cdv, ct, osl, rfl, lk, hcd⟩ := F.ex
  constructor
  · exact len
  · intro A outer s H args us vs Q E hr hgd e0 hb r hsp
    have hl := len vs H Q E hsp
    have inS : K.In s.heap := e0.mod.kin.keeps (fun b o e => (e0.bs b o e).1)
    have noLim : s.heap.NoLimit := e0.mod.nolimit.keeps (fun b o e => (e0.bs b o e).1)
    have kinds : ∀ y ∈ ps.zip us, (defScope st).names.lookup y.1 = some .local ∨
        ((defScope st).names.lookup y.1 = some .cell ∧ ((cellsFrom (s.heap.objs.size + 1) (defScope st).names []).lookup y.1).isSome = true) := by
      intro ⟨n, v⟩ hy
      cases S.par n (List.of_mem_zip hy).1 with
      | inl q => exact .inl q
      | inr q => exact .inr ⟨q, PySem.W.cellsFrom_some _ _ _ (.inl q)⟩
    apply codeAny_call_function hr.depth (inS _ _ lk) rfl S.co S.gen rfl (PySem.W.codeRec_of inS hcd)
    apply hb
    apply wpAny_newFunctionEnv_cells S.kind kinds
    intro env he s1 x
    subst he
    refine ⟨noLim.keeps x.toInCall.keep, codeAny_func ?_⟩
    obtain ⟨t, ht, hq⟩ := hbody cdv A outer s H vs Q E (hr.deeper _) hgd hsp
    have I := inv_start (CX := CX) (P := P) (w := w) (K := K) (mg := mg) (base := base) (N := N) (qual := qual) (f := f) (cd := cdv) (E := E) S hr.hd e0 hl r x
    apply wpAny_mono (ht.run [] s1 (start N vs) H _ I hq)
    · intro fl s' hs
      cases fl with
      | ret u =>
        obtain ⟨v, σ', H', J, rv, q⟩ := hs
        exact ⟨v, H', J.os, J.bare, J.base, J.hok, rv, q⟩
      | next =>
        obtain ⟨σ', H', J, q⟩ := hs
        exact ⟨V.non, H', J.os, J.bare, J.base, J.hok, rfl, q⟩
      | brk =>
        obtain ⟨σ', H', J, q⟩ := hs
        exact q.elim
      | cont =>
        obtain ⟨σ', H', J, q⟩ := hs
        exact q.elim
    · intro e s' hs
      exact hs
end
section
variable {X : Cx} {CX : CXT} {k : Nat} {f : Addr} {fd : FuncData} {ps : List Str} {sp : Sp} {E : XK} {x : Str} {p pos : Pos} {e : Expr} {es : List Expr} {t : TA}
theorem run_g {pins : List (Addr × Obj)} {σ : List (Option V)} {H : Hp} {s : Shared} {Q : VK} {us : List Value} {vs : List V} (F : FnG X.prog X.w X.K X.mg X.base CX k f fd ps sp) (hr : Room k X.A) (hgd : X.A.guards = some []) (hb : Binds X.K fd ps []) (hx : Passes CX X E)
    (I : Inv X pins σ H s) (r : Vals vs us) (h : sp vs H Q E) : wpAny (model X.prog X.w) X.A (call (.ref f) us) (EP X pins σ Q) X.xe s := by
  have hl : us.length = ps.length := by rw [← r.length]; exact F.len _ _ _ _ h
  have hbt := hb s us I.kIn (by simpa using hl)
  rw [List.append_nil] at hbt
  apply wpAny_call
  apply codeAny_mono (F.run X.A X.stack s H ⟨us, []⟩ us vs Q E hr hgd I.env0 hbt r h)
  intro res s' hq
  cases res with
  | error e => exact hx pins σ H s e s' I hq
  | ok fl =>
    cases fl with
    | ret u => exact I.after hq
    | next => exact hq.elim
    | brk => exact hq.elim
    | cont => exact hq.elim
theorem pe_g (F : FnG X.prog X.w X.K X.mg X.base CX k f fd ps sp) (hr : Room k X.A) (hgd : X.A.guards = some []) (hg : Gl X x) (hm : X.mg x = some (.ref f)) (hk : PySem.W.keepIn X.K (.ref f) = true) (hb : Binds X.K fd ps []) (hx : Passes CX X E)
    (ha : PA X (e :: es) t) (hdb : (x == ("__debug__" : Str)) = false := by decide) (he : starEach (e :: es) X.env = (false, eval e X.env) :: starEach es X.env := by rfl) (hpl : (backTo pos (starEach es X.env)).any (·.1) = false := by rfl) :
    PE X (.Call (.Name x p) (e :: es) [] pos) (fun σ H Q => t σ H fun vs H1 => sp vs H1 Q E) := by
  constructor
  intro pins s σ H Q I h
  apply wpAny_Call_Name_kw
  refine ld_glob I hg hm ?_ hdb
  refine PySem.W.callWith_K (h₀ := X.base) I.ok.mod.kin hk ?_ he hpl
  apply thn (ha.run pos pins s σ H _ I h)
  intro us s1 ⟨vs, H1, I1, r, q⟩
  exact ⟨I1.kIn, run_g F hr hgd hb hx I1 r q⟩
theorem pe_g0 (F : FnG X.prog X.w X.K X.mg X.base CX k f fd ps sp) (hr : Room k X.A) (hgd : X.A.guards = some []) (hg : Gl X x) (hm : X.mg x = some (.ref f)) (hk : PySem.W.keepIn X.K (.ref f) = true) (hb : Binds X.K fd ps []) (hx : Passes CX X E)
    (hdb : (x == ("__debug__" : Str)) = false := by decide) : PE X (.Call (.Name x p) [] [] pos) (fun σ H Q => sp [] H Q E) := by
  constructor
  intro pins s σ H Q I h
  apply wpAny_Call_Name_kw
  refine ld_glob I hg hm ?_ hdb
  exact PySem.W.callWith_K0 I.kIn hk (run_g (us := []) F hr hgd hb hx I .nil h)
end

/-! ### an abstract def -/
abbrev AFn := List AV → Option Src → (AV → Option Src → Prop) → Prop
structure Entry (K : PySem.W.Frag) (Z L : List Addr) (s : Option Src) (H : Hp) : Prop where
  nd : (Z ++ L).Nodup
  sr : SrcAt H s L
  zt : ∀ z ∈ Z, ∃ u, H z = some u
theorem Entry.b {K : PySem.W.Frag} {Z L : List Addr} {s : Option Src} {H : Hp} (e : Entry K Z L s H) : B ⟨K, Z, L, H⟩ ⟨s, []⟩ L [] H :=
  ⟨by simpa using e.nd, e.sr, .nil, fun _ _ h _ => h, fun _ h => .inl h, fun _ h => (by cases h), fun z hz => ⟨e.zt z hz, fun q => (List.nodup_append.mp e.nd).2.2 z hz z q rfl⟩, .inr rfl⟩
def spOf (K : PySem.W.Frag) (n : Nat) (fn : AFn) : Sp := fun vs H Q _ => vs.length = n ∧ ∃ (Z L : List Addr) (s : Option Src) (avs : List AV) (AQ : AV → Option Src → Prop), Entry K Z L s H ∧ AVRs ⟨K, Z, L, H⟩ L [] H avs vs ∧
  (∀ av s' v L' H', AQ av s' → B ⟨K, Z, L, H⟩ ⟨s', []⟩ L' [] H' → AVR ⟨K, Z, L, H⟩ L' [] H' av v → Q v H') ∧ fn avs s AQ
/-- what a def's body is to reach -/
def endsA (AQ : AV → Option Src → Prop) : AEnds where
  nx := fun a => AQ (.d .none) a.m.s
  rt := fun av m => match fzV 0 m av with
    | some x => AQ x m.s
    | none => False
def startA (N : List Str) (avs : List AV) : List (Option AV) := avs.map some ++ List.replicate (N.length - avs.length) none
section
variable {P : Program} {w : World} {K : PySem.W.Frag} {mg : Str → Option Value} {base : Heap} {CX : CXT}
theorem start_rel {C : Ct} {L Mo : List Addr} {H : Hp} {N : List Str} {avs : List AV} {vs : List V} (r : AVRs C L Mo H avs vs) (i : Nat) (av : AV) (h : (startA N avs)[i]? = some (some av)) : ∃ v, (L2.start N vs)[i]? = some (some v) ∧ AVR C L Mo H av v := by
  unfold startA at h
  unfold L2.start
  have hl := Paired.length r
  by_cases hi : i < avs.length
  · rw [List.getElem?_append_left (by simpa using hi), List.getElem?_map] at h
    cases e : avs[i]? with
    | none => rw [e] at h; cases h
    | some x =>
      rw [e] at h
      have hx : x = av := Option.some.inj (Option.some.inj h)
      subst hx
      obtain ⟨v, h1, h2⟩ := paired_at r e
      exact ⟨v, by rw [List.getElem?_append_left (by simp; omega), List.getElem?_map, h1]; rfl, h2⟩
  · rw [List.getElem?_append_right (by simpa using hi)] at h
    have := List.mem_of_getElem? h
    simp at this
theorem fn_okA {x qual : Str} {st : Stmt} {f : Addr} {fd : FuncData} {N ps : List Str} {k n : Nat} {fn : AFn} {t : ATS} (F : Fun K x qual st f fd) (S : FnScope N ps (defScope st)) (hn : ps.length = n)
    (hbody : ∀ (cdv : Value) (A : Around) (outer : List Env) (s : Shared) (H : Hp) (E : XK), Room k (A.deeper (envOfC qual (defScope st) s.heap.objs.size f cdv)) → (A.deeper (envOfC qual (defScope st) s.heap.objs.size f cdv)).guards = some [] →
      QSs (cxOf CX P w K mg base N qual (defScope st) f cdv A outer s H E).nox (defBody st) t)
    (hf : ∀ avs s AQ, fn avs s AQ → t (endsA AQ) ⟨startA N avs, ⟨s, []⟩⟩) : FnG P w K mg base CX (k + 1) f fd ps (spOf K n fn) := by
  refine Fun.okG F S (fun vs H Q E h => h.1.trans hn.symm) fun cdv A outer s H vs Q E hr hgd h => ?_
  obtain ⟨hl, Z, L, sr, avs, AQ, en, rv, hQ, hfn⟩ := h
  have hb := hbody cdv A outer s H E hr hgd
  refine ⟨_, (hb ⟨K, Z, L, H⟩ rfl).nox, ⟨startA N avs, ⟨sr, []⟩⟩, L, [], endsA AQ, ⟨en.b, ?_, fun i av e => start_rel rv i av e⟩, ⟨fun a L' Mo' σ' H' q r => ?_, fun av m L' Mo' H' v q b' r => ?_, fun _ _ _ _ _ q _ => q.elim, fun _ _ _ _ _ q _ => q.elim⟩, hf avs sr AQ hfn⟩
  · have := Paired.length rv
    simp [startA, L2.start, this]
  · exact hQ _ _ _ _ _ q (r.b.take 0) .non
  · have q' : (match fzV 0 m av with | some x => AQ x m.s | none => False) := q
    split at q'
    · rename_i x e
      exact hQ _ _ _ _ _ q' (b'.take 0) (r.fz b' e)
    · exact q'.elim
end
/-- no local object among the arguments -/
def argsOk : List AV → Bool
  | [] => true
  | .o _ :: _ => false
  | .cells :: _ => false
  | _ :: r => argsOk r
def aFn (n : Nat) (fn : AFn) (t : ATA) : ATE := fun a Q => t a fun avs m => avs.length = n ∧ argsOk avs = true ∧ fn avs m.s fun av s' => Q av ⟨s', m.o⟩
section
variable {X : Cx} {CX : CXT} {k n : Nat} {f : Addr} {fd : FuncData} {ps : List Str} {fn : AFn} {E : XK} {x : Str} {p pos : Pos} {e : Expr} {es : List Expr} {t : ATA}
theorem hid_congr {Z Z' : List Addr} {H : Hp} (h : ∀ a, a ∈ Z ↔ a ∈ Z') : hid Z H = hid Z' H := by
  funext a
  unfold hid
  by_cases q : a ∈ Z
  · rw [if_pos q, if_pos ((h a).mp q)]
  · rw [if_neg q, if_neg fun z => q ((h a).mpr z)]
theorem fn_imp {C : Ct} {m : Mm} {L Mo : List Addr} {H : Hp} {avs : List AV} {vs : List V} {AQ : AV → Mm → Prop} {Q : VK} (hl : vs.length = n) (b : B C m L Mo H) (r : AVRs C L Mo H avs vs) (k : Cont C L Mo H AQ Q) (ok : argsOk avs = true) (h : fn avs m.s fun av s' => AQ av ⟨s', m.o⟩) : spOf C.K n fn vs H Q E := by
  have hh : ∀ (L' : List Addr) (H' : Hp), hid ((C.Z ++ Mo) ++ (L' ++ [])) H' = C.hd L' Mo H' := fun L' H' => hid_congr fun a => by grind
  have nd := b.nd
  refine ⟨hl, C.Z ++ Mo, L, m.s, avs, _, ⟨by grind, b.sr, fun z hz => b.there (by grind)⟩, ?_, fun av s' v L' H' q b' rv => ?_, h⟩
  · have go : ∀ (avs : List AV) (vs : List V), AVRs C L Mo H avs vs → argsOk avs = true → AVRs ⟨C.K, C.Z ++ Mo, L, H⟩ L [] H avs vs := by
      intro avs vs r ok
      induction r with
      | nil => exact .nil
      | cons q t ih =>
        rename_i a v l l'
        cases a with
        | o j => simp [argsOk] at ok
        | d y => exact .cons (by show Dq C.K (hid ((C.Z ++ Mo) ++ (L ++ [])) H) v y; rw [hh]; exact q) (ih (by simpa [argsOk] using ok))
        | src => exact .cons q (ih (by simpa [argsOk] using ok))
        | cells => simp [argsOk] at ok
        | kt ns =>
          obtain ⟨c, e1, e2⟩ := q
          exact .cons ⟨c, e1, by show hid ((C.Z ++ Mo) ++ (L ++ [])) H c = _; rw [hh]; exact e2⟩ (ih (by simpa [argsOk] using ok))
        | dt ns =>
          obtain ⟨c, ys, e1, e2, e3⟩ := q
          exact .cons ⟨c, ys, e1, by show hid ((C.Z ++ Mo) ++ (L ++ [])) H c = _; rw [hh]; exact e2, by show KQ C.K (hid ((C.Z ++ Mo) ++ (L ++ [])) H) ys ns; rw [hh]; exact e3⟩ (ih (by simpa [argsOk] using ok))
        | scr ns =>
          obtain ⟨c, e1, e2⟩ := q
          exact .cons ⟨c, e1, by show SqL C.K (hid ((C.Z ++ Mo) ++ (L ++ [])) H) c _; rw [hh]; exact e2⟩ (ih (by simpa [argsOk] using ok))
    exact go avs vs r ok
  · have keep : ∀ a u, H a = some u → a ∉ L → H' a = some u := fun a u h1 h2 => b'.kp a u h1 h2
    have nd' : ((C.Z ++ Mo) ++ (L' ++ [])).Nodup := b'.nd
    have hs : Same (C.hd L Mo H) (C.hd L' Mo H') := fun a u h1 => by
      obtain ⟨h2, h3⟩ := hid_some h1
      have n1 : a ∉ L := fun z => h2 (by simp [z])
      have n2 : a ∉ L' := fun z => by
        rcases b'.nl a z with q | q
        · exact n1 q
        · rw [show H a = none from q] at h3; cases h3
      rw [Ct.hd, hid_of (by grind)]
      exact keep a u h3 n1
    have hL : L = [] ∨ L' = L := b'.l0
    have bb : B C ⟨s', m.o⟩ L' Mo H' := by
      refine ⟨by grind, b'.sr, paired_impM b.ob fun o l hl2 q2 => q2.mono hs ?_, fun a u h1 h2 => ?_, fun a ha => ?_, b.no, b.zt, ?_⟩
      · obtain ⟨u, hu⟩ := q2.there
        rw [hu]
        exact keep l u hu fun z => (List.nodup_append.mp (List.nodup_append.mp nd).2.1).2.2 l z l hl2 rfl
      · have h3 := b.kp a u h1 h2
        refine keep a u h3 fun z => ?_
        rcases b.nl a z with q2 | q2
        · exact h2 q2
        · rw [q2] at h1; cases h1
      · rcases b'.nl a ha with z | z
        · exact b.nl a z
        · exact .inr (b.fresh0 z)
      · rcases b.l0 with z | z
        · exact .inl z
        · rcases hL with z2 | z2
          · exact .inl (z.symm.trans z2)
          · exact .inr (z2.trans z)
    have rv' : AVR C L' Mo H' av v := by
      cases av with
      | d y =>
        have : Dq C.K (hid ((C.Z ++ Mo) ++ (L' ++ [])) H') v y := rv
        rw [hh] at this; exact this
      | o j => obtain ⟨l, h1, _⟩ := rv; simp at h1
      | src => exact rv
      | cells => exact rv
      | scr ns =>
        obtain ⟨c, e1, e2⟩ := rv
        have e3 : SqL C.K (hid ((C.Z ++ Mo) ++ (L' ++ [])) H') c (ns.map V.int) := e2
        rw [hh] at e3
        exact ⟨c, e1, e3⟩
      | kt ns =>
        obtain ⟨c, e1, e2⟩ := rv
        have e3 : hid ((C.Z ++ Mo) ++ (L' ++ [])) H' c = _ := e2
        rw [hh] at e3
        exact ⟨c, e1, e3⟩
      | dt ns =>
        obtain ⟨c, ys, e1, e2, e4⟩ := rv
        have e3 : hid ((C.Z ++ Mo) ++ (L' ++ [])) H' c = _ := e2
        have e5 : KQ C.K (hid ((C.Z ++ Mo) ++ (L' ++ [])) H') ys ns := e4
        rw [hh] at e3 e5
        exact ⟨c, ys, e1, e3, e5⟩
    exact k _ _ _ _ _ _ q bb rv' ⟨hL, List.prefix_rfl, hs⟩
theorem q_fn (F : FnG X.prog X.w X.K X.mg X.base CX k f fd ps (spOf X.K n fn)) (hr : Room k X.A) (hgd : X.A.guards = some []) (hg : Gl X x) (hm : X.mg x = some (.ref f)) (hk : PySem.W.keepIn X.K (.ref f) = true) (hb : Binds X.K fd ps []) (hx : Passes CX X E)
    (ha : QA X (e :: es) t) (hdb : (x == ("__debug__" : Str)) = false := by decide) (he : starEach (e :: es) X.env = (false, eval e X.env) :: starEach es X.env := by rfl) (hpl : (backTo pos (starEach es X.env)).any (·.1) = false := by rfl) :
    QE X (.Call (.Name x p) (e :: es) [] pos) (aFn n fn t) := fun C hK => PE.imp (pe_g F hr hgd hg hm hk hb hx (ha C hK) hdb he hpl) fun σ H Q ⟨a, L, Mo, AQ, r, k, h⟩ =>
  ⟨a, L, Mo, _, r, fun avs m1 vs L1 Mo1 H1 ⟨hl, h1⟩ b1 v1 e1 => by
    have := fn_imp (E := E) (fn := fn) (n := n) ((Paired.length v1).symm.trans hl) b1 v1 (k.aft e1) h1.1 h1.2
    rw [hK] at this
    exact this, h⟩
theorem q_fn0 (F : FnG X.prog X.w X.K X.mg X.base CX k f fd ps (spOf X.K 0 fn)) (hr : Room k X.A) (hgd : X.A.guards = some []) (hg : Gl X x) (hm : X.mg x = some (.ref f)) (hk : PySem.W.keepIn X.K (.ref f) = true) (hb : Binds X.K fd ps []) (hx : Passes CX X E)
    (hdb : (x == ("__debug__" : Str)) = false := by decide) : QE X (.Call (.Name x p) [] [] pos) (aFn 0 fn aNil) := fun C hK => PE.imp (pe_g0 F hr hgd hg hm hk hb hx hdb) fun σ H Q ⟨a, L, Mo, AQ, r, k, h⟩ => by
    have := fn_imp (E := E) (fn := fn) (n := 0) (vs := []) rfl r.b .nil k h.2.1 h.2.2
    rw [hK] at this
    exact this
end
end QL

namespace QL
open PySem PySem.Spec PyProof.Rows L2

/-! ### repr -/
/-- what repr asks of the data: ints that are shown, not too deep, not too long -/
def RepOk (d : D) : Prop := d.hasDict = false ∧ d.showable = true ∧ d.depth ≤ 64 ∧ d.shown.length ≤ sizeLine
section
variable {X : Cx}
theorem cr_repr (hg : X.A.guards = some []) (hu : X.A.units + 100 < cLine) : CallR X (.builtin "repr") (fun xs H Q => ∃ x d, xs = [x] ∧ Dq X.K H x d ∧ RepOk d ∧ Q (.str d.shown) H) := by
  intro pins s σ H xs us Q I r h
  obtain ⟨x, d, rfl, hd, ⟨hnd, hs, hdp, hl⟩, q⟩ := h
  obtain ⟨u, rfl, rx⟩ := vals1 r
  cases hd with
  | non =>
    cases rx
    exact PySem.P.repr_of_none ⟨.str _, H, I.tok _, ⟨_, rfl⟩, q⟩
  | bl b =>
    cases rx
    exact PySem.P.repr_of_bool ⟨.str _, H, I.tok _, ⟨_, rfl⟩, q⟩
  | int i =>
    obtain ⟨t, rfl⟩ := rx
    refine PySem.P.repr_of_int (by simpa [PyData.showable] using hs) ⟨.str _, H, I.tok _, ⟨_, rfl⟩, q⟩
  | str z =>
    obtain ⟨t, rfl⟩ := rx
    exact PySem.P.repr_of_str (h := ⟨.str _, H, I.tok _, ⟨_, rfl⟩, q⟩) (hsz := by simpa [PyData.shown] using hl)
  | lst h1 h2 =>
    cases rx
    obtain ⟨as, rd⟩ := Dp.reads I _ _ _ (Dq.toDp _ _ hnd (Dq.lst h1 h2)) rfl
    exact repr_of_reads' rd hs (PyData.noDict_hsm hnd) hg (by omega) (fun _ _ e => e) (fun h' u tk k => ⟨.str _, H, I.kept k, ⟨_, rfl⟩, q⟩) hl
  | tup h1 h2 =>
    cases rx
    obtain ⟨as, rd⟩ := Dp.reads I _ _ _ (Dq.toDp _ _ hnd (Dq.tup h1 h2)) rfl
    exact repr_of_reads' rd hs (PyData.noDict_hsm hnd) hg (by omega) (fun _ _ e => e) (fun h' u tk k => ⟨.str _, H, I.kept k, ⟨_, rfl⟩, q⟩) hl
  | dk h1 h2 => simp [PyData.hasDict] at hnd
def bRepr : AC1 := fun avs m Q => match avs with
  | [x] => match datA m x with
    | some d => RepOk d ∧ Q (.d (.str d.shown)) m
    | none => False
  | _ => False
theorem cq_repr (hg : X.A.guards = some []) (hu : X.A.units + 100 < cLine) : CallQ X (.builtin "repr") bRepr := by
  refine ⟨_, cr_repr hg hu, fun C L Mo H m avs vs Q AQ hK b r k hh => ?_⟩
  unfold bRepr at hh
  split at hh
  · split at hh
    · rename_i d e
      obtain ⟨v, rfl, rv⟩ := av1 r
      exact ⟨v, d, rfl, hK ▸ datA_ok b rv e, hh.1, k.ret hh.2 b (.str _)⟩
    · exact hh.elim
  · exact hh.elim

end
end QL

namespace QL
open PySem PySem.Spec PyProof.Rows L2

/-! ### a local object changes -/
section
variable {C : Ct} {m : Mm} {L Mo : List Addr} {H : Hp} {l : Addr} {j : Nat} {ho : HO} {mo : MO}
theorem B.upd (b : B C m L Mo H) (hj : Mo[j]? = some l) (ok : ∀ h, h = C.hd L Mo H → MOk C.K h (L2.upd H l ho) mo l) : B C ⟨m.s, m.o.set j mo⟩ L Mo (L2.upd H l ho) := by
  have hm : l ∈ Mo := List.mem_of_getElem? hj
  have e : C.hd L Mo (L2.upd H l ho) = C.hd L Mo H := hd_updIn (by grind)
  have nd := b.nd
  have nL : l ∉ L := fun z => (List.nodup_append.mp (List.nodup_append.mp nd).2.1).2.2 l z l hm rfl
  have hob : Paired (MOk C.K (C.hd L Mo (L2.upd H l ho)) (L2.upd H l ho)) (m.o.set j mo) Mo := by
    rw [e]
    have nMo : Mo.Nodup := (List.nodup_append.mp (List.nodup_append.mp nd).2.1).2.1
    have go : ∀ (o : List MO) (r : List Addr) (j : Nat), Paired (MOk C.K (C.hd L Mo H) H) o r → r.Nodup → r[j]? = some l → Paired (MOk C.K (C.hd L Mo H) (L2.upd H l ho)) (o.set j mo) r := by
      intro o r j q
      induction q generalizing j with
      | nil => intro _ h; simp at h
      | cons q t ih =>
        rename_i a b l1 l2
        intro nd h
        cases j with
        | zero =>
          simp at h; subst h
          refine .cons (ok _ rfl) (paired_impM t fun o x hx q => q.mono (Same.refl _) (upd_ne fun z => ?_))
          exact (List.nodup_cons.mp nd).1 (z ▸ hx)
        | succ j =>
          simp at h
          refine .cons (q.mono (Same.refl _) (upd_ne fun z => ?_)) (ih j (List.nodup_cons.mp nd).2 h)
          exact (List.nodup_cons.mp nd).1 (z ▸ List.mem_of_getElem? h)
    exact go _ _ _ b.ob nMo hj
  refine ⟨nd, srcAt_upd b.sr nL, hob, fun a u h1 h2 => ?_, b.nl, b.no, b.zt, b.l0⟩
  rw [upd_ne (fun z => by subst z; rw [(b.no _ hm).1] at h1; cases h1)]
  exact b.kp a u h1 h2
theorem X2.upd (hm : l ∈ Mo) : X2 C L Mo H L Mo (L2.upd H l ho) := ⟨.inr rfl, List.prefix_rfl, by
  rw [show C.hd L Mo (L2.upd H l ho) = C.hd L Mo H from hd_updIn (by grind)]; exact Same.refl _⟩
end
abbrev AM := AV → List AV → Mm → (AV → Mm → Prop) → Prop
def MtQ (X : Cx) (id : String) (r : AM) : Prop := ∃ r2, MtR X id r2 ∧ ∀ (C : Ct) L Mo H m x avs v vs Q AQ, C.K = X.K → B C m L Mo H → AVR C L Mo H x v → AVRs C L Mo H avs vs → Cont C L Mo H AQ Q → r x avs m AQ → r2 v vs H Q
/-- o.m(..), o a list -/
def aMt (r : AM) (to : ATE) (t : ATA) : ATE := fun a Q => to a fun x m1 => match lstA m1 x with
  | some _ => t ⟨a.g, m1⟩ fun avs m2 => r x avs m2 Q
  | none => False
def aMt0 (r : AM) (to : ATE) : ATE := fun a Q => to a fun x m1 => match lstA m1 x with
  | some _ => r x [] m1 Q
  | none => False
section
variable {X : Cx} {o e : Expr} {es : List Expr} {to : ATE} {t : ATA} {name : Str} {apos cpos : Pos} {id : String} {r : AM}
theorem q_mt (hm : MtQ X id r) (slot : Slot "list" name id) (hty : typeOf (.builtin id) = pure (.type "method_descriptor")) (ho : QE X o to) (ha : QA X (e :: es) t)
    (hbase : attributeBase o name X.env (eval o X.env) = eval o X.env := by rfl)
    (hfew : ((backTo cpos (starEach (e :: es) X.env)).all (fun x => !x.1) && (backToKw cpos (keywordEach [] X.env)).all (fun x => x.1.isSome)
      && decide ((e :: es).length + ([] : List Keyword).length + (if ([] : List Keyword).isEmpty then 0 else 1) < 30)) = true := by rfl)
    (hline : (apos.endLine == cpos.line) = true := by rfl) (hs : starEach (e :: es) X.env = (false, eval e X.env) :: starEach es X.env := by rfl) (hplain : (backTo cpos (starEach es X.env)).any (·.1) = false := by rfl) :
    QE X (.Call (.Attribute o name apos) (e :: es) [] cpos) (aMt r to t) := fun C hK => by
  obtain ⟨r2, hr, hi⟩ := hm
  refine PE.imp (pe_bm PySem.F.plainAttrs_list slot hty hr (ho C hK) (ha C hK) hbase hfew hline hs hplain) fun σ H Q ⟨a, L, Mo, AQ, rr, k, h⟩ => ?_
  refine ⟨a, L, Mo, _, rr, fun x m1 v L1 Mo1 H1 h1 b1 v1 e1 => ?_, h⟩
  split at h1
  · rename_i ds e
    obtain ⟨l, xs, rfl, h2, _⟩ := lstA_ok b1 v1 e
    exact ⟨.inl ⟨rfl, xs, SqL.of h2⟩, ⟨a.g, m1⟩, L1, Mo1, _, rr.next b1 e1, fun avs m2 vs L2 Mo2 H2 h2 b2 v2 e2 => hi C L2 Mo2 H2 m2 x avs _ vs Q AQ hK b2 (v1.mono e2) v2 (k.aft (e1.trans e2)) h2, h1⟩
  · exact h1.elim
theorem q_mt0 (hm : MtQ X id r) (slot : Slot "list" name id) (hty : typeOf (.builtin id) = pure (.type "method_descriptor")) (ho : QE X o to)
    (hbase : attributeBase o name X.env (eval o X.env) = eval o X.env := by rfl) (hline : (apos.endLine == cpos.line) = true := by rfl) :
    QE X (.Call (.Attribute o name apos) [] [] cpos) (aMt0 r to) := fun C hK => by
  obtain ⟨r2, hr, hi⟩ := hm
  refine PE.imp (pe_bm0 PySem.F.plainAttrs_list slot hty hr (ho C hK) hbase hline) fun σ H Q ⟨a, L, Mo, AQ, rr, k, h⟩ => ?_
  refine ⟨a, L, Mo, _, rr, fun x m1 v L1 Mo1 H1 h1 b1 v1 e1 => ?_, h⟩
  split at h1
  · rename_i ds e
    obtain ⟨l, xs, rfl, h2, _⟩ := lstA_ok b1 v1 e
    exact ⟨.inl ⟨rfl, xs, SqL.of h2⟩, hi C L1 Mo1 H1 m1 x [] _ [] Q AQ hK b1 v1 .nil (k.aft e1) h1⟩
  · exact h1.elim
theorem o_at {C : Ct} {m : Mm} {L Mo : List Addr} {H : Hp} {j : Nat} {v : V} {mo : MO} (b : B C m L Mo H) (r : AVR C L Mo H (.o j) v) (h : m.o[j]? = some mo) : ∃ l, v = .ref l ∧ Mo[j]? = some l ∧ MOk C.K (C.hd L Mo H) H mo l := by
  obtain ⟨l, h1, rfl⟩ := r
  obtain ⟨l', h2, h3⟩ := paired_at b.ob h
  rw [h1] at h2; cases h2
  exact ⟨l, rfl, h1, h3⟩
/-- append -/
def mApp : AM := fun x avs m Q => match x, avs with
  | .o j, [.d d] => match m.o[j]? with
    | some (.l ds) => ds.length ≤ 1000000 ∧ Q (.d .none) ⟨m.s, m.o.set j (.l (ds ++ [d]))⟩
    | _ => False
  | _, _ => False
theorem line6 {n : Nat} (h : n ≤ 1000000) : n < sizeLine := Nat.lt_of_le_of_lt h (by decide)
theorem mq_append : MtQ X "list.append" mApp := by
  refine ⟨_, mt_append, fun C L Mo H m x avs v vs Q AQ hK b r1 r2 k hh => ?_⟩
  unfold mApp at hh
  split at hh
  · split at hh
    · rename_i ds e
      obtain ⟨l, rfl, hl, xs, h3, h4⟩ := o_at b r1 e
      obtain ⟨w, rfl, rw_⟩ := av1 r2
      refine ⟨l, xs, w, rfl, rfl, h3, by rw [h4.len]; exact line6 hh.1, k _ _ _ _ _ _ hh.2 (b.upd hl fun h e => ⟨_, upd_same, by rw [e]; exact h4.app (.cons rw_ .nil)⟩) .non (X2.upd (List.mem_of_getElem? hl))⟩
    · exact hh.elim
  · exact hh.elim
/-- pop, the last -/
def mPop : AM := fun x avs m Q => match x, avs with
  | .o j, [] => match m.o[j]? with
    | some (.l ds) => match ds.getLast? with
      | some d => Q (.d d) ⟨m.s, m.o.set j (.l ds.dropLast)⟩
      | none => False
    | _ => False
  | _, _ => False
theorem mq_pop : MtQ X "list.pop" mPop := by
  refine ⟨_, mt_pop, fun C L Mo H m x avs v vs Q AQ hK b r1 r2 k hh => ?_⟩
  unfold mPop at hh
  split at hh
  · split at hh
    · rename_i ds e
      split at hh
      · rename_i d ed
        obtain ⟨l, rfl, hl, xs, h3, h4⟩ := o_at b r1 e
        cases r2
        rw [List.getLast?_eq_getElem?] at ed
        obtain ⟨y, h5, h6⟩ := h4.at ed
        have hu := X2.upd (C := C) (L := L) (H := H) (ho := .lst xs.dropLast) (List.mem_of_getElem? hl)
        refine ⟨l, xs, y, rfl, rfl, h3, by rw [h4.len]; exact h5, k _ _ _ _ _ _ hh (b.upd hl fun h e => ⟨_, upd_same, by rw [e]; exact h4.pop⟩) (Dq.mono hu.sm _ _ h6) hu⟩
      · exact hh.elim
    · exact hh.elim
  · exact hh.elim
/-- extend by a data list -/
def mExt : AM := fun x avs m Q => match x, avs with
  | .o j, [y] => match m.o[j]?, lstA m y with
    | some (.l ds), some es => ds.length + es.length ≤ 1000000 ∧ Q (.d .none) ⟨m.s, m.o.set j (.l (ds ++ es))⟩
    | _, _ => False
  | _, _ => False
theorem mq_extend : MtQ X "list.extend" mExt := by
  refine ⟨_, mt_extend, fun C L Mo H m x avs v vs Q AQ hK b r1 r2 k hh => ?_⟩
  unfold mExt at hh
  split at hh
  · split at hh
    · rename_i ds es e e2
      obtain ⟨l, rfl, hl, xs, h3, h4⟩ := o_at b r1 e
      obtain ⟨w, rfl, rw_⟩ := av1 r2
      obtain ⟨l2, zs, rfl, h5, h6⟩ := lstA_ok b rw_ e2
      refine ⟨l, l2, xs, zs, rfl, rfl, h3, h5, by rw [h4.len, h6.len]; exact Nat.le_of_lt (line6 hh.1), k _ _ _ _ _ _ hh.2 (b.upd hl fun h e => ⟨_, upd_same, by rw [e]; exact h4.app h6⟩) .non (X2.upd (List.mem_of_getElem? hl))⟩
    · exact hh.elim
  · exact hh.elim
end

/-! ### the law's source -/
section
variable {C : Ct} {m : Mm} {L Mo : List Addr} {H : Hp} {S S' : Src} {d c : Addr}
theorem B.src (b : B C m L Mo H) (hs : m.s = some S) : ∃ d c, L = [d, c] ∧ H d = some (.dK (srcKv S c)) ∧ H c = some (.lst (S.cells.map V.int)) ∧ d ≠ c := by
  have q := b.sr
  rw [hs] at q
  obtain ⟨d, c, e, h1, h2⟩ := q
  exact ⟨d, c, e, h1, h2, ne_of h1 h2 (by intro z; cases z)⟩
/-- the source's dict or list is written -/
theorem B.setS (b : B C m [d, c] Mo H) {x : Addr} {ho : HO} (hx : x = d ∨ x = c) (h : SrcAt (L2.upd H x ho) (some S') [d, c]) : B C ⟨some S', m.o⟩ [d, c] Mo (L2.upd H x ho) := by
  have hm : x ∈ [d, c] := by rcases hx with rfl | rfl <;> simp
  have e : C.hd [d, c] Mo (L2.upd H x ho) = C.hd [d, c] Mo H := hd_updIn (by grind)
  have nd := b.nd
  refine ⟨nd, h, ?_, fun a u h1 h2 => ?_, b.nl, b.no, b.zt, b.l0⟩
  · rw [e]
    refine paired_impM b.ob fun o l hl q => q.mono (Same.refl _) (upd_ne fun z => ?_)
    exact (List.nodup_append.mp (List.nodup_append.mp nd).2.1).2.2 x hm l hl z.symm
  · have h3 := b.kp a u h1 h2
    rw [upd_ne (fun z => ?_)]
    · exact h3
    · subst z
      rcases b.nl _ hm with q | q
      · exact h2 q
      · rw [q] at h1; cases h1
theorem X2.setS {x : Addr} {ho : HO} (hx : x = d ∨ x = c) : X2 C [d, c] Mo H [d, c] Mo (L2.upd H x ho) := ⟨.inr rfl, List.prefix_rfl, by
  rw [show C.hd [d, c] Mo (L2.upd H x ho) = C.hd [d, c] Mo H from hd_updIn (by rcases hx with rfl | rfl <;> simp)]; exact Same.refl _⟩
end
def isSrc : AV → Bool
  | .src => true
  | _ => false
inductive SF where
  | left | mixed | turn
def SF.name : SF → Str
  | .left => "left"
  | .mixed => "mixed"
  | .turn => "turn"
def SF.get : SF → Src → Int
  | .left, S => S.left
  | .mixed, S => S.mixed
  | .turn, S => S.turn
def SF.put : SF → Src → Int → Src
  | .left, S, i => { S with left := i }
  | .mixed, S, i => { S with mixed := i }
  | .turn, S, i => { S with turn := i }

theorem srcKv_get (f : SF) (S : Src) (c : Addr) : valV (srcKv S c) (.inr f.name) = some (.int (f.get S)) := by cases f <;> rfl
theorem srcKv_cells (S : Src) (c : Addr) : valV (srcKv S c) (.inr "cells") = some (.ref c) := rfl
theorem srcKv_put (f : SF) (S : Src) (c : Addr) (i : Int) : putK (srcKv S c) (.inr f.name) (.int i) = srcKv (f.put S i) c := by cases f <;> rfl
theorem src_d {C : Ct} {m : Mm} {L Mo : List Addr} {H : Hp} {x : AV} {v : V} {S : Src} (b : B C m L Mo H) (r : AVR C L Mo H x v) (hx : isSrc x = true) (hs : m.s = some S) :
    ∃ d c, L = [d, c] ∧ v = .ref d ∧ H d = some (.dK (srcKv S c)) ∧ H c = some (.lst (S.cells.map V.int)) ∧ d ≠ c := by
  cases x <;> simp [isSrc] at hx
  obtain ⟨d, c, e1, h1, h2, ne⟩ := b.src hs
  obtain ⟨d', c', e2, rfl⟩ := r
  rw [e1] at e2; cases e2
  exact ⟨d, c, e1, rfl, h1, h2, ne⟩
/-- source['left'] -/
def aSrcF (f : SF) (te : ATE) : ATE := fun a Q => te a fun x m => if isSrc x = true then match m.s with
  | some S => Q (.d (.int (f.get S))) m
  | none => False else False
def aSrcC (te : ATE) : ATE := fun a Q => te a fun x m => if isSrc x = true then match m.s with
  | some _ => Q .cells m
  | none => False else False
section
variable {X : Cx} {e : Expr} {te : ATE} {pos p2 : Pos} {j : Nat}
theorem q_srcF (f : SF) (hu : X.A.units + 1 < cLine) (h : QE X e te) : QE X (.Subscript e (.Constant (.str f.name) j p2) pos) (aSrcF f te) := fun C hK => PE.imp (pe_dget hu (h C hK) (pe_str (x := f.name)) (fun _ _ => rfl)) fun σ H Q ⟨a, L, Mo, AQ, r, k, h⟩ => by
  refine ⟨a, L, Mo, _, r, fun x m1 v L1 Mo1 H1 h1 b1 v1 e1 => ?_, h⟩
  split at h1
  · rename_i hx
    split at h1
    · rename_i S hs
      obtain ⟨d, c, e2, rfl, h2, h3, ne⟩ := src_d b1 v1 hx hs
      exact ⟨d, .int (f.get S), rfl, .inl ⟨_, .inr f.name, .inl h2, rfl, (srcKv_get f S c).symm⟩, (k.aft e1).ret h1 b1 (.int _)⟩
    · exact h1.elim
  · exact h1.elim
theorem q_srcC (hu : X.A.units + 1 < cLine) (h : QE X e te) : QE X (.Subscript e (.Constant (.str "cells") j p2) pos) (aSrcC te) := fun C hK => PE.imp (pe_dget hu (h C hK) (pe_str (x := "cells")) (fun _ _ => rfl)) fun σ H Q ⟨a, L, Mo, AQ, r, k, h⟩ => by
  refine ⟨a, L, Mo, _, r, fun x m1 v L1 Mo1 H1 h1 b1 v1 e1 => ?_, h⟩
  split at h1
  · rename_i hx
    split at h1
    · rename_i S hs
      obtain ⟨d, c, e2, rfl, h2, h3, ne⟩ := src_d b1 v1 hx hs
      exact ⟨d, .ref c, rfl, .inl ⟨_, .inr "cells", .inl h2, rfl, (srcKv_cells S c).symm⟩, (k.aft e1).ret h1 b1 ⟨d, c, e2, rfl⟩⟩
    · exact h1.elim
  · exact h1.elim
/-- source['left'] = e -/
def aSrcPut (f : SF) (te tv : ATE) : ATS := fun E a => tv a fun y m1 => te ⟨a.g, m1⟩ fun x m2 => if isSrc x = true then match m2.s, y with
  | some S, .d (.int i) => E.nx ⟨a.g, ⟨some (f.put S i), m2.o⟩⟩
  | _, _ => False else False
theorem qs_srcPut {value : Expr} {tv : ATE} {pos' : Pos} (f : SF) (hu : X.A.units + 1 < cLine) (h : QE X e te) (hv : QE X value tv) (hs : swapsWith value (some (.Subscript e (.Constant (.str f.name) j p2) pos')) pos.line X.env = pure false := by rfl) :
    QS X (.Assign [.Subscript e (.Constant (.str f.name) j p2) pos'] value pos) (aSrcPut f te tv) := fun C hK => PS.imp (ps_dput hu (h C hK) (pe_str (x := f.name)) (hv C hK) hs) fun D σ H ⟨a, L, Mo, AD, r, b, h⟩ => by
  refine ⟨a, L, Mo, _, r, fun y m1 w L1 Mo1 H1 h1 b1 w1 e1 => ⟨⟨a.g, m1⟩, L1, Mo1, _, r.next b1 e1, fun x m2 v L2 Mo2 H2 h2 b2 v2 e2 => ?_, h1⟩, h⟩
  split at h2
  · rename_i hx
    split at h2
    · rename_i S i hs
      obtain ⟨d, c, e3, rfl, h3, h4, ne⟩ := src_d b2 v2 hx hs
      subst e3
      have hw := dq_int w1
      subst hw
      have hsr : SrcAt (upd H2 d (.dK (srcKv (f.put S i) c))) (some (f.put S i)) [d, c] := ⟨d, c, rfl, upd_same, by rw [upd_ne ne.symm]; cases f <;> exact h4⟩
      refine ⟨d, _, rfl, .inl ⟨_, .inr f.name, h3, rfl, (show 4 < sizeLine by decide), rfl⟩, ?_⟩
      rw [srcKv_put]
      exact b.nx _ _ _ _ _ h2 ((r.next b1 e1).next b2 e2 |>.next (b2.setS (.inl rfl) hsr) (X2.setS (.inl rfl)))
    · exact h2.elim
  · exact h2.elim
/-- source['cells'].pop() -/
def mPopC : AM := fun x avs m Q => match x, avs with
  | .cells, [] => match m.s with
    | some S => match S.cells.getLast? with
      | some i => Q (.d (.int i)) ⟨some { S with cells := S.cells.dropLast }, m.o⟩
      | none => False
    | none => False
  | _, _ => False
theorem mq_popC : MtQ X "list.pop" mPopC := by
  refine ⟨_, mt_pop, fun C L Mo H m x avs v vs Q AQ hK b r1 r2 k hh => ?_⟩
  unfold mPopC at hh
  split at hh
  · split at hh
    · rename_i S hs
      split at hh
      · rename_i i ei
        cases r2
        obtain ⟨d, c, e1, h1, h2, ne⟩ := b.src hs
        obtain ⟨d', c', e2, rfl⟩ := r1
        rw [e1] at e2; cases e2
        subst e1
        rw [List.getLast?_eq_getElem?] at ei
        have hsr : SrcAt (upd H c (.lst (S.cells.map V.int).dropLast)) (some { S with cells := S.cells.dropLast }) [d, c] := ⟨d, c, rfl, by rw [upd_ne ne]; exact h1, by rw [upd_same, List.map_dropLast]⟩
        refine ⟨c, _, .int i, rfl, rfl, h2, by rw [List.length_map, List.getElem?_map, ei]; rfl, k _ _ _ _ _ _ hh (b.setS (.inr rfl) hsr) (.int _) (X2.setS (.inr rfl))⟩
      · exact hh.elim
    · exact hh.elim
  · exact hh.elim
/-- a list backwards, a new local object -/
def aRevM (te : ATE) : ATE := fun a Q => te a fun x m => match lstA m x with
  | some ds => Q (.o m.o.length) ⟨m.s, m.o ++ [.l ds.reverse]⟩
  | none => False
theorem q_revM {k : Nat} {p1 p2 p3 pos : Pos} (h : QE X e te) : QE X (.Subscript e (.Slice none none (some (.UnaryOp .USub (.Constant (.int 1) k p1) p2)) p3) pos) (aRevM te) := fun C hK => PE.imp (pe_revL (h C hK)) fun σ H Q ⟨a, L, Mo, AQ, r, k, h⟩ => by
  refine ⟨a, L, Mo, _, r, fun x m1 v L1 Mo1 H1 h1 b1 v1 e1 => ?_, h⟩
  split at h1
  · rename_i ds e
    obtain ⟨l, xs, rfl, h2, h3⟩ := lstA_ok b1 v1 e
    exact ⟨l, xs, rfl, SqL.of h2, fun p hp => (k.aft e1).lstM b1 hp h3.rev h1⟩
  · exact h1.elim
def aRev (te : ATE) : ATE := fun a Q => te a fun x m => match lstA m x with
  | some ds => Q (.d (.list ds.reverse)) m
  | none => False
theorem q_rev {k : Nat} {p1 p2 p3 pos : Pos} (h : QE X e te) : QE X (.Subscript e (.Slice none none (some (.UnaryOp .USub (.Constant (.int 1) k p1) p2)) p3) pos) (aRev te) := fun C hK => PE.imp (pe_revL (h C hK)) fun σ H Q ⟨a, L, Mo, AQ, r, k, h⟩ => by
  refine ⟨a, L, Mo, _, r, fun x m1 v L1 Mo1 H1 h1 b1 v1 e1 => ?_, h⟩
  split at h1
  · rename_i ds e
    obtain ⟨l, xs, rfl, h2, h3⟩ := lstA_ok b1 v1 e
    exact ⟨l, xs, rfl, SqL.of h2, fun p hp => (k.aft e1).lst b1 hp h3.rev h1⟩
  · exact h1.elim
/-- {'cells': .., 'left': .., 'mixed': .., 'turn': ..} -/
def aSrcNew (tc tl tm tt : ATE) : ATE := fun a Q => a.m.s = none ∧ tc ⟨a.g, ⟨none, a.m.o ++ [.kd []]⟩⟩ fun x1 m1 => tl ⟨a.g, m1⟩ fun x2 m2 => tm ⟨a.g, m2⟩ fun x3 m3 => tt ⟨a.g, m3⟩ fun x4 m4 => match x1, x2, x3, x4 with
  | .o j, .d (.int l), .d (.int mi), .d (.int tu) => m4.s = none ∧ j = a.m.o.length + 1 ∧ ∃ ns : List Int, m4.o = a.m.o ++ [.kd [], .l (ns.map PyData.int)] ∧ Q .src ⟨some ⟨ns, l, mi, tu⟩, a.m.o⟩
  | _, _, _, _ => False
theorem q_srcNew {e1 e2 e3 e4 : Expr} {t1 t2 t3 t4 : ATE} {p1 p2 p3 p4 : Pos} {j1 j2 j3 j4 : Nat} (h1 : QE X e1 t1) (h2 : QE X e2 t2) (h3 : QE X e3 t3) (h4 : QE X e4 t4) :
    QE X (.Dict [some (.Constant (.str "cells") j1 p1), some (.Constant (.str "left") j2 p2), some (.Constant (.str "mixed") j3 p3), some (.Constant (.str "turn") j4 p4)] [e1, e2, e3, e4] pos) (aSrcNew t1 t2 t3 t4) := fun C hK =>
  PE.imp (pe_disp (pps_cons pe_str (h1 C hK) (pps_cons pe_str (h2 C hK) (pps_cons pe_str (h3 C hK) (pps_cons pe_str (h4 C hK) pps_nil)))) (by rfl) (by rfl) (fun z => by cases z) (show 4 ≤ 15 by decide)) fun σ H Q ⟨a, L, Mo, AQ, r, k, hs, h⟩ => by
    intro p hp
    have hL : L = [] := by
      have q := r.b.sr
      rw [hs] at q; exact q
    subst hL
    have bA : B C ⟨none, a.m.o ++ [.kd []]⟩ [] (Mo ++ [p]) (upd H p (.dK [])) := by
      have := r.b.allocO (o := .kd []) (ho := .dK []) hp fun h' e => ⟨[], upd_same, .nil⟩
      rw [hs] at this; exact this
    have xA : X2 C [] Mo H [] (Mo ++ [p]) (upd H p (.dK [])) := X2.allocO hp
    have rA : R C ⟨a.g, ⟨none, a.m.o ++ [.kd []]⟩⟩ [] (Mo ++ [p]) σ (upd H p (.dK [])) := r.next bA xA
    refine ⟨⟨a.g, ⟨none, a.m.o ++ [.kd []]⟩⟩, [], Mo ++ [p], _, rA, fun x1 m1 v1 L1 Mo1 H1 q1 b1 r1 y1 => ?_, h⟩
    refine ⟨⟨a.g, m1⟩, L1, Mo1, _, rA.next b1 y1, fun x2 m2 v2 L2 Mo2 H2 q2 b2 r2 y2 => ?_, q1⟩
    refine ⟨⟨a.g, m2⟩, L2, Mo2, _, (rA.next b1 y1).next b2 y2, fun x3 m3 v3 L3 Mo3 H3 q3 b3 r3 y3 => ?_, q2⟩
    refine ⟨⟨a.g, m3⟩, L3, Mo3, _, ((rA.next b1 y1).next b2 y2).next b3 y3, fun x4 m4 v4 L4 Mo4 H4 q4 b4 r4 y4 => ?_, q3⟩
    split at q4
    · rename_i l mi tu
      rename_i j
      obtain ⟨es4, rfl, ns, eo, q⟩ := q4
      have hL4 : L4 = [] := by
        have z := b4.sr
        rw [es4] at z; exact z
      subst hL4
      have y14 : X2 C [] (Mo ++ [p]) (upd H p (.dK [])) [] Mo4 H4 := y1.trans (y2.trans (y3.trans y4))
      have hlen : Mo4.length = Mo.length + 2 := by
        have z := Paired.length b4.ob
        rw [eo] at z
        have z2 := Paired.length r.b.ob
        simp at z
        omega
      obtain ⟨tl, htl⟩ := y14.po
      have htl1 : tl.length = 1 := by
        have z := congrArg List.length htl
        simp at z
        omega
      obtain ⟨c, rfl⟩ := List.length_eq_one_iff.mp htl1
      subst htl
      have z2 := Paired.length r.b.ob
      -- the list
      have r1' := ((r1.mono y2).mono y3).mono y4
      obtain ⟨c', hc, rfl⟩ := r1'
      have : c' = c := by
        rw [z2, List.getElem?_append_right (by simp)] at hc
        simp at hc; exact hc.symm
      subst this
      obtain ⟨_, hc2, xs, hx1, hx2⟩ := paired_at (i := a.m.o.length + 1) (a := MO.l (ns.map PyData.int)) b4.ob (by rw [eo]; simp)
      rw [hc] at hc2; cases hc2
      obtain rfl := hx2.ints
      obtain ⟨p', hp1, ys, hp2, hp3⟩ := paired_at (i := a.m.o.length) (a := MO.kd []) b4.ob (by rw [eo]; simp)
      have : p' = p := by
        rw [z2, List.append_assoc, List.getElem?_append_right (by simp)] at hp1
        simp at hp1; exact hp1.symm
      subst this
      cases hp3
      have hv2 := dq_int (r2.mono (y3.trans y4)); have hv3 := dq_int (r3.mono y4); have hv4 := dq_int r4
      subst hv2; subst hv3; subst hv4
      have nd4 := b4.nd
      have ne : p' ≠ c' := by
        intro z; subst z
        have nd5 : (C.Z ++ ([] ++ (Mo ++ [p'] ++ [p']))).Nodup := nd4
        simp [List.nodup_append] at nd5
      refine ⟨hp2, srcKv ⟨ns, l, mi, tu⟩ c', rfl, (show 4 ≤ 15 by decide), ?_⟩
      show Q (.ref p') (upd H4 p' (.dK (srcKv ⟨ns, l, mi, tu⟩ c')))
      have e5 : C.hd [] (Mo ++ [p'] ++ [c']) (upd H4 p' (.dK (srcKv ⟨ns, l, mi, tu⟩ c'))) = C.hd [] (Mo ++ [p'] ++ [c']) H4 := hd_updIn (by simp)
      have e6 : ∀ Hh, C.hd [p', c'] Mo Hh = C.hd [] (Mo ++ [p'] ++ [c']) Hh := fun Hh => hid_congr fun x => by simp only [List.mem_append, List.mem_cons, List.not_mem_nil]; grind
      have hob : Paired (MOk C.K (C.hd [] (Mo ++ [p'] ++ [c']) H4) H4) a.m.o Mo := by
        have z := paired_take a.m.o.length b4.ob
        rw [eo, List.take_left, z2] at z
        have z3 : (Mo ++ [p'] ++ [c']).take Mo.length = Mo := by rw [List.append_assoc, List.take_left]
        rw [z3] at z
        exact z
      have nM : ∀ x ∈ Mo, x ≠ p' := fun x hx z => by
        subst z
        have nd5 : (C.Z ++ ([] ++ (Mo ++ [x] ++ [c']))).Nodup := nd4
        simp [List.nodup_append] at nd5
        grind
      have bN : B C ⟨some ⟨ns, l, mi, tu⟩, a.m.o⟩ [p', c'] Mo (upd H4 p' (.dK (srcKv ⟨ns, l, mi, tu⟩ c'))) := by
        refine ⟨?_, ⟨p', c', rfl, upd_same, by rw [upd_ne ne.symm]; exact hx1⟩, ?_, fun x u g1 g2 => ?_, fun x hx => .inr (b4.no x (by simp at hx; grind)).1, fun x hx => b4.no x (by simp [hx]), b4.zt, ?_⟩
        · have nd5 : (C.Z ++ ([] ++ (Mo ++ [p'] ++ [c']))).Nodup := nd4
          show (C.Z ++ ([p', c'] ++ Mo)).Nodup
          simp only [List.nil_append, List.append_assoc] at nd5 ⊢
          rw [List.nodup_append] at nd5 ⊢
          refine ⟨nd5.1, ?_, fun x hx y hy => nd5.2.2 x hx y (by simp at hy ⊢; grind)⟩
          have n6 := nd5.2.1
          simp [List.nodup_append] at n6 ⊢
          grind
        · rw [e6, e5]
          exact paired_impM hob fun o x hx w => w.mono (Same.refl _) (upd_ne (nM x hx))
        · have g3 := b4.kp x u g1 g2
          rw [upd_ne (fun z => by subst z; rw [(b4.no x (by simp)).1] at g1; cases g1)]
          exact g3
        · rcases b4.l0 with z | z
          · exact .inl z
          · exact .inl z.symm
      refine k _ _ _ _ _ _ q bN ⟨p', c', rfl, rfl⟩ ⟨.inl rfl, List.prefix_rfl, fun x u g => ?_⟩
      have g2 := y14.sm _ _ (xA.sm _ _ g)
      rw [e6, e5]
      exact g2
    · exact q4.elim
end
end QL

namespace QL
open PySem PySem.Spec PyProof.Rows L2

/-- the law: of any script of at most 63 ints it hands back True -/
def lawFn : AFn := fun avs s Q => ∃ ns : List Int, avs = [.scr ns] ∧ s = none ∧ ns.length ≤ 63 ∧ ∀ s', Q (.d (.bool true)) s'
theorem law_runG {P : Program} {w : World} {K : PySem.W.Frag} {mg mb : Str → Option Value} {k : Nat} {fa a : Addr} {fd : FuncData} {x : Str} {s₁ : Shared} {vs : List Value} {ns : List Int}
    (KX : K.In s₁.heap) (hns : s₁.heap.Ns mainGlobals mg) (hb : s₁.heap.Ns builtinsNs mb) (hbb : ∀ x : Str, x ≠ "__name__" → mb x = bootBuiltins x) (hlim : s₁.heap.NoLimit) (hg : s₁.gens = #[])
    (ha : s₁.heap.get? a = some { cls := .type "list", data := .seq vs.toArray }) (hi : IntsAre vs ns) (hl : ns.length ≤ 63) (hr : Room k callerA)
    (F : ∀ base : Heap, K.In base → base.Ns mainGlobals mg → FnG P w K mg base CX0 k fa fd [x] (spOf K 1 lawFn)) (hbind : ∀ (s : Shared) (u : Value), BindsTo s fd ⟨[u], []⟩ [(x, u)]) :
    codeAny (model P w) callerA (.call (.ref fa) ⟨[.ref a], []⟩) (fun r s' => r = .ok (.ret (.bool true)) ∧ OldK s₁.heap s'.heap ∧ s'.os = s₁.os ∧ AllBare s'.gens) s₁ := by
  have hvals := vals_of_ints hi
  have hlen : vs.length = ns.length := hi.length
  have main : ∀ H : Hp, Only H → SqL K H a (ns.map V.int) → HOk P w H s₁.heap → (∀ b, H b ≠ none → b = a) → (H a ≠ none → K.lookup a = none) →
      codeAny (model P w) callerA (.call (.ref fa) ⟨[.ref a], []⟩) (fun r s' => r = .ok (.ret (.bool true)) ∧ OldK s₁.heap s'.heap ∧ s'.os = s₁.os ∧ AllBare s'.gens) s₁ := by
    intro H hO hS hok hA hK
    have baseK : ∀ {b : Addr} {o : Obj}, s₁.heap.get? b = some o → H b = none → (hidT s₁.heap H).get? b = some o := fun e n => hidT_get e n
    have notDict : ∀ {b : Addr} {o : Obj} {es : Array DictEntry} {ep : Nat}, s₁.heap.get? b = some o → o.data = .dict es ep → H b = none := by
      intro b o es ep e d
      cases q : H b with
      | none => rfl
      | some u =>
        have hba := hA b (by simp [q])
        subst hba
        rw [ha] at e
        cases e
        exact nomatch (show Data.seq vs.toArray _ = Data.dict es ep from d)
    have nsB : ∀ {b : Addr} {m : Str → Option Value}, s₁.heap.Ns b m → (hidT s₁.heap H).Ns b m := by
      intro b m ⟨o, es, ep, e, d, r⟩
      exact ⟨o, es, ep, baseK e (notDict e d), d, r⟩
    have kBase : K.In (hidT s₁.heap H) := by
      intro b o e
      apply baseK (KX b o e)
      cases q : H b with
      | none => rfl
      | some u =>
        have hba := hA b (by simp [q])
        subst hba
        rw [hK (by simp [q])] at e
        cases e
    obtain ⟨mc, lim1, lim2⟩ := hlim
    have hM : Mod K mg (hidT s₁.heap H) := ⟨kBase, nsB hns, ⟨mb, nsB hb, hbb⟩, ⟨mc, nsB lim1, lim2⟩⟩
    have env : Env0 P w K mg (hidT s₁.heap H) callerA [] s₁ H :=
      { frames := rfl, mod := hM, bs := fun b o e => of_hidT e, bsz := Nat.le_of_eq (hidT_size _ _), funs := trivial, frf := fun b hb => absurd (show b ∈ ([] : List Addr) from hb) (by simp), hok := hok, bare := .of_eq hg }
    have want : spOf K 1 lawFn [.ref a] H (fun v _ => v = .bl true) (fun _ _ _ => False) := by
      refine ⟨rfl, [], [], none, [.scr ns], fun av _ => av = .d (.bool true), ⟨List.nodup_nil, rfl, fun z hz => by cases hz⟩, .cons ⟨a, rfl, ?_⟩ .nil, ?_, ns, rfl, rfl, hl, fun _ => rfl⟩
      · have e : hid ([] ++ ([] ++ [])) H = H := by funext b; simp [hid]
        show SqL K (hid ([] ++ ([] ++ [])) H) a _
        rw [e]; exact hS
      · rintro av s' v L' H' rfl b r
        exact dq_bl r
    apply codeAny_mono ((F _ kBase (nsB hns)).run callerA [] s₁ H ⟨[.ref a], []⟩ [.ref a] [.ref a] _ _ hr rfl env (hbind s₁ (.ref a)) (.cons rfl .nil) want)
    intro r s' h
    cases r with
    | error e => exact False.elim h
    | ok fl =>
      cases fl with
      | next => exact h.elim
      | brk => exact h.elim
      | cont => exact h.elim
      | ret u =>
        obtain ⟨v, H', os, bare, un, hok', rel, q⟩ := h
        have q' : v = .bl true := q
        subst q'
        have hu : u = Value.bool true := rel
        subst hu
        refine ⟨rfl, OldK.of_keep ?_, os, bare⟩
        intro b o e
        cases q : H b with
        | none => exact un.keep b o e q (fun z => absurd (show b ∈ ([] : List Addr) from z) (by simp)) (by simp)
        | some u =>
          cases hO b with
          | inl z => rw [q] at z; cases z
          | inr z =>
            obtain ⟨ob, xs, z⟩ := z
            have z2 := un.frzs b ob _ z
            have e1 := (hok b _ z).1
            have e2 := (hok' b _ z2).1
            rw [e] at e1
            cases e1
            exact e2
  have hsz : ns.length ≤ sizeLine := Nat.le_trans hl (by decide)
  cases hk : K.lookup a with
  | some o =>
    have e := KX a o hk
    rw [ha] at e
    cases e
    exact main (fun _ => none) (fun _ => .inl rfl) (.inr ⟨_, vs.toArray, _, hk, rfl, rfl, rfl, by rw [List.size_toArray, hlen]; exact hsz, by simpa using hvals⟩)
      (fun b u z => nomatch (show (none : Option HO) = some u from z)) (fun b z => absurd rfl z) (fun z => absurd rfl z)
  | none =>
    have hat : (fun b => if b = a then some (HO.frz { cls := .type "list", data := .seq vs.toArray } (.lst (ns.map V.int))) else none : Hp) a = some (HO.frz { cls := .type "list", data := .seq vs.toArray } (.lst (ns.map V.int))) := if_pos rfl
    apply main (fun b => if b = a then some (.frz { cls := .type "list", data := .seq vs.toArray } (.lst (ns.map V.int))) else none)
    · intro b
      by_cases hb : b = a
      · exact .inr ⟨_, _, if_pos hb⟩
      · exact .inl (if_neg hb)
    · exact .inl (.inr ⟨_, hat⟩)
    · intro b u z
      by_cases hb : b = a
      · have z' := (if_pos hb).symm.trans z
        cases z'
        subst hb
        exact ⟨ha, by simpa using hsz, vs, _, hvals, ha⟩
      · exact nomatch ((if_neg hb).symm.trans z)
    · intro b z
      by_cases hb : b = a
      · exact hb
      · exact absurd (if_neg hb) z
    · intro _
      exact hk
theorem walkG {l : PySem.W.OpenLaw} {k : Nat} {q : Program} {loose : List Str} {XP : (Str → Option Value) → Heap → Prop} {YP : World → Heap → Prop} {d : DefRec} {K : Params → PySem.W.Frag} {x : Str}
    (hn : l.most = some 63) (hdf : d.params.defaults = []) (hr : Room k callerA)
    (hY : ∀ (w : World) (h : Heap), YP w h → (K w.params).In h)
    (F : ∀ (w : World) (mg : Str → Option Value) (fa : Addr) (h : Heap), (K w.params).In h → h.Ns mainGlobals mg → mg d.name = some (.ref fa) →
      ∃ fd : FuncData, (∀ (s : Shared) (u : Value), BindsTo s fd ⟨[u], []⟩ [(x, u)]) ∧
        ∀ base : Heap, (K w.params).In base → base.Ns mainGlobals mg → FnG l.prog w (K w.params) mg base CX0 k fa fd [x] (spOf (K w.params) 1 lawFn)) :
    PySem.W.WalkO q loose XP YP l.row.toRowW d [] (fun f vs => PySem.call f vs) := by
  apply Att.attach_call hn hdf
  intro w s₀ s₁ mg mb fa o pm cd doc a vs ns G Y ho hd hcd hmg hobj hints hlen hg
  have kIn := hY w _ Y
  obtain ⟨fd, hb, hF⟩ := F w mg fa _ kIn G.T.g hmg
  exact law_runG kIn G.T.g G.T.b G.T.builtins G.T.nolimit hg hobj hints hlen hr hF hb
end QL

namespace QL
open PySem PySem.Spec PyProof.Rows L2

/-! ### short words for printed terms -/
abbrev allv : List Nat := List.range 40
theorem qv {X : Cx} (i : Nat) {x : Str} {pos : Pos} (hN : X.N[i]? = some x := by rfl) (hv : Vis X.env.scope x := by first | exact Or.inl rfl | exact Or.inr (Or.inl rfl) | exact Or.inr (Or.inr rfl)) (hd : (x == ("__debug__" : Str)) = false := by decide)
    (hcd : (x == ("__classdict__" : Str)) = false := by decide) : QE X (.Name x pos) (aVar i) := q_var hN hv hd hcd
/-- a module's constant -/
def ConstAt (K : PySem.W.Frag) (mg : Str → Option Value) (x : Str) (d : D) : Prop := ∃ (v : V) (u : Value), mg x = some u ∧ RelV v u ∧ ∀ H, Dq K H v d
theorem q_const {X : Cx} {x : Str} {d : D} {pos : Pos} (h : ConstAt X.K X.mg x d) (hg : Gl X x := by rfl) (hdb : (x == ("__debug__" : Str)) = false := by decide) : QE X (.Name x pos) (aC d) := by
  obtain ⟨v, u, h1, h2, h3⟩ := h
  exact q_glob hg h1 h2 h3 hdb
/-- a def of the text -/
def DefAt (K : PySem.W.Frag) (mg : Str → Option Value) (x : Str) (st : Stmt) (ps : List Str) : Prop := ∃ (f : Addr) (fd : FuncData), mg x = some (.ref f) ∧ Fun K x x st f fd ∧ Binds K fd ps []
/-- a def that keeps its promise -/
def Callee (P : Program) (w : World) (K : PySem.W.Frag) (mg : Str → Option Value) (base : Heap) (x : Str) (k n : Nat) (fn : AFn) : Prop :=
  ∃ (f : Addr) (fd : FuncData) (ps : List Str), mg x = some (.ref f) ∧ PySem.W.keepIn K (.ref f) = true ∧ Binds K fd ps [] ∧ FnG P w K mg base CX0 k f fd ps (spOf K n fn)
section
variable {P : Program} {w : World} {K : PySem.W.Frag} {mg : Str → Option Value} {base : Heap}
theorem DefAt.callee {x : Str} {st : Stmt} {ps N : List Str} {k n : Nat} {fn : AFn} {t : ATS} (Df : DefAt K mg x st ps) (S : FnScope N ps (defScope st)) (hn : ps.length = n)
    (hbody : ∀ (f : Addr) (cdv : Value) (A : Around) (outer : List Env) (s : Shared) (H : Hp) (E : XK), Room k (A.deeper (envOfC x (defScope st) s.heap.objs.size f cdv)) → (A.deeper (envOfC x (defScope st) s.heap.objs.size f cdv)).guards = some [] →
      QSs (cxOf CX0 P w K mg base N x (defScope st) f cdv A outer s H E).nox (defBody st) t)
    (hf : ∀ avs s AQ, fn avs s AQ → t (endsA AQ) ⟨startA N avs, ⟨s, []⟩⟩) : Callee P w K mg base x (k + 1) n fn := by
  obtain ⟨f, fd, h1, h2, h3⟩ := Df
  exact ⟨f, fd, ps, h1, h2.kp, h3, fn_okA h2 S hn (hbody f) hf⟩
theorem Callee.imp {x : Str} {k n : Nat} {fn fn' : AFn} (c : Callee P w K mg base x k n fn) (h : ∀ avs s Q, fn' avs s Q → fn avs s Q) : Callee P w K mg base x k n fn' := by
  obtain ⟨f, fd, ps, h1, h2, h3, F⟩ := c
  exact ⟨f, fd, ps, h1, h2, h3, ⟨fun vs H Q E ⟨e, Z, L, s, avs, AQ, q1, q2, q3, q4⟩ => F.len vs H Q E ⟨e, Z, L, s, avs, AQ, q1, q2, q3, h _ _ _ q4⟩,
    fun A outer s H args us vs Q E hr hg e0 hb hv ⟨e, Z, L, s', avs, AQ, q1, q2, q3, q4⟩ => F.run A outer s H args us vs Q E hr hg e0 hb hv ⟨e, Z, L, s', avs, AQ, q1, q2, q3, h _ _ _ q4⟩⟩⟩
end
section
variable {X : Cx} {k n : Nat} {fn : AFn} {x : Str} {p pos : Pos} {e : Expr} {es : List Expr} {t : ATA}
theorem q_call (c : Callee X.prog X.w X.K X.mg X.base x k n fn) (hr : Room k X.A) (hgd : X.A.guards = some []) (ha : QA X (e :: es) t) (hg : Gl X x := by rfl) (hdb : (x == ("__debug__" : Str)) = false := by decide)
    (he : starEach (e :: es) X.env = (false, eval e X.env) :: starEach es X.env := by rfl) (hpl : (backTo pos (starEach es X.env)).any (·.1) = false := by rfl) : QE X (.Call (.Name x p) (e :: es) [] pos) (aFn n fn t) := by
  obtain ⟨f, fd, ps, h1, h2, h3, F⟩ := c
  exact q_fn F hr hgd hg h1 h2 h3 pass0 ha hdb he hpl
theorem q_call0 (c : Callee X.prog X.w X.K X.mg X.base x k 0 fn) (hr : Room k X.A) (hgd : X.A.guards = some []) (hg : Gl X x := by rfl) (hdb : (x == ("__debug__" : Str)) = false := by decide) : QE X (.Call (.Name x p) [] [] pos) (aFn 0 fn aNil) := by
  obtain ⟨f, fd, ps, h1, h2, h3, F⟩ := c
  exact q_fn0 F hr hgd hg h1 h2 h3 pass0 hdb
/-- the script, walked -/
def aItS (te : ATE) : AIt := fun a Q => te a fun x m => match x with
  | .scr ns => Q (ns.map PyData.int) m
  | _ => False
theorem items_scr {C : Ct} {L Mo : List Addr} {H : Hp} {a : Addr} {ns : List Int} (h : SqL C.K (C.hd L Mo H) a (ns.map V.int)) : ItemsOk C (Itl C.K a) L Mo H (ns.map PyData.int) := fun C2 L1 Mo1 H1 m1 hK b sm => by
  have q : SqL C.K H1 a (ns.map V.int) := hid_same.seq (sm.seq h)
  refine ⟨fun i d e => ?_, _, q, by simp⟩
  obtain ⟨v, h1, h2⟩ := (DqAll.ofInts (K := C.K) (H := H) ns).at e
  refine ⟨⟨_, v, q, h1⟩, fun x H2 ⟨e1, e2⟩ => ?_⟩
  subst e1
  have := e2 _ q
  rw [h1] at this; cases this
  rw [List.getElem?_map] at e
  cases e3 : ns[i]? with
  | none => rw [e3] at e; cases e
  | some z =>
    rw [e3] at e
    cases e
    cases h2
    exact ⟨b, X2.refl, .int _⟩
theorem qi_scr {tg e : Expr} {te : ATE} (h : QE X e te) : QI X tg e (aItS te) := fun C hK => PI.imp (pi_list (h C hK)) fun σ H R' ⟨a, L, Mo, AQ, r, k, h⟩ => by
  refine ⟨a, L, Mo, _, r, fun x m1 v L1 Mo1 H1 h1 b1 v1 e1 => ?_, h⟩
  split at h1
  · obtain ⟨l, rfl, q⟩ := v1
    exact ⟨_, rfl, ⟨_, hK ▸ hid_same.seq q⟩, k _ _ _ _ _ _ h1 b1 e1 (hK ▸ items_scr q)⟩
  · exact h1.elim
end
theorem bt_len : bootBuiltins "len" = some (.builtin "len") := by decide +kernel
theorem bt_abs : bootBuiltins "abs" = some (.builtin "abs") := by decide +kernel
theorem bt_int : bootBuiltins "int" = some (.type "int") := by decide +kernel
theorem bt_tuple : bootBuiltins "tuple" = some (.type "tuple") := by decide +kernel
theorem bt_list : bootBuiltins "list" = some (.type "list") := by decide +kernel
theorem bt_dict : bootBuiltins "dict" = some (.type "dict") := by decide +kernel
theorem bt_str : bootBuiltins "str" = some (.type "str") := by decide +kernel
theorem bt_max : bootBuiltins "max" = some (.builtin "max") := by decide +kernel
theorem bt_min : bootBuiltins "min" = some (.builtin "min") := by decide +kernel
theorem bt_sum : bootBuiltins "sum" = some (.builtin "sum") := by decide +kernel
theorem bt_repr : bootBuiltins "repr" = some (.builtin "repr") := by decide +kernel
theorem bt_sorted : bootBuiltins "sorted" = some (.builtin "sorted") := by decide +kernel
theorem bt_all : bootBuiltins "all" = some (.builtin "all") := by decide +kernel
theorem bt_any : bootBuiltins "any" = some (.builtin "any") := by decide +kernel
theorem bt_isinstance : bootBuiltins "isinstance" = some (.builtin "isinstance") := by decide +kernel
end QL

namespace QL
open PySem PySem.Spec PyProof.Rows L2

/-! ### slices -/
abbrev ATO := AS → (Option Int → Mm → Prop) → Prop
def lftO (C : Ct) (t : ATO) : TO := fun σ H Q => ∃ a L Mo AQ, R C a L Mo σ H ∧ (∀ i m' L' Mo' H', AQ i m' → B C m' L' Mo' H' → X2 C L Mo H L' Mo' H' → Q i H') ∧ t a AQ
theorem PO.imp {X : Cx} {e : Option Expr} {t t' : TO} (h : PO X e t) (i : ∀ σ H Q, t' σ H Q → t σ H Q) : PO X e t' := ⟨fun pins s σ H Q I q => h.run pins s σ H Q I (i σ H Q q)⟩
def QO (X : Cx) (e : Option Expr) (t : ATO) : Prop := ∀ C : Ct, C.K = X.K → PO X e (lftO C t)
def aNoPart : ATO := fun a Q => Q none a.m
def aPart (t : ATE) : ATO := fun a Q => t a fun x m => match x with
  | .d (.int i) => Q (some i) m
  | _ => False
def cutD (ds : List D) (lo hi : Option Int) : List D := (ds.drop (HT.sIx ds.length 0 lo)).take (HT.sIx ds.length ds.length hi - HT.sIx ds.length 0 lo)
def aSlice (te : ATE) (tl th : ATO) : ATE := fun a Q => te a fun x m1 => tl ⟨a.g, m1⟩ fun lo m2 => th ⟨a.g, m2⟩ fun hi m3 => match tupA x with
  | some ds => Q (.d (.tuple (cutD ds lo hi))) m3
  | none => match lstA m3 x with
    | some ds => Q (.d (.list (cutD ds lo hi))) m3
    | none => False
section
variable {X : Cx} {e : Expr} {te : ATE} {lo hi : Option Expr} {tl th : ATO} {pos p2 : Pos}
theorem qo_none : QO X none aNoPart := fun C hK => PO.imp po_none fun σ H Q ⟨a, L, Mo, AQ, r, k, h⟩ => k _ _ _ _ _ h r.b X2.refl
theorem qo_some {e : Expr} (h : QE X e te) : QO X (some e) (aPart te) := fun C hK => PO.imp (po_some (h C hK)) fun σ H Q ⟨a, L, Mo, AQ, r, k, h⟩ => by
  refine ⟨a, L, Mo, _, r, fun x m1 v L1 Mo1 H1 h1 b1 v1 e1 => ?_, h⟩
  split at h1
  · exact ⟨_, dq_int v1, k _ _ _ _ _ h1 b1 e1⟩
  · exact h1.elim
theorem tupA_eq {x : AV} {ds : List D} (h : tupA x = some ds) : x = .d (.tuple ds) := by
  cases x with
  | d y => cases y <;> simp [tupA] at h; subst h; rfl
  | o j => simp [tupA] at h
  | src => simp [tupA] at h
  | cells => simp [tupA] at h
  | scr ns => simp [tupA] at h
  | kt ns => simp [tupA] at h
  | dt ns => simp [tupA] at h
theorem cut_ok {K : PySem.W.Frag} {H : Hp} {xs : List V} {ds : List D} {lo hi : Option Int} (h : DqAll K H xs ds) : DqAll K H (cutV xs lo hi) (cutD ds lo hi) := by
  unfold cutV cutD
  rw [h.len]
  exact (h.drop _).take _
theorem q_slice (h : QE X e te) (hl : QO X lo tl) (hu : QO X hi th) : QE X (.Subscript e (.Slice lo hi none p2) pos) (aSlice te tl th) := fun C hK =>
  PE.imp (pe_slice (SlR.or sl_tupA sl_list) (h C hK) (hl C hK) (hu C hK)) fun σ H Q ⟨a, L, Mo, AQ, r, k, h⟩ => by
  refine ⟨a, L, Mo, _, r, fun x m1 v L1 Mo1 H1 h1 b1 v1 e1 => ⟨⟨a.g, m1⟩, L1, Mo1, _, r.next b1 e1, fun l m2 L2 Mo2 H2 h2 b2 e2 => ⟨⟨a.g, m2⟩, L2, Mo2, _, (r.next b1 e1).next b2 e2, fun u m3 L3 Mo3 H3 h3 b3 e3 => ?_, h2⟩, h1⟩, h⟩
  have v3 := (v1.mono e2).mono e3
  have kk := k.aft (e1.trans (e2.trans e3))
  split at h3
  · rename_i ds e
    obtain ⟨l', xs, rfl, q1, q2⟩ := tupA_ok v3 e
    refine .inl ⟨l', xs, rfl, hK ▸ q1, fun hw => ?_, fun _ p hp => kk.tup b3 hp (cut_ok q2) h3⟩
    have : cutD ds l u = ds := by
      unfold cutD
      rw [← q2.len, hw.1, hw.2]
      simp [q2.len]
    rw [this] at h3
    rw [tupA_eq e] at v3
    exact kk.ret h3 b3 v3
  · split at h3
    · rename_i ds e
      obtain ⟨l', xs, rfl, q1, q2⟩ := lstA_ok b3 v3 e
      exact .inr ⟨l', xs, rfl, SqL.of q1, fun p hp => kk.lst b3 hp (cut_ok q2) h3⟩
    · exact h3.elim
end

/-! ### dicts by ints and texts, as local objects -/
def putD {κ : Type} [DecidableEq κ] (kvs : List (κ × D)) (k : κ) (v : D) : List (κ × D) :=
  if (kvs.any fun kv => decide (kv.1 = k)) = true then kvs.map (fun kv => if kv.1 = k then (kv.1, v) else kv) else kvs ++ [(k, v)]
def valD {κ : Type} [DecidableEq κ] (kvs : List (κ × D)) (k : κ) : Option D := (kvs.find? fun kv => decide (kv.1 = k)).map (·.2)
section
variable {κ : Type} [DecidableEq κ] {K : PySem.W.Frag} {h : Hp}
theorem KQ.any {ys : List (κ × V)} {kvs : List (κ × D)} (q : KQ K h ys kvs) (k : κ) : (ys.any fun kv => decide (kv.1 = k)) = (kvs.any fun kv => decide (kv.1 = k)) := by
  induction q with
  | nil => rfl
  | cons a b ih => rw [List.any_cons, List.any_cons, ih, a.1]
theorem KQ.mapPut {k : κ} {v : V} {d : D} (r : Dq K h v d) {l : List (κ × V)} {l' : List (κ × D)} (q : KQ K h l l') : KQ K h (l.map fun kv => if kv.1 = k then (kv.1, v) else kv) (l'.map fun kv => if kv.1 = k then (kv.1, d) else kv) := by
  induction q with
  | nil => exact .nil
  | cons a b ih =>
    rename_i p p' l l'
    obtain ⟨e, f⟩ := a
    rw [List.map_cons, List.map_cons]
    refine .cons ?_ ih
    by_cases hk : p.1 = k
    · simp only [if_pos hk, if_pos (e ▸ hk : p'.1 = k)]; exact ⟨e, r⟩
    · simp only [if_neg hk, if_neg (fun z => hk (e.trans z) : ¬ p'.1 = k)]; exact ⟨e, f⟩
theorem KQ.put {ys : List (κ × V)} {kvs : List (κ × D)} {k : κ} {v : V} {d : D} (q : KQ K h ys kvs) (r : Dq K h v d) : KQ K h (putK ys k v) (putD kvs k d) := by
  unfold putK putD
  rw [q.any k]
  split
  · exact q.mapPut r
  · exact paired_app q (.cons ⟨rfl, r⟩ .nil)
theorem KQ.val {ys : List (κ × V)} {kvs : List (κ × D)} (q : KQ K h ys kvs) (k : κ) : (valV ys k = none ∧ valD kvs k = none) ∨ ∃ v d, valV ys k = some v ∧ valD kvs k = some d ∧ Dq K h v d := by
  induction q with
  | nil => exact .inl ⟨rfl, rfl⟩
  | cons a b ih =>
    rename_i p p' l l'
    obtain ⟨e, f⟩ := a
    by_cases hk : p.1 = k
    · have hk' : p'.1 = k := e ▸ hk
      exact .inr ⟨p.2, p'.2, by simp [valV, List.find?_cons, hk], by simp [valD, List.find?_cons, hk'], f⟩
    · have hk' : ¬ p'.1 = k := fun z => hk (e.trans z)
      have e1 : valV (p :: l) k = valV l k := by simp [valV, List.find?_cons, hk]
      have e2 : valD (p' :: l') k = valD l' k := by simp [valD, List.find?_cons, hk']
      rw [e1, e2]; exact ih
theorem KQ.keys {ys : List (κ × V)} {kvs : List (κ × D)} (q : KQ K h ys kvs) : ys.map (·.1) = kvs.map (·.1) := by
  induction q with
  | nil => rfl
  | cons a b ih => simp [ih, a.1]
theorem KQ.length {ys : List (κ × V)} {kvs : List (κ × D)} (q : KQ K h ys kvs) : ys.length = kvs.length := Paired.length q
end
def mergeD (kvs more : List (Key × D)) : List (Key × D) := more.foldl (fun acc kv => putD acc kv.1 kv.2) kvs
theorem KQ.merge {K : PySem.W.Frag} {h : Hp} : ∀ {more : List (Key × V)} {md : List (Key × D)} {ys : List (Key × V)} {kvs : List (Key × D)}, KQ K h more md → KQ K h ys kvs → KQ K h (mergeK ys more) (mergeD kvs md)
  | _, _, _, _, .nil, q => q
  | _, _, _, _, .cons a t, q => by
    rename_i p p' l l'
    have := KQ.merge t (q.put (k := p.1) a.2)
    show KQ K h (mergeK (putK _ p.1 p.2) l) (mergeD (putD _ p'.1 p'.2) l')
    rw [← a.1]; exact this
def keyD : D → Option Key
  | .int i => some (.inl i)
  | .str x => some (.inr x)
  | _ => none
def pairsD : List D → Option (List (Key × D))
  | [] => some []
  | .tuple [k, v] :: r => match keyD k, pairsD r with
    | some k, some l => some ((k, v) :: l)
    | _, _ => none
  | _ => none
theorem keyD_ok {K : PySem.W.Frag} {h : Hp} {v : V} {d : D} {k : Key} (r : Dq K h v d) (e : keyD d = some k) : v = kV k := by
  cases d <;> simp [keyD] at e
  · subst e; exact dq_int r
  · subst e; exact dq_str r
theorem pairsD_ok {K : PySem.W.Frag} {h : Hp} : ∀ {ds : List D} {xs : List V} {kvs : List (Key × D)}, DqAll K h xs ds → pairsD ds = some kvs → ∃ (ps : List Addr) (ys : List (Key × V)), xs = ps.map V.ref ∧ Paired (fun p kv => SqT K h p [kV kv.1, kv.2]) ps ys ∧ KQ K h ys kvs
  | [], _, _, r, e => by cases e; cases r; exact ⟨[], [], rfl, .nil, .nil⟩
  | d :: ds, _, _, r, e => by
    cases r with
    | cons r1 r2 =>
      unfold pairsD at e
      split at e
      · rename_i h1; cases h1
      · rename_i k v rr h1
        cases h1
        split at e
        · rename_i k' l e1 e2
          cases e
          obtain ⟨ps, ys, rfl, h2, h3⟩ := pairsD_ok r2 e2
          cases r1 with
          | tup q1 q2 =>
            cases q2 with
            | cons q3 q4 =>
              cases q4 with
              | cons q5 q6 =>
                cases q6
                have hk := keyD_ok q3 e1
                subst hk
                exact ⟨_ :: ps, (k', _) :: ys, rfl, .cons q1 h2, .cons ⟨rfl, q5⟩ h3⟩
        · cases e
      · cases e
section
variable {X : Cx}
/-- dict(pairs) -/
def bDict : AC1 := fun avs m Q => match avs with
  | [x] => match lstA m x with
    | some ds => match pairsD ds with
      | some kvs => Q (.o m.o.length) ⟨m.s, m.o ++ [.kd (mergeD [] kvs)]⟩
      | none => False
    | none => False
  | _ => False
theorem cq_dict (hc : X.calm = true) : CallQ X (.type "dict") bDict := by
  refine ⟨_, call_dictP hc, fun C L Mo H m avs vs Q AQ hK b r k hh => ?_⟩
  unfold bDict at hh
  split at hh
  · split at hh
    · rename_i ds e
      split at hh
      · rename_i kvs e2
        obtain ⟨v, rfl, rv⟩ := av1 r
        obtain ⟨l, xs, rfl, h1, h2⟩ := lstA_ok b rv e
        obtain ⟨ps, ys, rfl, h3, h4⟩ := pairsD_ok h2 e2
        refine ⟨l, ps, ys, rfl, SqL.of h1, hK ▸ Paired.mapP h3 fun a c q => same_tup hid_same q, fun p hp => ?_⟩
        exact k _ _ _ _ _ _ hh (b.allocO (o := .kd (mergeD [] kvs)) hp fun h' e => ⟨_, upd_same, (KQ.merge h4 .nil).mono e⟩) ⟨p, by rw [Paired.length b.ob]; simp, rfl⟩ (X2.allocO hp)
      · exact hh.elim
    · exact hh.elim
  · exact hh.elim
/-- sorted(d), the keys ints -/
def intKeys : List (Key × D) → Option (List Int)
  | [] => some []
  | (.inl i, _) :: r => match intKeys r with
    | some l => some (i :: l)
    | none => none
  | _ => none
theorem intKeys_ok : ∀ {kvs : List (Key × D)} {ks : List Int}, intKeys kvs = some ks → kvs.map (·.1) = ks.map Sum.inl
  | [], _, e => by cases e; rfl
  | (.inl i, _) :: r, _, e => by
    simp only [intKeys] at e
    split at e
    · rename_i l e2; cases e; simp [intKeys_ok e2]
    · cases e
  | (.inr x, _) :: r, _, e => by simp [intKeys] at e
def bSortD : AC1 := fun avs m Q => match avs with
  | [.o j] => match m.o[j]? with
    | some (.kd kvs) => match intKeys kvs with
      | some ks => ks.length < 64 ∧ ∀ ns : List Int, ns.Perm ks → ns.Pairwise (· ≤ ·) → Q (.d (.list (ns.map PyData.int))) m
      | none => False
    | _ => False
  | _ => False
theorem cq_sortD (hc : X.calm = true) : CallQ X (.builtin "sorted") bSortD := by
  refine ⟨_, call_sortedDI hc, fun C L Mo H m avs vs Q AQ hK b r k hh => ?_⟩
  unfold bSortD at hh
  split at hh
  · split at hh
    · rename_i kvs e
      split at hh
      · rename_i ks e2
        obtain ⟨v, rfl, rv⟩ := av1 r
        obtain ⟨l, rfl, hl, ys, h3, h4⟩ := o_at b rv e
        exact ⟨l, ys, ks, rfl, .inl h3, h4.keys.trans (intKeys_ok e2), hh.1, fun ns p h5 h6 hp => k.lst b hp (DqAll.ofInts ns) (hh.2 ns h5 h6)⟩
      · exact hh.elim
    · exact hh.elim
  · exact hh.elim
end

/-! ### for the pure side -/
theorem endsA_nx (AQ : AV → Option Src → Prop) (a : AS) : (endsA AQ).nx a = AQ (.d .none) a.m.s := rfl
theorem endsA_rt_d (AQ : AV → Option Src → Prop) (x : D) (m : Mm) : (endsA AQ).rt (.d x) m = AQ (.d x) m.s := rfl
theorem endsA_rt_src (AQ : AV → Option Src → Prop) (m : Mm) : (endsA AQ).rt .src m = AQ .src m.s := rfl
theorem endsA_rt_o (AQ : AV → Option Src → Prop) (j : Nat) (s : Option Src) (o : List MO) (ds : List D) (h : o[j]? = some (.l ds)) : (endsA AQ).rt (.o j) ⟨s, o⟩ = AQ (.d (.list ds)) s := by
  simp [endsA, fzV, h]
theorem endsA_rt_kd (AQ : AV → Option Src → Prop) (j : Nat) (s : Option Src) (o : List MO) (ds : List (Key × D)) (h : o[j]? = some (.kd ds)) : (endsA AQ).rt (.o j) ⟨s, o⟩ = AQ (.d (.dict (kvD ds))) s := by
  simp [endsA, fzV, h]
theorem endsA_rt_td (AQ : AV → Option Src → Prop) (j : Nat) (s : Option Src) (o : List MO) (ds : List (List Key × D)) (h : o[j]? = some (.td ds)) : (endsA AQ).rt (.o j) ⟨s, o⟩ = AQ (.dt ds) s := by
  simp [endsA, fzV, h]
/-- one turn of a comprehension -/
def stepC (g : ATG) (tt : ATT) (te : ATE) (g0 : List (Option AV)) (d : D) (m : Mm) (K : Option D → Mm → Prop) : Prop := g (.d d) m g0 fun g' => tt ⟨g', m⟩ fun b m1 => if b = true then te ⟨g', m1⟩ fun y m2 => (match y with
  | .d e => K (some e) m2
  | _ => False) else K none m1
theorem aLcL_step {g : ATG} {tt : ATT} {te : ATE} {g0 : List (Option AV)} {d : D} {r acc : List D} {m : Mm} {Q : List D → Mm → Prop}
    (h : stepC g tt te g0 d m fun o m2 => match o with | some e => aLcL g tt te g0 r (acc ++ [e]) m2 Q | none => aLcL g tt te g0 r acc m2 Q) : aLcL g tt te g0 (d :: r) acc m Q := h
theorem aLcL_pure0 {g : ATG} {tt : ATT} {te : ATE} {g0 : List (Option AV)} {m : Mm} {Q : List D → Mm → Prop} (f : D → Option D) : ∀ (ds acc : List D), (∀ d ∈ ds, ∀ K, K (f d) m → stepC g tt te g0 d m K) → Q (acc ++ ds.filterMap f) m → aLcL g tt te g0 ds acc m Q
  | [], acc, _, h => by simpa [aLcL] using h
  | d :: r, acc, hs, h => by
    refine aLcL_step (hs d List.mem_cons_self _ ?_)
    cases e : f d with
    | none => exact aLcL_pure0 f r acc (fun d' hd => hs d' (List.mem_cons_of_mem _ hd)) (by simpa [List.filterMap_cons, e] using h)
    | some y => exact aLcL_pure0 f r (acc ++ [y]) (fun d' hd => hs d' (List.mem_cons_of_mem _ hd)) (by simpa [List.filterMap_cons, e] using h)
/-- a comprehension that reckons -/
theorem aLcL_pure {g : ATG} {tt : ATT} {te : ATE} {g0 : List (Option AV)} {m : Mm} {Q : List D → Mm → Prop} {ds : List D} (f : D → Option D) (hs : ∀ d ∈ ds, ∀ K, K (f d) m → stepC g tt te g0 d m K) (h : Q (ds.filterMap f) m) : aLcL g tt te g0 ds [] m Q :=
  aLcL_pure0 f ds [] hs h
/-- a comprehension with an invariant -/
theorem aLcL_inv0 {g : ATG} {tt : ATT} {te : ATE} {g0 : List (Option AV)} {Q : List D → Mm → Prop} (I : Nat → List D → Mm → Prop) : ∀ (ds : List D) (i : Nat) (acc : List D) (m : Mm), I i acc m → (∀ (j : Nat) (d : D) acc m K, d ∈ ds → I j acc m → (∀ e m', I (j + 1) (acc ++ [e]) m' → K (some e) m') → (∀ m', I (j + 1) acc m' → K none m') → stepC g tt te g0 d m K) →
    (∀ acc m, I (i + ds.length) acc m → Q acc m) → aLcL g tt te g0 ds acc m Q
  | [], i, acc, m, h, _, hq => hq acc m (by simpa using h)
  | d :: r, i, acc, m, h, hs, hq => aLcL_step (hs i d acc m _ List.mem_cons_self h
      (fun e m' h' => aLcL_inv0 I r (i + 1) _ m' h' (fun j d' acc m K hd => hs j d' acc m K (List.mem_cons_of_mem _ hd)) fun acc m q => hq acc m (by rw [List.length_cons, show i + (r.length + 1) = i + 1 + r.length by omega]; exact q))
      (fun m' h' => aLcL_inv0 I r (i + 1) _ m' h' (fun j d' acc m K hd => hs j d' acc m K (List.mem_cons_of_mem _ hd)) fun acc m q => hq acc m (by rw [List.length_cons, show i + (r.length + 1) = i + 1 + r.length by omega]; exact q)))
theorem aLcL_inv {g : ATG} {tt : ATT} {te : ATE} {g0 : List (Option AV)} {Q : List D → Mm → Prop} {ds : List D} {m : Mm} (I : Nat → List D → Mm → Prop) (h0 : I 0 [] m) (hs : ∀ (j : Nat) (d : D) acc m K, d ∈ ds → I j acc m → (∀ e m', I (j + 1) (acc ++ [e]) m' → K (some e) m') → (∀ m', I (j + 1) acc m' → K none m') → stepC g tt te g0 d m K)
    (hq : ∀ acc m, I ds.length acc m → Q acc m) : aLcL g tt te g0 ds [] m Q := aLcL_inv0 I ds 0 [] m h0 hs fun acc m q => hq acc m (by simpa using q)
theorem aForL_nil {n : Nat} {fs : List Nat} {g : ATG} {tb : ATS} {E : AEnds} {a : AS} (h : E.nx a) : aForL n fs g tb E [] a := h
end QL

namespace QL
open PySem PySem.Spec PyProof.Rows L2
/-! ### lists of anything told as data -/
def intR (lo : Int) (n : Nat) : List Int := (List.range n).map fun k : Nat => lo + (k : Int)
theorem rngD_eq (lo : Int) (n : Nat) : rngD lo n = (intR lo n).map PyData.int := by
  unfold rngD intR
  rw [List.map_map]
  rfl
theorem mem_intR {lo : Int} {n : Nat} {i : Int} (h : i ∈ intR lo n) : lo ≤ i ∧ i < lo + n := by
  obtain ⟨k, h1, rfl⟩ := List.mem_map.mp h
  have := List.mem_range.mp h1
  omega
theorem intR_len (lo : Int) (n : Nat) : (intR lo n).length = n := by simp [intR]
theorem aLcL_map {β : Type} {g : ATG} {tt : ATT} {te : ATE} {g0 : List (Option AV)} {m : Mm} {Q : List D → Mm → Prop} {xs : List β} (e : β → D) (c : β → Bool) (v : β → D)
    (hs : ∀ x ∈ xs, ∀ K, K (if c x = true then some (v x) else none) m → stepC g tt te g0 (e x) m K) (h : Q ((xs.filter c).map v) m) : aLcL g tt te g0 (xs.map e) [] m Q := by
  have go : ∀ (xs : List β) (acc : List D), (∀ x ∈ xs, ∀ K, K (if c x = true then some (v x) else none) m → stepC g tt te g0 (e x) m K) → Q (acc ++ (xs.filter c).map v) m → aLcL g tt te g0 (xs.map e) acc m Q := by
    intro xs
    induction xs with
    | nil => intro acc _ h; simpa [aLcL] using h
    | cons x xs ih =>
      intro acc hs h
      rw [List.map_cons]
      refine aLcL_step (hs x List.mem_cons_self _ ?_)
      by_cases hc : c x = true
      · simp only [hc, if_true]
        exact ih _ (fun y hy => hs y (List.mem_cons_of_mem _ hy)) (by simpa [List.filter_cons, hc] using h)
      · simp only [hc, if_false]
        exact ih _ (fun y hy => hs y (List.mem_cons_of_mem _ hy)) (by simpa [List.filter_cons, hc] using h)
  exact go xs [] hs (by simpa using h)
/-- .. without a test -/
theorem aLcL_all {β : Type} {g : ATG} {tt : ATT} {te : ATE} {g0 : List (Option AV)} {m : Mm} {Q : List D → Mm → Prop} {xs : List β} (e : β → D) (v : β → D)
    (hs : ∀ x ∈ xs, ∀ K, K (some (v x)) m → stepC g tt te g0 (e x) m K) (h : Q (xs.map v) m) : aLcL g tt te g0 (xs.map e) [] m Q :=
  by
    have e1 : xs.filter (fun _ => true) = xs := List.filter_eq_self.mpr (by simp)
    exact aLcL_map e (fun _ => true) v (fun x hx K hK => hs x hx K (by simpa using hK)) (by rw [e1]; exact h)
/-- a for that keeps an invariant and does not leave: behind i items I i holds -/
theorem sub64 : (9223372036854775808 : Int) = 2 ^ 63 := by decide
theorem Rg.of {j : Int} (h1 : -4611686018427387904 ≤ j) (h2 : j < 4611686018427387904) : Rg j := ⟨by simpa using h1, by simpa using h2⟩
theorem MulOk.l {i j : Int} (h1 : -18446744073709551616 < i) (h2 : i < 18446744073709551616) : MulOk i j := .inl (.inl ⟨by simpa using h1, by simpa using h2⟩)
theorem MulOk.r {i j : Int} (h1 : -18446744073709551616 < j) (h2 : j < 18446744073709551616) : MulOk i j := .inl (.inr ⟨by simpa using h1, by simpa using h2⟩)
/-! data of plain things -/
theorem shaped_int (i : Int) : SeqAt.shaped (.int i) = true := rfl
end QL

namespace QL
open PySem PySem.Spec PyProof.Rows L2
/-! ### what repr asks, made easy -/
mutual
def IntsB : D → Prop
  | .none => True
  | .bool _ => True
  | .int i => i.natAbs.log2 < 1900
  | .str x => ∀ c ∈ x.cps.toList, c < 16 ^ 8
  | .list xs => IntsBs xs
  | .tuple xs => IntsBs xs
  | .dict _ => False
def IntsBs : List D → Prop
  | [] => True
  | x :: xs => IntsB x ∧ IntsBs xs
end
mutual
theorem IntsB.show_ : ∀ d : D, IntsB d → d.showable = true ∧ d.leavesShort 2000 = true
  | .none, _ => ⟨rfl, rfl⟩
  | .bool _, _ => ⟨rfl, rfl⟩
  | .int i, h => by
    have h' : i.natAbs.log2 < 1900 := h
    refine ⟨by simp [PyData.showable]; omega, ?_⟩
    have e := int_text_length_le (k := 1900) (by decide) h'
    simp only [PyData.leavesShort, decide_eq_true_eq]
    show (Str.ofString (toString i)).length ≤ 2000
    rw [PySem.ofString_length]; omega
  | .str x, h => by
    refine ⟨rfl, ?_⟩
    simp only [PyData.leavesShort, List.all_eq_true, decide_eq_true_eq]
    exact h
  | .list xs, h => by
    obtain ⟨h1, h2⟩ := IntsBs.show_ xs h
    exact ⟨by simpa [PyData.showable] using h1, by simpa [PyData.leavesShort] using h2⟩
  | .tuple xs, h => by
    obtain ⟨h1, h2⟩ := IntsBs.show_ xs h
    exact ⟨by simpa [PyData.showable] using h1, by simpa [PyData.leavesShort] using h2⟩
  | .dict _, h => h.elim
theorem IntsBs.show_ : ∀ ds : List D, IntsBs ds → PyData.showableAll ds = true ∧ PyData.leavesShortAll 2000 ds = true
  | [], _ => ⟨rfl, rfl⟩
  | d :: ds, h => by
    obtain ⟨h1, h2⟩ := IntsB.show_ d h.1
    obtain ⟨h3, h4⟩ := IntsBs.show_ ds h.2
    exact ⟨by simp [PyData.showableAll, h1, h3], by simp [PyData.leavesShortAll, h2, h4]⟩
end
mutual
theorem IntsB.noDict : ∀ d : D, IntsB d → d.hasDict = false
  | .none, _ => by simp [PyData.hasDict]
  | .bool _, _ => by simp [PyData.hasDict]
  | .int _, _ => by simp [PyData.hasDict]
  | .str _, _ => by simp [PyData.hasDict]
  | .list xs, h => by simp only [PyData.hasDict]; exact IntsBs.noDict xs h
  | .tuple xs, h => by simp only [PyData.hasDict]; exact IntsBs.noDict xs h
  | .dict _, h => h.elim
theorem IntsBs.noDict : ∀ ds : List D, IntsBs ds → PyData.hasDictAll ds = false
  | [], _ => by simp [PyData.hasDictAll]
  | d :: ds, h => by simp [PyData.hasDictAll, IntsB.noDict d h.1, IntsBs.noDict ds h.2]
end
theorem RepOk.of {d : D} (h : IntsB d) (hd : d.depth ≤ 64) (hb : d.bulk ≤ 8000) : RepOk d := by
  obtain ⟨h1, h2⟩ := h.show_
  refine ⟨h.noDict, h1, hd, ?_⟩
  have e := PyData.shown_le_bulk 2000 (by decide) d h2
  rw [sizeLine_eq]
  omega
/-- an int of up to 1899 bits -/
theorem log_small {i : Int} (h : i.natAbs < 2 ^ 1899) : i.natAbs.log2 < 1900 := by
  by_cases h0 : i.natAbs = 0
  · rw [h0]; decide
  · have := (Nat.log2_lt h0).mpr h
    omega
theorem log_64 {i : Int} (h1 : -18446744073709551616 < i) (h2 : i < 18446744073709551616) : i.natAbs.log2 < 1900 := by
  have e : (2 : Nat) ^ 64 = 18446744073709551616 := by decide
  have h : i.natAbs < 2 ^ 64 := by omega
  exact log_small (Nat.lt_of_lt_of_le h (Nat.pow_le_pow_right (by decide) (by decide)))
end QL

namespace QL
open PySem PySem.Spec PyProof.Rows L2

/-! ### dicts as data and as local objects -/
def unK : List (D × D) → List (Key × D)
  | [] => []
  | (k, d) :: r => match keyD k with
    | some k => (k, d) :: unK r
    | none => unK r
theorem keyD_kD (k : Key) : keyD (kD k) = some k := by cases k <;> rfl
theorem unK_kvD : ∀ kvs : List (Key × D), unK (kvD kvs) = kvs
  | [] => rfl
  | (k, d) :: r => by
    show unK ((kD k, d) :: kvD r) = _
    unfold unK
    rw [keyD_kD, unK_kvD r]
theorem DqK.un {K : PySem.W.Frag} {h : Hp} : ∀ {kvs : List (D × D)} {ys : List (Key × V)}, DqK K h ys kvs → KQ K h ys (unK kvs)
  | [], _, q => by cases q; exact .nil
  | (k, d) :: r, _, q => by
    cases q with
    | cons q1 q2 =>
      unfold unK
      rw [keyD_kD]
      exact .cons ⟨rfl, q1⟩ (DqK.un q2)
/-- a dict by ints and texts -/
def dkA (m : Mm) : AV → Option (List (Key × D))
  | .d (.dict kvs) => some (unK kvs)
  | .o j => match m.o[j]? with
    | some (.kd kvs) => some kvs
    | _ => none
  | _ => none
/-- a dict by tuples -/
def dtA (m : Mm) : AV → Option (List (List Key × D))
  | .dt kvs => some kvs
  | .o j => match m.o[j]? with
    | some (.td kvs) => some kvs
    | _ => none
  | _ => none
def keyA : AV → Option Key
  | .d d => keyD d
  | _ => none
section
variable {C : Ct} {m : Mm} {L Mo : List Addr} {H : Hp} {x : AV} {v : V}
theorem dkA_ok {kvs : List (Key × D)} (b : B C m L Mo H) (r : AVR C L Mo H x v) (h : dkA m x = some kvs) : ∃ l ys, v = .ref l ∧ H l = some (.dK ys) ∧ KQ C.K (C.hd L Mo H) ys kvs := by
  cases x with
  | d y =>
    cases y <;> simp [dkA] at h
    subst h
    cases r with
    | dk h1 h2 => exact ⟨_, _, rfl, (hid_some h1).2, DqK.un h2⟩
  | o j =>
    simp only [dkA] at h
    split at h
    · rename_i kvs' e
      cases h
      obtain ⟨l, rfl, _, ys, h3, h4⟩ := o_at b r e
      exact ⟨l, ys, rfl, h3, h4⟩
    · cases h
  | src => simp [dkA] at h
  | cells => simp [dkA] at h
  | scr ns => simp [dkA] at h
  | kt ns => simp [dkA] at h
  | dt ns => simp [dkA] at h
theorem dtA_ok {kvs : List (List Key × D)} (b : B C m L Mo H) (r : AVR C L Mo H x v) (h : dtA m x = some kvs) : ∃ l ys, v = .ref l ∧ H l = some (.dT ys) ∧ KQ C.K (C.hd L Mo H) ys kvs := by
  cases x with
  | d y => simp [dtA] at h
  | o j =>
    simp only [dtA] at h
    split at h
    · rename_i kvs' e
      cases h
      obtain ⟨l, rfl, _, ys, h3, h4⟩ := o_at b r e
      exact ⟨l, ys, rfl, h3, h4⟩
    · cases h
  | src => simp [dtA] at h
  | cells => simp [dtA] at h
  | scr ns => simp [dtA] at h
  | kt ns => simp [dtA] at h
  | dt ns =>
    simp [dtA] at h
    subst h
    obtain ⟨a, ys, rfl, h1, h2⟩ := r
    exact ⟨a, ys, rfl, (hid_some h1).2, h2⟩
theorem keyA_ok {k : Key} (r : AVR C L Mo H x v) (h : keyA x = some k) : v = kV k := by
  cases x with
  | d y => exact keyD_ok r h
  | o j => simp [keyA] at h
  | src => simp [keyA] at h
  | cells => simp [keyA] at h
  | scr ns => simp [keyA] at h
  | kt ns => simp [keyA] at h
  | dt ns => simp [keyA] at h
def OptQ (K : PySem.W.Frag) (h : Hp) : Option V → Option D → Prop
  | some v, some d => Dq K h v d
  | none, none => True
  | _, _ => False
theorem KQ.opt {κ : Type} [DecidableEq κ] {K : PySem.W.Frag} {h : Hp} {ys : List (κ × V)} {kvs : List (κ × D)} (q : KQ K h ys kvs) (k : κ) : OptQ K h (valV ys k) (valD kvs k) := by
  rcases q.val k with ⟨q1, q2⟩ | ⟨z, d, q1, q2, q3⟩
  · rw [q1, q2]; trivial
  · rw [q1, q2]; exact q3
theorem OptQ.some_ {K : PySem.W.Frag} {h : Hp} {o : Option V} {d : D} (q : OptQ K h o (some d)) : ∃ z, o = some z ∧ Dq K h z d := by
  cases o with
  | none => exact q.elim
  | some z => exact ⟨z, rfl, q⟩
theorem OptQ.none_ {K : PySem.W.Frag} {h : Hp} {o : Option V} (q : OptQ K h o none) : o = none := by
  cases o with
  | none => rfl
  | some z => exact q.elim
theorem OptQ.isSome {K : PySem.W.Frag} {h : Hp} {o : Option V} {d : Option D} (q : OptQ K h o d) : o.isSome = d.isSome := by
  cases d with
  | none => rw [q.none_]; rfl
  | some d => obtain ⟨z, rfl, _⟩ := q.some_; rfl
/-- what a look at a key finds -/
def lookA (m : Mm) (x y : AV) : Option (Option D) := match dkA m x with
  | some kvs => match keyA y with
    | some k => some (valD kvs k)
    | none => none
  | none => match dtA m x with
    | some kvs => match y with
      | .kt ks => some (valD kvs ks)
      | _ => none
    | none => none
theorem lookA_ok {y : AV} {w : V} {o : Option D} (b : B C m L Mo H) (r1 : AVR C L Mo H x v) (r2 : AVR C L Mo H y w) (h : lookA m x y = some o) :
    ∃ a o', v = .ref a ∧ DGet H a w o' ∧ OptQ C.K (C.hd L Mo H) o' o := by
  unfold lookA at h
  split at h
  · rename_i kvs e
    split at h
    · rename_i k ek
      cases h
      obtain ⟨l, ys, rfl, h3, h4⟩ := dkA_ok b r1 e
      have hk := keyA_ok r2 ek
      subst hk
      exact ⟨l, _, rfl, DGet.k h3, h4.opt k⟩
    · cases h
  · split at h
    · rename_i kvs e
      split at h
      · rename_i ks
        cases h
        obtain ⟨l, ys, rfl, h3, h4⟩ := dtA_ok b r1 e
        obtain ⟨b', rfl, h5⟩ := r2
        exact ⟨l, _, rfl, DGet.t h3 (hid_some h5).2, h4.opt ks⟩
      · cases h
    · cases h
end
section
variable {X : Cx} {o i e f value : Expr} {pos pos' apos cpos : Pos} {td ty tv tx : ATE}
/-- d[y] -/
def aDix : AR2 := fun x y m Q => match lookA m x y with
  | some (some d) => Q (.d d) m
  | _ => False
theorem q_dix (hu : X.A.units + 1 < cLine) (ho : QE X o td) (hi : QE X i ty) (hs : NoSl i := by intro _ _; rfl) : QE X (.Subscript o i pos) (aBin aDix td ty) := fun C hK => PE.imp (pe_dget hu (ho C hK) (hi C hK) hs) fun σ H Q ⟨a, L, Mo, AQ, r, k, h⟩ => by
  refine ⟨a, L, Mo, _, r, fun x m1 v L1 Mo1 H1 h1 b1 v1 e1 => ⟨⟨a.g, m1⟩, L1, Mo1, _, r.next b1 e1, fun y m2 w L2 Mo2 H2 h2 b2 w2 e2 => ?_, h1⟩, h⟩
  have h2' : (match lookA m2 x y with | some (some d) => AQ (.d d) m2 | _ => False) := h2
  split at h2'
  · rename_i d e
    obtain ⟨l, o', rfl, g, q⟩ := lookA_ok b2 (v1.mono e2) w2 e
    obtain ⟨z, rfl, q⟩ := q.some_
    exact ⟨l, z, rfl, g, ((k.aft e1).aft e2).ret h2' b2 q⟩
  · exact h2'.elim
/-- y in d -/
def aDin : AR2 := fun y x m Q => match lookA m x y with
  | some o => Q (.d (.bool o.isSome)) m
  | none => False
def aDnin : AR2 := fun y x m Q => match lookA m x y with
  | some o => Q (.d (.bool (!o.isSome))) m
  | none => False
theorem op_din (hu : X.A.units + 1 < cLine) : OpR X (compareOp .In) (fun y x H Q => ∃ a o, x = .ref a ∧ DGet H a y o ∧ Q (.bl o.isSome) H) := by
  intro pins s σ H y x v u Q I ry rx h
  obtain ⟨a, ov, ex, g, q2⟩ := h
  subst ex
  obtain rfl : u = Value.ref a := rx
  exact d_in hu I g ry fun s3 I3 => ⟨.bl ov.isSome, H, I3, rfl, q2⟩
theorem op_dnin (hu : X.A.units + 1 < cLine) : OpR X (compareOp .NotIn) (fun y x H Q => ∃ a o, x = .ref a ∧ DGet H a y o ∧ Q (.bl (!o.isSome)) H) := by
  intro pins s σ H y x v u Q I ry rx h
  obtain ⟨a, ov, ex, g, q2⟩ := h
  subst ex
  obtain rfl : u = Value.ref a := rx
  exact d_notIn hu I g ry fun s3 I3 => ⟨.bl (!ov.isSome), H, I3, rfl, q2⟩
theorem oq_din (hu : X.A.units + 1 < cLine) : OpQ X (compareOp .In) aDin := by
  refine ⟨_, op_din hu, fun C L Mo H m y x w v Q AQ hK b r2 r1 k hh => ?_⟩
  unfold aDin at hh
  split at hh
  · rename_i o e
    obtain ⟨l, o', rfl, g, q⟩ := lookA_ok b r1 r2 e
    refine ⟨l, o', rfl, g, ?_⟩
    rw [q.isSome]
    exact k.ret hh b (.bl _)
  · exact hh.elim
theorem oq_dnin (hu : X.A.units + 1 < cLine) : OpQ X (compareOp .NotIn) aDnin := by
  refine ⟨_, op_dnin hu, fun C L Mo H m y x w v Q AQ hK b r2 r1 k hh => ?_⟩
  unfold aDnin at hh
  split at hh
  · rename_i o e
    obtain ⟨l, o', rfl, g, q⟩ := lookA_ok b r1 r2 e
    refine ⟨l, o', rfl, g, ?_⟩
    rw [q.isSome]
    exact k.ret hh b (.bl _)
  · exact hh.elim
/-- d.get(y, z) -/
def isDictA (m : Mm) (x : AV) : Bool := (dkA m x).isSome || (dtA m x).isSome
theorem isDictA_ok {C : Ct} {m : Mm} {L Mo : List Addr} {H : Hp} {x : AV} {v : V} (b : B C m L Mo H) (r : AVR C L Mo H x v) (h : isDictA m x = true) : ∃ a, v = .ref a ∧ IsD H a := by
  unfold isDictA at h
  cases e : dkA m x with
  | some kvs =>
    obtain ⟨l, ys, rfl, h3, _⟩ := dkA_ok b r e
    exact ⟨l, rfl, .inl ⟨ys, .inl h3⟩⟩
  | none =>
    cases e2 : dtA m x with
    | some kvs =>
      obtain ⟨l, ys, rfl, h3, _⟩ := dtA_ok b r e2
      exact ⟨l, rfl, .inr ⟨ys, .inl h3⟩⟩
    | none => rw [e, e2] at h; simp at h
def aDget (td ty tx : ATE) : ATE := fun a Q => td a fun x m1 => isDictA m1 x = true ∧ ty ⟨a.g, m1⟩ fun y m2 => tx ⟨a.g, m2⟩ fun z m3 => match lookA m3 x y with
  | some (some d) => Q (.d d) m3
  | some none => Q z m3
  | none => False
theorem q_dget (hu : X.A.units + 1 < cLine) (ho : QE X o td) (he : QE X e ty) (hf : QE X f tx) (m : M2 X o "get" apos e f cpos := by exact ⟨rfl, rfl, rfl, rfl⟩) : QE X (.Call (.Attribute o "get" apos) [e, f] [] cpos) (aDget td ty tx) := fun C hK =>
  PE.imp (pe_dget2 hu (ho C hK) (he C hK) (hf C hK) m) fun σ H Q ⟨a, L, Mo, AQ, r, k, h⟩ => by
    refine ⟨a, L, Mo, _, r, fun x m1 v L1 Mo1 H1 ⟨h0, h1⟩ b1 v1 e1 => ?_, h⟩
    obtain ⟨l, rfl, hd⟩ := isDictA_ok b1 v1 h0
    refine ⟨l, rfl, hd, ⟨a.g, m1⟩, L1, Mo1, _, r.next b1 e1, fun y m2 w L2 Mo2 H2 h2 b2 w2 e2 => ⟨⟨a.g, m2⟩, L2, Mo2, _, (r.next b1 e1).next b2 e2, fun z m3 w' L3 Mo3 H3 h3 b3 w3 e3 => ?_, h2⟩, h1⟩
    have h3' : (match lookA m3 x y with | some (some d) => AQ (.d d) m3 | some none => AQ z m3 | none => False) := h3
    split at h3'
    · rename_i d e
      obtain ⟨l', o', hl, g, q⟩ := lookA_ok b3 ((v1.mono e2).mono e3) (w2.mono e3) e
      obtain ⟨z', rfl, q⟩ := q.some_
      cases hl
      exact ⟨_, g, (((k.aft e1).aft e2).aft e3).ret h3' b3 q⟩
    · rename_i e
      obtain ⟨l', o', hl, g, q⟩ := lookA_ok b3 ((v1.mono e2).mono e3) (w2.mono e3) e
      cases hl
      have q' : o' = none := q.none_
      subst q'
      exact ⟨_, g, (((k.aft e1).aft e2).aft e3).ret h3' b3 w3⟩
    · exact h3'.elim
/-- d[y] = v, d a local object -/
def aDput (td ty tv : ATE) : ATS := fun E a => tv a fun v m1 => td ⟨a.g, m1⟩ fun x m2 => ty ⟨a.g, m2⟩ fun y m3 => match x, v with
  | .o j, .d d => match m3.o[j]? with
    | some (.kd kvs) => match keyA y with
      | some k => kvs.length ≤ 1000000 ∧ E.nx ⟨a.g, ⟨m3.s, m3.o.set j (.kd (putD kvs k d))⟩⟩
      | none => False
    | some (.td kvs) => match y with
      | .kt ks => kvs.length ≤ 1000000 ∧ E.nx ⟨a.g, ⟨m3.s, m3.o.set j (.td (putD kvs ks d))⟩⟩
      | _ => False
    | _ => False
  | _, _ => False
theorem qs_dput (hu : X.A.units + 1 < cLine) (ho : QE X o td) (hi : QE X i ty) (hv : QE X value tv) (hs : swapsWith value (some (.Subscript o i pos')) pos.line X.env = pure false := by rfl) :
    QS X (.Assign [.Subscript o i pos'] value pos) (aDput td ty tv) := fun C hK => PS.imp (ps_dput hu (ho C hK) (hi C hK) (hv C hK) hs) fun D σ H ⟨a, L, Mo, AD, r, b, h⟩ => by
  refine ⟨a, L, Mo, _, r, fun v m1 w L1 Mo1 H1 h1 b1 w1 e1 => ⟨⟨a.g, m1⟩, L1, Mo1, _, r.next b1 e1, fun x m2 u L2 Mo2 H2 h2 b2 v2 e2 => ⟨⟨a.g, m2⟩, L2, Mo2, _, (r.next b1 e1).next b2 e2, fun y m3 z L3 Mo3 H3 h3 b3 z3 e3 => ?_, h2⟩, h1⟩, h⟩
  have r3 := ((r.next b1 e1).next b2 e2).next b3 e3
  split at h3
  · rename_i j d
    have hw : Dq C.K (C.hd L3 Mo3 H3) w d := (w1.mono e2).mono e3
    split at h3
    · rename_i kvs e
      split at h3
      · rename_i k ek
        obtain ⟨l, rfl, hl, ys, h4, h5⟩ := o_at b3 (v2.mono e3) e
        have hk := keyA_ok z3 ek
        subst hk
        refine ⟨l, _, rfl, DPut.k h4 (by rw [h5.length]; exact line6 h3.1), b.nx _ _ _ _ _ h3.2 (r3.next (b3.upd hl fun h e => ⟨_, upd_same, by rw [e]; exact h5.put hw⟩) (X2.upd (List.mem_of_getElem? hl)))⟩
      · exact h3.elim
    · rename_i kvs e
      split at h3
      · rename_i ks
        obtain ⟨l, rfl, hl, ys, h4, h5⟩ := o_at b3 (v2.mono e3) e
        obtain ⟨b', rfl, h6⟩ := z3
        refine ⟨l, _, rfl, DPut.t h4 (hid_some h6).2 (by rw [h5.length]; exact line6 h3.1), b.nx _ _ _ _ _ h3.2 (r3.next (b3.upd hl fun h e => ⟨_, upd_same, by rw [e]; exact h5.put hw⟩) (X2.upd (List.mem_of_getElem? hl)))⟩
      · exact h3.elim
    · exact h3.elim
  · exact h3.elim
/-- {} -/
def aDnewK : ATE := fun a Q => Q (.o a.m.o.length) ⟨a.m.s, a.m.o ++ [.kd []]⟩
def aDnewT : ATE := fun a Q => Q (.o a.m.o.length) ⟨a.m.s, a.m.o ++ [.td []]⟩
theorem q_dnewK : QE X (.Dict [] [] pos) aDnewK := fun C hK => PE.imp pe_dnewK fun σ H Q ⟨a, L, Mo, AQ, r, k, h⟩ p hp =>
  k _ _ _ _ _ _ h (r.b.allocO (o := .kd []) hp fun h' e => ⟨[], upd_same, .nil⟩) ⟨p, by rw [Paired.length r.b.ob]; simp, rfl⟩ (X2.allocO hp)
theorem q_dnewT : QE X (.Dict [] [] pos) aDnewT := fun C hK => PE.imp pe_dnewT fun σ H Q ⟨a, L, Mo, AQ, r, k, h⟩ p hp =>
  k _ _ _ _ _ _ h (r.b.allocO (o := .td []) hp fun h' e => ⟨[], upd_same, .nil⟩) ⟨p, by rw [Paired.length r.b.ob]; simp, rfl⟩ (X2.allocO hp)
/-- a tuple that is to be a key -/
def keysD : List D → Option (List Key)
  | [] => some []
  | d :: r => match keyD d, keysD r with
    | some k, some l => some (k :: l)
    | _, _ => none
theorem keysD_ok {K : PySem.W.Frag} {h : Hp} : ∀ {ds : List D} {vs : List V} {ks : List Key}, DqAll K h vs ds → keysD ds = some ks → vs = ks.map kV
  | [], _, _, q, e => by cases q; cases e; rfl
  | d :: r, _, _, q, e => by
    cases q with
    | cons q1 q2 =>
      simp only [keysD] at e
      split at e
      · rename_i k l e1 e2
        cases e
        rw [List.map_cons, keyD_ok q1 e1, keysD_ok q2 e2]
      · cases e
theorem keysD_kD : ∀ ks : List Key, keysD (ks.map kD) = some ks
  | [] => rfl
  | k :: r => by
    rw [List.map_cons]
    unfold keysD
    rw [keyD_kD, keysD_kD r]
def bTupleK : AC1 := fun avs m Q => match avs with
  | [x] => match lstA m x with
    | some ds => match keysD ds with
      | some ks => Q (.kt ks) m
      | none => False
    | none => False
  | _ => False
theorem cq_tupleK : CallQ X (.type "tuple") bTupleK := by
  refine ⟨_, call_tuple_of, fun C L Mo H m avs vs Q AQ hK b r k hh => ?_⟩
  unfold bTupleK at hh
  split at hh
  · split at hh
    · rename_i ds e
      split at hh
      · rename_i ks ek
        obtain ⟨v, rfl, rv⟩ := av1 r
        obtain ⟨l, xs, rfl, h1, h2⟩ := lstA_ok b rv e
        have := keysD_ok h2 ek
        subst this
        exact ⟨l, _, rfl, .inl ⟨SqL.of h1, fun p hp => k _ _ _ _ _ _ hh (b.alloc hp) ⟨p, rfl, hd_new b hp⟩ (X2.alloc hp)⟩⟩
      · exact hh.elim
    · exact hh.elim
  · exact hh.elim
variable {es : List Expr} {tr : ATA}
def aTupK (t : ATA) : ATE := fun a Q => t a fun avs m => match datas avs with
  | some ds => match keysD ds with
    | some ks => ds.length ≤ 1000 ∧ Q (.kt ks) m
    | none => False
  | none => False
theorem q_tupK {x1} (h : QA X es tr) : QE X (.Tuple es x1 pos) (aTupK tr) := fun C hK => PE.imp (pe_tup (h C hK)) fun σ H Q ⟨a, L, Mo, AQ, r, k, h⟩ => by
  refine ⟨a, L, Mo, _, r, fun xs m1 vs L1 Mo1 H1 h1 b1 v1 e1 => ?_, h⟩
  have h1' : (match datas xs with | some ds => (match keysD ds with | some ks => ds.length ≤ 1000 ∧ AQ (.kt ks) m1 | none => False) | none => False) := h1
  split at h1'
  · rename_i ds e
    split at h1'
    · rename_i ks ek
      have q := datas_ok v1 e
      have := keysD_ok q ek
      subst this
      exact ⟨line1000 (by rw [q.len]; exact h1'.1), fun p hp => (k.aft e1) _ _ _ _ _ _ h1'.2 (b1.alloc hp) ⟨p, rfl, hd_new b1 hp⟩ (X2.alloc hp)⟩
    · exact h1'.elim
  · exact h1'.elim
end
end QL

namespace QL
open PySem PySem.Spec PyProof.Rows L2 RZ

/-! ### zip, enumerate -/
def zipD (xs ys : List D) : List D := (xs.zip ys).map fun p => .tuple [p.1, p.2]
theorem zipD_at {xs ys : List D} {i : Nat} {d : D} (h : (zipD xs ys)[i]? = some d) : ∃ x y, xs[i]? = some x ∧ ys[i]? = some y ∧ d = .tuple [x, y] := by
  unfold zipD at h
  rw [List.getElem?_map] at h
  cases e : (xs.zip ys)[i]? with
  | none => rw [e] at h; cases h
  | some p =>
    rw [e] at h
    obtain ⟨h1, h2⟩ := List.getElem?_zip_eq_some.mp e
    exact ⟨p.1, p.2, h1, h2, (Option.some.inj h).symm⟩
theorem zipD_len (xs ys : List D) : (zipD xs ys).length = min xs.length ys.length := by simp [zipD]
theorem items_zipL {C : Ct} {L Mo : List Addr} {H : Hp} {a b : Addr} {xs ys : List V} {ds es : List D} (h : C.hd L Mo H a = some (.lst xs)) (hx : DqAll C.K (C.hd L Mo H) xs ds) (g : C.hd L Mo H b = some (.lst ys)) (hy : DqAll C.K (C.hd L Mo H) ys es) :
    ItemsOk C (Itz C.K a b) L Mo H (zipD ds es) := fun C2 L1 Mo1 H1 m1 hK bb sm => by
  have q : SqL C.K H1 a xs := SqL.of (hid_some (sm _ _ h)).2
  have q' : SqL C.K H1 b ys := SqL.of (hid_some (sm _ _ g)).2
  refine ⟨fun i d e => ?_, xs, ys, q, q', by rw [zipD_len, hx.len, hy.len]; omega⟩
  obtain ⟨x, y, e1, e2, rfl⟩ := zipD_at e
  obtain ⟨v, h1, h2⟩ := hx.at e1
  obtain ⟨w, h3, h4⟩ := hy.at e2
  refine ⟨⟨xs, ys, v, w, q, q', h1, h3⟩, fun z H2 ⟨T, v', w', e3, hT, e4, f1, f2⟩ => ?_⟩
  subst e3; subst e4
  have f1 := f1 xs q
  have f2 := f2 ys q'
  rw [h1] at f1; cases f1
  rw [h3] at f2; cases f2
  refine ⟨bb.alloc hT, X2.alloc hT, .tup (SqT.of (hd_new bb hT)) (.cons (Dq.mono (hd_upd hT) _ _ (Dq.mono sm _ _ h2)) (.cons (Dq.mono (hd_upd hT) _ _ (Dq.mono sm _ _ h4)) .nil))⟩
theorem items_zipT {C : Ct} {L Mo : List Addr} {H : Hp} {a b : Addr} {xs ys : List V} {ds es : List D} (h : SqT C.K (C.hd L Mo H) a xs) (hx : DqAll C.K (C.hd L Mo H) xs ds) (g : SqT C.K (C.hd L Mo H) b ys) (hy : DqAll C.K (C.hd L Mo H) ys es) :
    ItemsOk C (ItzT C.K a b) L Mo H (zipD ds es) := fun C2 L1 Mo1 H1 m1 hK bb sm => by
  have q : SqT C.K H1 a xs := same_tup hid_same (same_tup sm h)
  have q' : SqT C.K H1 b ys := same_tup hid_same (same_tup sm g)
  refine ⟨fun i d e => ?_, xs, ys, q, q', by rw [zipD_len, hx.len, hy.len]; omega⟩
  obtain ⟨x, y, e1, e2, rfl⟩ := zipD_at e
  obtain ⟨v, h1, h2⟩ := hx.at e1
  obtain ⟨w, h3, h4⟩ := hy.at e2
  refine ⟨⟨xs, ys, v, w, q, q', h1, h3⟩, fun z H2 ⟨T, v', w', e3, hT, e4, f1, f2⟩ => ?_⟩
  subst e3; subst e4
  have f1 := f1 xs q
  have f2 := f2 ys q'
  rw [h1] at f1; cases f1
  rw [h3] at f2; cases f2
  refine ⟨bb.alloc hT, X2.alloc hT, .tup (SqT.of (hd_new bb hT)) (.cons (Dq.mono (hd_upd hT) _ _ (Dq.mono sm _ _ h2)) (.cons (Dq.mono (hd_upd hT) _ _ (Dq.mono sm _ _ h4)) .nil))⟩
def enumD (xs : List D) : List D := (List.range xs.length).zipWith (fun i x => .tuple [.int (i : Nat), x]) xs
theorem enumD_at {xs : List D} {i : Nat} {d : D} (h : (enumD xs)[i]? = some d) : ∃ x, xs[i]? = some x ∧ d = .tuple [.int (i : Nat), x] := by
  unfold enumD at h
  rw [List.getElem?_zipWith] at h
  cases e : xs[i]? with
  | none => rw [e] at h; revert h; cases (List.range xs.length)[i]? <;> simp
  | some x =>
    have hi := (List.getElem?_eq_some_iff.mp e).1
    rw [e, List.getElem?_range hi] at h
    exact ⟨x, rfl, (Option.some.inj h).symm⟩
theorem enumD_len (xs : List D) : (enumD xs).length = xs.length := by simp [enumD]
theorem items_enum {C : Ct} {L Mo : List Addr} {H : Hp} {a : Addr} {xs : List V} {ds : List D} (h : C.hd L Mo H a = some (.lst xs)) (hx : DqAll C.K (C.hd L Mo H) xs ds) : ItemsOk C (Ite C.K a) L Mo H (enumD ds) := fun C2 L1 Mo1 H1 m1 hK bb sm => by
  have q : SqL C.K H1 a xs := SqL.of (hid_some (sm _ _ h)).2
  refine ⟨fun i d e => ?_, xs, q, by rw [enumD_len, hx.len]; exact Nat.le_refl _⟩
  obtain ⟨x, e1, rfl⟩ := enumD_at e
  obtain ⟨v, h1, h2⟩ := hx.at e1
  refine ⟨⟨xs, v, q, h1⟩, fun z H2 ⟨T, v', e3, hT, e4, f1⟩ => ?_⟩
  subst e3; subst e4
  have f1 := f1 xs q
  rw [h1] at f1; cases f1
  refine ⟨bb.alloc hT, X2.alloc hT, .tup (SqT.of (hd_new bb hT)) (.cons (.int _) (.cons (Dq.mono (hd_upd hT) _ _ (Dq.mono sm _ _ h2)) .nil))⟩
section
variable {X : Cx} {e e2 : Expr} {ta : ATA} {p pos tpos : Pos} {elts : List Expr} {kk : Nat}
def aZip (t : ATA) : AIt := fun a Q => t a fun avs m => match avs with
  | [.d (.list xs), .d (.list ys)] => Q (zipD xs ys) m
  | [.d (.tuple xs), .d (.tuple ys)] => Q (zipD xs ys) m
  | _ => False
theorem qi_zip (hg : Gl X "zip") (hm : X.mg "zip" = none) (ha : QA X [e, e2] ta) (hs : starEach [e, e2] X.env = (false, eval e X.env) :: starEach [e2] X.env := by rfl) (hpl : (backTo pos (starEach [e2] X.env)).any (·.1) = false := by rfl) :
    QI X (.Tuple elts kk tpos) (.Call (.Name "zip" p) [e, e2] [] pos) (aZip ta) := fun C hK => PI.imp (pi_zipA hg hm (ha C hK) hs hpl) fun σ H R' ⟨a, L, Mo, AQ, r, k, h⟩ => by
  refine ⟨a, L, Mo, _, r, fun xs m1 vs L1 Mo1 H1 h1 b1 v1 e1 => ?_, h⟩
  split at h1
  · obtain ⟨v, w, rfl, q, q'⟩ := av2 v1
    cases q with
    | lst c1 c2 =>
      cases q' with
      | lst c3 c4 => exact ⟨_, _, _, _, rfl, .inl ⟨SqL.of (hid_some c1).2, SqL.of (hid_some c3).2, k _ _ _ _ _ _ h1 b1 e1 (hK ▸ items_zipL c1 c2 c3 c4)⟩⟩
  · obtain ⟨v, w, rfl, q, q'⟩ := av2 v1
    cases q with
    | tup c1 c2 =>
      cases q' with
      | tup c3 c4 => exact ⟨_, _, _, _, rfl, .inr ⟨hK ▸ same_tup hid_same c1, hK ▸ same_tup hid_same c3, k _ _ _ _ _ _ h1 b1 e1 (hK ▸ items_zipT c1 c2 c3 c4)⟩⟩
  · exact h1.elim
def aEnum (t : ATA) : AIt := fun a Q => t a fun avs m => match avs with
  | [.d (.list xs)] => Q (enumD xs) m
  | _ => False
theorem qi_enum (hg : Gl X "enumerate") (hm : X.mg "enumerate" = none) (ha : QA X [e] ta) (hs : starEach [e] X.env = [(false, eval e X.env)] := by rfl) :
    QI X (.Tuple elts kk tpos) (.Call (.Name "enumerate" p) [e] [] pos) (aEnum ta) := fun C hK => PI.imp (pi_enum hg hm (ha C hK) hs) fun σ H R' ⟨a, L, Mo, AQ, r, k, h⟩ => by
  refine ⟨a, L, Mo, _, r, fun xs m1 vs L1 Mo1 H1 h1 b1 v1 e1 => ?_, h⟩
  split at h1
  · obtain ⟨v, rfl, q⟩ := av1 v1
    cases q with
    | lst c1 c2 => exact ⟨_, _, rfl, SqL.of (hid_some c1).2, k _ _ _ _ _ _ h1 b1 e1 (hK ▸ items_enum c1 c2)⟩
  · exact h1.elim
end
/-! ### x in a row -/
section
variable {X : Cx}
theorem DqAll.list {K : PySem.W.Frag} {H : Hp} {l : Addr} {xs : List V} {ds : List D} (h1 : H l = some (.lst xs)) (h : DqAll K H xs ds) (n : PyData.hasDictAll ds = false) : Dp K H (.ref l) (.list ds) := .lst (SqL.of h1) (DqAll.toDp _ _ n h)
def aInL : AR2 := fun x y m Q => match datA m x, lstA m y with
  | some d, some ds => SeqAt.shaped d = true ∧ SeqAt.shaped (.list ds) = true ∧ Q (.d (.bool (ds.any fun z => PyData.eqv z d))) m
  | _, _ => False
theorem oq_inL (hu : X.A.units + 65 < cLine) : OpQ X (compareOp .In) aInL := by
  refine ⟨_, op_inD hu, fun C L Mo H m x y v w Q AQ hK b r1 r2 k hh => ?_⟩
  unfold aInL at hh
  split at hh
  · rename_i d ds e1 e2
    obtain ⟨l, xs, rfl, h1, h2⟩ := lstA_ok b r2 e2
    have nd : (PyData.list ds).hasDict = false := shaped_noDict hh.2.1
    refine ⟨d, ds, Dq.toDp _ _ (shaped_noDict hh.1) (hK ▸ datA_ok b r1 e1), hK ▸ Dq.toDp _ _ nd (.lst h1 (DqAll.mono hid_same _ _ h2)), hh.1, hh.2.1, k.ret hh.2.2 b (.bl _)⟩
  · exact hh.elim
def aNinL : AR2 := fun x y m Q => match datA m x, lstA m y with
  | some d, some ds => SeqAt.shaped d = true ∧ SeqAt.shaped (.list ds) = true ∧ Q (.d (.bool (!ds.any fun z => PyData.eqv z d))) m
  | _, _ => False
theorem oq_ninL (hu : X.A.units + 65 < cLine) : OpQ X (compareOp .NotIn) aNinL := by
  refine ⟨_, op_notInD hu, fun C L Mo H m x y v w Q AQ hK b r1 r2 k hh => ?_⟩
  unfold aNinL at hh
  split at hh
  · rename_i d ds e1 e2
    obtain ⟨l, xs, rfl, h1, h2⟩ := lstA_ok b r2 e2
    have nd : (PyData.list ds).hasDict = false := shaped_noDict hh.2.1
    refine ⟨d, ds, Dq.toDp _ _ (shaped_noDict hh.1) (hK ▸ datA_ok b r1 e1), hK ▸ Dq.toDp _ _ nd (.lst h1 (DqAll.mono hid_same _ _ h2)), hh.1, hh.2.1, k.ret hh.2.2 b (.bl _)⟩
  · exact hh.elim
theorem op_inTD (hu : X.A.units + 65 < cLine) : OpR X (compareOp .In) (fun x y H Q => ∃ d ds, Dp X.K H x d ∧ Dp X.K H y (.tuple ds) ∧ SeqAt.shaped d = true ∧ SeqAt.shaped (.tuple ds) = true ∧ Q (.bl (ds.any fun z => PyData.eqv z d)) H) := by
  intro pins s σ H x y v u Q I rx ry h
  obtain ⟨d, ds, hd, he, sd, se, q⟩ := h
  obtain ⟨as, r1⟩ := Dp.reads I d x v hd rx
  obtain ⟨bs, r2⟩ := Dp.reads I (.tuple ds) y u he ry
  exact SeqAt.in_tuple_reads r2 r1 (SeqAt.canLay_of_shaped se) (SeqAt.canLay_of_shaped sd) (room_in_shaped sd hu) ⟨.bl _, H, I, rfl, q⟩
theorem op_notInTD (hu : X.A.units + 65 < cLine) : OpR X (compareOp .NotIn) (fun x y H Q => ∃ d ds, Dp X.K H x d ∧ Dp X.K H y (.tuple ds) ∧ SeqAt.shaped d = true ∧ SeqAt.shaped (.tuple ds) = true ∧ Q (.bl (!ds.any fun z => PyData.eqv z d)) H) := by
  intro pins s σ H x y v u Q I rx ry h
  obtain ⟨d, ds, hd, he, sd, se, q⟩ := h
  obtain ⟨as, r1⟩ := Dp.reads I d x v hd rx
  obtain ⟨bs, r2⟩ := Dp.reads I (.tuple ds) y u he ry
  exact SeqAt.notIn_tuple_reads r2 r1 (SeqAt.canLay_of_shaped se) (SeqAt.canLay_of_shaped sd) (room_in_shaped sd hu) ⟨.bl _, H, I, rfl, q⟩
def aInT : AR2 := fun x y m Q => match datA m x, tupA y with
  | some d, some ds => SeqAt.shaped d = true ∧ SeqAt.shaped (.tuple ds) = true ∧ Q (.d (.bool (ds.any fun z => PyData.eqv z d))) m
  | _, _ => False
def aNinT : AR2 := fun x y m Q => match datA m x, tupA y with
  | some d, some ds => SeqAt.shaped d = true ∧ SeqAt.shaped (.tuple ds) = true ∧ Q (.d (.bool (!ds.any fun z => PyData.eqv z d))) m
  | _, _ => False
theorem oq_inT (hu : X.A.units + 65 < cLine) : OpQ X (compareOp .In) aInT := by
  refine ⟨_, op_inTD hu, fun C L Mo H m x y v w Q AQ hK b r1 r2 k hh => ?_⟩
  unfold aInT at hh
  split at hh
  · rename_i d ds e1 e2
    have e3 := tupA_eq e2
    subst e3
    have nd : (PyData.tuple ds).hasDict = false := shaped_noDict hh.2.1
    refine ⟨d, ds, Dq.toDp _ _ (shaped_noDict hh.1) (hK ▸ datA_ok b r1 e1), hK ▸ Dq.toDp _ _ nd (Dq.mono hid_same _ _ r2), hh.1, hh.2.1, k.ret hh.2.2 b (.bl _)⟩
  · exact hh.elim
theorem oq_ninT (hu : X.A.units + 65 < cLine) : OpQ X (compareOp .NotIn) aNinT := by
  refine ⟨_, op_notInTD hu, fun C L Mo H m x y v w Q AQ hK b r1 r2 k hh => ?_⟩
  unfold aNinT at hh
  split at hh
  · rename_i d ds e1 e2
    have e3 := tupA_eq e2
    subst e3
    have nd : (PyData.tuple ds).hasDict = false := shaped_noDict hh.2.1
    refine ⟨d, ds, Dq.toDp _ _ (shaped_noDict hh.1) (hK ▸ datA_ok b r1 e1), hK ▸ Dq.toDp _ _ nd (Dq.mono hid_same _ _ r2), hh.1, hh.2.1, k.ret hh.2.2 b (.bl _)⟩
  · exact hh.elim
end
/-! ### sizes of great numbers -/
def Bd (k : Nat) (i : Int) : Prop := i.natAbs < 2 ^ k
theorem Bd.le {a b : Nat} {i : Int} (h : Bd a i) (hab : a ≤ b) : Bd b i := Nat.lt_of_lt_of_le h (Nat.pow_le_pow_right (by decide) hab)
theorem Bd.mul {a b : Nat} {i j : Int} (h : Bd a i) (g : Bd b j) : Bd (a + b) (i * j) := by
  unfold Bd at *
  rw [Int.natAbs_mul, Nat.pow_add]
  exact Nat.mul_lt_mul'' h g
theorem Bd.add {a : Nat} {i j : Int} (h : Bd a i) (g : Bd a j) : Bd (a + 1) (i + j) := by
  unfold Bd at *
  rw [Nat.pow_succ]
  omega
theorem Bd.sub {a : Nat} {i j : Int} (h : Bd a i) (g : Bd a j) : Bd (a + 1) (i - j) := by
  unfold Bd at *
  rw [Nat.pow_succ]
  omega
theorem Bd.neg {a : Nat} {i : Int} (h : Bd a i) : Bd a (-i) := by
  unfold Bd at *
  omega
theorem Bd.of64 {i : Int} (h1 : -18446744073709551616 < i) (h2 : i < 18446744073709551616) : Bd 64 i := by
  unfold Bd
  have e : (2 : Nat) ^ 64 = 18446744073709551616 := by decide
  omega
theorem Bd.log {k : Nat} {i : Int} (h : Bd k i) : i.natAbs.log2 ≤ k := by
  by_cases h0 : i.natAbs = 0
  · rw [h0]; exact Nat.zero_le _
  · exact Nat.le_of_lt ((Nat.log2_lt h0).mpr h)
theorem Bd.log_lt {k n : Nat} {i : Int} (h : Bd k i) (hk : k < n) : i.natAbs.log2 < n := Nat.lt_of_le_of_lt h.log hk
theorem MulOk.bd {a b : Nat} {i j : Int} (h : Bd a i) (g : Bd b j) (hs : a + b < 1000000) : MulOk i j := by
  have h1 := h.log
  have h2 := g.log
  exact .inr (show i.natAbs.log2 + j.natAbs.log2 < 1000000 by omega)
/-! ### a look behind a put -/
theorem valD_nil {κ : Type} [DecidableEq κ] (k : κ) : valD ([] : List (κ × D)) k = none := rfl
theorem valD_cons {κ : Type} [DecidableEq κ] (p : κ × D) (r : List (κ × D)) (k : κ) : valD (p :: r) k = if p.1 = k then some p.2 else valD r k := by
  unfold valD
  rw [List.find?_cons]
  by_cases h : p.1 = k <;> simp [h]
theorem valD_append {κ : Type} [DecidableEq κ] (l r : List (κ × D)) (k : κ) : valD (l ++ r) k = (valD l k).or (valD r k) := by
  induction l with
  | nil => rfl
  | cons p l ih =>
    rw [List.cons_append, valD_cons, valD_cons, ih]
    by_cases h : p.1 = k <;> simp [h]
theorem valD_none {κ : Type} [DecidableEq κ] {l : List (κ × D)} {k : κ} (h : ¬ (l.any fun kv => decide (kv.1 = k)) = true) : valD l k = none := by
  induction l with
  | nil => rfl
  | cons p l ih =>
    rw [List.any_cons, Bool.or_eq_true, not_or] at h
    rw [valD_cons, if_neg (fun e => h.1 (decide_eq_true e))]
    exact ih h.2
theorem valD_map {κ : Type} [DecidableEq κ] (l : List (κ × D)) (k k' : κ) (v : D) : valD (l.map fun kv => if kv.1 = k then (kv.1, v) else kv) k' = if k = k' then (if (l.any fun kv => decide (kv.1 = k)) = true then some v else none) else valD l k' := by
  induction l with
  | nil => by_cases h : k = k' <;> simp [h, valD_nil]
  | cons p l ih =>
    rw [List.map_cons, valD_cons, ih, List.any_cons, valD_cons]
    by_cases h1 : p.1 = k
    · simp only [h1, if_true, decide_true, Bool.true_or]
      by_cases h2 : k = k' <;> simp [h2]
    · simp only [h1, if_false, decide_false, Bool.false_or]
      by_cases h2 : k = k'
      · subst h2
        simp [h1]
      · by_cases h3 : p.1 = k' <;> simp [h2, h3]
theorem valD_putD {κ : Type} [DecidableEq κ] (l : List (κ × D)) (k k' : κ) (v : D) : valD (putD l k v) k' = if k = k' then some v else valD l k' := by
  unfold putD
  by_cases h : (l.any fun kv => decide (kv.1 = k)) = true
  · rw [if_pos h, valD_map, if_pos h]
  · rw [if_neg h, valD_append, valD_cons, valD_nil]
    by_cases e : k = k'
    · subst e
      rw [valD_none h, if_pos rfl]; rfl
    · rw [if_neg e, if_neg e]
      cases valD l k' <;> rfl
theorem putD_len {κ : Type} [DecidableEq κ] (l : List (κ × D)) (k : κ) (v : D) : (putD l k v).length ≤ l.length + 1 := by
  unfold putD
  split
  · rw [List.length_map]; omega
  · rw [List.length_append]; exact Nat.le_refl _
/-! ### places that are told -/
theorem atD_0 (a0 : D) (l : List D) : atD (a0 :: l) 0 = some a0 := rfl
theorem atD_1 (a0 a1 : D) (l : List D) : atD (a0 :: a1 :: l) 1 = some a1 := rfl
theorem atD_2 (a0 a1 a2 : D) (l : List D) : atD (a0 :: a1 :: a2 :: l) 2 = some a2 := rfl
theorem atD_3 (a0 a1 a2 a3 : D) (l : List D) : atD (a0 :: a1 :: a2 :: a3 :: l) 3 = some a3 := rfl
theorem atD_4 (a0 a1 a2 a3 a4 : D) (l : List D) : atD (a0 :: a1 :: a2 :: a3 :: a4 :: l) 4 = some a4 := rfl
theorem atD_5 (a0 a1 a2 a3 a4 a5 : D) (l : List D) : atD (a0 :: a1 :: a2 :: a3 :: a4 :: a5 :: l) 5 = some a5 := rfl
theorem atD_6 (a0 a1 a2 a3 a4 a5 a6 : D) (l : List D) : atD (a0 :: a1 :: a2 :: a3 :: a4 :: a5 :: a6 :: l) 6 = some a6 := rfl
theorem atD_7 (a0 a1 a2 a3 a4 a5 a6 a7 : D) (l : List D) : atD (a0 :: a1 :: a2 :: a3 :: a4 :: a5 :: a6 :: a7 :: l) 7 = some a7 := rfl
theorem atD_8 (a0 a1 a2 a3 a4 a5 a6 a7 a8 : D) (l : List D) : atD (a0 :: a1 :: a2 :: a3 :: a4 :: a5 :: a6 :: a7 :: a8 :: l) 8 = some a8 := rfl
theorem atD_9 (a0 a1 a2 a3 a4 a5 a6 a7 a8 a9 : D) (l : List D) : atD (a0 :: a1 :: a2 :: a3 :: a4 :: a5 :: a6 :: a7 :: a8 :: a9 :: l) 9 = some a9 := rfl
theorem atD_10 (a0 a1 a2 a3 a4 a5 a6 a7 a8 a9 a10 : D) (l : List D) : atD (a0 :: a1 :: a2 :: a3 :: a4 :: a5 :: a6 :: a7 :: a8 :: a9 :: a10 :: l) 10 = some a10 := rfl
theorem atD_11 (a0 a1 a2 a3 a4 a5 a6 a7 a8 a9 a10 a11 : D) (l : List D) : atD (a0 :: a1 :: a2 :: a3 :: a4 :: a5 :: a6 :: a7 :: a8 :: a9 :: a10 :: a11 :: l) 11 = some a11 := rfl
theorem atD_12 (a0 a1 a2 a3 a4 a5 a6 a7 a8 a9 a10 a11 a12 : D) (l : List D) : atD (a0 :: a1 :: a2 :: a3 :: a4 :: a5 :: a6 :: a7 :: a8 :: a9 :: a10 :: a11 :: a12 :: l) 12 = some a12 := rfl
theorem atD_neg1 (ds : List D) : atD ds (-1) = ds.getLast? := by
  unfold atD
  rw [if_neg (by decide), List.getLast?_eq_getElem?]
  by_cases h : -(ds.length : Int) ≤ -1
  · rw [if_pos h]
    congr 1
    omega
  · rw [if_neg h]
    have : ds.length = 0 := by omega
    rw [List.length_eq_zero_iff.mp this]; rfl
end QL

namespace QL
open PySem PySem.Spec PyProof.Rows L2
local macro_rules | `(tactic| walk_at "qs") => `(tactic| (try simp only [aSeq, aNext, aSet, aRet, aRetN, aDrop, aIfS, aPar, aAsg, aFor, aVar, aC, aBin, aUn, aNeg, aTest, aChain, aNot, aNotV, aAnd, aOr, aAndV, aOrV, aIf, aTru, aNil, aCons, aTup, aLst, aLstM, aCall, aFn, aLc, aYes,
  aAdd, aSub, aMul, aMod, aFdiv, aPow, aLt, aLe, aGt, aGe, aEq, aNe, aIx, intsR, intsR0, isB, datas, datA, lstA, tupA, seqA, truA, bLen, bInt, bAbs, bMax, bMin, bTuple, bList, bListM, bSum, bRepr, aItS, aItT, aItL, aRng1, aRng2, aSrcF, aSrcC, aSrcPut, aSrcNew, aRev, aRevM, aMt, aMt0, mApp, mPop, mPopC, mExt, bDict, bSortD,
  aZip, aEnum, aDget, aDput, aDix, aDin, aDnin, aDnewK, aDnewT, aInT, aNinT, aInL, aNinL, bTupleK, aTupK, isDictA, lookA, dkA, dtA, keyA,
  atD_0, atD_1, atD_2, atD_3, atD_4, atD_5, atD_6, atD_7, atD_8, atD_9, atD_10, atD_11, atD_12,
  aGName, aGNil, aGCons, aGTup, aGLst, isSrc, SF.get, SF.put, argsOk, awipe, norm, clr, fzV, fzS, slotA, aSlice, aNoPart, aPart, aAugI, aBreak, aCont, aWhile, endsA_nx, endsA_rt_d, endsA_rt_src,
  List.map_cons, List.map_nil, List.length_cons, List.length_nil, List.cons_append, List.nil_append, List.getElem?_cons_zero, List.getElem?_cons_succ, List.set_cons_zero, List.set_cons_succ, List.foldr_cons, List.foldr_nil, List.take_zero, List.take_nil, List.take_succ_cons, Nat.zero_add, if_true, if_false, Bool.false_eq_true, Bool.not_true, Bool.not_false, decide_true, decide_false, List.getElem?_nil, Nat.reduceLeDiff, Nat.reduceAdd, Nat.reduceLT, true_and, and_true, decide_eq_true_eq, Bool.not_eq_true', decide_eq_false_iff_not]))
local macro_rules | `(tactic| walk_at "mul") => `(tactic| first | exact MulOk.l (by omega) (by omega) | exact MulOk.r (by omega) (by omega) | (exact Or.inl ⟨by omega, by omega⟩) | omega | (exact Rg.of (by omega) (by omega)))
local macro_rules | `(tactic| walk_at "muls") => `(tactic| repeat (refine And.intro (by walk_at "mul") ?_))
def Small (p : Int) : Prop := 2 ≤ p ∧ p ≤ 31
abbrev T4 := Int × Int × Int × Int
def fourD (t : Int × Int × Int × Int) : PyData := .tuple [.int t.1, .int t.2.1, .int t.2.2.1, .int t.2.2.2]
def kT (x y z : Int) : Int := x * x + y * y + z * z - x * y * z - 2
def N__law_all : List Str := ["p", "found", "a", "b", "c", "d"]
def lt__law_all_1 : ATT := (aTest (aBin aEq (aBin aMod (aCall bInt (aCons (aBin aSub (aBin aSub (aBin aMul (aVar 2) (aVar 5)) (aBin aMul (aVar 3) (aVar 4))) (aC (.int 1))) aNil)) (aVar 0)) (aC (.int 0))))
def le__law_all_2 : ATE := (aTup (aCons (aVar 2) (aCons (aVar 3) (aCons (aVar 4) (aCons (aVar 5) aNil)))))
def lb__law_all_3 : ATS := (aSet 1 (aBin aAdd (aVar 1) (aLc (aRng1 (aCons (aVar 0) aNil)) (aGName 5) lt__law_all_1 le__law_all_2 [5])))
def lb__law_all_4 : ATS := (aFor [4, 5] (aRng1 (aCons (aVar 0) aNil)) (aGName 4) lb__law_all_3)
def lb__law_all_5 : ATS := (aFor [3, 4, 5] (aRng1 (aCons (aVar 0) aNil)) (aGName 3) lb__law_all_4)
def t__law_all : ATS := (aSeq (aSet 1 (aLst aNil))
    (aSeq (aFor [2, 3, 4, 5] (aRng1 (aCons (aVar 0) aNil)) (aGName 2) lb__law_all_5)
    (aRet (aVar 1))))
def Wee (p : Int) : Prop := p = 2 ∨ p = 3
def allRow (p a b c : Int) : List T4 := ((intR 0 p.toNat).filter fun d => decide ((a * d - b * c - 1) % p = 0)).map fun d => (a, b, c, d)
def allC (p a b : Int) (cs : List Int) : List T4 := cs.flatMap fun c => allRow p a b c
def allB (p a : Int) (bs : List Int) : List T4 := bs.flatMap fun b => allC p a b (intR 0 p.toNat)
def allA (p : Int) (as : List Int) : List T4 := as.flatMap fun a => allB p a (intR 0 p.toNat)
def allL (p : Int) : List T4 := allA p (intR 0 p.toNat)
def fn__law_all : AFn := fun avs s Q => ∃ p : Int, avs = [.d (.int p)] ∧ Wee p ∧ Q (.d (.list ((allL p).map fourD))) s
theorem allRow_len (p a b c : Int) (hp : 2 ≤ p ∧ p ≤ 3) : (allRow p a b c).length ≤ 3 := by
  unfold allRow
  rw [List.length_map]
  refine Nat.le_trans (List.length_filter_le _ _) ?_
  rw [intR_len]; have := hp.2; have := hp.1; omega
theorem flat_len {α β : Type} (f : α → List β) (n : Nat) (h : ∀ a, (f a).length ≤ n) : ∀ l : List α, (l.flatMap f).length ≤ l.length * n
  | [] => by simp
  | a :: l => by
    have := flat_len f n h l
    have := h a
    rw [List.flatMap_cons, List.length_append, List.length_cons, Nat.succ_mul]
    omega
theorem all_c (E : AEnds) (p a b : Int) (hp : 2 ≤ p ∧ p ≤ 3) (ha : 0 ≤ a ∧ a < p) (hb : 0 ≤ b ∧ b < p) (s : Option Src) : ∀ (cs : List Int) (acc : List T4), (∀ c ∈ cs, 0 ≤ c ∧ c < p) → acc.length + cs.length * 3 ≤ 1000 →
    (E.nx ⟨[some (.d (.int p)), some (.d (.list ((acc ++ allC p a b cs).map fourD))), some (.d (.int a)), some (.d (.int b)), none, none], ⟨s, []⟩⟩) →
    aForL 0 [4, 5] (aGName 4) lb__law_all_3 E (cs.map PyData.int) ⟨[some (.d (.int p)), some (.d (.list (acc.map fourD))), some (.d (.int a)), some (.d (.int b)), none, none], ⟨s, []⟩⟩
  | [], acc, _, _, h => by simpa [aForL, allC] using h
  | c :: cs, acc, hc, hl, h => by
    obtain ⟨c1, c2⟩ := hc c List.mem_cons_self
    have hc' : ∀ k ∈ cs, 0 ≤ k ∧ k < p := fun k hk => hc k (List.mem_cons_of_mem _ hk)
    rw [List.length_cons] at hl
    unfold aForL
    rw [List.map_cons]
    unfold lb__law_all_3
    walk_at "qs"
    refine ⟨Rg.of (by omega) (by omega), by rw [rngD_len]; omega, ?_⟩
    rw [rngD_eq]
    refine aLcL_map PyData.int (fun d => decide ((a * d - b * c - 1) % p = 0)) (fun d => fourD (a, b, c, d)) (fun d hd K hK => ?_) ?_
    · have hd2 := mem_intR hd
      unfold stepC lt__law_all_1 le__law_all_2
      walk_at "qs"
      refine ⟨MulOk.l (by omega) (by omega), MulOk.l (by omega) (by omega), by omega, ?_⟩
      by_cases c0 : (a * d - b * c - 1) % p = 0
      · simp only [c0, decide_true, if_true] at hK ⊢; exact hK
      · simp only [c0, decide_false, Bool.false_eq_true, if_false] at hK ⊢; exact hK
    · have e' : ((intR 0 p.toNat).filter fun d => decide ((a * d - b * c - 1) % p = 0)).map (fun d => fourD (a, b, c, d)) = (allRow p a b c).map fourD := by
        unfold allRow
        rw [List.map_map]
        rfl
      walk_at "qs"
      rw [e']
      have hlen := allRow_len p a b c hp
      refine ⟨by rw [List.length_map, List.length_map]; exact Nat.le_trans (show acc.length + (allRow p a b c).length ≤ 1000000 by omega) (by decide), ?_⟩
      rw [← List.map_append]
      refine all_c E p a b hp ha hb s cs (acc ++ allRow p a b c) hc' (by rw [List.length_append]; omega) ?_
      rw [List.append_assoc, show allRow p a b c ++ allC p a b cs = allC p a b (c :: cs) from rfl]
      exact h
theorem allC_len (p a b : Int) (hp : 2 ≤ p ∧ p ≤ 3) (cs : List Int) : (allC p a b cs).length ≤ cs.length * 3 := flat_len _ 3 (fun c => allRow_len p a b c hp) cs
theorem allB_len (p a : Int) (hp : 2 ≤ p ∧ p ≤ 3) (bs : List Int) : (allB p a bs).length ≤ bs.length * 9 := flat_len _ 9 (fun b => by
  have := allC_len p a b hp (intR 0 p.toNat)
  rw [intR_len] at this; omega) bs
theorem all_b (E : AEnds) (p a : Int) (hp : 2 ≤ p ∧ p ≤ 3) (ha : 0 ≤ a ∧ a < p) (s : Option Src) : ∀ (bs : List Int) (acc : List T4), (∀ b ∈ bs, 0 ≤ b ∧ b < p) → acc.length + bs.length * 9 ≤ 500 →
    (E.nx ⟨[some (.d (.int p)), some (.d (.list ((acc ++ allB p a bs).map fourD))), some (.d (.int a)), none, none, none], ⟨s, []⟩⟩) →
    aForL 0 [3, 4, 5] (aGName 3) lb__law_all_4 E (bs.map PyData.int) ⟨[some (.d (.int p)), some (.d (.list (acc.map fourD))), some (.d (.int a)), none, none, none], ⟨s, []⟩⟩
  | [], acc, _, _, h => by simpa [aForL, allB] using h
  | b :: bs, acc, hb, hl, h => by
    obtain ⟨b1, b2⟩ := hb b List.mem_cons_self
    have hb' : ∀ k ∈ bs, 0 ≤ k ∧ k < p := fun k hk => hb k (List.mem_cons_of_mem _ hk)
    rw [List.length_cons] at hl
    unfold aForL
    rw [List.map_cons]
    unfold lb__law_all_4
    walk_at "qs"
    refine ⟨Rg.of (by omega) (by omega), ?_⟩
    rw [rngD_eq]
    have hl3 : (intR 0 p.toNat).length ≤ 3 := by rw [intR_len]; omega
    refine all_c _ p a b hp ha ⟨b1, b2⟩ s _ acc (fun k hk => by have := mem_intR hk; omega) (by omega) ?_
    walk_at "qs"
    have hlen := allC_len p a b hp (intR 0 p.toNat)
    refine all_b E p a hp ha s bs (acc ++ allC p a b (intR 0 p.toNat)) hb' (by rw [List.length_append]; omega) ?_
    rw [List.append_assoc, show allC p a b (intR 0 p.toNat) ++ allB p a bs = allB p a (b :: bs) from rfl]
    exact h
theorem all_a (E : AEnds) (p : Int) (hp : 2 ≤ p ∧ p ≤ 3) (s : Option Src) : ∀ (as : List Int) (acc : List T4), (∀ b ∈ as, 0 ≤ b ∧ b < p) → acc.length + as.length * 27 ≤ 300 →
    (E.nx ⟨[some (.d (.int p)), some (.d (.list ((acc ++ allA p as).map fourD))), none, none, none, none], ⟨s, []⟩⟩) →
    aForL 0 [2, 3, 4, 5] (aGName 2) lb__law_all_5 E (as.map PyData.int) ⟨[some (.d (.int p)), some (.d (.list (acc.map fourD))), none, none, none, none], ⟨s, []⟩⟩
  | [], acc, _, _, h => by simpa [aForL, allA] using h
  | a :: as, acc, hb, hl, h => by
    obtain ⟨b1, b2⟩ := hb a List.mem_cons_self
    have hb' : ∀ k ∈ as, 0 ≤ k ∧ k < p := fun k hk => hb k (List.mem_cons_of_mem _ hk)
    rw [List.length_cons] at hl
    unfold aForL
    rw [List.map_cons]
    unfold lb__law_all_5
    walk_at "qs"
    refine ⟨Rg.of (by omega) (by omega), ?_⟩
    rw [rngD_eq]
    have hl3 : (intR 0 p.toNat).length ≤ 3 := by rw [intR_len]; omega
    refine all_b _ p a hp ⟨b1, b2⟩ s _ acc (fun k hk => by have := mem_intR hk; omega) (by omega) ?_
    walk_at "qs"
    have hlen := allB_len p a hp (intR 0 p.toNat)
    refine all_a E p hp s as (acc ++ allB p a (intR 0 p.toNat)) hb' (by rw [List.length_append]; omega) ?_
    rw [List.append_assoc, show allB p a (intR 0 p.toNat) ++ allA p as = allA p (a :: as) from rfl]
    exact h
theorem h__law_all : ∀ avs s AQ, fn__law_all avs s AQ → t__law_all (endsA AQ) ⟨startA N__law_all avs, ⟨s, []⟩⟩ := by
  rintro _ s AQ ⟨p, rfl, hp, hq⟩
  have hp' : 2 ≤ p ∧ p ≤ 3 := by rcases hp with rfl | rfl <;> decide
  show t__law_all (endsA AQ) ⟨[some (.d (.int p)), none, none, none, none, none], ⟨s, []⟩⟩
  unfold t__law_all
  walk_at "qs"
  refine ⟨Rg.of (by omega) (by omega), ?_⟩
  rw [rngD_eq]
  refine all_a _ p hp' s _ [] (fun k hk => by have := mem_intR hk; omega) (by rw [intR_len]; simp; omega) ?_
  walk_at "qs"
  exact hq
def N__law_times : List Str := ["one", "other", "a", "b", "c", "d", "e", "f", "g", "h"]
def t__law_times : ATS := (aSeq (aAsg (aVar 0) (aGTup 4 (aGCons (aGName 2) (aGCons (aGName 3) (aGCons (aGName 4) (aGCons (aGName 5) aGNil))))))
    (aSeq (aAsg (aVar 1) (aGTup 4 (aGCons (aGName 6) (aGCons (aGName 7) (aGCons (aGName 8) (aGCons (aGName 9) aGNil))))))
    (aRet (aTup (aCons (aBin aAdd (aBin aMul (aVar 2) (aVar 6)) (aBin aMul (aVar 3) (aVar 8))) (aCons (aBin aAdd (aBin aMul (aVar 2) (aVar 7)) (aBin aMul (aVar 3) (aVar 9))) (aCons (aBin aAdd (aBin aMul (aVar 4) (aVar 6)) (aBin aMul (aVar 5) (aVar 8))) (aCons (aBin aAdd (aBin aMul (aVar 4) (aVar 7)) (aBin aMul (aVar 5) (aVar 9))) aNil))))))))
def Ent (o : T4) : Prop := (0 ≤ o.1 ∧ o.1 ≤ 31) ∧ (0 ≤ o.2.1 ∧ o.2.1 ≤ 31) ∧ (0 ≤ o.2.2.1 ∧ o.2.2.1 ≤ 31) ∧ (0 ≤ o.2.2.2 ∧ o.2.2.2 ≤ 31)
def timesM (o u : T4) : T4 := (o.1 * u.1 + o.2.1 * u.2.2.1, o.1 * u.2.1 + o.2.1 * u.2.2.2, o.2.2.1 * u.1 + o.2.2.2 * u.2.2.1, o.2.2.1 * u.2.1 + o.2.2.2 * u.2.2.2)
def fn__law_times : AFn := fun avs s Q => ∃ o u : T4, avs = [.d (fourD o), .d (fourD u)] ∧ Ent o ∧ Ent u ∧ Q (.d (fourD (timesM o u))) s
theorem h__law_times : ∀ avs s AQ, fn__law_times avs s AQ → t__law_times (endsA AQ) ⟨startA N__law_times avs, ⟨s, []⟩⟩ := by
  rintro _ s AQ ⟨⟨a, b, c, d⟩, ⟨e, f, g, h⟩, rfl, ⟨ha, hb, hc, hd⟩, ⟨he, hf, hg, hh⟩, hq⟩
  show t__law_times (endsA AQ) ⟨[some (.d (.tuple [.int a, .int b, .int c, .int d])), some (.d (.tuple [.int e, .int f, .int g, .int h])), none, none, none, none, none, none, none, none], ⟨s, []⟩⟩
  simp only at ha hb hc hd he hf hg hh
  unfold t__law_times
  walk_at "qs"
  exact ⟨MulOk.l (by omega) (by omega), MulOk.l (by omega) (by omega), MulOk.l (by omega) (by omega), MulOk.l (by omega) (by omega), MulOk.l (by omega) (by omega), MulOk.l (by omega) (by omega), MulOk.l (by omega) (by omega), MulOk.l (by omega) (by omega), hq⟩
def N__law_traced : List Str := ["pair", "both"]
def t__law_traced : ATS := (aSeq (aSet 1 (aFn 2 fn__law_times (aCons (aBin aIx (aVar 0) (aC (.int 0))) (aCons (aBin aIx (aVar 0) (aC (.int 1))) aNil))))
    (aRet (aTup (aCons (aBin aAdd (aBin aIx (aBin aIx (aVar 0) (aC (.int 0))) (aC (.int 0))) (aBin aIx (aBin aIx (aVar 0) (aC (.int 0))) (aC (.int 3)))) (aCons (aBin aAdd (aBin aIx (aBin aIx (aVar 0) (aC (.int 1))) (aC (.int 0))) (aBin aIx (aBin aIx (aVar 0) (aC (.int 1))) (aC (.int 3)))) (aCons (aBin aAdd (aBin aIx (aVar 1) (aC (.int 0))) (aBin aIx (aVar 1) (aC (.int 3)))) aNil))))))
def bothT (o u : T4) : Int := o.1 * u.1 + o.2.1 * u.2.2.1 + (o.2.2.1 * u.2.1 + o.2.2.2 * u.2.2.2)
def pairD (x : T4 × T4) : D := .tuple [fourD x.1, fourD x.2]
def fn__law_traced : AFn := fun avs s Q => ∃ o u : T4, avs = [.d (pairD (o, u))] ∧ Ent o ∧ Ent u ∧ Q (.d (.tuple [.int (o.1 + o.2.2.2), .int (u.1 + u.2.2.2), .int (bothT o u)])) s
theorem h__law_traced : ∀ avs s AQ, fn__law_traced avs s AQ → t__law_traced (endsA AQ) ⟨startA N__law_traced avs, ⟨s, []⟩⟩ := by
  rintro _ s AQ ⟨⟨a, b, c, d⟩, ⟨e, f, g, h⟩, rfl, ho, hu, hq⟩
  show t__law_traced (endsA AQ) ⟨[some (.d (.tuple [.tuple [.int a, .int b, .int c, .int d], .tuple [.int e, .int f, .int g, .int h]])), none], ⟨s, []⟩⟩
  unfold t__law_traced
  walk_at "qs"
  refine ⟨(a, b, c, d), (e, f, g, h), rfl, ho, hu, ?_⟩
  unfold fourD timesM
  walk_at "qs"
  exact hq
def N__law_counted : List Str := ["p", "some", "found", "one", "other", "triple", "many", "first", "number"]
def le__law_counted_1 : ATE := (aBin aMod (aCall bInt (aCons (aVar 8) aNil)) (aVar 0))
def lb__law_counted_2 : ATS := (aSeq (aSet 5 (aCall bTupleK (aCons (aLc (aItT (aFn 1 fn__law_traced (aCons (aTup (aCons (aVar 3) (aCons (aVar 4) aNil))) aNil))) (aGName 8) aYes le__law_counted_1 [8]) aNil)))
    (aSeq (aAsg (aDget (aVar 2) (aVar 5) (aTup (aCons (aC (.int 0)) (aCons (aTup (aCons (aVar 3) (aCons (aVar 4) aNil))) aNil)))) (aGTup 2 (aGCons (aGName 6) (aGCons (aGName 7) aGNil))))
    (aDput (aVar 2) (aVar 5) (aTup (aCons (aBin aAdd (aVar 6) (aC (.int 1))) (aCons (aVar 7) aNil))))))
def lb__law_counted_3 : ATS := (aFor [4, 5, 6, 7, 8] (aItL (aVar 1)) (aGName 4) lb__law_counted_2)
def t__law_counted : ATS := (aSeq (aPar 1 2 (aCons (aFn 1 fn__law_all (aCons (aVar 0) aNil)) (aCons aDnewT aNil)))
    (aSeq (aFor [3, 4, 5, 6, 7, 8] (aItL (aVar 1)) (aGName 3) lb__law_counted_3)
    (aRet (aVar 2))))
/-- the key of a pair -/
def keyP (p : Int) (q : T4 × T4) : List Key := [.inl ((q.1.1 + q.1.2.2.2) % p), .inl ((q.2.1 + q.2.2.2.2) % p), .inl (bothT q.1 q.2 % p)]
abbrev CL := List (List Key × Int × (T4 × T4))
def ent (x : Int × (T4 × T4)) : D := .tuple [.int x.1, pairD x.2]
def tdOf (l : CL) : List (List Key × D) := l.map fun e => (e.1, ent e.2)
def lookC : CL → List Key → Option (Int × (T4 × T4))
  | [], _ => none
  | e :: l, k => if e.1 = k then some e.2 else lookC l k
def putC (l : CL) (k : List Key) (v : Int × (T4 × T4)) : CL := if (l.any fun e => decide (e.1 = k)) = true then l.map (fun e => if e.1 = k then (e.1, v) else e) else l ++ [(k, v)]
theorem tdOf_look (l : CL) (k : List Key) : valD (tdOf l) k = (lookC l k).map ent := by
  induction l with
  | nil => rfl
  | cons e l ih =>
    unfold tdOf at ih ⊢
    rw [List.map_cons, valD_cons, ih]
    rw [show lookC (e :: l) k = if e.1 = k then some e.2 else lookC l k from rfl]
    by_cases h : e.1 = k
    · rw [if_pos h, if_pos h]; rfl
    · rw [if_neg h, if_neg h]
theorem tdOf_put (l : CL) (k : List Key) (v : Int × (T4 × T4)) : putD (tdOf l) k (ent v) = tdOf (putC l k v) := by
  have ea : ((tdOf l).any fun kv => decide (kv.1 = k)) = (l.any fun e => decide (e.1 = k)) := by
    unfold tdOf
    rw [List.any_map]; rfl
  unfold putD putC
  rw [ea]
  by_cases h : (l.any fun e => decide (e.1 = k)) = true
  · rw [if_pos h, if_pos h]
    unfold tdOf
    rw [List.map_map, List.map_map]
    refine List.map_congr_left fun e _ => ?_
    show (if e.1 = k then (e.1, ent v) else (e.1, ent e.2)) = ((if e.1 = k then (e.1, v) else e).1, ent (if e.1 = k then (e.1, v) else e).2)
    by_cases h2 : e.1 = k
    · rw [if_pos h2, if_pos h2]
    · rw [if_neg h2, if_neg h2]
  · rw [if_neg h, if_neg h]
    unfold tdOf
    rw [List.map_append]; rfl
theorem putC_len (l : CL) (k : List Key) (v : Int × (T4 × T4)) : (putC l k v).length ≤ l.length + 1 := by
  unfold putC
  split
  · rw [List.length_map]; omega
  · rw [List.length_append]; exact Nat.le_refl _
def stepP (p : Int) (l : CL) (q : T4 × T4) : CL := match lookC l (keyP p q) with
  | some (m, f) => putC l (keyP p q) (m + 1, f)
  | none => putC l (keyP p q) (1, q)
def pairsOf (os us : List T4) : List (T4 × T4) := os.flatMap fun o => us.map fun u => (o, u)
def countC (p : Int) : CL := (pairsOf (allL p) (allL p)).foldl (stepP p) []
def fn__law_counted : AFn := fun avs s Q => ∃ p : Int, avs = [.d (.int p)] ∧ Wee p ∧ Q (.dt (tdOf (countC p))) s
theorem stepP_len (p : Int) (l : CL) (q : T4 × T4) : (stepP p l q).length ≤ l.length + 1 := by
  unfold stepP
  split <;> exact putC_len _ _ _
theorem foldP_len (p : Int) : ∀ (qs : List (T4 × T4)) (l : CL), (qs.foldl (stepP p) l).length ≤ l.length + qs.length
  | [], l => by simp
  | q :: qs, l => by
    have := foldP_len p qs (stepP p l q)
    have := stepP_len p l q
    rw [List.foldl_cons, List.length_cons]; omega
theorem count_in (E : AEnds) (p : Int) (hp : 2 ≤ p ∧ p ≤ 3) (x1 : D) (o : T4) (ho : Ent o) (s : Option Src) : ∀ (us : List T4) (l : CL), (∀ u ∈ us, Ent u) → l.length + us.length ≤ 10000 →
    (E.nx ⟨[some (.d (.int p)), some (.d x1), some (.o 0), some (.d (fourD o)), none, none, none, none, none], ⟨s, [.td (tdOf ((us.map fun u => (o, u)).foldl (stepP p) l))]⟩⟩) →
    aForL 1 [4, 5, 6, 7, 8] (aGName 4) lb__law_counted_2 E (us.map fourD) ⟨[some (.d (.int p)), some (.d x1), some (.o 0), some (.d (fourD o)), none, none, none, none, none], ⟨s, [.td (tdOf l)]⟩⟩
  | [], l, _, _, h => h
  | u :: us, l, hu, hl, h => by
    have hu0 := hu u List.mem_cons_self
    have hu' : ∀ u ∈ us, Ent u := fun k hk => hu k (List.mem_cons_of_mem _ hk)
    rw [List.length_cons] at hl
    have hlen : (tdOf l).length = l.length := by unfold tdOf; rw [List.length_map]
    unfold aForL
    rw [List.map_cons]
    unfold lb__law_counted_2
    walk_at "qs"
    refine ⟨o, u, rfl, ho, hu0, ?_⟩
    walk_at "qs"
    rw [show [PyData.int (o.1 + o.2.2.2), .int (u.1 + u.2.2.2), .int (bothT o u)] = [o.1 + o.2.2.2, u.1 + u.2.2.2, bothT o u].map PyData.int from rfl]
    refine aLcL_all PyData.int (fun i => .int (i % p)) (fun i _ K hK => ?_) ?_
    · unfold stepC le__law_counted_1
      walk_at "qs"
      exact ⟨by omega, hK⟩
    have hk : keysD ([o.1 + o.2.2.2, u.1 + u.2.2.2, bothT o u].map fun i => PyData.int (i % p)) = some (keyP p (o, u)) := rfl
    rw [hk]
    walk_at "qs"
    refine ⟨rfl, ?_⟩
    rw [tdOf_look]
    have hs := stepP_len p l (o, u)
    have fin : ∀ l', l' = stepP p l (o, u) → aForL 1 [4, 5, 6, 7, 8] (aGName 4) lb__law_counted_2 E (us.map fourD) ⟨[some (.d (.int p)), some (.d x1), some (.o 0), some (.d (fourD o)), none, none, none, none, none], ⟨s, [.td (tdOf l')]⟩⟩ := by
      rintro _ rfl
      exact count_in E p hp x1 o ho s us _ hu' (by omega) h
    cases e : lookC l (keyP p (o, u)) with
    | none =>
      unfold Option.map
      walk_at "qs"
      refine ⟨by omega, ?_⟩
      have e2 : PyData.tuple [PyData.int (0 + 1), .tuple [fourD o, fourD u]] = ent (1, (o, u)) := rfl
      rw [e2, tdOf_put]
      exact fin _ (by unfold stepP; rw [e])
    | some x =>
      obtain ⟨m, f⟩ := x
      unfold Option.map ent
      walk_at "qs"
      refine ⟨by omega, ?_⟩
      have e2 : PyData.tuple [PyData.int (m + 1), pairD f] = ent (m + 1, f) := rfl
      rw [e2, tdOf_put]
      exact fin _ (by unfold stepP; rw [e])
theorem count_out (E : AEnds) (p : Int) (hp : 2 ≤ p ∧ p ≤ 3) (us : List T4) (hus : ∀ u ∈ us, Ent u) (hul : us.length ≤ 81) (s : Option Src) : ∀ (os : List T4) (l : CL), (∀ u ∈ os, Ent u) → l.length + os.length * 81 ≤ 9000 →
    (E.nx ⟨[some (.d (.int p)), some (.d (.list (us.map fourD))), some (.o 0), none, none, none, none, none, none], ⟨s, [.td (tdOf ((pairsOf os us).foldl (stepP p) l))]⟩⟩) →
    aForL 1 [3, 4, 5, 6, 7, 8] (aGName 3) lb__law_counted_3 E (os.map fourD) ⟨[some (.d (.int p)), some (.d (.list (us.map fourD))), some (.o 0), none, none, none, none, none, none], ⟨s, [.td (tdOf l)]⟩⟩
  | [], l, _, _, h => h
  | o :: os, l, ho, hl, h => by
    have ho0 := ho o List.mem_cons_self
    have ho' : ∀ u ∈ os, Ent u := fun k hk => ho k (List.mem_cons_of_mem _ hk)
    rw [List.length_cons] at hl
    unfold aForL
    rw [List.map_cons]
    unfold lb__law_counted_3
    walk_at "qs"
    refine count_in _ p hp _ o ho0 s us l hus (by omega) ?_
    walk_at "qs"
    have hs := foldP_len p (us.map fun u => (o, u)) l
    rw [List.length_map] at hs
    refine count_out E p hp us hus hul s os _ ho' (by omega) ?_
    rw [show pairsOf (o :: os) us = (us.map fun u => (o, u)) ++ pairsOf os us from rfl, List.foldl_append] at h
    exact h
theorem allL_ent {p : Int} (hp : Wee p) : ∀ u ∈ allL p, Ent u := by
  have hp' : 2 ≤ p ∧ p ≤ 3 := by rcases hp with rfl | rfl <;> decide
  intro u hu
  unfold allL allA at hu
  obtain ⟨a, ha, hu⟩ := List.mem_flatMap.mp hu
  unfold allB at hu
  obtain ⟨b, hb, hu⟩ := List.mem_flatMap.mp hu
  unfold allC at hu
  obtain ⟨c, hc, hu⟩ := List.mem_flatMap.mp hu
  unfold allRow at hu
  obtain ⟨d, hd, rfl⟩ := List.mem_map.mp hu
  have hd := (List.mem_filter.mp hd).1
  have h1 := mem_intR ha
  have h2 := mem_intR hb
  have h3 := mem_intR hc
  have h4 := mem_intR hd
  exact ⟨by dsimp only; omega, by dsimp only; omega, by dsimp only; omega, by dsimp only; omega⟩
theorem allL_len {p : Int} (hp : Wee p) : (allL p).length ≤ 81 := by
  have hp' : 2 ≤ p ∧ p ≤ 3 := by rcases hp with rfl | rfl <;> decide
  unfold allL allA
  have := flat_len (fun a => allB p a (intR 0 p.toNat)) 27 (fun a => by
    have := allB_len p a hp' (intR 0 p.toNat)
    rw [intR_len] at this; omega) (intR 0 p.toNat)
  rw [intR_len] at this
  omega
theorem h__law_counted : ∀ avs s AQ, fn__law_counted avs s AQ → t__law_counted (endsA AQ) ⟨startA N__law_counted avs, ⟨s, []⟩⟩ := by
  rintro _ s AQ ⟨p, rfl, hp, hq⟩
  have hp' : 2 ≤ p ∧ p ≤ 3 := by rcases hp with rfl | rfl <;> decide
  show t__law_counted (endsA AQ) ⟨[some (.d (.int p)), none, none, none, none, none, none, none, none], ⟨s, []⟩⟩
  unfold t__law_counted
  walk_at "qs"
  refine ⟨p, rfl, hp, ?_⟩
  walk_at "qs"
  have hl := allL_len hp
  refine count_out _ p hp' (allL p) (allL_ent hp) hl s (allL p) [] (allL_ent hp) (by simp; omega) ?_
  walk_at "qs"
  rw [endsA_rt_td _ _ _ _ (tdOf (countC p)) rfl]
  exact hq
def N__law_first_right : List Str := ["p", "triple", "first", "table", "one", "late"]
def lt__law_first_right_1 : ATT := (aNot (aTest (aChain aLe aLt (aC (.int 0)) (aVar 4) (aVar 0))))
def le__law_first_right_2 : ATE := (aVar 4)
def lb__law_first_right_3 : ATS := (aSeq (aIfS (aTest (aBin aNe (aLc (aItT (aVar 3)) (aGName 4) lt__law_first_right_1 le__law_first_right_2 [4]) (aLst aNil))) (aRet (aC (.bool false))) aNext)
    (aIfS (aTest (aBin aNe (aBin aMod (aCall bInt (aCons (aBin aSub (aBin aSub (aBin aMul (aBin aIx (aVar 3) (aC (.int 0))) (aBin aIx (aVar 3) (aC (.int 3)))) (aBin aMul (aBin aIx (aVar 3) (aC (.int 1))) (aBin aIx (aVar 3) (aC (.int 2))))) (aC (.int 1))) aNil)) (aVar 0)) (aC (.int 0)))) (aRet (aC (.bool false))) aNext))
def le__law_first_right_4 : ATE := (aBin aMod (aCall bInt (aCons (aBin aSub (aVar 4) (aVar 5)) aNil)) (aVar 0))
def t__law_first_right : ATS := (aSeq (aFor [3, 4] (aItT (aVar 2)) (aGName 3) lb__law_first_right_3)
    (aRet (aBin aEq (aLc (aZip (aCons (aFn 1 fn__law_traced (aCons (aVar 2) aNil)) (aCons (aVar 1) aNil))) (aGTup 2 (aGCons (aGName 4) (aGCons (aGName 5) aGNil))) aYes le__law_first_right_4 [4, 5]) (aLst (aCons (aC (.int 0)) (aCons (aC (.int 0)) (aCons (aC (.int 0)) aNil)))))))
def Ine (p : Int) (o : T4) : Prop := (0 ≤ o.1 ∧ o.1 < p) ∧ (0 ≤ o.2.1 ∧ o.2.1 < p) ∧ (0 ≤ o.2.2.1 ∧ o.2.2.1 < p) ∧ (0 ≤ o.2.2.2 ∧ o.2.2.2 < p)
def Det1 (p : Int) (o : T4) : Prop := (o.1 * o.2.2.2 - o.2.1 * o.2.2.1 - 1) % p = 0
def fn__law_first_right : AFn := fun avs s Q => ∃ (p x y z : Int) (o u : T4), avs = [.d (.int p), .d (.tuple [.int x, .int y, .int z]), .d (pairD (o, u))] ∧ Small p ∧ Ine p o ∧ Ine p u ∧ Det1 p o ∧ Det1 p u ∧
  (o.1 + o.2.2.2 - x) % p = 0 ∧ (u.1 + u.2.2.2 - y) % p = 0 ∧ (bothT o u - z) % p = 0 ∧ Q (.d (.bool true)) s
theorem fr_one (E : AEnds) (p : Int) (tr fi : D) (s : Option Src) (o : T4) (hp : Small p) (hi : Ine p o) (hd : Det1 p o)
    (h : E.nx ⟨[some (.d (.int p)), some (.d tr), some (.d fi), some (.d (fourD o)), none, none], ⟨s, []⟩⟩) :
    lb__law_first_right_3 E ⟨[some (.d (.int p)), some (.d tr), some (.d fi), some (.d (fourD o)), none, none], ⟨s, []⟩⟩ := by
  obtain ⟨a, b, c, d⟩ := o
  obtain ⟨h1, h2, h3, h4⟩ := hi
  obtain ⟨p1, p2⟩ := hp
  unfold Det1 at hd
  dsimp only at h1 h2 h3 h4 hd
  have stp : ∀ (k : Int) (K : Option D → Mm → Prop), (0 ≤ k ∧ k < p) → K none ⟨s, []⟩ → stepC (aGName 4) lt__law_first_right_1 le__law_first_right_2 [some (.d (.int p)), some (.d tr), some (.d fi), some (.d (.tuple [.int a, .int b, .int c, .int d])), none, none] (.int k) ⟨s, []⟩ K := by
    intro k K hk hK
    unfold stepC lt__law_first_right_1 le__law_first_right_2
    walk_at "qs"
    simp only [hk.1, hk.2, decide_true, if_true, Bool.not_true, Bool.false_eq_true, if_false]
    first | exact hK | (walk_at "qs"; exact hK)
  unfold lb__law_first_right_3
  unfold fourD at h ⊢
  walk_at "qs"
  refine aLcL_step (stp a _ h1 ?_)
  refine aLcL_step (stp b _ h2 ?_)
  refine aLcL_step (stp c _ h3 ?_)
  refine aLcL_step (stp d _ h4 ?_)
  unfold aLcL
  refine ⟨rfl, rfl, ?_⟩
  have ee : PyData.eqv (.list []) (.list []) = true := by decide
  rw [ee]
  walk_at "qs"
  refine ⟨MulOk.l (by omega) (by omega), MulOk.l (by omega) (by omega), by omega, ?_⟩
  rw [hd]
  walk_at "qs"
  exact h
theorem h__law_first_right : ∀ avs s AQ, fn__law_first_right avs s AQ → t__law_first_right (endsA AQ) ⟨startA N__law_first_right avs, ⟨s, []⟩⟩ := by
  rintro _ s AQ ⟨p, x, y, z, o, u, rfl, hp, ho, hu, do_, du, h1, h2, h3, hq⟩
  show t__law_first_right (endsA AQ) ⟨[some (.d (.int p)), some (.d (.tuple [.int x, .int y, .int z])), some (.d (.tuple [fourD o, fourD u])), none, none, none], ⟨s, []⟩⟩
  obtain ⟨p1, p2⟩ := hp
  unfold t__law_first_right
  walk_at "qs"
  unfold aForL
  walk_at "qs"
  refine fr_one _ p _ _ s o ⟨p1, p2⟩ ho do_ ?_
  walk_at "qs"
  unfold aForL
  walk_at "qs"
  refine fr_one _ p _ _ s u ⟨p1, p2⟩ hu du ?_
  walk_at "qs"
  unfold aForL
  walk_at "qs"
  have eo : Ent o := by obtain ⟨q1, q2, q3, q4⟩ := ho; exact ⟨by omega, by omega, by omega, by omega⟩
  have eu : Ent u := by obtain ⟨q1, q2, q3, q4⟩ := hu; exact ⟨by omega, by omega, by omega, by omega⟩
  refine ⟨o, u, rfl, eo, eu, ?_⟩
  walk_at "qs"
  have ez : zipD [PyData.int (o.1 + o.2.2.2), .int (u.1 + u.2.2.2), .int (bothT o u)] [.int x, .int y, .int z] = [.tuple [.int (o.1 + o.2.2.2), .int x], .tuple [.int (u.1 + u.2.2.2), .int y], .tuple [.int (bothT o u), .int z]] := rfl
  rw [ez]
  refine ⟨by show 3 ≤ 1000000; decide, ?_⟩
  have stp : ∀ (k l : Int) (g : List (Option AV)) (K : Option D → Mm → Prop), (k - l) % p = 0 → g = [some (.d (.int p)), some (.d (.tuple [.int x, .int y, .int z])), some (.d (.tuple [fourD o, fourD u])), none, none, none] → K (some (.int 0)) ⟨s, []⟩ → stepC (aGTup 2 (aGCons (aGName 4) (aGCons (aGName 5) aGNil))) aYes le__law_first_right_4 g (.tuple [.int k, .int l]) ⟨s, []⟩ K := by
    rintro k l _ K hk rfl hK
    unfold stepC le__law_first_right_4
    walk_at "qs"
    rw [hk]
    exact ⟨by omega, hK⟩
  refine aLcL_step (stp _ _ _ _ h1 rfl ?_)
  refine aLcL_step (stp _ _ _ _ h2 rfl ?_)
  refine aLcL_step (stp _ _ _ _ h3 rfl ?_)
  unfold aLcL
  refine ⟨rfl, rfl, ?_⟩
  have ee : PyData.eqv (.list ([] ++ [PyData.int 0] ++ [PyData.int 0] ++ [PyData.int 0])) (.list [.int 0, .int 0, .int 0]) = true := by decide
  rw [ee]
  exact hq
def N__law_pick : List Str := ["source", "many", "left", "mixed"]
def lc__law_pick_1 : ATT := (aAnd (aTest (aBin aGt (aVar 1) (aC (.int 1)))) (aAnd (aTest (aBin aLt (aSrcF .left (aVar 0)) (aC (.int 2)))) (aTest (aBin aGt (aCall bLen (aCons (aSrcC (aVar 0)) aNil)) (aC (.int 0))))))
def lb__law_pick_2 : ATS := (aSrcPut .left (aVar 0) (aMt0 mPopC (aSrcC (aVar 0))))
def t__law_pick : ATS := (aSeq (aWhile [] lc__law_pick_1 lb__law_pick_2)
    (aSeq (aSet 2 (aSrcF .left (aVar 0)))
    (aSeq (aIfS (aOr (aTest (aBin aLt (aVar 1) (aC (.int 2)))) (aTest (aBin aGt (aVar 2) (aC (.int 1))))) (aSeq (aSrcPut .left (aVar 0) (aBin aFdiv (aVar 2) (aCall bMax (aCons (aC (.int 1)) (aCons (aVar 1) aNil)))))
    (aRet (aBin aMod (aCall bInt (aCons (aVar 2) aNil)) (aCall bMax (aCons (aC (.int 1)) (aCons (aVar 1) aNil)))))) aNext)
    (aSeq (aSrcPut .turn (aVar 0) (aBin aAdd (aSrcF .turn (aVar 0)) (aC (.int 1))))
    (aSeq (aSet 3 (aBin aMod (aCall bInt (aCons (aBin aAdd (aSrcF .mixed (aVar 0)) (aBin aMul (aSrcF .turn (aVar 0)) (aC (.int 104729)))) aNil)) (aC (.int 998244353))))
    (aSeq (aSet 3 (aBin aMod (aCall bInt (aCons (aBin aAdd (aBin aMul (aVar 3) (aVar 3)) (aBin aMul (aSrcF .turn (aVar 0)) (aC (.int 17)))) aNil)) (aC (.int 2147483647))))
    (aSeq (aSrcPut .mixed (aVar 0) (aVar 3))
    (aRet (aBin aMod (aCall bInt (aCons (aBin aFdiv (aVar 3) (aC (.int 16))) aNil)) (aVar 1))))))))))
/-- a drawn number -/
def fn__law_pick : AFn := fun avs s Q => ∃ (S : Src) (n : Int), avs = [.src, .d (.int n)] ∧ s = some S ∧ n < 1073741824 ∧ ∀ (r : Int) S', 0 ≤ r → r < max 1 n → Q (.d (.int r)) (some S')
theorem h__law_pick : ∀ avs s AQ, fn__law_pick avs s AQ → t__law_pick (endsA AQ) ⟨startA N__law_pick avs, ⟨s, []⟩⟩ := by
  rintro _ _ AQ ⟨S, n, rfl, rfl, hn, hq⟩
  show t__law_pick (endsA AQ) ⟨[some .src, some (.d (.int n)), none, none], ⟨some S, []⟩⟩
  unfold t__law_pick
  walk_at "qs"
  refine ⟨fun a => ∃ S' : Src, a = ⟨[some .src, some (.d (.int n)), none, none], ⟨some S', []⟩⟩, fun a => match a.m.s with | some S' => S'.cells.length | none => 0, ⟨S, rfl⟩, ?_⟩
  rintro _ ⟨S, rfl⟩
  have hmax : (if n > 1 then n else 1) = max 1 n := by omega
  -- what follows the loop
  have tail : ∀ S : Src, aSeq (aSet 2 (aSrcF .left (aVar 0)))
    (aSeq (aIfS (aOr (aTest (aBin aLt (aVar 1) (aC (.int 2)))) (aTest (aBin aGt (aVar 2) (aC (.int 1))))) (aSeq (aSrcPut .left (aVar 0) (aBin aFdiv (aVar 2) (aCall bMax (aCons (aC (.int 1)) (aCons (aVar 1) aNil)))))
    (aRet (aBin aMod (aCall bInt (aCons (aVar 2) aNil)) (aCall bMax (aCons (aC (.int 1)) (aCons (aVar 1) aNil)))))) aNext)
    (aSeq (aSrcPut .turn (aVar 0) (aBin aAdd (aSrcF .turn (aVar 0)) (aC (.int 1))))
    (aSeq (aSet 3 (aBin aMod (aCall bInt (aCons (aBin aAdd (aSrcF .mixed (aVar 0)) (aBin aMul (aSrcF .turn (aVar 0)) (aC (.int 104729)))) aNil)) (aC (.int 998244353))))
    (aSeq (aSet 3 (aBin aMod (aCall bInt (aCons (aBin aAdd (aBin aMul (aVar 3) (aVar 3)) (aBin aMul (aSrcF .turn (aVar 0)) (aC (.int 17)))) aNil)) (aC (.int 2147483647))))
    (aSeq (aSrcPut .mixed (aVar 0) (aVar 3))
    (aRet (aBin aMod (aCall bInt (aCons (aBin aFdiv (aVar 3) (aC (.int 16))) aNil)) (aVar 1)))))))) (endsA AQ) ⟨[some .src, some (.d (.int n)), none, none], ⟨some S, []⟩⟩ := by
    intro S
    have fin1 : ∀ S', (0 < (if n > 1 then n else 1)) ∧ AQ (.d (.int (S.left % (if n > 1 then n else 1)))) (some S') := fun S' => by
      rw [hmax]
      exact ⟨by omega, hq _ _ (Int.emod_nonneg _ (by omega)) (Int.emod_lt_of_pos _ (by omega))⟩
    have dv : DivOk S.left (if n > 1 then n else 1) := .inl ⟨by rw [hmax]; omega, by rw [hmax]; omega⟩
    walk_at "qs"
    by_cases c1 : n < 2
    · simp only [c1, decide_true, if_true]
      walk_at "qs"
      exact ⟨dv, fin1 _⟩
    · simp only [c1, decide_false, Bool.false_eq_true, if_false]
      walk_at "qs"
      by_cases c2 : 1 < S.left
      · simp only [c2, decide_true, if_true]
        walk_at "qs"
        exact ⟨dv, fin1 _⟩
      · simp only [c2, decide_false, Bool.false_eq_true, if_false]
        walk_at "qs"
        refine ⟨.inl (.inr (by decide)), by decide, ?_⟩
        walk_at "qs"
        have h1 := Int.emod_nonneg (S.mixed + (S.turn + 1) * 104729) (show (998244353 : Int) ≠ 0 by decide)
        have h2 := Int.emod_lt_of_pos (S.mixed + (S.turn + 1) * 104729) (show (0 : Int) < 998244353 by decide)
        refine ⟨.inl (.inl ⟨by omega, by omega⟩), .inl (.inr (by decide)), by decide, ?_⟩
        walk_at "qs"
        refine ⟨.inl ⟨by decide, by decide⟩, by omega, hq _ _ (Int.emod_nonneg _ (by omega)) ?_⟩
        have := Int.emod_lt_of_pos (((S.mixed + (S.turn + 1) * 104729) % 998244353 * ((S.mixed + (S.turn + 1) * 104729) % 998244353) + (S.turn + 1) * 17) % 2147483647 / 16) (show (0 : Int) < n by omega)
        omega
  unfold lc__law_pick_1 lb__law_pick_2
  walk_at "qs"
  by_cases c1 : 1 < n
  · simp only [c1, decide_true, if_true]
    walk_at "qs"
    by_cases c2 : S.left < 2
    · simp only [c2, decide_true, if_true]
      walk_at "qs"
      by_cases c3 : (0 : Int) < ((S.cells.map PyData.int).length : Nat)
      · simp only [c3, decide_true, if_true]
        walk_at "qs"
        rw [List.length_map] at c3
        cases e : S.cells.getLast? with
        | none =>
          rw [List.getLast?_eq_none_iff] at e
          rw [e] at c3
          simp at c3
        | some i =>
          walk_at "qs"
          refine ⟨⟨_, rfl⟩, ?_⟩
          show S.cells.dropLast.length < S.cells.length
          rw [List.length_dropLast]; omega
      · simp only [c3, decide_false, Bool.false_eq_true, if_false]
        walk_at "qs"
        (have tl := tail S; revert tl; walk_at "qs"; intro tl; simp only [c1, decide_true, decide_false, Bool.false_eq_true, if_true, if_false] at tl ⊢; exact tl)
    · simp only [c2, decide_false, Bool.false_eq_true, if_false]
      walk_at "qs"
      (have tl := tail S; revert tl; walk_at "qs"; intro tl; simp only [c1, decide_true, decide_false, Bool.false_eq_true, if_true, if_false] at tl ⊢; exact tl)
  · simp only [c1, decide_false, Bool.false_eq_true, if_false]
    walk_at "qs"
    (have tl := tail S; revert tl; walk_at "qs"; intro tl; simp only [c1, decide_true, decide_false, Bool.false_eq_true, if_true, if_false] at tl ⊢; exact tl)
def N__law_of : List Str := ["source", "some"]
def t__law_of : ATS := (aRet (aBin aIx (aVar 1) (aFn 2 fn__law_pick (aCons (aVar 0) (aCons (aCall bLen (aCons (aVar 1) aNil)) aNil)))))
/-- a drawn member -/
def fn__law_of : AFn := fun avs s Q => ∃ (S : Src) (ds : List D), avs = [.src, .d (.list ds)] ∧ s = some S ∧ 0 < ds.length ∧ ds.length < 1073741824 ∧ ∀ d ∈ ds, ∀ S', Q (.d d) (some S')
theorem h__law_of : ∀ avs s AQ, fn__law_of avs s AQ → t__law_of (endsA AQ) ⟨startA N__law_of avs, ⟨s, []⟩⟩ := by
  rintro _ _ AQ ⟨S, ds, rfl, rfl, h0, hn, hq⟩
  show t__law_of (endsA AQ) ⟨[some .src, some (.d (.list ds))], ⟨some S, []⟩⟩
  unfold t__law_of
  walk_at "qs"
  refine ⟨S, _, rfl, rfl, by omega, fun r S' h1 h2 => ?_⟩
  walk_at "qs"
  have hr : r.toNat < ds.length := by omega
  have e : atD ds r = some ds[r.toNat] := by
    unfold atD
    rw [if_pos h1, List.getElem?_eq_getElem hr]
  rw [e]
  exact hq _ (List.getElem_mem hr) S'
def N__law_source : List Str := ["script", "mixed", "cell"]
def lb__law_source_1 : ATS := (aSet 1 (aBin aMod (aCall bInt (aCons (aBin aAdd (aBin aAdd (aBin aMul (aVar 1) (aC (.int 69069))) (aBin aMul (aVar 2) (aC (.int 31)))) (aC (.int 5))) aNil)) (aC (.int 2147483629))))
def le__law_source_2 : ATE := (aCall bAbs (aCons (aVar 2) aNil))
def t__law_source : ATS := (aSeq (aSet 1 (aC (.int 11)))
    (aSeq (aFor [2] (aItS (aVar 0)) (aGName 2) lb__law_source_1)
    (aRet (aSrcNew (aRevM (aLc (aItS (aVar 0)) (aGName 2) aYes le__law_source_2 [2])) (aC (.int 1)) (aVar 1) (aC (.int 0))))))
/-- a source is made of the script: which one is left open -/
def fn__law_source : AFn := fun avs s Q => ∃ ns : List Int, avs = [.scr ns] ∧ s = none ∧ ns.length ≤ 63 ∧ ∀ S', Q .src (some S')
theorem source_loop (E : AEnds) (ns0 : List Int) : ∀ (ns : List Int) (mi : Int), (∀ mi, E.nx ⟨[some (.scr ns0), some (.d (.int mi)), none], ⟨none, []⟩⟩) →
    aForL 0 [2] (aGName 2) lb__law_source_1 E (ns.map PyData.int) ⟨[some (.scr ns0), some (.d (.int mi)), none], ⟨none, []⟩⟩
  | [], mi, h => h mi
  | n :: ns, mi, h => by
    unfold aForL
    rw [List.map_cons]
    unfold lb__law_source_1
    walk_at "qs"
    refine ⟨.inl (.inr (by decide)), .inl (.inr (by decide)), by decide, ?_⟩
    walk_at "qs"
    exact source_loop E ns0 ns _ h
theorem filterMap_some' {α β : Type} (f : α → β) (l : List α) : l.filterMap (fun x => some (f x)) = l.map f := by
  induction l with
  | nil => rfl
  | cons a l ih => simp [ih]
theorem h__law_source : ∀ avs s AQ, fn__law_source avs s AQ → t__law_source (endsA AQ) ⟨startA N__law_source avs, ⟨s, []⟩⟩ := by
  rintro _ _ AQ ⟨ns, rfl, rfl, hn, hq⟩
  show t__law_source (endsA AQ) ⟨[some (.scr ns), none, none], ⟨none, []⟩⟩
  unfold t__law_source
  walk_at "qs"
  refine source_loop _ ns ns 11 fun mi => ?_
  walk_at "qs"
  refine ⟨by rw [List.length_map]; omega, aLcL_pure (fun d => match d with | .int i => some (.int (if i < 0 then -i else i)) | _ => none) (fun d hd K hK => ?_) ?_⟩
  · obtain ⟨i, _, rfl⟩ := List.mem_map.mp hd
    unfold stepC le__law_source_2
    walk_at "qs"
    exact hK
  · walk_at "qs"
    refine ⟨(ns.map fun i => if i < 0 then -i else i).reverse, ?_, hq _⟩
    rw [List.filterMap_map]
    have e : ((fun d : D => match d with | .int i => some (PyData.int (if i < 0 then -i else i)) | _ => none) ∘ PyData.int) = fun i => some (PyData.int (if i < 0 then -i else i)) := rfl
    rw [e, filterMap_some', List.map_reverse, List.map_map]
    rfl
def N_first_partner : List Str := ["p", "triple", "x", "y", "z", "q", "w", "s", "r"]
def lb_first_partner_1 : ATS := (aSeq (aSet 7 (aBin aMod (aBin aSub (aVar 3) (aVar 5)) (aVar 0)))
    (aSeq (aSet 8 (aBin aMod (aBin aSub (aBin aAdd (aVar 4) (aVar 6)) (aBin aMul (aVar 2) (aVar 7))) (aVar 0)))
    (aIfS (aTest (aBin aEq (aBin aMod (aBin aSub (aBin aMul (aVar 5) (aVar 7)) (aBin aMul (aVar 6) (aVar 8))) (aVar 0)) (aC (.int 1)))) (aRet (aTup (aCons (aVar 5) (aCons (aVar 6) (aCons (aVar 8) (aCons (aVar 7) aNil)))))) aNext)))
def lb_first_partner_2 : ATS := (aFor [6, 7, 8] (aRng1 (aCons (aVar 0) aNil)) (aGName 6) lb_first_partner_1)
def t_first_partner : ATS := (aSeq (aAsg (aVar 1) (aGTup 3 (aGCons (aGName 2) (aGCons (aGName 3) (aGCons (aGName 4) aGNil)))))
    (aSeq (aFor [5, 6, 7, 8] (aRng1 (aCons (aVar 0) aNil)) (aGName 5) lb_first_partner_2)
    (aRet (aC .none))))
def fpTry (p x y z q w : Int) : Option (Int × Int × Int × Int) :=
  if (q * ((y - q) % p) - w * ((z + w - x * ((y - q) % p)) % p)) % p = 1 then some (q, w, (z + w - x * ((y - q) % p)) % p, (y - q) % p) else none
def fpL (p x y z : Int) (qs ws : List Int) : Option (Int × Int × Int × Int) := qs.findSome? fun q => ws.findSome? fun w => fpTry p x y z q w
def firstP (p x y z : Int) : Option (Int × Int × Int × Int) := fpL p x y z (intR 0 p.toNat) (intR 0 p.toNat)
def fpD : Option (Int × Int × Int × Int) → D
  | some t => fourD t
  | none => .none
def fn_first_partner : AFn := fun avs s Q => ∃ p x y z : Int, avs = [.d (.int p), .d (.tuple [.int x, .int y, .int z])] ∧ Small p ∧ (0 ≤ x ∧ x < p) ∧ (0 ≤ y ∧ y < p) ∧ (0 ≤ z ∧ z < p) ∧ Q (.d (fpD (firstP p x y z))) s
theorem fp_in (E : AEnds) (p x y z q : Int) (tr : D) (hp : Small p) (hx : 0 ≤ x ∧ x < p) (hy : 0 ≤ y ∧ y < p) (hz : 0 ≤ z ∧ z < p) (hq : 0 ≤ q ∧ q < p) (s : Option Src) : ∀ (ws : List Int), (∀ r ∈ ws, 0 ≤ r ∧ r < p) →
    (match ws.findSome? fun w => fpTry p x y z q w with
    | some t => E.rt (.d (fourD t)) ⟨s, []⟩
    | none => E.nx ⟨[some (.d (.int p)), some (.d tr), some (.d (.int x)), some (.d (.int y)), some (.d (.int z)), some (.d (.int q)), none, none, none], ⟨s, []⟩⟩) →
    aForL 0 [6, 7, 8] (aGName 6) lb_first_partner_1 E (ws.map PyData.int) ⟨[some (.d (.int p)), some (.d tr), some (.d (.int x)), some (.d (.int y)), some (.d (.int z)), some (.d (.int q)), none, none, none], ⟨s, []⟩⟩
  | [], _, h => h
  | w :: ws, hr, h => by
    obtain ⟨p1, p2⟩ := hp
    obtain ⟨r1, r2⟩ := hr w List.mem_cons_self
    have hr' : ∀ k ∈ ws, 0 ≤ k ∧ k < p := fun k hk => hr k (List.mem_cons_of_mem _ hk)
    have s1 := Int.emod_nonneg (y - q) (show p ≠ 0 by omega)
    have s2 := Int.emod_lt_of_pos (y - q) (show 0 < p by omega)
    unfold aForL
    rw [List.map_cons]
    unfold lb_first_partner_1
    walk_at "qs"
    refine ⟨by omega, MulOk.l (by omega) (by omega), by omega, MulOk.l (by omega) (by omega), MulOk.l (by omega) (by omega), by omega, ?_⟩
    rw [List.findSome?_cons] at h
    by_cases cc : (q * ((y - q) % p) - w * ((z + w - x * ((y - q) % p)) % p)) % p = 1
    · have e : fpTry p x y z q w = some (q, w, (z + w - x * ((y - q) % p)) % p, (y - q) % p) := if_pos cc
      rw [e] at h
      simp only [cc, decide_true, if_true]
      exact h
    · have e : fpTry p x y z q w = none := if_neg cc
      rw [e] at h
      simp only [cc, decide_false, Bool.false_eq_true, if_false]
      exact fp_in E p x y z q tr ⟨p1, p2⟩ hx hy hz hq s ws hr' h
theorem fp_out (E : AEnds) (p x y z : Int) (tr : D) (hp : Small p) (hx : 0 ≤ x ∧ x < p) (hy : 0 ≤ y ∧ y < p) (hz : 0 ≤ z ∧ z < p) (s : Option Src) : ∀ (qs : List Int), (∀ r ∈ qs, 0 ≤ r ∧ r < p) →
    (match fpL p x y z qs (intR 0 p.toNat) with
    | some t => E.rt (.d (fourD t)) ⟨s, []⟩
    | none => E.nx ⟨[some (.d (.int p)), some (.d tr), some (.d (.int x)), some (.d (.int y)), some (.d (.int z)), none, none, none, none], ⟨s, []⟩⟩) →
    aForL 0 [5, 6, 7, 8] (aGName 5) lb_first_partner_2 E (qs.map PyData.int) ⟨[some (.d (.int p)), some (.d tr), some (.d (.int x)), some (.d (.int y)), some (.d (.int z)), none, none, none, none], ⟨s, []⟩⟩
  | [], _, h => h
  | q :: qs, hr, h => by
    obtain ⟨p1, p2⟩ := hp
    obtain ⟨r1, r2⟩ := hr q List.mem_cons_self
    have hr' : ∀ k ∈ qs, 0 ≤ k ∧ k < p := fun k hk => hr k (List.mem_cons_of_mem _ hk)
    unfold aForL
    rw [List.map_cons]
    unfold lb_first_partner_2
    walk_at "qs"
    refine ⟨Rg.of (by omega) (by omega), ?_⟩
    rw [rngD_eq]
    refine fp_in _ p x y z q tr ⟨p1, p2⟩ hx hy hz ⟨r1, r2⟩ s _ (fun k hk => by have := mem_intR hk; omega) ?_
    unfold fpL at h
    rw [List.findSome?_cons] at h
    cases e : (intR 0 p.toNat).findSome? fun w => fpTry p x y z q w with
    | some t => rw [e] at h; exact h
    | none =>
      rw [e] at h
      walk_at "qs"
      exact fp_out E p x y z tr ⟨p1, p2⟩ hx hy hz s qs hr' h
theorem h_first_partner : ∀ avs s AQ, fn_first_partner avs s AQ → t_first_partner (endsA AQ) ⟨startA N_first_partner avs, ⟨s, []⟩⟩ := by
  rintro _ s AQ ⟨p, x, y, z, rfl, hp, hx, hy, hz, hq⟩
  show t_first_partner (endsA AQ) ⟨[some (.d (.int p)), some (.d (.tuple [.int x, .int y, .int z])), none, none, none, none, none, none, none], ⟨s, []⟩⟩
  unfold t_first_partner
  walk_at "qs"
  refine ⟨Rg.of (by have := hp.1; omega) (by have := hp.2; omega), ?_⟩
  rw [rngD_eq]
  refine fp_out _ p x y z _ hp hx hy hz s _ (fun k hk => by have := mem_intR hk; have := hp.1; omega) ?_
  unfold firstP at hq
  cases e : fpL p x y z (intR 0 p.toNat) (intR 0 p.toNat) with
  | some t => rw [e] at hq; exact hq
  | none =>
    rw [e] at hq
    walk_at "qs"
    exact hq
def N_partners_of : List Str := ["p", "triple", "x", "y", "z", "found", "q", "r"]
def lb_partners_of_1 : ATS := (aIfS (aTest (aBin aEq (aBin aMod (aBin aAdd (aBin aAdd (aBin aSub (aBin aAdd (aBin aSub (aBin aMul (aVar 6) (aVar 6)) (aBin aMul (aBin aMul (aVar 2) (aVar 6)) (aVar 7))) (aBin aMul (aVar 7) (aVar 7))) (aBin aMul (aVar 3) (aVar 6))) (aBin aMul (aVar 4) (aVar 7))) (aC (.int 1))) (aVar 0)) (aC (.int 0)))) (aDrop (aMt mApp (aVar 5) (aCons (aTup (aCons (aVar 6) (aCons (aVar 7) aNil))) aNil))) aNext)
def lb_partners_of_2 : ATS := (aFor [7] (aRng1 (aCons (aVar 0) aNil)) (aGName 7) lb_partners_of_1)
def t_partners_of : ATS := (aSeq (aAsg (aVar 1) (aGTup 3 (aGCons (aGName 2) (aGCons (aGName 3) (aGCons (aGName 4) aGNil)))))
    (aSeq (aSet 5 (aLstM aNil))
    (aSeq (aFor [6, 7] (aRng1 (aCons (aVar 0) aNil)) (aGName 6) lb_partners_of_2)
    (aRet (aVar 5)))))
def besC (p x y z q r : Int) : Bool := decide ((q * q - x * q * r + r * r - y * q + z * r + 1) % p = 0)
def besideN (p x y z : Int) : Nat := ((intR 0 p.toNat).map fun q => ((intR 0 p.toNat).filter fun r => besC p x y z q r).length).sum
def fn_partners_of : AFn := fun avs s Q => ∃ p x y z : Int, avs = [.d (.int p), .d (.tuple [.int x, .int y, .int z])] ∧ Small p ∧ (0 ≤ x ∧ x < p) ∧ (0 ≤ y ∧ y < p) ∧ (0 ≤ z ∧ z < p) ∧ ∀ ds : List D, ds.length = besideN p x y z → Q (.d (.list ds)) s
theorem partners_in (E : AEnds) (p x y z q : Int) (tr : D) (hp : Small p) (hx : 0 ≤ x ∧ x < p) (hy : 0 ≤ y ∧ y < p) (hz : 0 ≤ z ∧ z < p) (hq : 0 ≤ q ∧ q < p) (s : Option Src) : ∀ (rs : List Int) (ds : List D), (∀ r ∈ rs, 0 ≤ r ∧ r < p) → ds.length + rs.length ≤ 100000 →
    (∀ ds' : List D, ds'.length = ds.length + (rs.filter fun r => besC p x y z q r).length → E.nx ⟨[some (.d (.int p)), some (.d tr), some (.d (.int x)), some (.d (.int y)), some (.d (.int z)), some (.o 0), some (.d (.int q)), none], ⟨s, [.l ds']⟩⟩) →
    aForL 1 [7] (aGName 7) lb_partners_of_1 E (rs.map PyData.int) ⟨[some (.d (.int p)), some (.d tr), some (.d (.int x)), some (.d (.int y)), some (.d (.int z)), some (.o 0), some (.d (.int q)), none], ⟨s, [.l ds]⟩⟩
  | [], ds, _, _, h => h ds (by simp)
  | r :: rs, ds, hr, hl, h => by
    obtain ⟨p1, p2⟩ := hp
    obtain ⟨r1, r2⟩ := hr r List.mem_cons_self
    have hr' : ∀ k ∈ rs, 0 ≤ k ∧ k < p := fun k hk => hr k (List.mem_cons_of_mem _ hk)
    rw [List.length_cons] at hl
    unfold aForL
    rw [List.map_cons]
    unfold lb_partners_of_1
    walk_at "qs"
    refine ⟨MulOk.l (by omega) (by omega), MulOk.l (by omega) (by omega), MulOk.r (by omega) (by omega), MulOk.l (by omega) (by omega), MulOk.l (by omega) (by omega), MulOk.l (by omega) (by omega), by omega, ?_⟩
    by_cases c : (q * q - x * q * r + r * r - y * q + z * r + 1) % p = 0
    · simp only [c, decide_true, if_true]
      refine ⟨by omega, partners_in E p x y z q tr ⟨p1, p2⟩ hx hy hz hq s rs (ds ++ [PyData.tuple [PyData.int q, PyData.int r]]) hr' (by simp; omega) fun ds' e => h ds' ?_⟩
      rw [List.filter_cons_of_pos (by simp [besC, c]), e]
      simp; omega
    · simp only [c, decide_false, Bool.false_eq_true, if_false]
      refine partners_in E p x y z q tr ⟨p1, p2⟩ hx hy hz hq s rs ds hr' (by omega) fun ds' e => h ds' ?_
      rw [List.filter_cons_of_neg (by simp [besC, c]), e]
theorem partners_out (E : AEnds) (p x y z : Int) (tr : D) (hp : Small p) (hx : 0 ≤ x ∧ x < p) (hy : 0 ≤ y ∧ y < p) (hz : 0 ≤ z ∧ z < p) (s : Option Src) : ∀ (qs : List Int) (ds : List D), (∀ r ∈ qs, 0 ≤ r ∧ r < p) → ds.length + qs.length * 31 ≤ 1000 →
    (∀ ds' : List D, ds'.length = ds.length + (qs.map fun q => ((intR 0 p.toNat).filter fun r => besC p x y z q r).length).sum → E.nx ⟨[some (.d (.int p)), some (.d tr), some (.d (.int x)), some (.d (.int y)), some (.d (.int z)), some (.o 0), none, none], ⟨s, [.l ds']⟩⟩) →
    aForL 1 [6, 7] (aGName 6) lb_partners_of_2 E (qs.map PyData.int) ⟨[some (.d (.int p)), some (.d tr), some (.d (.int x)), some (.d (.int y)), some (.d (.int z)), some (.o 0), none, none], ⟨s, [.l ds]⟩⟩
  | [], ds, _, _, h => h ds (by simp)
  | q :: qs, ds, hr, hl, h => by
    obtain ⟨p1, p2⟩ := hp
    obtain ⟨r1, r2⟩ := hr q List.mem_cons_self
    have hr' : ∀ k ∈ qs, 0 ≤ k ∧ k < p := fun k hk => hr k (List.mem_cons_of_mem _ hk)
    rw [List.length_cons] at hl
    have hfl : ((intR 0 p.toNat).filter fun r => besC p x y z q r).length ≤ 31 := Nat.le_trans (List.length_filter_le _ _) (by rw [intR_len]; omega)
    unfold aForL
    rw [List.map_cons]
    unfold lb_partners_of_2
    walk_at "qs"
    refine ⟨Rg.of (by omega) (by omega), ?_⟩
    rw [rngD_eq]
    refine partners_in _ p x y z q tr ⟨p1, p2⟩ hx hy hz ⟨r1, r2⟩ s _ ds (fun k hk => by have := mem_intR hk; omega) (by rw [intR_len]; omega) fun ds' e => ?_
    walk_at "qs"
    refine partners_out E p x y z tr ⟨p1, p2⟩ hx hy hz s qs ds' hr' (by omega) fun ds2 e2 => h ds2 ?_
    rw [e2, e, List.map_cons, List.sum_cons]
    omega
theorem h_partners_of : ∀ avs s AQ, fn_partners_of avs s AQ → t_partners_of (endsA AQ) ⟨startA N_partners_of avs, ⟨s, []⟩⟩ := by
  rintro _ s AQ ⟨p, x, y, z, rfl, hp, hx, hy, hz, hq⟩
  show t_partners_of (endsA AQ) ⟨[some (.d (.int p)), some (.d (.tuple [.int x, .int y, .int z])), none, none, none, none, none, none], ⟨s, []⟩⟩
  unfold t_partners_of
  walk_at "qs"
  refine ⟨Rg.of (by have := hp.1; omega) (by have := hp.2; omega), ?_⟩
  rw [rngD_eq]
  refine partners_out _ p x y z _ hp hx hy hz s _ [] (fun k hk => by have := mem_intR hk; have := hp.1; omega) (by rw [intR_len]; have := hp.2; have := hp.1; simp; omega) fun ds e => ?_
  walk_at "qs"
  rw [endsA_rt_o _ _ _ _ ds rfl]
  exact hq ds (by rw [e]; simp [besideN])
def N_tables_many : List Str := ["p", "x", "roots", "one"]
def lt_tables_many_1 : ATT := (aTest (aBin aEq (aBin aMod (aBin aAdd (aBin aSub (aBin aMul (aVar 3) (aVar 3)) (aBin aMul (aVar 1) (aVar 3))) (aC (.int 1))) (aVar 0)) (aC (.int 0))))
def le_tables_many_2 : ATE := (aVar 3)
def t_tables_many : ATS := (aSeq (aSet 2 (aCall bLen (aCons (aLc (aRng1 (aCons (aVar 0) aNil)) (aGName 3) lt_tables_many_1 le_tables_many_2 [3]) aNil)))
    (aRet (aBin aAdd (aBin aMul (aVar 0) (aBin aSub (aVar 0) (aC (.int 1)))) (aBin aMul (aVar 0) (aVar 2)))))
def rootsN (p x : Int) : Nat := ((intR 0 p.toNat).filter fun k => decide ((k * k - x * k + 1) % p = 0)).length
def tmany (p x : Int) : Int := p * (p - 1) + p * (rootsN p x : Nat)
/-- how many tables with a trace -/
def fn_tables_many : AFn := fun avs s Q => ∃ p x : Int, avs = [.d (.int p), .d (.int x)] ∧ Small p ∧ 0 ≤ x ∧ x < p ∧ Q (.d (.int (tmany p x))) s
theorem h_tables_many : ∀ avs s AQ, fn_tables_many avs s AQ → t_tables_many (endsA AQ) ⟨startA N_tables_many avs, ⟨s, []⟩⟩ := by
  rintro _ s AQ ⟨p, x, rfl, ⟨p1, p2⟩, x1, x2, hq⟩
  show t_tables_many (endsA AQ) ⟨[some (.d (.int p)), some (.d (.int x)), none, none], ⟨s, []⟩⟩
  unfold t_tables_many
  walk_at "qs"
  refine ⟨Rg.of (by omega) (by omega), by rw [rngD_len]; omega, ?_⟩
  rw [rngD_eq]
  refine aLcL_map PyData.int (fun k => decide ((k * k - x * k + 1) % p = 0)) PyData.int (fun k hk K hK => ?_) ?_
  · obtain ⟨k1, k2⟩ := mem_intR hk
    unfold stepC lt_tables_many_1 le_tables_many_2
    walk_at "qs"
    refine ⟨MulOk.l (by omega) (by omega), MulOk.l (by omega) (by omega), by omega, ?_⟩
    by_cases c : (k * k - x * k + 1) % p = 0
    · simp only [c, decide_true, if_true] at hK ⊢; exact hK
    · simp only [c, decide_false, Bool.false_eq_true, if_false] at hK ⊢; exact hK
  · walk_at "qs"
    rw [List.length_map]
    exact ⟨MulOk.l (by omega) (by omega), MulOk.l (by omega) (by omega), hq⟩
def N_units_of : List Str := ["p", "x", "one"]
def lt_units_of_1 : ATT := (aTest (aBin aEq (aBin aMod (aBin aSub (aBin aMul (aC (.int 2)) (aVar 2)) (aVar 1)) (aVar 0)) (aC (.int 0))))
def le_units_of_2 : ATE := (aVar 2)
def t_units_of : ATS := (aRet (aLc (aItL (aCall bSortD (aCons (aCall bDict (aCons (aLst (aCons (aTup (aCons (aC (.int 1)) (aCons (aC (.bool true)) aNil))) (aCons (aTup (aCons (aBin aSub (aVar 0) (aC (.int 1))) (aCons (aC (.bool true)) aNil))) aNil))) aNil)) aNil))) (aGName 2) lt_units_of_1 le_units_of_2 [2]))
def unitsL (p x : Int) : List Int := (if p = 2 then [1] else [1, p - 1]).filter fun k => decide ((2 * k - x) % p = 0)
def fn_units_of : AFn := fun avs s Q => ∃ p x : Int, avs = [.d (.int p), .d (.int x)] ∧ Small p ∧ Q (.d (.list ((unitsL p x).map PyData.int))) s
theorem sorted_two {a b : Int} (h : a < b) {ns : List Int} (p : ns.Perm [a, b]) (s : ns.Pairwise (· ≤ ·)) : ns = [a, b] := by
  refine List.Perm.eq_of_pairwise (fun x y _ _ h1 h2 => Int.le_antisymm h1 h2) s ?_ p
  simp; omega
theorem h_units_of : ∀ avs s AQ, fn_units_of avs s AQ → t_units_of (endsA AQ) ⟨startA N_units_of avs, ⟨s, []⟩⟩ := by
  rintro _ s AQ ⟨p, x, rfl, ⟨p1, p2⟩, hq⟩
  show t_units_of (endsA AQ) ⟨[some (.d (.int p)), some (.d (.int x)), none], ⟨s, []⟩⟩
  unfold t_units_of
  have step : ∀ (ns : List Int) (m : Mm), m.s = s → (∀ k ∈ ns, 0 ≤ k ∧ k ≤ 31) → ns.filter (fun k => decide ((2 * k - x) % p = 0)) = unitsL p x →
      aLcL (aGName 2) lt_units_of_1 le_units_of_2 [some (.d (.int p)), some (.d (.int x)), none] (ns.map PyData.int) [] m fun acc m' => AQ (.d (.list acc)) m'.s := by
    intro ns m hm hk he
    refine aLcL_map PyData.int (fun k => decide ((2 * k - x) % p = 0)) PyData.int (fun k hkm K hK => ?_) ?_
    · obtain ⟨k1, k2⟩ := hk k hkm
      unfold stepC lt_units_of_1 le_units_of_2
      walk_at "qs"
      refine ⟨MulOk.l (by omega) (by omega), by omega, ?_⟩
      by_cases c : (2 * k - x) % p = 0
      · simp only [c, decide_true, if_true] at hK ⊢; exact hK
      · simp only [c, decide_false, Bool.false_eq_true, if_false] at hK ⊢; exact hK
    · show AQ _ m.s
      rw [he, hm]; exact hq
  walk_at "qs"
  by_cases c : p = 2
  · subst c
    simp only [pairsD, keyD, mergeD, List.foldl, putD, List.any, List.map, decide_true, Bool.or_false, if_true, show (2 : Int) - 1 = 1 by decide, Bool.false_eq_true, if_false, intKeys, List.nil_append, List.length_cons, List.length_nil]
    refine ⟨by decide, fun ns h1 h2 => ?_⟩
    have e : ns = [1] := List.perm_singleton.mp h1
    subst e
    walk_at "qs"
    first | exact step [1] _ rfl (by simp) (by simp [unitsL]) | exact ⟨by decide, step [1] _ rfl (by simp) (by simp [unitsL])⟩
  · have c2 : ¬ (1 : Int) = p - 1 := by omega
    have c3 : ¬ (Sum.inl 1 : Key) = Sum.inl (p - 1) := fun z => c2 (Sum.inl.inj z)
    simp only [pairsD, keyD, mergeD, List.foldl, putD, List.any, List.map, c3, decide_false, Bool.or_false, Bool.false_eq_true, if_false, intKeys, List.nil_append, List.cons_append, List.length_cons, List.length_nil]
    refine ⟨by decide, fun ns h1 h2 => ?_⟩
    have e : ns = [1, p - 1] := sorted_two (by omega) h1 h2
    subst e
    walk_at "qs"
    first | exact step [1, p - 1] _ rfl (by simp; omega) (by simp [unitsL, c]) | exact ⟨by decide, step [1, p - 1] _ rfl (by simp; omega) (by simp [unitsL, c])⟩
def N_rests_told : List Str := ["p", "triple", "x", "y", "z", "units", "leads", "beside", "many", "number", "one"]
def le_rests_told_1 : ATE := (aBin aMod (aVar 9) (aVar 0))
def lt_rests_told_2 : ATT := (aTest (aBin aEq (aBin aMod (aBin aSub (aBin aMul (aVar 10) (aVar 3)) (aVar 4)) (aVar 0)) (aC (.int 0))))
def le_rests_told_3 : ATE := (aVar 10)
def t_rests_told : ATS := (aSeq (aAsg (aLc (aItT (aVar 1)) (aGName 9) aYes le_rests_told_1 [9]) (aGLst 3 (aGCons (aGName 2) (aGCons (aGName 3) (aGCons (aGName 4) aGNil)))))
    (aSeq (aSet 5 (aFn 2 fn_units_of (aCons (aVar 0) (aCons (aVar 2) aNil))))
    (aSeq (aSet 6 (aLc (aItL (aVar 5)) (aGName 10) lt_rests_told_2 le_rests_told_3 [10]))
    (aSeq (aSet 7 (aCall bLen (aCons (aFn 2 fn_partners_of (aCons (aVar 0) (aCons (aTup (aCons (aVar 2) (aCons (aVar 3) (aCons (aVar 4) aNil)))) aNil))) aNil)))
    (aSeq (aSet 8 (aBin aAdd (aBin aMul (aBin aSub (aFn 2 fn_tables_many (aCons (aVar 0) (aCons (aVar 2) aNil))) (aCall bLen (aCons (aVar 5) aNil))) (aVar 7)) (aBin aMul (aCall bLen (aCons (aVar 6) aNil)) (aFn 2 fn_tables_many (aCons (aVar 0) (aCons (aVar 3) aNil))))))
    (aSeq (aIfS (aTest (aBin aGt (aVar 7) (aC (.int 0)))) (aRet (aTup (aCons (aVar 8) (aCons (aTup (aCons (aTup (aCons (aC (.int 0)) (aCons (aC (.int 1)) (aCons (aBin aSub (aVar 0) (aC (.int 1))) (aCons (aVar 2) aNil))))) (aCons (aFn 2 fn_first_partner (aCons (aVar 0) (aCons (aTup (aCons (aVar 2) (aCons (aVar 3) (aCons (aVar 4) aNil)))) aNil))) aNil))) aNil)))) aNext)
    (aRet (aTup (aCons (aVar 8) (aCons (aTup (aCons (aTup (aCons (aBin aIx (aVar 6) (aC (.int 0))) (aCons (aC (.int 0)) (aCons (aC (.int 0)) (aCons (aBin aIx (aVar 6) (aC (.int 0))) aNil))))) (aCons (aTup (aCons (aC (.int 0)) (aCons (aC (.int 1)) (aCons (aBin aSub (aVar 0) (aC (.int 1))) (aCons (aVar 3) aNil))))) aNil))) aNil))))))))))
def leadsL (p x y z : Int) : List Int := (unitsL p x).filter fun k => decide ((k * y - z) % p = 0)
def manyR (p x y z : Int) : Int := (tmany p x - ((unitsL p x).length : Nat)) * (besideN p x y z : Nat) + ((leadsL p x y z).length : Nat) * tmany p y
def pairR (p x y z : Int) : D := if 0 < besideN p x y z then .tuple [.tuple [.int 0, .int 1, .int (p - 1), .int x], fpD (firstP p x y z)]
  else .tuple [.tuple [.int ((leadsL p x y z).headD 0), .int 0, .int 0, .int ((leadsL p x y z).headD 0)], .tuple [.int 0, .int 1, .int (p - 1), .int y]]
def RestsOk (p x y z : Int) : Prop := besideN p x y z = 0 → leadsL p x y z ≠ []
def fn_rests_told : AFn := fun avs s Q => ∃ p x y z : Int, avs = [.d (.int p), .d (.tuple [.int x, .int y, .int z])] ∧ Small p ∧ RestsOk p (x % p) (y % p) (z % p) ∧ Q (.d (.tuple [.int (manyR p (x % p) (y % p) (z % p)), pairR p (x % p) (y % p) (z % p)])) s
theorem unitsL_len (p x : Int) : (unitsL p x).length ≤ 2 := by
  unfold unitsL
  refine Nat.le_trans (List.length_filter_le _ _) ?_
  split <;> simp
theorem unitsL_mem {p x k : Int} (hp : Small p) (h : k ∈ unitsL p x) : 1 ≤ k ∧ k ≤ 31 := by
  unfold unitsL at h
  have h1 := (List.mem_filter.mp h).1
  obtain ⟨p1, p2⟩ := hp
  split at h1
  · simp at h1; omega
  · simp at h1; omega
theorem sum_le31 (f : Int → Nat) (hf : ∀ q, f q ≤ 31) : ∀ l : List Int, (l.map f).sum ≤ l.length * 31
  | [] => by simp
  | q :: l => by
    have := sum_le31 f hf l
    have := hf q
    rw [List.map_cons, List.sum_cons, List.length_cons]; omega
theorem besideN_le {p : Int} (hp : Small p) (x y z : Int) : besideN p x y z ≤ 961 := by
  obtain ⟨p1, p2⟩ := hp
  unfold besideN
  refine Nat.le_trans (sum_le31 _ (fun q => Nat.le_trans (List.length_filter_le _ _) (by rw [intR_len]; omega)) _) ?_
  rw [intR_len]; omega
theorem h_rests_told : ∀ avs s AQ, fn_rests_told avs s AQ → t_rests_told (endsA AQ) ⟨startA N_rests_told avs, ⟨s, []⟩⟩ := by
  rintro _ s AQ ⟨p, X, Y, Z, rfl, hp, hok, hq⟩
  show t_rests_told (endsA AQ) ⟨[some (.d (.int p)), some (.d (.tuple [.int X, .int Y, .int Z])), none, none, none, none, none, none, none, none, none], ⟨s, []⟩⟩
  have hpp := hp
  obtain ⟨p1, p2⟩ := hp
  have hx : 0 ≤ X % p ∧ X % p < p := ⟨Int.emod_nonneg _ (by omega), Int.emod_lt_of_pos _ (by omega)⟩
  have hy : 0 ≤ Y % p ∧ Y % p < p := ⟨Int.emod_nonneg _ (by omega), Int.emod_lt_of_pos _ (by omega)⟩
  have hz : 0 ≤ Z % p ∧ Z % p < p := ⟨Int.emod_nonneg _ (by omega), Int.emod_lt_of_pos _ (by omega)⟩
  unfold t_rests_told
  walk_at "qs"
  rw [show [PyData.int X, PyData.int Y, PyData.int Z] = [X, Y, Z].map PyData.int from rfl]
  refine aLcL_all PyData.int (fun i => .int (i % p)) (fun i _ K hK => ?_) ?_
  · unfold stepC le_rests_told_1
    walk_at "qs"
    exact ⟨by omega, hK⟩
  generalize hxe : X % p = x at *
  generalize hye : Y % p = y at *
  generalize hze : Z % p = z at *
  walk_at "qs"
  simp only [hxe, hye, hze]
  refine ⟨p, x, rfl, hpp, ?_⟩
  walk_at "qs"
  refine ⟨by rw [List.length_map]; have := unitsL_len p x; omega, ?_⟩
  refine aLcL_map PyData.int (fun k => decide ((k * y - z) % p = 0)) PyData.int (fun k hk K hK => ?_) ?_
  · obtain ⟨k1, k2⟩ := unitsL_mem hpp hk
    unfold stepC lt_rests_told_2 le_rests_told_3
    walk_at "qs"
    refine ⟨MulOk.l (by omega) (by omega), by omega, ?_⟩
    by_cases c : (k * y - z) % p = 0
    · simp only [c, decide_true, if_true] at hK ⊢; exact hK
    · simp only [c, decide_false, Bool.false_eq_true, if_false] at hK ⊢; exact hK
  · walk_at "qs"
    refine ⟨p, x, y, z, rfl, hpp, hx, hy, hz, fun ds hds => ?_⟩
    walk_at "qs"
    refine ⟨p, x, rfl, hpp, hx.1, hx.2, ?_⟩
    walk_at "qs"
    rw [hds]
    have hb := besideN_le hpp x y z
    refine ⟨MulOk.r (by omega) (by omega), p, y, rfl, hpp, hy.1, hy.2, ?_⟩
    have hll : (leadsL p x y z).length ≤ 2 := Nat.le_trans (List.length_filter_le _ _) (unitsL_len p x)
    have hl2 : ((unitsL p x).filter fun k => decide ((k * y - z) % p = 0)) = leadsL p x y z := rfl
    rw [hl2, List.length_map, List.length_map]
    walk_at "qs"
    refine ⟨MulOk.l (by omega) (by omega), ?_⟩
    by_cases c : 0 < besideN p x y z
    · have c' : (0 : Int) < ((besideN p x y z : Nat) : Int) := by omega
      simp only [c', decide_true, if_true]
      walk_at "qs"
      refine ⟨p, x, y, z, rfl, hpp, hx, hy, hz, ?_⟩
      walk_at "qs"
      have e : pairR p x y z = .tuple [.tuple [.int 0, .int 1, .int (p - 1), .int x], fpD (firstP p x y z)] := if_pos c
      rw [e] at hq
      exact hq
    · have c' : ¬ (0 : Int) < ((besideN p x y z : Nat) : Int) := by omega
      simp only [c', decide_false, Bool.false_eq_true, if_false]
      walk_at "qs"
      have e : pairR p x y z = .tuple [.tuple [.int ((leadsL p x y z).headD 0), .int 0, .int 0, .int ((leadsL p x y z).headD 0)], .tuple [.int 0, .int 1, .int (p - 1), .int y]] := if_neg c
      rw [e] at hq
      have hne := hok (by omega)
      cases hl : leadsL p x y z with
      | nil => exact absurd hl hne
      | cons a l =>
        have ha : atD (PyData.int a :: l.map PyData.int) 0 = some (.int a) := rfl
        rw [hl] at hq
        simp only [List.map_cons, ha]
        unfold manyR at hq
        rw [hl] at hq
        exact hq
/-! ### counting rests: sums over a full row of rests -/
def rsum (n : Nat) (g : Int → Nat) : Nat := ((intR 0 n).map g).sum
theorem intR_succ (n : Nat) : intR 0 (n + 1) = intR 0 n ++ [(n : Int)] := by
  unfold intR
  rw [List.range_succ, List.map_append]
  simp
theorem rsum_succ (n : Nat) (g : Int → Nat) : rsum (n + 1) g = rsum n g + g n := by
  unfold rsum
  rw [intR_succ, List.map_append, List.sum_append]
  simp
theorem rsum_zero (g : Int → Nat) : rsum 0 g = 0 := rfl
theorem rsum_congr {n : Nat} {f g : Int → Nat} (h : ∀ q : Int, 0 ≤ q → q < n → f q = g q) : rsum n f = rsum n g := by
  unfold rsum
  congr 1
  refine List.map_congr_left fun q hq => ?_
  obtain ⟨h1, h2⟩ := mem_intR hq
  exact h q h1 (by omega)
theorem rsum_const (n c : Nat) : rsum n (fun _ => c) = n * c := by
  induction n with
  | zero => simp [rsum_zero]
  | succ n ih => rw [rsum_succ, ih, Nat.succ_mul]
theorem rsum_step (n : Nat) (g : Int → Nat) : rsum n (fun q => g (q + 1)) + g 0 = rsum n g + g n := by
  induction n with
  | zero => simp [rsum_zero]
  | succ n ih =>
    rw [rsum_succ, rsum_succ]
    have : ((n + 1 : Nat) : Int) = (n : Int) + 1 := by omega
    rw [this]; omega
theorem rsum_shiftN {n : Nat} {g : Int → Nat} (hg : ∀ q, g q = g (q % n)) : ∀ t : Nat, rsum n (fun q => g (q + t)) = rsum n g
  | 0 => by simp
  | t + 1 => by
    have ih := rsum_shiftN hg t
    have h : rsum n (fun q => g (q + 1 + t)) + g ((0 : Int) + t) = rsum n (fun q => g (q + t)) + g ((n : Int) + t) := rsum_step n (fun q => g (q + t))
    have e1 : g ((0 : Int) + t) = g ((n : Int) + t) := by
      rw [hg (0 + t), hg ((n : Int) + t), Int.zero_add, Int.add_emod_left]
    have e2 : rsum n (fun q => g (q + ((t + 1 : Nat) : Int))) = rsum n (fun q => g (q + 1 + t)) := rsum_congr fun q _ _ => by
      congr 1; omega
    rw [e2]
    omega
theorem rsum_shift {n : Nat} {g : Int → Nat} (hn : 0 < n) (hg : ∀ q, g q = g (q % n)) (t : Int) : rsum n (fun q => g (q + t)) = rsum n g := by
  have h0 : 0 ≤ t % n := Int.emod_nonneg _ (by omega)
  have h := rsum_shiftN hg (t % n).toNat
  rw [← h]
  refine rsum_congr fun q _ _ => ?_
  rw [hg (q + t), hg (q + ((t % n).toNat : Int)), Int.toNat_of_nonneg h0, Int.add_emod_emod]
theorem filt_sum (P : Int → Bool) : ∀ l : List Int, (l.filter P).length = (l.map fun r => if P r then 1 else 0).sum
  | [] => rfl
  | r :: l => by
    rw [List.filter_cons, List.map_cons, List.sum_cons, ← filt_sum P l]
    by_cases c : P r
    · simp [c]; omega
    · simp [c]
theorem cg_of {p a b k : Int} (h : a = b + p * k) : a % p = b % p := by rw [h, Int.add_mul_emod_self_left]
theorem cg_add {p a b c d : Int} (h : a % p = b % p) (g : c % p = d % p) : (a + c) % p = (b + d) % p := by rw [Int.add_emod, h, g, ← Int.add_emod]
theorem cg_mul {p a b c d : Int} (h : a % p = b % p) (g : c % p = d % p) : (a * c) % p = (b * d) % p := by rw [Int.mul_emod, h, g, ← Int.mul_emod]
theorem cg_sub {p a b c d : Int} (h : a % p = b % p) (g : c % p = d % p) : (a - c) % p = (b - d) % p := by rw [Int.sub_emod, h, g, ← Int.sub_emod]
theorem cg_self {p a : Int} : (a % p) % p = a % p := Int.emod_emod_of_dvd _ (Int.dvd_refl p)
/-- how many squares -/
def Sq (n : Nat) (d : Int) : Nat := rsum n fun s => if (s * s - d) % (n : Int) = 0 then 1 else 0
theorem Sq_congr {n : Nat} {d e : Int} (h : d % (n : Int) = e % (n : Int)) : Sq n d = Sq n e := by
  unfold Sq
  refine rsum_congr fun s _ _ => ?_
  rw [cg_sub (rfl : (s * s) % (n : Int) = (s * s) % n) h]
theorem row_sq {n : Nat} {h : Int} (hn : 0 < n) (hh : 2 * h = n + 1) (x y z q : Int) :
    ((intR 0 n).filter fun r => besC n x y z q r).length = Sq n ((h * h * x * x - 1) * q * q + (y - 2 * h * h * x * z) * q + (h * h * z * z - 1)) := by
  rw [filt_sum]
  show rsum n _ = _
  have hs := rsum_shift (g := fun s => if (s * s - ((h * h * x * x - 1) * q * q + (y - 2 * h * h * x * z) * q + (h * h * z * z - 1))) % (n : Int) = 0 then 1 else 0) hn
    (fun s => by
      show (if _ then 1 else 0 : Nat) = if _ then 1 else 0
      rw [cg_sub (cg_mul (cg_self (p := (n : Int)) (a := s)) cg_self) rfl]) (h * (z - x * q))
  unfold Sq
  rw [← hs]
  refine rsum_congr fun r _ _ => ?_
  have e : (q * q - x * q * r + r * r - y * q + z * r + 1) % (n : Int) = ((r + h * (z - x * q)) * (r + h * (z - x * q)) - ((h * h * x * x - 1) * q * q + (y - 2 * h * h * x * z) * q + (h * h * z * z - 1))) % (n : Int) := by
    symm
    refine cg_of (k := (z - x * q) * r) ?_
    grind
  unfold besC
  rw [e]
  simp only [decide_eq_true_eq]
theorem beside_T {n : Nat} {h : Int} (hn : 0 < n) (hh : 2 * h = n + 1) (x y z : Int) :
    besideN n x y z = rsum n fun q => Sq n ((h * h * x * x - 1) * q * q + (y - 2 * h * h * x * z) * q + (h * h * z * z - 1)) := by
  unfold besideN
  show ((intR 0 n).map _).sum = _
  unfold rsum
  congr 1
  exact List.map_congr_left fun q _ => row_sq hn hh x y z q
def tT (n : Nat) (A B C : Int) : Nat := rsum n fun q => Sq n (A * q * q + B * q + C)
theorem tT_a {n : Nat} {h i m : Int} (hn : 0 < n) (hh : 2 * h = n + 1) (A B C : Int) (hi : A * i = 1 + n * m) :
    tT n A B C = rsum n fun q => Sq n (A * q * q + (C - A * (h * B * i) * (h * B * i))) := by
  have hs := rsum_shift (g := fun u => Sq n (A * u * u + (C - A * (h * B * i) * (h * B * i)))) hn
    (fun u => Sq_congr (cg_add (cg_mul (cg_mul rfl cg_self.symm) cg_self.symm) rfl)) (h * B * i)
  rw [← hs]
  refine rsum_congr fun q _ _ => Sq_congr ?_
  symm
  refine cg_of (k := (1 + n * m + m) * B * q) ?_
  have e : 2 * h * (A * i) * B * q = (n + 1) * (1 + n * m) * B * q := by rw [hh, hi]
  grind
theorem tT_b {n : Nat} {j m : Int} (hn : 0 < n) (A B C : Int) (hA : A % (n : Int) = 0) (hj : B * j = 1 + n * m) :
    tT n A B C = rsum n fun q => Sq n (B * q) := by
  have hs := rsum_shift (g := fun u => Sq n (B * u)) hn (fun u => Sq_congr (cg_mul rfl cg_self.symm)) (C * j)
  rw [← hs]
  refine rsum_congr fun q _ _ => Sq_congr ?_
  obtain ⟨k, hk⟩ := Int.dvd_of_emod_eq_zero hA
  refine cg_of (k := k * q * q - m * C) ?_
  have e : B * j * C = (1 + n * m) * C := by rw [hj]
  rw [hk]
  grind
theorem tT_c {n : Nat} (A B C : Int) (hA : A % (n : Int) = 0) (hB : B % (n : Int) = 0) : tT n A B C = n * Sq n C := by
  rw [← rsum_const]
  refine rsum_congr fun q _ _ => Sq_congr ?_
  obtain ⟨k, hk⟩ := Int.dvd_of_emod_eq_zero hA
  obtain ⟨l, hl⟩ := Int.dvd_of_emod_eq_zero hB
  refine cg_of (k := k * q * q + l * q) ?_
  rw [hk, hl]
  grind
/-! ### what is looked up for each prime -/
def cS (n d : Nat) : Nat := if d = 0 then 1 else if d ^ ((n - 1) / 2) % n = 1 then 2 else 0
def hN (n : Nat) : Int := ((n + 1) / 2 : Nat)
def leadB (n : Nat) (x y z : Int) : Bool := if (y - 2 * hN n * hN n * x * z) % (n : Int) = 0 then decide (0 < (leadsL n x y z).length) && decide ((kT x y z - 2) % (n : Int) = 0) else decide ((leadsL n x y z).length = 0)
structure Tab (n : Nat) : Prop where
  sq : ∀ d < n, Sq n (d : Nat) = cS n d
  inv : ∀ a < n, a ≠ 0 → a * a ^ (n - 2) % n = 1
  quad : ∀ a < n, ∀ e < n, a ≠ 0 → rsum n (fun q => cS n (((a : Nat) * q * q + (e : Nat)) % (n : Int)).toNat) = if e = 0 then 1 + (n - 1) * cS n a else n + 1 - cS n a
  lin : ∀ b < n, b ≠ 0 → rsum n (fun q => cS n (((b : Nat) * q) % (n : Int)).toNat) = n
  root : ∀ x < n, rootsN n (x : Nat) = cS n ((hN n * hN n * (x : Nat) * (x : Nat) - 1) % (n : Int)).toNat
  unit : ∀ x < n, ¬ (hN n * hN n * (x : Nat) * (x : Nat) - 1) % (n : Int) = 0 → unitsL n (x : Nat) = []
  unit1 : ∀ x < n, (hN n * hN n * (x : Nat) * (x : Nat) - 1) % (n : Int) = 0 → (unitsL n (x : Nat)).length = 1
  lead : ∀ x < n, (hN n * hN n * (x : Nat) * (x : Nat) - 1) % (n : Int) = 0 → ∀ y < n, ∀ z < n, leadB n (x : Nat) (y : Nat) (z : Nat) = true
theorem Tab.sqI {n : Nat} (T : Tab n) (hn : 0 < n) (d : Int) : Sq n d = cS n (d % (n : Int)).toNat := by
  have h0 : 0 ≤ d % (n : Int) := Int.emod_nonneg _ (by omega)
  have h1 : d % (n : Int) < n := Int.emod_lt_of_pos _ (by omega)
  rw [← T.sq (d % (n : Int)).toNat (by omega)]
  refine Sq_congr ?_
  rw [Int.toNat_of_nonneg h0, cg_self]
theorem natMod {n : Nat} (hn : 0 < n) (a : Int) : ∃ k : Nat, k < n ∧ a % (n : Int) = (k : Int) ∧ (a % (n : Int)).toNat = k := by
  have h0 : 0 ≤ a % (n : Int) := Int.emod_nonneg _ (by omega)
  have h1 : a % (n : Int) < n := Int.emod_lt_of_pos _ (by omega)
  exact ⟨(a % (n : Int)).toNat, by omega, (Int.toNat_of_nonneg h0).symm, rfl⟩
theorem Tab.invI {n : Nat} (T : Tab n) (hn : 0 < n) {A : Int} (h : ¬ A % (n : Int) = 0) : ∃ i m : Int, A * i = 1 + n * m := by
  obtain ⟨a, ha, e, _⟩ := natMod hn A
  have hi := T.inv a ha (by rintro rfl; exact h e)
  refine ⟨((a ^ (n - 2) : Nat) : Int), (A / n) * ((a ^ (n - 2) : Nat) : Int) + ((a * a ^ (n - 2) / n : Nat) : Int), ?_⟩
  have e1 := Int.emod_add_mul_ediv A n
  have e2 := Nat.mod_add_div (a * a ^ (n - 2)) n
  rw [hi] at e2
  have e3 : ((a * a ^ (n - 2) : Nat) : Int) = 1 + n * ((a * a ^ (n - 2) / n : Nat) : Int) := by exact_mod_cast e2.symm
  rw [Int.natCast_mul] at e3
  generalize ((a ^ (n - 2) : Nat) : Int) = w at *
  generalize ((a * a ^ (n - 2) / n : Nat) : Int) = v at *
  rw [e] at e1
  grind
theorem Tab.tT_a {n : Nat} (T : Tab n) (hn : 0 < n) {h : Int} (hh : 2 * h = n + 1) (A B C : Int) (hA : ¬ A % (n : Int) = 0) : ∃ E : Int, (∃ k : Int, A * C - h * h * B * B = A * E + n * k) ∧
    tT n A B C = if E % (n : Int) = 0 then 1 + (n - 1) * cS n (A % (n : Int)).toNat else n + 1 - cS n (A % (n : Int)).toNat := by
  obtain ⟨i, m, hi⟩ := T.invI hn hA
  refine ⟨C - A * (h * B * i) * (h * B * i), ⟨h * h * B * B * (2 * m + n * m * m), ?_⟩, ?_⟩
  · have e : A * (A * (h * B * i) * (h * B * i)) = (h * B) * (h * B) * ((A * i) * (A * i)) := by grind
    rw [Int.mul_sub, e, hi]
    grind
  · rw [QL.tT_a hn hh A B C hi]
    generalize C - A * (h * B * i) * (h * B * i) = E
    obtain ⟨a, ha, e1, e2⟩ := natMod hn A
    obtain ⟨b, hb, e3, e4⟩ := natMod hn E
    have hq := T.quad a ha b hb (by rintro rfl; exact hA e1)
    have hc : rsum n (fun q => Sq n (A * q * q + E)) = rsum n (fun q => cS n (((a : Nat) * q * q + (b : Nat)) % (n : Int)).toNat) := rsum_congr fun q _ _ => by
      rw [T.sqI hn, ← e1, ← e3]
      congr 2
      exact cg_add (cg_mul (cg_mul cg_self.symm rfl) rfl) cg_self.symm
    rw [hc, hq, e2, e3]
    by_cases c : b = 0
    · subst c; simp
    · have : ¬ (b : Int) = 0 := by omega
      simp [c, this]
theorem Tab.tT_b {n : Nat} (T : Tab n) (hn : 0 < n) (A B C : Int) (hA : A % (n : Int) = 0) (hB : ¬ B % (n : Int) = 0) : tT n A B C = n := by
  obtain ⟨j, m, hj⟩ := T.invI hn hB
  rw [QL.tT_b hn A B C hA hj]
  obtain ⟨b, hb, e1, e2⟩ := natMod hn B
  have hq := T.lin b hb (by rintro rfl; exact hB e1)
  refine Eq.trans ?_ hq
  refine rsum_congr fun q _ _ => ?_
  rw [T.sqI hn, ← e1]
  congr 2
  exact cg_mul cg_self.symm rfl
theorem cS_le (n d : Nat) : cS n d = 0 ∨ cS n d = 1 ∨ cS n d = 2 := by
  unfold cS
  split
  · exact .inr (.inl rfl)
  · split
    · exact .inr (.inr rfl)
    · exact .inl rfl
theorem cS_ne {n d : Nat} (h : d ≠ 0) : cS n d = 0 ∨ cS n d = 2 := by
  unfold cS
  rw [if_neg h]
  split
  · exact .inr rfl
  · exact .inl rfl
/-! ### the laws of the counts -/
theorem disc_k {h n x y z E k : Int} (hh : 2 * h = n + 1) (hE : E % n = 0)
    (he : (h * h * x * x - 1) * (h * h * z * z - 1) - h * h * (y - 2 * h * h * x * z) * (y - 2 * h * h * x * z) = (h * h * x * x - 1) * E + n * k) : (kT x y z - 2) % n = 0 := by
  obtain ⟨e, rfl⟩ := Int.dvd_of_emod_eq_zero hE
  have hn : n = 2 * h - 1 := by omega
  have key : 16 * ((h * h * x * x - 1) * (h * h * z * z - 1) - h * h * (y - 2 * h * h * x * z) * (y - 2 * h * h * x * z)) =
      -4 * (kT x y z - 2) + n * (-(16 * h * h * h * h) * (2 * h + 1) * x * x * z * z - 4 * (2 * h + 1) * (x * x + y * y + z * z) + 4 * (4 * h * h + 1) * (2 * h + 1) * x * y * z) := by
    unfold kT
    rw [hn]
    grind
  rw [he] at key
  generalize hW : -(16 * h * h * h * h) * (2 * h + 1) * x * x * z * z - 4 * (2 * h + 1) * (x * x + y * y + z * z) + 4 * (4 * h * h + 1) * (2 * h + 1) * x * y * z = W at key
  generalize hV : (h * h * x * x - 1) = V at key
  generalize kT x y z - 2 = t at key
  refine Int.emod_eq_zero_of_dvd ⟨h * h * (W - 16 * (V * e + k)) - (n + 2) * t, ?_⟩
  clear hW hV he
  have e1 : 4 * (h * h) * t = (n + 1) * (n + 1) * t := by rw [← hh]; clear key hh hE hn; grind
  have e2 : n * W - 16 * (V * (n * e) + n * k) = 4 * t := by omega
  have e3 : n * (h * h * (W - 16 * (V * e + k)) - (n + 2) * t) = h * h * (n * W - 16 * (V * (n * e) + n * k)) - n * (n + 2) * t := by clear key hh hE hn e1 e2; grind
  have e4 : h * h * (4 * t) = 4 * (h * h) * t := by clear key hh hE hn e1 e2 e3; grind
  rw [e3, e2, e4, e1]
  clear key hh hE hn e1 e2 e3 e4
  grind
theorem rest_ok {n : Nat} (T : Tab n) (hn : 2 ≤ n) (ho : 2 * hN n = n + 1) {x y z : Nat} (hx : x < n) (hy : y < n) (hz : z < n) : RestsOk n (x : Nat) (y : Nat) (z : Nat) := by
  intro h0
  rw [beside_T (by omega) ho] at h0
  change tT n _ _ _ = 0 at h0
  by_cases hA : (hN n * hN n * (x : Nat) * (x : Nat) - 1) % (n : Int) = 0
  · by_cases hB : ((y : Nat) - 2 * hN n * hN n * (x : Nat) * (z : Nat)) % (n : Int) = 0
    · have := T.lead x hx hA y hy z hz
      unfold leadB at this
      rw [if_pos hB] at this
      simp only [Bool.and_eq_true, decide_eq_true_eq] at this
      intro e
      rw [e] at this
      exact absurd this.1 (by simp)
    · rw [T.tT_b (by omega) _ _ _ hA hB] at h0
      omega
  · obtain ⟨E, _, e⟩ := T.tT_a (by omega) ho _ ((y : Nat) - 2 * hN n * hN n * (x : Nat) * (z : Nat)) (hN n * hN n * (z : Nat) * (z : Nat) - 1) hA
    rw [e] at h0
    have hc := cS_le n ((hN n * hN n * (x : Nat) * (x : Nat) - 1) % (n : Int)).toNat
    split at h0 <;> omega
theorem rest_k {n : Nat} (T : Tab n) (hn : 2 ≤ n) (ho : 2 * hN n = n + 1) {x y z : Nat} (hx : x < n) (hy : y < n) (hz : z < n) (hk : ¬ (kT (x : Nat) (y : Nat) (z : Nat) - 2) % (n : Int) = 0) :
    manyR n (x : Nat) (y : Nat) (z : Nat) = n * n * n - n := by
  unfold manyR tmany
  rw [beside_T (by omega) ho, T.root x hx]
  change (_ * ((tT n _ _ _ : Nat) : Int) + _) = _
  by_cases hA : (hN n * hN n * (x : Nat) * (x : Nat) - 1) % (n : Int) = 0
  · have hl := T.lead x hx hA y hy z hz
    unfold leadB at hl
    by_cases hB : ((y : Nat) - 2 * hN n * hN n * (x : Nat) * (z : Nat)) % (n : Int) = 0
    · rw [if_pos hB] at hl
      simp only [Bool.and_eq_true, decide_eq_true_eq] at hl
      exact absurd hl.2 hk
    · rw [if_neg hB] at hl
      simp only [decide_eq_true_eq] at hl
      rw [T.tT_b (by omega) _ _ _ hA hB, hl, T.unit1 x hx hA, hA]
      have : cS n (0 : Int).toNat = 1 := rfl
      rw [this]
      grind
  · have hu := T.unit x hx hA
    have hl : leadsL n (x : Nat) (y : Nat) (z : Nat) = [] := by
      unfold leadsL
      rw [hu]; rfl
    rw [hu, hl]
    obtain ⟨E, ⟨k, hE⟩, e⟩ := T.tT_a (by omega) ho _ ((y : Nat) - 2 * hN n * hN n * (x : Nat) * (z : Nat)) (hN n * hN n * (z : Nat) * (z : Nat) - 1) hA
    have hE0 : ¬ E % (n : Int) = 0 := fun c => hk (disc_k ho c hE)
    rw [if_neg hE0] at e
    rw [e]
    have hc : cS n ((hN n * hN n * (x : Nat) * (x : Nat) - 1) % (n : Int)).toNat = 0 ∨ cS n ((hN n * hN n * (x : Nat) * (x : Nat) - 1) % (n : Int)).toNat = 2 := by
      refine cS_ne ?_
      have := Int.emod_nonneg (hN n * hN n * (x : Nat) * (x : Nat) - 1) (show (n : Int) ≠ 0 by omega)
      omega
    rcases hc with c | c <;> rw [c]
    · have : ((n + 1 - 0 : Nat) : Int) = n + 1 := by omega
      rw [this]
      simp only [List.length_nil]
      grind
    · have : ((n + 1 - 2 : Nat) : Int) = n - 1 := by omega
      rw [this]
      simp only [List.length_nil]
      grind
theorem sum_pos {f : Int → Nat} : ∀ l : List Int, 0 < (l.map f).sum → ∃ q ∈ l, 0 < f q
  | [], h => absurd h (by simp)
  | q :: l, h => by
    by_cases c : 0 < f q
    · exact ⟨q, List.mem_cons_self, c⟩
    · rw [List.map_cons, List.sum_cons] at h
      have h' : 0 < (l.map f).sum := by omega
      obtain ⟨r, h1, h2⟩ := sum_pos l h'
      exact ⟨r, List.mem_cons_of_mem _ h1, h2⟩
theorem mem_intR0 {n : Nat} {k : Int} (h0 : 0 ≤ k) (h1 : k < n) : k ∈ intR 0 n := by
  unfold intR
  exact List.mem_map.mpr ⟨k.toNat, List.mem_range.mpr (by omega), by omega⟩
def In (p : Int) (o : T4) : Prop := (0 ≤ o.1 ∧ o.1 < p) ∧ (0 ≤ o.2.1 ∧ o.2.1 < p) ∧ (0 ≤ o.2.2.1 ∧ o.2.2.1 < p) ∧ (0 ≤ o.2.2.2 ∧ o.2.2.2 < p)
theorem emod_in {p : Int} (hp : 2 ≤ p) (a : Int) : 0 ≤ a % p ∧ a % p < p := ⟨Int.emod_nonneg _ (by omega), Int.emod_lt_of_pos _ (by omega)⟩
theorem firstP_some {p x y z : Int} (hp : 2 ≤ p) (h : 0 < besideN p x y z) :
    ∃ u : T4, firstP p x y z = some u ∧ In p u ∧ (u.1 + u.2.2.2 - y) % p = 0 ∧ (u.2.2.1 - u.2.1 + x * u.2.2.2 - z) % p = 0 ∧ (u.1 * u.2.2.2 - u.2.1 * u.2.2.1) % p = 1 := by
  have hn : ((p.toNat : Nat) : Int) = p := Int.toNat_of_nonneg (by omega)
  cases e : firstP p x y z with
  | some u =>
    unfold firstP fpL at e
    obtain ⟨q, hq, e⟩ := List.exists_of_findSome?_eq_some e
    obtain ⟨w, hw, e⟩ := List.exists_of_findSome?_eq_some e
    obtain ⟨q1, q2⟩ := mem_intR hq
    obtain ⟨w1, w2⟩ := mem_intR hw
    unfold fpTry at e
    split at e
    · rename_i c
      cases e
      refine ⟨_, rfl, ⟨⟨q1, by dsimp only; omega⟩, ⟨w1, by dsimp only; omega⟩, emod_in hp _, emod_in hp _⟩, ?_, ?_, c⟩
      · show (q + (y - q) % p - y) % p = 0
        rw [cg_sub (cg_add rfl (cg_self (a := y - q))) rfl]
        have : q + (y - q) - y = 0 := by omega
        rw [this]; rfl
      · show ((z + w - x * ((y - q) % p)) % p - w + x * ((y - q) % p) - z) % p = 0
        rw [cg_sub (cg_add (cg_sub (cg_self (a := z + w - x * ((y - q) % p))) rfl) rfl) rfl]
        have : z + w - x * ((y - q) % p) - w + x * ((y - q) % p) - z = 0 := by omega
        rw [this]; rfl
    · exact absurd e (by simp)
  | none =>
    exfalso
    obtain ⟨Q, hQ, h⟩ := sum_pos _ h
    obtain ⟨R, hR⟩ := List.exists_mem_of_length_pos h
    obtain ⟨hR, hb⟩ := List.mem_filter.mp hR
    have hb : (Q * Q - x * Q * R + R * R - y * Q + z * R + 1) % p = 0 := of_decide_eq_true hb
    unfold firstP fpL at e
    rw [List.findSome?_eq_none_iff] at e
    obtain ⟨i1, i2⟩ := emod_in hp (y - Q)
    obtain ⟨j1, j2⟩ := emod_in hp (x * Q - R - z)
    have e := e ((y - Q) % p) (mem_intR0 i1 (by omega))
    rw [List.findSome?_eq_none_iff] at e
    have e := e ((x * Q - R - z) % p) (mem_intR0 j1 (by omega))
    unfold fpTry at e
    split at e
    · exact absurd e (by simp)
    · rename_i c
      apply c
      obtain ⟨k, hk⟩ := Int.dvd_of_emod_eq_zero hb
      have s1 : (y - (y - Q) % p) % p = Q % p := by
        rw [cg_sub rfl (cg_self (a := y - Q))]
        congr 1; omega
      have s2 : (z + (x * Q - R - z) % p - x * ((y - (y - Q) % p) % p)) % p = (-R) % p := by
        rw [cg_sub (cg_add rfl (cg_self (a := x * Q - R - z))) (cg_mul (rfl : x % p = x % p) (cg_self.trans s1))]
        congr 1; omega
      rw [cg_sub (cg_mul (cg_self (a := y - Q)) (cg_self.trans s1)) (cg_mul (cg_self (a := x * Q - R - z)) (cg_self.trans s2))]
      have : (y - Q) * Q - (x * Q - R - z) * -R = 1 + p * (-k) := by grind
      rw [this, Int.add_mul_emod_self_left]
      exact Int.emod_eq_of_lt (by omega) (by omega)
theorem leads_mem {p x y z k : Int} (hp : 2 ≤ p) (h : k ∈ leadsL p x y z) : (0 ≤ k ∧ k < p) ∧ (2 * k - x) % p = 0 ∧ (k * y - z) % p = 0 ∧ (k * k) % p = 1 := by
  unfold leadsL at h
  obtain ⟨h1, h2⟩ := List.mem_filter.mp h
  unfold unitsL at h1
  obtain ⟨h3, h4⟩ := List.mem_filter.mp h1
  have h2 := of_decide_eq_true h2
  have h4 := of_decide_eq_true h4
  have hk : k = 1 ∨ k = p - 1 := by
    split at h3
    · exact .inl (by simpa using h3)
    · simpa using h3
  refine ⟨by omega, h4, h2, ?_⟩
  rcases hk with rfl | rfl
  · exact Int.emod_eq_of_lt (by omega) (by omega)
  · have : (p - 1) * (p - 1) = 1 + p * (p - 2) := by grind
    rw [this, Int.add_mul_emod_self_left]
    exact Int.emod_eq_of_lt (by omega) (by omega)
theorem pair_right {p x y z : Int} (hp : 2 ≤ p) (hx : 0 ≤ x ∧ x < p) (hy : 0 ≤ y ∧ y < p) (hok : RestsOk p x y z) :
    ∃ o u : T4, pairR p x y z = .tuple [fourD o, fourD u] ∧ In p o ∧ In p u ∧ (o.1 + o.2.2.2 - x) % p = 0 ∧ (u.1 + u.2.2.2 - y) % p = 0 ∧
      (o.1 * u.1 + o.2.1 * u.2.2.1 + o.2.2.1 * u.2.1 + o.2.2.2 * u.2.2.2 - z) % p = 0 ∧ (o.1 * o.2.2.2 - o.2.1 * o.2.2.1) % p = 1 ∧ (u.1 * u.2.2.2 - u.2.1 * u.2.2.1) % p = 1 := by
  have d1 : ∀ a : Int, (0 * a - 1 * (p - 1)) % p = 1 := fun a => by
    have : 0 * a - 1 * (p - 1) = 1 + p * (-1) := by grind
    rw [this, Int.add_mul_emod_self_left]
    exact Int.emod_eq_of_lt (by omega) (by omega)
  unfold pairR
  by_cases c : 0 < besideN p x y z
  · rw [if_pos c]
    obtain ⟨u, e, h1, h2, h3, h4⟩ := firstP_some hp c
    rw [e]
    refine ⟨(0, 1, p - 1, x), u, rfl, ⟨⟨by dsimp only; omega, by dsimp only; omega⟩, ⟨by dsimp only; omega, by dsimp only; omega⟩, ⟨by dsimp only; omega, by dsimp only; omega⟩, hx⟩, h1, ?_, h2, ?_, d1 _, h4⟩
    · show (0 + x - x) % p = 0
      have : 0 + x - x = 0 := by omega
      rw [this]; rfl
    · have e2 : 0 * u.1 + 1 * u.2.2.1 + (p - 1) * u.2.1 + x * u.2.2.2 - z = (u.2.2.1 - u.2.1 + x * u.2.2.2 - z) + p * u.2.1 := by grind
      show (0 * u.1 + 1 * u.2.2.1 + (p - 1) * u.2.1 + x * u.2.2.2 - z) % p = 0
      rw [e2, Int.add_mul_emod_self_left]; exact h3
  · rw [if_neg c]
    have hne := hok (by omega)
    cases hl : leadsL p x y z with
    | nil => exact absurd hl hne
    | cons k l =>
      obtain ⟨h1, h2, h3, h4⟩ := leads_mem hp (x := x) (y := y) (z := z) (k := k) (by rw [hl]; exact List.mem_cons_self)
      refine ⟨(k, 0, 0, k), (0, 1, p - 1, y), rfl, ⟨h1, ⟨by dsimp only; omega, by dsimp only; omega⟩, ⟨by dsimp only; omega, by dsimp only; omega⟩, h1⟩, ⟨⟨by dsimp only; omega, by dsimp only; omega⟩, ⟨by dsimp only; omega, by dsimp only; omega⟩, ⟨by dsimp only; omega, by dsimp only; omega⟩, hy⟩, ?_, ?_, ?_, ?_, d1 _⟩
      · show (k + k - x) % p = 0
        have : k + k - x = 2 * k - x := by omega
        rw [this]; exact h2
      · show (0 + y - y) % p = 0
        have : 0 + y - y = 0 := by omega
        rw [this]; rfl
      · show (k * 0 + 0 * (p - 1) + 0 * 1 + k * y - z) % p = 0
        have : k * 0 + 0 * (p - 1) + 0 * 1 + k * y - z = k * y - z := by omega
        rw [this]; exact h3
      · show (k * k - 0 * 0) % p = 1
        have : k * k - 0 * 0 = k * k := by omega
        rw [this]; exact h4
/-! ### what law asks -/
theorem lookC_put (l : CL) (k k' : List Key) (v : Int × (T4 × T4)) : lookC (putC l k v) k' = if k = k' then some v else lookC l k' := by
  have app : ∀ l r : CL, lookC (l ++ r) k' = (lookC l k').or (lookC r k') := by
    intro l r
    induction l with
    | nil => rfl
    | cons e l ih =>
      show (if e.1 = k' then some e.2 else lookC (l ++ r) k') = Option.or (if e.1 = k' then some e.2 else lookC l k') (lookC r k')
      by_cases h : e.1 = k'
      · rw [if_pos h, if_pos h]; rfl
      · rw [if_neg h, if_neg h, ih]
  have non : ∀ l : CL, ¬ (l.any fun e => decide (e.1 = k)) = true → lookC l k = none := by
    intro l
    induction l with
    | nil => intro _; rfl
    | cons e l ih =>
      intro h
      rw [List.any_cons, Bool.or_eq_true, not_or] at h
      show (if e.1 = k then some e.2 else lookC l k) = none
      rw [if_neg (fun e => h.1 (decide_eq_true e))]
      exact ih h.2
  have mp : ∀ l : CL, lookC (l.map fun e => if e.1 = k then (e.1, v) else e) k' = if k = k' then (if (l.any fun e => decide (e.1 = k)) = true then some v else none) else lookC l k' := by
    intro l
    induction l with
    | nil => by_cases h : k = k' <;> simp [h, lookC]
    | cons e l ih =>
      show (if (if e.1 = k then (e.1, v) else e).1 = k' then some (if e.1 = k then (e.1, v) else e).2 else lookC (l.map fun e => if e.1 = k then (e.1, v) else e) k') = if k = k' then _ else (if e.1 = k' then some e.2 else lookC l k')
      rw [ih, List.any_cons]
      by_cases h1 : e.1 = k
      · simp only [h1, if_true, decide_true, Bool.true_or]
        by_cases h2 : k = k' <;> simp [h2]
      · simp only [h1, if_false, decide_false, Bool.false_or]
        by_cases h2 : k = k'
        · subst h2
          simp [h1]
        · by_cases h3 : e.1 = k' <;> simp [h2, h3]
  unfold putC
  by_cases h : (l.any fun e => decide (e.1 = k)) = true
  · rw [if_pos h, mp, if_pos h]
  · rw [if_neg h, app]
    by_cases e : k = k'
    · subst e
      rw [non l h, if_pos rfl]
      simp [lookC]
    · rw [if_neg e]
      simp [lookC, e]
/-- the count and the first of those with a key -/
def comb : Option (Int × (T4 × T4)) → List (T4 × T4) → Option (Int × (T4 × T4))
  | none, [] => none
  | none, q :: r => some ((r.length : Int) + 1, q)
  | some (m, f), r => some (m + (r.length : Int), f)
theorem look_fold (p : Int) (k : List Key) : ∀ (qs : List (T4 × T4)) (l : CL), lookC (qs.foldl (stepP p) l) k = comb (lookC l k) (qs.filter fun q => decide (keyP p q = k))
  | [], l => by
    rw [List.foldl_nil, List.filter_nil]
    cases lookC l k with
    | none => rfl
    | some x => obtain ⟨m, f⟩ := x; simp [comb]
  | q :: qs, l => by
    rw [List.foldl_cons, look_fold p k qs, List.filter_cons]
    have st : lookC (stepP p l q) k = if keyP p q = k then some (match lookC l (keyP p q) with | some (m, f) => (m + 1, f) | none => (1, q)) else lookC l k := by
      unfold stepP
      cases lookC l (keyP p q) with
      | none => exact lookC_put _ _ _ _
      | some x => obtain ⟨m, f⟩ := x; exact lookC_put _ _ _ _
    rw [st]
    by_cases h : keyP p q = k
    · rw [if_pos h, h]
      simp only [decide_true, if_true]
      cases lookC l k with
      | none =>
        simp only [comb]
        congr 2
        omega
      | some x =>
        obtain ⟨m, f⟩ := x
        simp only [comb, List.length_cons]
        congr 2
        omega
    · rw [if_neg h]
      simp [h]
def pairO (p x y z : Int) : T4 × T4 := if 0 < besideN p x y z then ((0, 1, p - 1, x), (firstP p x y z).getD (0, 0, 0, 0))
  else (((leadsL p x y z).headD 0, 0, 0, (leadsL p x y z).headD 0), (0, 1, p - 1, y))
theorem pairO_eq {p x y z : Int} (hp : 2 ≤ p) : pairR p x y z = pairD (pairO p x y z) := by
  unfold pairR pairO
  by_cases c : 0 < besideN p x y z
  · rw [if_pos c, if_pos c]
    obtain ⟨u, e, _⟩ := firstP_some hp c
    rw [e]; rfl
  · rw [if_neg c, if_neg c]; rfl
def e4 (a b : T4) : Bool := a.1 == b.1 && (a.2.1 == b.2.1 && (a.2.2.1 == b.2.2.1 && a.2.2.2 == b.2.2.2))
theorem e4_eq {a b : T4} (h : e4 a b = true) : a = b := by
  obtain ⟨a1, a2, a3, a4⟩ := a
  obtain ⟨b1, b2, b3, b4⟩ := b
  simp only [e4, Bool.and_eq_true, beq_iff_eq] at h
  obtain ⟨rfl, rfl, rfl, rfl⟩ := h
  rfl
def isKey (p x y z : Int) (q : T4 × T4) : Bool := ((q.1.1 + q.1.2.2.2) % p == x) && (((q.2.1 + q.2.2.2.2) % p == y) && (bothT q.1 q.2 % p == z))
def chkC (p x y z : Int) : Bool := match (pairsOf (allL p) (allL p)).filter (isKey p x y z) with
  | [] => false
  | q :: r => decide ((r.length : Int) + 1 = manyR p x y z) && (e4 q.1 (pairO p x y z).1 && e4 q.2 (pairO p x y z).2)
theorem isKey_eq (p x y z : Int) : (fun q => decide (keyP p q = [.inl x, .inl y, .inl z])) = isKey p x y z := by
  funext q
  unfold keyP isKey
  by_cases h1 : (q.1.1 + q.1.2.2.2) % p = x
  · by_cases h2 : (q.2.1 + q.2.2.2.2) % p = y
    · by_cases h3 : bothT q.1 q.2 % p = z
      · simp [h1, h2, h3]
      · simp [h1, h2, h3]
    · simp [h1, h2]
  · simp [h1]
theorem chkC_look {p x y z : Int} (h : chkC p x y z = true) : lookC (countC p) [.inl x, .inl y, .inl z] = some (manyR p x y z, pairO p x y z) := by
  unfold countC
  rw [look_fold, isKey_eq]
  unfold chkC at h
  show comb none _ = _
  cases e : (pairsOf (allL p) (allL p)).filter (isKey p x y z) with
  | nil => rw [e] at h; cases h
  | cons q r =>
    rw [e] at h
    simp only [Bool.and_eq_true, decide_eq_true_eq] at h
    obtain ⟨h1, h2, h3⟩ := h
    show some ((r.length : Int) + 1, q) = _
    rw [h1, show q = pairO p x y z from Prod.ext (e4_eq h2) (e4_eq h3)]
theorem cnt2 : ∀ x < 2, ∀ y < 2, ∀ z < 2, chkC (2 : Nat) (x : Nat) (y : Nat) (z : Nat) = true := by decide +kernel
theorem cnt3 : ∀ x < 3, ∀ y < 3, ∀ z < 3, chkC (3 : Nat) (x : Nat) (y : Nat) (z : Nat) = true := by decide +kernel
def chkO (p x y z : Int) : Bool := decide (0 < besideN p x y z) || decide (0 < (leadsL p x y z).length)
theorem chkO_ok {p x y z : Int} (h : chkO p x y z = true) : RestsOk p x y z := by
  intro h0 e
  unfold chkO at h
  rw [h0, e] at h
  exact absurd h (by decide)
theorem ok2 : ∀ x < 2, ∀ y < 2, ∀ z < 2, chkO (2 : Nat) (x : Nat) (y : Nat) (z : Nat) = true := by decide +kernel
theorem ok3 : ∀ x < 3, ∀ y < 3, ∀ z < 3, chkO (3 : Nat) (x : Nat) (y : Nat) (z : Nat) = true := by decide +kernel
theorem rest_of {n : Nat} (hn : 2 ≤ n) (x : Int) : ∃ k : Nat, k < n ∧ x % (n : Int) = (k : Int) := by
  obtain ⟨k, h1, h2, _⟩ := natMod (n := n) (by omega) x
  exact ⟨k, h1, h2⟩
theorem wee_look {p : Int} (hp : Wee p) (x y z : Int) : lookC (countC p) [.inl (x % p), .inl (y % p), .inl (z % p)] = some (manyR p (x % p) (y % p) (z % p), pairO p (x % p) (y % p) (z % p)) ∧ RestsOk p (x % p) (y % p) (z % p) := by
  rcases hp with rfl | rfl
  · obtain ⟨a, ha, e1⟩ := rest_of (n := 2) (by decide) x
    obtain ⟨b, hb, e2⟩ := rest_of (n := 2) (by decide) y
    obtain ⟨c, hc, e3⟩ := rest_of (n := 2) (by decide) z
    have h := cnt2 a ha b hb c hc
    have g := ok2 a ha b hb c hc
    rw [← e1, ← e2, ← e3] at h g
    exact ⟨chkC_look h, chkO_ok g⟩
  · obtain ⟨a, ha, e1⟩ := rest_of (n := 3) (by decide) x
    obtain ⟨b, hb, e2⟩ := rest_of (n := 3) (by decide) y
    obtain ⟨c, hc, e3⟩ := rest_of (n := 3) (by decide) z
    have h := cnt3 a ha b hb c hc
    have g := ok3 a ha b hb c hc
    rw [← e1, ← e2, ← e3] at h g
    exact ⟨chkC_look h, chkO_ok g⟩
def PQ (p : Int) : Prop := p = 5 ∨ p = 7 ∨ p = 11 ∨ p = 13 ∨ p = 17 ∨ p = 19 ∨ p = 23 ∨ p = 29 ∨ p = 31
theorem PQ.le {p : Int} (h : PQ p) : 5 ≤ p ∧ p ≤ 31 := by rcases h with rfl | rfl | rfl | rfl | rfl | rfl | rfl | rfl | rfl <;> exact ⟨by decide, by decide⟩
theorem tab5 : Tab 5 := ⟨by decide +kernel, by decide +kernel, by decide +kernel, by decide +kernel, by decide +kernel, by decide +kernel, by decide +kernel, by decide +kernel⟩
theorem tab7 : Tab 7 := ⟨by decide +kernel, by decide +kernel, by decide +kernel, by decide +kernel, by decide +kernel, by decide +kernel, by decide +kernel, by decide +kernel⟩
theorem tab11 : Tab 11 := ⟨by decide +kernel, by decide +kernel, by decide +kernel, by decide +kernel, by decide +kernel, by decide +kernel, by decide +kernel, by decide +kernel⟩
theorem tab13 : Tab 13 := ⟨by decide +kernel, by decide +kernel, by decide +kernel, by decide +kernel, by decide +kernel, by decide +kernel, by decide +kernel, by decide +kernel⟩
theorem tab17 : Tab 17 := ⟨by decide +kernel, by decide +kernel, by decide +kernel, by decide +kernel, by decide +kernel, by decide +kernel, by decide +kernel, by decide +kernel⟩
theorem tab19 : Tab 19 := ⟨by decide +kernel, by decide +kernel, by decide +kernel, by decide +kernel, by decide +kernel, by decide +kernel, by decide +kernel, by decide +kernel⟩
theorem tab23 : Tab 23 := ⟨by decide +kernel, by decide +kernel, by decide +kernel, by decide +kernel, by decide +kernel, by decide +kernel, by decide +kernel, by decide +kernel⟩
theorem tab29 : Tab 29 := ⟨by decide +kernel, by decide +kernel, by decide +kernel, by decide +kernel, by decide +kernel, by decide +kernel, by decide +kernel, by decide +kernel⟩
theorem tab31 : Tab 31 := ⟨by decide +kernel, by decide +kernel, by decide +kernel, by decide +kernel, by decide +kernel, by decide +kernel, by decide +kernel, by decide +kernel⟩
theorem tab_of {p : Int} (h : PQ p) : ∃ n : Nat, p = (n : Int) ∧ 2 * hN n = n + 1 ∧ Tab n := by
  rcases h with rfl | rfl | rfl | rfl | rfl | rfl | rfl | rfl | rfl
  · exact ⟨5, rfl, by decide, tab5⟩
  · exact ⟨7, rfl, by decide, tab7⟩
  · exact ⟨11, rfl, by decide, tab11⟩
  · exact ⟨13, rfl, by decide, tab13⟩
  · exact ⟨17, rfl, by decide, tab17⟩
  · exact ⟨19, rfl, by decide, tab19⟩
  · exact ⟨23, rfl, by decide, tab23⟩
  · exact ⟨29, rfl, by decide, tab29⟩
  · exact ⟨31, rfl, by decide, tab31⟩
theorem kT_mod (p x y z : Int) : (kT (x % p) (y % p) (z % p) - 2) % p = (kT x y z - 2) % p := by
  have e : ∀ a : Int, (a % p) % p = a % p := fun a => cg_self
  unfold kT
  exact cg_sub (cg_sub (cg_sub (cg_add (cg_add (cg_mul (e x) (e x)) (cg_mul (e y) (e y))) (cg_mul (e z) (e z))) (cg_mul (cg_mul (e x) (e y)) (e z))) rfl) rfl
theorem q_ok {p : Int} (h : PQ p) (x y z : Int) : RestsOk p (x % p) (y % p) (z % p) := by
  obtain ⟨hp, _⟩ := h.le
  obtain ⟨n, rfl, ho, T⟩ := tab_of h
  have h2 : 2 ≤ n := by omega
  obtain ⟨a, ha, e1⟩ := rest_of h2 x
  obtain ⟨b, hb, e2⟩ := rest_of h2 y
  obtain ⟨c, hc, e3⟩ := rest_of h2 z
  rw [e1, e2, e3]; exact rest_ok T h2 ho ha hb hc
theorem q_k {p : Int} (h : PQ p) (x y z : Int) (hk : ¬ (kT x y z - 2) % p = 0) : manyR p (x % p) (y % p) (z % p) = p * p * p - p := by
  rw [← kT_mod] at hk
  obtain ⟨hp, _⟩ := h.le
  obtain ⟨n, rfl, ho, T⟩ := tab_of h
  have h2 : 2 ≤ n := by omega
  obtain ⟨a, ha, e1⟩ := rest_of h2 x
  obtain ⟨b, hb, e2⟩ := rest_of h2 y
  obtain ⟨c, hc, e3⟩ := rest_of h2 z
  rw [e1, e2, e3] at hk ⊢; exact rest_k T h2 ho ha hb hc hk
theorem tmany_pos {p : Int} (hp : 5 ≤ p) (x : Int) : 20 ≤ tmany p x := by
  unfold tmany
  have h1 : 0 ≤ (p - 5) * p := Int.mul_nonneg (by omega) (by omega)
  have h2 : 0 ≤ p * ((rootsN p x : Nat) : Int) := Int.mul_nonneg (by omega) (by omega)
  have h3 : p * (p - 1) = (p - 5) * p + 4 * p := by grind
  omega
theorem q_pos {p : Int} (h : PQ p) (x y z : Int) : 1 ≤ manyR p (x % p) (y % p) (z % p) := by
  have hok := q_ok h x y z
  obtain ⟨hp, _⟩ := h.le
  generalize x % p = a at *
  generalize y % p = b at *
  generalize z % p = c at *
  unfold manyR
  have h1 := tmany_pos hp a
  have h2 := tmany_pos hp b
  have hu := unitsL_len p a
  by_cases c0 : 0 < besideN p a b c
  · have g1 : 0 ≤ (tmany p a - ((unitsL p a).length : Nat) - 1) * ((besideN p a b c : Nat) : Int) := Int.mul_nonneg (by omega) (by omega)
    have g2 : 0 ≤ ((leadsL p a b c).length : Int) * tmany p b := Int.mul_nonneg (by omega) (by omega)
    have g3 : (tmany p a - ((unitsL p a).length : Nat) - 1) * ((besideN p a b c : Nat) : Int) = (tmany p a - ((unitsL p a).length : Nat)) * ((besideN p a b c : Nat) : Int) - ((besideN p a b c : Nat) : Int) := by grind
    omega
  · have e0 : besideN p a b c = 0 := by omega
    have hne := hok e0
    have hl : 1 ≤ (leadsL p a b c).length := by
      cases hl : leadsL p a b c with
      | nil => exact absurd hl hne
      | cons k l => rw [List.length_cons]; omega
    have g2 : 0 ≤ (((leadsL p a b c).length : Int) - 1) * tmany p b := Int.mul_nonneg (by omega) (by omega)
    have g3 : (((leadsL p a b c).length : Int) - 1) * tmany p b = ((leadsL p a b c).length : Int) * tmany p b - tmany p b := by grind
    rw [e0]
    simp only [Int.natCast_zero, Int.mul_zero, Int.zero_add]
    have : (tmany p a - ((unitsL p a).length : Nat)) * ((0 : Nat) : Int) = 0 := by simp
    omega
theorem many_le {p : Int} (hp : 2 ≤ p ∧ p ≤ 31) (x y z : Int) : -10000000 ≤ manyR p x y z ∧ manyR p x y z ≤ 10000000 := by
  have ht : ∀ x, 0 ≤ tmany p x ∧ tmany p x ≤ 1891 := fun x => by
    unfold tmany
    have hr : rootsN p x ≤ 31 := by
      unfold rootsN
      refine Nat.le_trans (List.length_filter_le _ _) ?_
      rw [intR_len]; omega
    have g1 : 0 ≤ p * (p - 1) := Int.mul_nonneg (by omega) (by omega)
    have g2 : 0 ≤ p * ((rootsN p x : Nat) : Int) := Int.mul_nonneg (by omega) (by omega)
    have g3 : 0 ≤ (31 - p) * (p + 30) := Int.mul_nonneg (by omega) (by omega)
    have g4 : (31 - p) * (p + 30) = 930 + p - p * p + 1 - 1 := by grind
    have g5 : p * (p - 1) = p * p - p := by grind
    have g6 : 0 ≤ (31 - p) * ((rootsN p x : Nat) : Int) := Int.mul_nonneg (by omega) (by omega)
    have g7 : (31 - p) * ((rootsN p x : Nat) : Int) = 31 * ((rootsN p x : Nat) : Int) - p * ((rootsN p x : Nat) : Int) := by grind
    omega
  have hb := besideN_le (p := p) hp x y z
  have hu := unitsL_len p x
  have hl : (leadsL p x y z).length ≤ 2 := Nat.le_trans (List.length_filter_le _ _) (unitsL_len p x)
  obtain ⟨a1, a2⟩ := ht x
  obtain ⟨b1, b2⟩ := ht y
  unfold manyR
  generalize tmany p x = A at *
  generalize tmany p y = B at *
  generalize besideN p x y z = N at *
  generalize (unitsL p x).length = U at *
  generalize (leadsL p x y z).length = L at *
  have n1 : 0 ≤ (N : Int) := by omega
  have m1 : 0 ≤ (1891 - (A - (U : Int))) * (N : Int) := Int.mul_nonneg (by omega) n1
  have m2 : 0 ≤ ((A - (U : Int)) + 2) * (N : Int) := Int.mul_nonneg (by omega) n1
  have m3 : (1891 - (A - (U : Int))) * (N : Int) = 1891 * (N : Int) - (A - (U : Int)) * (N : Int) := by grind
  have m4 : ((A - (U : Int)) + 2) * (N : Int) = (A - (U : Int)) * (N : Int) + 2 * (N : Int) := by grind
  have m5 : 0 ≤ (L : Int) * B := Int.mul_nonneg (by omega) b1
  have m6 : 0 ≤ (2 - (L : Int)) * B := Int.mul_nonneg (by omega) b1
  have m7 : (2 - (L : Int)) * B = 2 * B - (L : Int) * B := by grind
  omega
theorem repR {p x y z : Int} (hp : 2 ≤ p ∧ p ≤ 31) (hok : RestsOk p (x % p) (y % p) (z % p)) : RepOk (.tuple [.int (manyR p (x % p) (y % p) (z % p)), pairR p (x % p) (y % p) (z % p)]) := by
  obtain ⟨⟨a, b, c, d⟩, ⟨e, f, g, i⟩, eq, h1, h2, _⟩ := pair_right hp.1 (emod_in hp.1 x) (emod_in hp.1 y) hok
  obtain ⟨m1, m2⟩ := many_le hp (x % p) (y % p) (z % p)
  rw [eq]
  obtain ⟨ha, hb, hc, hd⟩ := h1
  obtain ⟨he, hf, hg, hi⟩ := h2
  dsimp only at ha hb hc hd he hf hg hi
  have l : ∀ n : Int, 0 ≤ n ∧ n < p → n.natAbs.log2 < 1900 := fun n h => log_64 (by omega) (by omega)
  unfold fourD
  refine RepOk.of ?_ (by simp only [PyData.depth, PyData.depthAll]; decide) (by simp only [PyData.bulk, PyData.bulkAll]; decide)
  exact ⟨log_64 (by omega) (by omega), ⟨⟨l a ha, l b hb, l c hc, l d hd, trivial⟩, ⟨l e he, l f hf, l g hg, l i hi, trivial⟩, trivial⟩, trivial⟩
theorem last2 : manyR 2 (0 % 2) (0 % 2) (1 % 2) = 6 ∧ manyR 3 (2 % 3) (2 % 3) (2 % 3) = 33 := by decide +kernel
def N_law : List Str := ["script", "source", "p", "due", "lap", "triple", "rests", "q", "by", "x", "y", "z", "many", "first", "k", "late", "one"]
def le_law_1 : ATE := (aBin aSub (aFn 2 fn__law_pick (aCons (aVar 1) (aCons (aC (.int 25)) aNil))) (aC (.int 12)))
def le_law_2 : ATE := (aBin aMod (aCall bInt (aCons (aVar 16) aNil)) (aVar 2))
def lb_law_3 : ATS := (aSeq (aSet 5 (aCall bTuple (aCons (aLc (aRng1 (aCons (aC (.int 3)) aNil)) (aGName 14) aYes le_law_1 [14]) aNil)))
    (aSeq (aSet 6 (aCall bTupleK (aCons (aLc (aItT (aVar 5)) (aGName 16) aYes le_law_2 [16]) aNil)))
    (aIfS (aTest (aBin aNe (aCall bRepr (aCons (aFn 2 fn_rests_told (aCons (aVar 2) (aCons (aVar 5) aNil))) aNil)) (aCall bRepr (aCons (aDget (aVar 3) (aVar 6) (aTup (aCons (aC (.int 0)) (aCons (aC .none) aNil)))) aNil)))) (aRet (aC (.bool false))) aNext)))
def le_law_4 : ATE := (aBin aAdd (aBin aMul (aBin aSub (aFn 2 fn__law_pick (aCons (aVar 1) (aCons (aC (.int 41)) aNil))) (aC (.int 20))) (aVar 8)) (aFn 2 fn__law_pick (aCons (aVar 1) (aCons (aC (.int 40)) aNil))))
def rs_law_5 : ATS := (aSeq (aSet 15 (aTup (aCons (aBin aAdd (aVar 9) (aBin aMul (aVar 7) (aBin aSub (aFn 2 fn__law_pick (aCons (aVar 1) (aCons (aC (.int 5)) aNil))) (aC (.int 2))))) (aCons (aBin aSub (aVar 10) (aVar 7)) (aCons (aVar 11) aNil)))))
    (aIfS (aTest (aBin aNe (aCall bRepr (aCons (aFn 2 fn_rests_told (aCons (aVar 7) (aCons (aVar 15) aNil))) aNil)) (aCall bRepr (aCons (aTup (aCons (aVar 12) (aCons (aVar 13) aNil))) aNil)))) (aRet (aC (.bool false))) aNext))
def rs_law_6 : ATS := (aSeq (aSet 14 (aBin aMod (aCall bInt (aCons (aBin aSub (aBin aSub (aBin aAdd (aBin aAdd (aBin aMul (aVar 9) (aVar 9)) (aBin aMul (aVar 10) (aVar 10))) (aBin aMul (aVar 11) (aVar 11))) (aBin aMul (aBin aMul (aVar 9) (aVar 10)) (aVar 11))) (aC (.int 2))) aNil)) (aVar 7)))
    (aSeq (aIfS (aOr (aAnd (aTest (aBin aNe (aVar 14) (aC (.int 2)))) (aTest (aBin aNe (aVar 12) (aBin aSub (aBin aMul (aBin aMul (aVar 7) (aVar 7)) (aVar 7)) (aVar 7))))) (aAnd (aTest (aBin aEq (aVar 14) (aC (.int 2)))) (aTest (aBin aLt (aVar 12) (aC (.int 1)))))) (aRet (aC (.bool false))) aNext)
    rs_law_5))
def lb_law_7 : ATS := (aSeq (aAsg (aTup (aCons (aFn 2 fn__law_of (aCons (aVar 1) (aCons (aLst (aCons (aC (.int 5)) (aCons (aC (.int 7)) (aCons (aC (.int 11)) (aCons (aC (.int 13)) (aCons (aC (.int 17)) (aCons (aC (.int 19)) (aCons (aC (.int 23)) (aCons (aC (.int 29)) (aCons (aC (.int 31)) aNil)))))))))) aNil))) (aCons (aFn 2 fn__law_of (aCons (aVar 1) (aCons (aLst (aCons (aC (.int 1)) (aCons (aC (.int 100)) (aCons (aBin aPow (aC (.int 10)) (aC (.int 20))) aNil)))) aNil))) aNil))) (aGTup 2 (aGCons (aGName 7) (aGCons (aGName 8) aGNil))))
    (aSeq (aAsg (aLc (aRng1 (aCons (aC (.int 3)) aNil)) (aGName 14) aYes le_law_4 [14]) (aGLst 3 (aGCons (aGName 9) (aGCons (aGName 10) (aGCons (aGName 11) aGNil)))))
    (aSeq (aAsg (aFn 2 fn_rests_told (aCons (aVar 7) (aCons (aTup (aCons (aVar 9) (aCons (aVar 10) (aCons (aVar 11) aNil)))) aNil))) (aGTup 2 (aGCons (aGName 12) (aGCons (aGName 13) aGNil))))
    (aSeq (aIfS (aNot (aTru (aFn 3 fn__law_first_right (aCons (aVar 7) (aCons (aTup (aCons (aVar 9) (aCons (aVar 10) (aCons (aVar 11) aNil)))) (aCons (aVar 13) aNil)))))) (aRet (aC (.bool false))) aNext)
    rs_law_6))))
def t_law : ATS := (aSeq (aSet 1 (aFn 1 fn__law_source (aCons (aVar 0) aNil)))
    (aSeq (aSet 2 (aFn 2 fn__law_of (aCons (aVar 1) (aCons (aLst (aCons (aC (.int 2)) (aCons (aC (.int 3)) (aCons (aC (.int 3)) aNil)))) aNil))))
    (aSeq (aSet 3 (aFn 1 fn__law_counted (aCons (aVar 2) aNil)))
    (aSeq (aFor [4, 5, 6, 14, 16] (aRng1 (aCons (aC (.int 6)) aNil)) (aGName 4) lb_law_3)
    (aSeq (aFor [4, 7, 8, 9, 10, 11, 12, 13, 14, 15] (aRng1 (aCons (aC (.int 3)) aNil)) (aGName 4) lb_law_7)
    (aRet (aBin aEq (aCall bRepr (aCons (aLst (aCons (aBin aIx (aFn 2 fn_rests_told (aCons (aC (.int 2)) (aCons (aTup (aCons (aC (.int 0)) (aCons (aC (.int 0)) (aCons (aC (.int 1)) aNil)))) aNil))) (aC (.int 0))) (aCons (aBin aIx (aFn 2 fn_rests_told (aCons (aC (.int 3)) (aCons (aTup (aCons (aC (.int 2)) (aCons (aC (.int 2)) (aCons (aC (.int 2)) aNil)))) aNil))) (aC (.int 0))) aNil))) aNil)) (aCall bRepr (aCons (aLst (aCons (aC (.int 6)) (aCons (aC (.int 33)) aNil))) aNil)))))))))
def fn_law : AFn := lawFn
theorem drawn3 (G : ATG) (S : Src) (g : List (Option AV)) (te : ATE) (Q : List D → Mm → Prop) (P : Int → Prop)
    (hs : ∀ (i : Int) (S : Src) (K : Option D → Mm → Prop), (∀ (n : Int) S', P n → K (some (.int n)) ⟨some S', []⟩) → stepC G aYes te g (.int i) ⟨some S, []⟩ K)
    (hq : ∀ (x y z : Int) S', P x → P y → P z → Q [.int x, .int y, .int z] ⟨some S', []⟩) :
    aLcL G aYes te g (rngD 0 3) [] ⟨some S, []⟩ Q := by
  have e : rngD 0 3 = [PyData.int 0, .int 1, .int 2] := rfl
  rw [e]
  refine aLcL_step (hs 0 S _ fun x S1 h1 => ?_)
  refine aLcL_step (hs 1 S1 _ fun y S2 h2 => ?_)
  refine aLcL_step (hs 2 S2 _ fun z S3 h3 => ?_)
  unfold aLcL
  exact hq x y z S3 h1 h2 h3
theorem law_laps (E : AEnds) (ns : List Int) (p : Int) (hp : Wee p) (h : ∀ S', E.nx ⟨[some (.scr ns), some .src, some (.d (.int p)), some (.dt (tdOf (countC p))), none, none, none, none, none, none, none, none, none, none, none, none, none], ⟨some S', []⟩⟩) : ∀ (ts : List Int) (S : Src),
    aForL 0 [4, 5, 6, 14, 16] (aGName 4) lb_law_3 E (ts.map PyData.int) ⟨[some (.scr ns), some .src, some (.d (.int p)), some (.dt (tdOf (countC p))), none, none, none, none, none, none, none, none, none, none, none, none, none], ⟨some S, []⟩⟩
  | [], S => h S
  | t :: ts, S => by
    have ih := law_laps E ns p hp h ts
    have hp' : 2 ≤ p ∧ p ≤ 31 := by rcases hp with rfl | rfl <;> exact ⟨by decide, by decide⟩
    unfold aForL
    rw [List.map_cons]
    unfold lb_law_3
    walk_at "qs"
    refine ⟨Rg.of (by decide) (by decide), by rw [rngD_len]; decide, ?_⟩
    refine drawn3 _ S _ _ _ (fun n => -12 ≤ n ∧ n ≤ 12) (fun i S K hK => ?_) fun x y z S1 hx hy hz => ?_
    · unfold stepC le_law_1
      walk_at "qs"
      refine ⟨S, 25, rfl, rfl, by decide, fun r S' h1 h2 => ?_⟩
      walk_at "qs"
      exact hK _ _ ⟨by omega, by omega⟩
    walk_at "qs"
    rw [show [PyData.int x, .int y, .int z] = [x, y, z].map PyData.int from rfl]
    refine aLcL_all PyData.int (fun i => .int (i % p)) (fun i _ K hK => ?_) ?_
    · unfold stepC le_law_2
      walk_at "qs"
      exact ⟨by omega, hK⟩
    have hk : keysD ([x, y, z].map fun i => PyData.int (i % p)) = some [.inl (x % p), .inl (y % p), .inl (z % p)] := rfl
    rw [hk]
    obtain ⟨hl, hok⟩ := wee_look hp x y z
    walk_at "qs"
    refine ⟨p, x, y, z, rfl, hp', hok, ?_⟩
    walk_at "qs"
    refine ⟨repR hp' hok, rfl, ?_⟩
    rw [tdOf_look, hl]
    unfold Option.map ent
    walk_at "qs"
    rw [← pairO_eq hp'.1]
    refine ⟨repR hp' hok, ?_⟩
    rw [if_neg (fun h => h rfl)]
    exact ih S1
theorem law_rest (F : AEnds) (ns : List Int) (p0 : Int) (d3 : List (List Key × D)) (t q by_ x y z : Int) (S : Src) (hq : PQ q) (hx : Bd 75 x) (hy : Bd 75 y) (hz : Bd 75 z)
    (hF : ∀ b4 b7 b8 b9 b10 b11 b12 b13 b14 b15 S', F.nx ⟨[some (.scr ns), some .src, some (.d (.int p0)), some (.dt d3), b4, none, none, b7, b8, b9, b10, b11, b12, b13, b14, b15, none], ⟨some S', []⟩⟩) :
    rs_law_6 F ⟨[some (.scr ns), some .src, some (.d (.int p0)), some (.dt d3), some (.d (.int t)), none, none, some (.d (.int q)), some (.d (.int by_)), some (.d (.int x)), some (.d (.int y)), some (.d (.int z)), some (.d (.int (manyR q (x % q) (y % q) (z % q)))), some (.d (pairR q (x % q) (y % q) (z % q))), none, none, none], ⟨some S, []⟩⟩ := by
  obtain ⟨q5, q31⟩ := hq.le
  have hsm : Small q := ⟨by omega, q31⟩
  have hok := q_ok hq x y z
  have bxy := hx.mul hy
  unfold rs_law_6
  walk_at "qs"
  refine ⟨.bd hx hx (by decide), .bd hy hy (by decide), .bd hz hz (by decide), .bd hx hy (by decide), .bd bxy hz (by decide), by omega, ?_⟩
  rw [show (x * x + y * y + z * z - x * y * z - 2) = kT x y z from rfl]
  have m1 := q_pos hq x y z
  have rest5 : ∀ S b14, rs_law_5 F ⟨[some (.scr ns), some .src, some (.d (.int p0)), some (.dt d3), some (.d (.int t)), none, none, some (.d (.int q)), some (.d (.int by_)), some (.d (.int x)), some (.d (.int y)), some (.d (.int z)), some (.d (.int (manyR q (x % q) (y % q) (z % q)))), some (.d (pairR q (x % q) (y % q) (z % q))), b14, none, none], ⟨some S, []⟩⟩ := by
    intro S b14
    unfold rs_law_5
    walk_at "qs"
    refine ⟨S, 5, rfl, rfl, by decide, fun r S' h1 h2 => ?_⟩
    walk_at "qs"
    have ex : (x + q * (r - 2)) % q = x % q := Int.add_mul_emod_self_left _ _ _
    have ey : (y - q) % q = y % q := by
      have := Int.add_mul_emod_self_left y q (-1)
      rw [← this]; congr 1; omega
    refine ⟨MulOk.l (by omega) (by omega), q, _, _, _, rfl, hsm, by rw [ex, ey]; exact hok, ?_⟩
    rw [ex, ey]
    walk_at "qs"
    refine ⟨repR hsm hok, repR hsm hok, ?_⟩
    exact hF _ _ _ _ _ _ _ _ _ _ _
  by_cases ck : (kT x y z - 2) % q = 0
  · have e2 : kT x y z % q = 2 := by
      have h1 := (Int.emod_eq_emod_iff_emod_sub_eq_zero).mpr ck
      rw [h1]; exact Int.emod_eq_of_lt (by omega) (by omega)
    have m2 : ¬ manyR q (x % q) (y % q) (z % q) < 1 := by omega
    simp only [e2, m2, decide_true, decide_false, if_true, if_false, not_true_eq_false, not_false_eq_true, Bool.false_eq_true]
    exact rest5 _ _
  · have e2 : ¬ kT x y z % q = 2 := fun e => ck (by
      have h1 : kT x y z % q = 2 % q := by rw [e]; exact (Int.emod_eq_of_lt (by omega) (by omega)).symm
      exact (Int.emod_eq_emod_iff_emod_sub_eq_zero).mp h1)
    have m2 := q_k hq x y z ck
    have r5 := rest5
    rw [m2] at r5 ⊢
    simp only [e2, decide_true, decide_false, if_true, if_false, not_true_eq_false, not_false_eq_true, Bool.false_eq_true]
    refine ⟨MulOk.l (by omega) (by omega), MulOk.r (by omega) (by omega), ?_⟩
    exact r5 _ _
theorem law_late (E : AEnds) (ns : List Int) (p0 : Int) (d3 : List (List Key × D)) (h : ∀ S', E.nx ⟨[some (.scr ns), some .src, some (.d (.int p0)), some (.dt d3), none, none, none, none, none, none, none, none, none, none, none, none, none], ⟨some S', []⟩⟩) : ∀ (ts : List Int) (S : Src),
    aForL 0 [4, 7, 8, 9, 10, 11, 12, 13, 14, 15] (aGName 4) lb_law_7 E (ts.map PyData.int) ⟨[some (.scr ns), some .src, some (.d (.int p0)), some (.dt d3), none, none, none, none, none, none, none, none, none, none, none, none, none], ⟨some S, []⟩⟩
  | [], S => h S
  | t :: ts, S => by
    have ih := law_late E ns p0 d3 h ts
    unfold aForL
    rw [List.map_cons]
    unfold lb_law_7
    walk_at "qs"
    refine ⟨S, _, rfl, rfl, by decide, by decide, fun d hd S1 => ?_⟩
    obtain ⟨q, rfl, hq⟩ : ∃ q, d = .int q ∧ PQ q := by
      simp only [List.mem_cons, List.not_mem_nil, or_false] at hd
      rcases hd with rfl | rfl | rfl | rfl | rfl | rfl | rfl | rfl | rfl
      · exact ⟨_, rfl, .inl rfl⟩
      · exact ⟨_, rfl, .inr (.inl rfl)⟩
      · exact ⟨_, rfl, .inr (.inr (.inl rfl))⟩
      · exact ⟨_, rfl, .inr (.inr (.inr (.inl rfl)))⟩
      · exact ⟨_, rfl, .inr (.inr (.inr (.inr (.inl rfl))))⟩
      · exact ⟨_, rfl, .inr (.inr (.inr (.inr (.inr (.inl rfl)))))⟩
      · exact ⟨_, rfl, .inr (.inr (.inr (.inr (.inr (.inr (.inl rfl))))))⟩
      · exact ⟨_, rfl, .inr (.inr (.inr (.inr (.inr (.inr (.inr (.inl rfl)))))))⟩
      · exact ⟨_, rfl, .inr (.inr (.inr (.inr (.inr (.inr (.inr (.inr rfl)))))))⟩
    obtain ⟨q5, q31⟩ := hq.le
    have hsm : Small q := ⟨by omega, q31⟩
    walk_at "qs"
    refine ⟨⟨by decide, by decide, by decide⟩, S1, _, rfl, rfl, by decide, by decide, fun d hd S2 => ?_⟩
    obtain ⟨w, rfl, hw⟩ : ∃ w, d = .int w ∧ Bd 69 w := by
      simp only [List.mem_cons, List.not_mem_nil, or_false] at hd
      rcases hd with rfl | rfl | rfl
      · exact ⟨_, rfl, by unfold Bd; decide⟩
      · exact ⟨_, rfl, by unfold Bd; decide⟩
      · exact ⟨_, rfl, by unfold Bd; decide⟩
    walk_at "qs"
    refine ⟨Rg.of (by decide) (by decide), by rw [rngD_len]; decide, ?_⟩
    refine drawn3 _ S2 _ _ _ (Bd 75) (fun i S K hK => ?_) fun x y z S3 hx hy hz => ?_
    · unfold stepC le_law_4
      walk_at "qs"
      refine ⟨S, 41, rfl, rfl, by decide, fun r S' h1 h2 => ?_⟩
      walk_at "qs"
      refine ⟨MulOk.l (by omega) (by omega), S', 40, rfl, rfl, by decide, fun r2 S2' h3 h4 => ?_⟩
      walk_at "qs"
      refine hK _ _ ?_
      have b1 : Bd 5 (r - 20) := by unfold Bd; omega
      have b2 : Bd 74 r2 := (show Bd 6 r2 by unfold Bd; omega).le (by decide)
      exact (b1.mul hw).add b2
    walk_at "qs"
    have hok := q_ok hq x y z
    refine ⟨q, x, y, z, rfl, hsm, hok, ?_⟩
    walk_at "qs"
    obtain ⟨o, u, e, i1, i2, t1, t2, t3, e1, e2⟩ := pair_right (p := q) (by omega) (emod_in (by omega) x) (emod_in (by omega) y) hok
    have red : ∀ a b : Int, (a - b % q) % q = 0 → (a - b) % q = 0 := fun a b h => by rw [← h]; exact cg_sub rfl cg_self.symm
    have d1 : ∀ a : Int, a % q = 1 → (a - 1) % q = 0 := fun a h => by
      have h1 : a % q = 1 % q := by rw [h]; exact (Int.emod_eq_of_lt (by omega) (by omega)).symm
      exact (Int.emod_eq_emod_iff_emod_sub_eq_zero).mp h1
    refine ⟨q, x, y, z, o, u, by rw [e]; rfl, hsm, i1, i2, d1 _ e1, d1 _ e2, red _ _ t1, red _ _ t2, ?_, ?_⟩
    · have : bothT o u - z = o.1 * u.1 + o.2.1 * u.2.2.1 + o.2.2.1 * u.2.1 + o.2.2.2 * u.2.2.2 - z := by unfold bothT; omega
      rw [this]; exact red _ _ t3
    walk_at "qs"
    refine law_rest _ ns p0 d3 t q w x y z S3 hq hx hy hz ?_
    intro b4 b7 b8 b9 b10 b11 b12 b13 b14 b15 S'
    exact ih S'
theorem h_law : ∀ avs s AQ, fn_law avs s AQ → t_law (endsA AQ) ⟨startA N_law avs, ⟨s, []⟩⟩ := by
  rintro _ _ AQ ⟨ns, rfl, rfl, hn, hq⟩
  show t_law (endsA AQ) ⟨[some (.scr ns), none, none, none, none, none, none, none, none, none, none, none, none, none, none, none, none], ⟨none, []⟩⟩
  unfold t_law
  walk_at "qs"
  refine ⟨ns, rfl, rfl, hn, fun S0 => ?_⟩
  walk_at "qs"
  refine ⟨S0, _, rfl, rfl, by decide, by decide, fun d hd S1 => ?_⟩
  obtain ⟨p, rfl, hp⟩ : ∃ p, d = .int p ∧ Wee p := by
    simp only [List.mem_cons, List.not_mem_nil, or_false] at hd
    rcases hd with rfl | rfl | rfl
    · exact ⟨_, rfl, .inl rfl⟩
    · exact ⟨_, rfl, .inr rfl⟩
    · exact ⟨_, rfl, .inr rfl⟩
  walk_at "qs"
  refine ⟨p, rfl, hp, ?_⟩
  walk_at "qs"
  refine ⟨Rg.of (by decide) (by decide), ?_⟩
  rw [rngD_eq]
  refine law_laps _ ns p hp (fun S2 => ?_) _ S1
  walk_at "qs"
  refine ⟨Rg.of (by decide) (by decide), ?_⟩
  rw [rngD_eq]
  refine law_late _ ns p _ (fun S3 => ?_) _ S2
  have k2 := (wee_look (.inl rfl : Wee 2) 0 0 1).2
  have k3 := (wee_look (.inr rfl : Wee 3) 2 2 2).2
  walk_at "qs"
  refine ⟨2, 0, 0, 1, rfl, ⟨by decide, by decide⟩, k2, ?_⟩
  walk_at "qs"
  refine ⟨3, 2, 2, 2, rfl, ⟨by decide, by decide⟩, k3, ?_⟩
  walk_at "qs"
  rw [last2.1, last2.2]
  have hr : RepOk (.list [.int 6, .int 33]) := RepOk.of ⟨log_64 (by decide) (by decide), log_64 (by decide) (by decide), trivial⟩ (by decide) (by decide)
  refine ⟨hr, hr, ?_⟩
  exact hq _

/-! ### the text by places -/
def topS (i : Nat) : Stmt := PySem.Challenge.pw_tracetriples_k54_rests_by_all_pairs.main.body.getD i (.Pass ⟨0, 0, 0, 0⟩)
/-- what the top leaves of names -/
structure Txt (K : PySem.W.Frag) (mg : Str → Option Value) : Prop where
  n_abs : mg "abs" = none
  n_dict : mg "dict" = none
  n_int : mg "int" = none
  n_len : mg "len" = none
  n_max : mg "max" = none
  n_range : mg "range" = none
  n_repr : mg "repr" = none
  n_sorted : mg "sorted" = none
  n_tuple : mg "tuple" = none
  n_zip : mg "zip" = none
theorem hu65 {k : Nat} {A : Around} (hr : Room k A) : A.units + 65 < cLine := by have := hr.un; omega
theorem reprU {k : Nat} {A : Around} (hr : Room k A) : A.units + 100 < cLine := by have := hr.un; omega
abbrev s__law_all : Stmt := topS 12
theorem sc__law_all : FnScope N__law_all ["p"] (defScope s__law_all) := ⟨rfl, rfl, rfl, by decide +kernel, rfl, by decide +kernel, by decide +kernel⟩
theorem ok__law_all {P : Program} {w : World} {K : PySem.W.Frag} {mg : Str → Option Value} {base : Heap} (T : Txt K mg) (D : DefAt K mg "_law_all" s__law_all ["p"]) : Callee P w K mg base "_law_all" 1 1 fn__law_all :=
  D.callee (N := N__law_all) (t := t__law_all) sc__law_all rfl (fun f cdv A outer s H E hr hgd => (qss_cons (qs_set (i := 1) sc__law_all.nd rfl (.inl rfl) (q_lst qa_nil))
      (qss_cons (qs_for (vs := allv) [2, 3, 4, 5] PassesOwn.never rfl (qi_range1 (by rfl) T.n_range (qa_cons (qv 0) qa_nil)) (qg_name (i := 2) sc__law_all.nd rfl (.inr rfl) (by decide)) (qss_one (qs_for (vs := allv) [3, 4, 5] PassesOwn.never rfl (qi_range1 (by rfl) T.n_range (qa_cons (qv 0) qa_nil)) (qg_name (i := 3) sc__law_all.nd rfl (.inr rfl) (by decide)) (qss_one (qs_for (vs := allv) [4, 5] PassesOwn.never rfl (qi_range1 (by rfl) T.n_range (qa_cons (qv 0) qa_nil)) (qg_name (i := 4) sc__law_all.nd rfl (.inr rfl) (by decide)) (qss_one (qs_set (i := 1) sc__law_all.nd rfl (.inl rfl) (q_op oq_add (qv 1) (q_lc (own := [("d", 5)]) rfl sc__law_all.nd (qi_range1 (by rfl) T.n_range (qa_cons (qv 0) qa_nil)) (blkOk_by (N := N__law_all) (sc := defScope s__law_all) (own := [("d", 5)]) (by decide +kernel)) (fun _ _ _ _ _ => (qg_name (i := 5) sc__law_all.nd rfl (.inl rfl) (by decide))) (fun _ _ _ _ _ => (qts_one (qt_cmp (oq_eq hr.units) (q_op oq_mod (q_callTy cq_int (by rfl) T.n_int bt_int (qa_cons (q_op oq_sub (q_op oq_sub (q_op oq_mul (qv 2) (qv 5)) (q_op oq_mul (qv 3) (qv 4))) q_int) qa_nil)) (qv 0)) q_int (nomark _)))) (fun _ _ _ _ _ => (q_tup (qa_cons (qv 2) (qa_cons (qv 3) (qa_cons (qv 4) (qa_cons (qv 5) qa_nil)))))))))))))))
      (qss_one (qs_ret (qv 1)))))) h__law_all
abbrev s__law_times : Stmt := topS 10
theorem sc__law_times : FnScope N__law_times ["one", "other"] (defScope s__law_times) := ⟨rfl, rfl, rfl, by decide +kernel, rfl, by decide +kernel, by decide +kernel⟩
theorem ok__law_times {P : Program} {w : World} {K : PySem.W.Frag} {mg : Str → Option Value} {base : Heap} (T : Txt K mg) (D : DefAt K mg "_law_times" s__law_times ["one", "other"]) : Callee P w K mg base "_law_times" 1 2 fn__law_times :=
  D.callee (N := N__law_times) (t := t__law_times) sc__law_times rfl (fun f cdv A outer s H E hr hgd => (qss_cons (qs_asg (vs := allv) (qv 0) (qg_tup rfl (qgs_cons (qg_name (i := 2) sc__law_times.nd rfl (.inl rfl) (by decide)) (qgs_cons (qg_name (i := 3) sc__law_times.nd rfl (.inl rfl) (by decide)) (qgs_cons (qg_name (i := 4) sc__law_times.nd rfl (.inl rfl) (by decide)) (qgs_cons (qg_name (i := 5) sc__law_times.nd rfl (.inl rfl) (by decide)) qgs_nil))))))
      (qss_cons (qs_asg (vs := allv) (qv 1) (qg_tup rfl (qgs_cons (qg_name (i := 6) sc__law_times.nd rfl (.inl rfl) (by decide)) (qgs_cons (qg_name (i := 7) sc__law_times.nd rfl (.inl rfl) (by decide)) (qgs_cons (qg_name (i := 8) sc__law_times.nd rfl (.inl rfl) (by decide)) (qgs_cons (qg_name (i := 9) sc__law_times.nd rfl (.inl rfl) (by decide)) qgs_nil))))))
      (qss_one (qs_ret (q_tup (qa_cons (q_op oq_add (q_op oq_mul (qv 2) (qv 6)) (q_op oq_mul (qv 3) (qv 8))) (qa_cons (q_op oq_add (q_op oq_mul (qv 2) (qv 7)) (q_op oq_mul (qv 3) (qv 9))) (qa_cons (q_op oq_add (q_op oq_mul (qv 4) (qv 6)) (q_op oq_mul (qv 5) (qv 8))) (qa_cons (q_op oq_add (q_op oq_mul (qv 4) (qv 7)) (q_op oq_mul (qv 5) (qv 9))) qa_nil)))))))))) h__law_times
abbrev s__law_traced : Stmt := topS 11
theorem sc__law_traced : FnScope N__law_traced ["pair"] (defScope s__law_traced) := ⟨rfl, rfl, rfl, by decide +kernel, rfl, by decide +kernel, by decide +kernel⟩
theorem ok__law_traced {P : Program} {w : World} {K : PySem.W.Frag} {mg : Str → Option Value} {base : Heap} (T : Txt K mg) (c__law_times : Callee P w K mg base "_law_times" 1 2 fn__law_times) (D : DefAt K mg "_law_traced" s__law_traced ["pair"]) : Callee P w K mg base "_law_traced" 2 1 fn__law_traced :=
  D.callee (N := N__law_traced) (t := t__law_traced) sc__law_traced rfl (fun f cdv A outer s H E hr hgd => (qss_cons (qs_set (i := 1) sc__law_traced.nd rfl (.inl rfl) (q_call c__law_times (hr.mono (by decide)) hgd (qa_cons (q_ix iq_seq (qv 0) q_int (fun _ _ => rfl)) (qa_cons (q_ix iq_seq (qv 0) q_int (fun _ _ => rfl)) qa_nil))))
      (qss_one (qs_ret (q_tup (qa_cons (q_op oq_add (q_ix iq_seq (q_ix iq_seq (qv 0) q_int (fun _ _ => rfl)) q_int (fun _ _ => rfl)) (q_ix iq_seq (q_ix iq_seq (qv 0) q_int (fun _ _ => rfl)) q_int (fun _ _ => rfl))) (qa_cons (q_op oq_add (q_ix iq_seq (q_ix iq_seq (qv 0) q_int (fun _ _ => rfl)) q_int (fun _ _ => rfl)) (q_ix iq_seq (q_ix iq_seq (qv 0) q_int (fun _ _ => rfl)) q_int (fun _ _ => rfl))) (qa_cons (q_op oq_add (q_ix iq_seq (qv 1) q_int (fun _ _ => rfl)) (q_ix iq_seq (qv 1) q_int (fun _ _ => rfl))) qa_nil)))))))) h__law_traced
abbrev s__law_counted : Stmt := topS 13
theorem sc__law_counted : FnScope N__law_counted ["p"] (defScope s__law_counted) := ⟨rfl, rfl, rfl, by decide +kernel, rfl, by decide +kernel, by decide +kernel⟩
theorem ok__law_counted {P : Program} {w : World} {K : PySem.W.Frag} {mg : Str → Option Value} {base : Heap} (T : Txt K mg) (c__law_all : Callee P w K mg base "_law_all" 1 1 fn__law_all) (c__law_traced : Callee P w K mg base "_law_traced" 2 1 fn__law_traced) (D : DefAt K mg "_law_counted" s__law_counted ["p"]) : Callee P w K mg base "_law_counted" 3 1 fn__law_counted :=
  D.callee (N := N__law_counted) (t := t__law_counted) sc__law_counted rfl (fun f cdv A outer s H E hr hgd => (qss_cons (qs_par (i := 1) (j := 2) rfl sc__law_counted.nd rfl rfl (by decide) rfl rfl (qa_cons (q_call c__law_all (hr.mono (by decide)) hgd (qa_cons (qv 0) qa_nil)) (qa_cons q_dnewT qa_nil)) (by rfl))
      (qss_cons (qs_for (vs := allv) [3, 4, 5, 6, 7, 8] PassesOwn.never rfl (qi_lst (qv 1)) (qg_name (i := 3) sc__law_counted.nd rfl (.inl rfl) (by decide)) (qss_one (qs_for (vs := allv) [4, 5, 6, 7, 8] PassesOwn.never rfl (qi_lst (qv 1)) (qg_name (i := 4) sc__law_counted.nd rfl (.inl rfl) (by decide)) (qss_cons (qs_set (i := 5) sc__law_counted.nd rfl (.inl rfl) (q_callTy cq_tupleK (by rfl) T.n_tuple bt_tuple (qa_cons (q_lc (own := [("number", 8)]) rfl sc__law_counted.nd (qi_tup (q_call c__law_traced (hr.mono (by decide)) hgd (qa_cons (q_tup (qa_cons (qv 3) (qa_cons (qv 4) qa_nil))) qa_nil))) (blkOk_by (N := N__law_counted) (sc := defScope s__law_counted) (own := [("number", 8)]) (by decide +kernel)) (fun _ _ _ _ _ => (qg_name (i := 8) sc__law_counted.nd rfl (.inl rfl) (by decide))) (fun _ _ _ _ _ => qts_nil) (fun _ _ _ _ _ => (q_op oq_mod (q_callTy cq_int (by rfl) T.n_int bt_int (qa_cons (qv 8) qa_nil)) (qv 0)))) qa_nil)))
      (qss_cons (qs_asg (vs := allv) (q_dget (hu_of hr) (qv 2) (qv 5) (q_tup (qa_cons q_int (qa_cons (q_tup (qa_cons (qv 3) (qa_cons (qv 4) qa_nil))) qa_nil)))) (qg_tup rfl (qgs_cons (qg_name (i := 6) sc__law_counted.nd rfl (.inl rfl) (by decide)) (qgs_cons (qg_name (i := 7) sc__law_counted.nd rfl (.inl rfl) (by decide)) qgs_nil))))
      (qss_one (qs_dput (hu_of hr) (qv 2) (qv 5) (q_tup (qa_cons (q_op oq_add (qv 6) q_int) (qa_cons (qv 7) qa_nil))))))))))
      (qss_one (qs_ret (qv 2)))))) h__law_counted
abbrev s__law_first_right : Stmt := topS 14
theorem sc__law_first_right : FnScope N__law_first_right ["p", "triple", "first"] (defScope s__law_first_right) := ⟨rfl, rfl, rfl, by decide +kernel, rfl, by decide +kernel, by decide +kernel⟩
theorem ok__law_first_right {P : Program} {w : World} {K : PySem.W.Frag} {mg : Str → Option Value} {base : Heap} (T : Txt K mg) (c__law_traced : Callee P w K mg base "_law_traced" 2 1 fn__law_traced) (D : DefAt K mg "_law_first_right" s__law_first_right ["p", "triple", "first"]) : Callee P w K mg base "_law_first_right" 3 3 fn__law_first_right :=
  D.callee (N := N__law_first_right) (t := t__law_first_right) sc__law_first_right rfl (fun f cdv A outer s H E hr hgd => (qss_cons (qs_for (vs := allv) [3, 4] PassesOwn.never rfl (qi_tup (qv 2)) (qg_name (i := 3) sc__law_first_right.nd rfl (.inl rfl) (by decide)) (qss_cons (qs_if (qt_cmp (oq_ne hr.units) (q_lc (own := [("one", 4)]) rfl sc__law_first_right.nd (qi_tup (qv 3)) (blkOk_by (N := N__law_first_right) (sc := defScope s__law_first_right) (own := [("one", 4)]) (by decide +kernel)) (fun _ _ _ _ _ => (qg_name (i := 4) sc__law_first_right.nd rfl (.inl rfl) (by decide))) (fun _ _ _ _ _ => (qts_one (qt_not (qt_chain oq_le oq_lt q_int (qv 4) (qv 0) (by with_unfolding_all rfl))))) (fun _ _ _ _ _ => (qv 4))) (q_lst qa_nil) (nomark _)) (qss_one (qs_ret q_bl)) qss_nil)
      (qss_one (qs_if (qt_cmp (oq_ne hr.units) (q_op oq_mod (q_callTy cq_int (by rfl) T.n_int bt_int (qa_cons (q_op oq_sub (q_op oq_sub (q_op oq_mul (q_ix iq_seq (qv 3) q_int (fun _ _ => rfl)) (q_ix iq_seq (qv 3) q_int (fun _ _ => rfl))) (q_op oq_mul (q_ix iq_seq (qv 3) q_int (fun _ _ => rfl)) (q_ix iq_seq (qv 3) q_int (fun _ _ => rfl)))) q_int) qa_nil)) (qv 0)) q_int (nomark _)) (qss_one (qs_ret q_bl)) qss_nil))))
      (qss_one (qs_ret (q_cmp (oq_eq hr.units) (q_lc (own := [("one", 4), ("late", 5)]) rfl sc__law_first_right.nd (qi_zip (by rfl) T.n_zip (qa_cons (q_call c__law_traced (hr.mono (by decide)) hgd (qa_cons (qv 2) qa_nil)) (qa_cons (qv 1) qa_nil))) (blkOk_by (N := N__law_first_right) (sc := defScope s__law_first_right) (own := [("one", 4), ("late", 5)]) (by decide +kernel)) (fun _ _ _ _ _ => (qg_tup rfl (qgs_cons (qg_name (i := 4) sc__law_first_right.nd rfl (.inl rfl) (by decide)) (qgs_cons (qg_name (i := 5) sc__law_first_right.nd rfl (.inl rfl) (by decide)) qgs_nil)))) (fun _ _ _ _ _ => qts_nil) (fun _ _ _ _ _ => (q_op oq_mod (q_callTy cq_int (by rfl) T.n_int bt_int (qa_cons (q_op oq_sub (qv 4) (qv 5)) qa_nil)) (qv 0)))) (q_lst (qa_cons q_int (qa_cons q_int (qa_cons q_int qa_nil)))) (nomark _)))))) h__law_first_right
abbrev s__law_pick : Stmt := topS 8
theorem sc__law_pick : FnScope N__law_pick ["source", "many"] (defScope s__law_pick) := ⟨rfl, rfl, rfl, by decide +kernel, rfl, by decide +kernel, by decide +kernel⟩
theorem ok__law_pick {P : Program} {w : World} {K : PySem.W.Frag} {mg : Str → Option Value} {base : Heap} (T : Txt K mg) (D : DefAt K mg "_law_pick" s__law_pick ["source", "many"]) : Callee P w K mg base "_law_pick" 1 2 fn__law_pick :=
  D.callee (N := N__law_pick) (t := t__law_pick) sc__law_pick rfl (fun f cdv A outer s H E hr hgd => (qss_cons (qs_while [] PassesOwn.never (qt_w (qw_and (qt_cmp oq_gt (qv 1) q_int (nomark _)) (qw_and (qt_cmp oq_lt (q_srcF .left (hu_of hr) (qv 0)) q_int (nomark _)) (qw_and1 (qt_cmp oq_gt (q_callB cq_len (by rfl) T.n_len bt_len (qa_cons (q_srcC (hu_of hr) (qv 0)) qa_nil)) q_int (nomark _)))))) (qss_one (qs_srcPut .left (hu_of hr) (qv 0) (q_mt0 mq_popC PySem.F.slot_list_pop PySem.F.type_list_pop (q_srcC (hu_of hr) (qv 0))))))
      (qss_cons (qs_set (i := 2) sc__law_pick.nd rfl (.inl rfl) (q_srcF .left (hu_of hr) (qv 0)))
      (qss_cons (qs_if (qt_w (qw_or (qt_cmp oq_lt (qv 1) q_int (nomark _)) (qw_or1 (qt_cmp oq_gt (qv 2) q_int (nomark _))))) (qss_cons (qs_srcPut .left (hu_of hr) (qv 0) (q_op oq_fdiv (qv 2) (q_callB (cq_max rfl) (by rfl) T.n_max bt_max (qa_cons q_int (qa_cons (qv 1) qa_nil)))))
      (qss_one (qs_ret (q_op oq_mod (q_callTy cq_int (by rfl) T.n_int bt_int (qa_cons (qv 2) qa_nil)) (q_callB (cq_max rfl) (by rfl) T.n_max bt_max (qa_cons q_int (qa_cons (qv 1) qa_nil))))))) qss_nil)
      (qss_cons (qs_srcPut .turn (hu_of hr) (qv 0) (q_op oq_add (q_srcF .turn (hu_of hr) (qv 0)) q_int))
      (qss_cons (qs_set (i := 3) sc__law_pick.nd rfl (.inl rfl) (q_op oq_mod (q_callTy cq_int (by rfl) T.n_int bt_int (qa_cons (q_op oq_add (q_srcF .mixed (hu_of hr) (qv 0)) (q_op oq_mul (q_srcF .turn (hu_of hr) (qv 0)) q_int)) qa_nil)) q_int))
      (qss_cons (qs_set (i := 3) sc__law_pick.nd rfl (.inl rfl) (q_op oq_mod (q_callTy cq_int (by rfl) T.n_int bt_int (qa_cons (q_op oq_add (q_op oq_mul (qv 3) (qv 3)) (q_op oq_mul (q_srcF .turn (hu_of hr) (qv 0)) q_int)) qa_nil)) q_int))
      (qss_cons (qs_srcPut .mixed (hu_of hr) (qv 0) (qv 3))
      (qss_one (qs_ret (q_op oq_mod (q_callTy cq_int (by rfl) T.n_int bt_int (qa_cons (q_op oq_fdiv (qv 3) q_int) qa_nil)) (qv 1)))))))))))) h__law_pick
abbrev s__law_of : Stmt := topS 9
theorem sc__law_of : FnScope N__law_of ["source", "some"] (defScope s__law_of) := ⟨rfl, rfl, rfl, by decide +kernel, rfl, by decide +kernel, by decide +kernel⟩
theorem ok__law_of {P : Program} {w : World} {K : PySem.W.Frag} {mg : Str → Option Value} {base : Heap} (T : Txt K mg) (c__law_pick : Callee P w K mg base "_law_pick" 1 2 fn__law_pick) (D : DefAt K mg "_law_of" s__law_of ["source", "some"]) : Callee P w K mg base "_law_of" 2 2 fn__law_of :=
  D.callee (N := N__law_of) (t := t__law_of) sc__law_of rfl (fun f cdv A outer s H E hr hgd => (qss_one (qs_ret (q_ix iq_seq (qv 1) (q_call c__law_pick (hr.mono (by decide)) hgd (qa_cons (qv 0) (qa_cons (q_callB cq_len (by rfl) T.n_len bt_len (qa_cons (qv 1) qa_nil)) qa_nil))) (fun _ _ => rfl))))) h__law_of
abbrev s__law_source : Stmt := topS 7
theorem sc__law_source : FnScope N__law_source ["script"] (defScope s__law_source) := ⟨rfl, rfl, rfl, by decide +kernel, rfl, by decide +kernel, by decide +kernel⟩
theorem ok__law_source {P : Program} {w : World} {K : PySem.W.Frag} {mg : Str → Option Value} {base : Heap} (T : Txt K mg) (D : DefAt K mg "_law_source" s__law_source ["script"]) : Callee P w K mg base "_law_source" 1 1 fn__law_source :=
  D.callee (N := N__law_source) (t := t__law_source) sc__law_source rfl (fun f cdv A outer s H E hr hgd => (qss_cons (qs_set (i := 1) sc__law_source.nd rfl (.inl rfl) q_int)
      (qss_cons (qs_for (vs := allv) [2] PassesOwn.never rfl (qi_scr (qv 0)) (qg_name (i := 2) sc__law_source.nd rfl (.inl rfl) (by decide)) (qss_one (qs_set (i := 1) sc__law_source.nd rfl (.inl rfl) (q_op oq_mod (q_callTy cq_int (by rfl) T.n_int bt_int (qa_cons (q_op oq_add (q_op oq_add (q_op oq_mul (qv 1) q_int) (q_op oq_mul (qv 2) q_int)) q_int) qa_nil)) q_int))))
      (qss_one (qs_ret (q_srcNew (q_revM (q_lc (own := [("cell", 2)]) rfl sc__law_source.nd (qi_scr (qv 0)) (blkOk_by (N := N__law_source) (sc := defScope s__law_source) (own := [("cell", 2)]) (by decide +kernel)) (fun _ _ _ _ _ => (qg_name (i := 2) sc__law_source.nd rfl (.inl rfl) (by decide))) (fun _ _ _ _ _ => qts_nil) (fun _ _ _ _ _ => (q_callB cq_abs (by rfl) T.n_abs bt_abs (qa_cons (qv 2) qa_nil))))) q_int (qv 1) q_int)))))) h__law_source
abbrev s_first_partner : Stmt := topS 4
theorem sc_first_partner : FnScope N_first_partner ["p", "triple"] (defScope s_first_partner) := ⟨rfl, rfl, rfl, by decide +kernel, rfl, by decide +kernel, by decide +kernel⟩
theorem ok_first_partner {P : Program} {w : World} {K : PySem.W.Frag} {mg : Str → Option Value} {base : Heap} (T : Txt K mg) (D : DefAt K mg "first_partner" s_first_partner ["p", "triple"]) : Callee P w K mg base "first_partner" 1 2 fn_first_partner :=
  D.callee (N := N_first_partner) (t := t_first_partner) sc_first_partner rfl (fun f cdv A outer s H E hr hgd => (qss_cons (qs_asg (vs := allv) (qv 1) (qg_tup rfl (qgs_cons (qg_name (i := 2) sc_first_partner.nd rfl (.inl rfl) (by decide)) (qgs_cons (qg_name (i := 3) sc_first_partner.nd rfl (.inl rfl) (by decide)) (qgs_cons (qg_name (i := 4) sc_first_partner.nd rfl (.inl rfl) (by decide)) qgs_nil)))))
      (qss_cons (qs_for (vs := allv) [5, 6, 7, 8] PassesOwn.never rfl (qi_range1 (by rfl) T.n_range (qa_cons (qv 0) qa_nil)) (qg_name (i := 5) sc_first_partner.nd rfl (.inl rfl) (by decide)) (qss_one (qs_for (vs := allv) [6, 7, 8] PassesOwn.never rfl (qi_range1 (by rfl) T.n_range (qa_cons (qv 0) qa_nil)) (qg_name (i := 6) sc_first_partner.nd rfl (.inl rfl) (by decide)) (qss_cons (qs_set (i := 7) sc_first_partner.nd rfl (.inl rfl) (q_op oq_mod (q_op oq_sub (qv 3) (qv 5)) (qv 0)))
      (qss_cons (qs_set (i := 8) sc_first_partner.nd rfl (.inl rfl) (q_op oq_mod (q_op oq_sub (q_op oq_add (qv 4) (qv 6)) (q_op oq_mul (qv 2) (qv 7))) (qv 0)))
      (qss_one (qs_if (qt_cmp (oq_eq hr.units) (q_op oq_mod (q_op oq_sub (q_op oq_mul (qv 5) (qv 7)) (q_op oq_mul (qv 6) (qv 8))) (qv 0)) q_int (nomark _)) (qss_one (qs_ret (q_tup (qa_cons (qv 5) (qa_cons (qv 6) (qa_cons (qv 8) (qa_cons (qv 7) qa_nil))))))) qss_nil)))))))
      (qss_one (qs_ret q_non))))) h_first_partner
abbrev s_partners_of : Stmt := topS 2
theorem sc_partners_of : FnScope N_partners_of ["p", "triple"] (defScope s_partners_of) := ⟨rfl, rfl, rfl, by decide +kernel, rfl, by decide +kernel, by decide +kernel⟩
theorem ok_partners_of {P : Program} {w : World} {K : PySem.W.Frag} {mg : Str → Option Value} {base : Heap} (T : Txt K mg) (D : DefAt K mg "partners_of" s_partners_of ["p", "triple"]) : Callee P w K mg base "partners_of" 1 2 fn_partners_of :=
  D.callee (N := N_partners_of) (t := t_partners_of) sc_partners_of rfl (fun f cdv A outer s H E hr hgd => (qss_cons (qs_asg (vs := allv) (qv 1) (qg_tup rfl (qgs_cons (qg_name (i := 2) sc_partners_of.nd rfl (.inl rfl) (by decide)) (qgs_cons (qg_name (i := 3) sc_partners_of.nd rfl (.inl rfl) (by decide)) (qgs_cons (qg_name (i := 4) sc_partners_of.nd rfl (.inl rfl) (by decide)) qgs_nil)))))
      (qss_cons (qs_set (i := 5) sc_partners_of.nd rfl (.inl rfl) (q_lstM qa_nil))
      (qss_cons (qs_for (vs := allv) [6, 7] PassesOwn.never rfl (qi_range1 (by rfl) T.n_range (qa_cons (qv 0) qa_nil)) (qg_name (i := 6) sc_partners_of.nd rfl (.inl rfl) (by decide)) (qss_one (qs_for (vs := allv) [7] PassesOwn.never rfl (qi_range1 (by rfl) T.n_range (qa_cons (qv 0) qa_nil)) (qg_name (i := 7) sc_partners_of.nd rfl (.inl rfl) (by decide)) (qss_one (qs_if (qt_cmp (oq_eq hr.units) (q_op oq_mod (q_op oq_add (q_op oq_add (q_op oq_sub (q_op oq_add (q_op oq_sub (q_op oq_mul (qv 6) (qv 6)) (q_op oq_mul (q_op oq_mul (qv 2) (qv 6)) (qv 7))) (q_op oq_mul (qv 7) (qv 7))) (q_op oq_mul (qv 3) (qv 6))) (q_op oq_mul (qv 4) (qv 7))) q_int) (qv 0)) q_int (nomark _)) (qss_one (qs_expr (q_mt mq_append PySem.F.slot_list_append PySem.F.type_list_append (qv 5) (qa_cons (q_tup (qa_cons (qv 6) (qa_cons (qv 7) qa_nil))) qa_nil)))) qss_nil)))))
      (qss_one (qs_ret (qv 5))))))) h_partners_of
abbrev s_tables_many : Stmt := topS 1
theorem sc_tables_many : FnScope N_tables_many ["p", "x"] (defScope s_tables_many) := ⟨rfl, rfl, rfl, by decide +kernel, rfl, by decide +kernel, by decide +kernel⟩
theorem ok_tables_many {P : Program} {w : World} {K : PySem.W.Frag} {mg : Str → Option Value} {base : Heap} (T : Txt K mg) (D : DefAt K mg "tables_many" s_tables_many ["p", "x"]) : Callee P w K mg base "tables_many" 1 2 fn_tables_many :=
  D.callee (N := N_tables_many) (t := t_tables_many) sc_tables_many rfl (fun f cdv A outer s H E hr hgd => (qss_cons (qs_set (i := 2) sc_tables_many.nd rfl (.inl rfl) (q_callB cq_len (by rfl) T.n_len bt_len (qa_cons (q_lc (own := [("one", 3)]) rfl sc_tables_many.nd (qi_range1 (by rfl) T.n_range (qa_cons (qv 0) qa_nil)) (blkOk_by (N := N_tables_many) (sc := defScope s_tables_many) (own := [("one", 3)]) (by decide +kernel)) (fun _ _ _ _ _ => (qg_name (i := 3) sc_tables_many.nd rfl (.inl rfl) (by decide))) (fun _ _ _ _ _ => (qts_one (qt_cmp (oq_eq hr.units) (q_op oq_mod (q_op oq_add (q_op oq_sub (q_op oq_mul (qv 3) (qv 3)) (q_op oq_mul (qv 1) (qv 3))) q_int) (qv 0)) q_int (nomark _)))) (fun _ _ _ _ _ => (qv 3))) qa_nil)))
      (qss_one (qs_ret (q_op oq_add (q_op oq_mul (qv 0) (q_op oq_sub (qv 0) q_int)) (q_op oq_mul (qv 0) (qv 2))))))) h_tables_many
abbrev s_units_of : Stmt := topS 3
theorem sc_units_of : FnScope N_units_of ["p", "x"] (defScope s_units_of) := ⟨rfl, rfl, rfl, by decide +kernel, rfl, by decide +kernel, by decide +kernel⟩
theorem ok_units_of {P : Program} {w : World} {K : PySem.W.Frag} {mg : Str → Option Value} {base : Heap} (T : Txt K mg) (D : DefAt K mg "units_of" s_units_of ["p", "x"]) : Callee P w K mg base "units_of" 1 2 fn_units_of :=
  D.callee (N := N_units_of) (t := t_units_of) sc_units_of rfl (fun f cdv A outer s H E hr hgd => (qss_one (qs_ret (q_lc (own := [("one", 2)]) rfl sc_units_of.nd (qi_lst (q_callB (cq_sortD rfl) (by rfl) T.n_sorted bt_sorted (qa_cons (q_callTy (cq_dict rfl) (by rfl) T.n_dict bt_dict (qa_cons (q_lst (qa_cons (q_tup (qa_cons q_int (qa_cons q_bl qa_nil))) (qa_cons (q_tup (qa_cons (q_op oq_sub (qv 0) q_int) (qa_cons q_bl qa_nil))) qa_nil))) qa_nil)) qa_nil))) (blkOk_by (N := N_units_of) (sc := defScope s_units_of) (own := [("one", 2)]) (by decide +kernel)) (fun _ _ _ _ _ => (qg_name (i := 2) sc_units_of.nd rfl (.inl rfl) (by decide))) (fun _ _ _ _ _ => (qts_one (qt_cmp (oq_eq hr.units) (q_op oq_mod (q_op oq_sub (q_op oq_mul q_int (qv 2)) (qv 1)) (qv 0)) q_int (nomark _)))) (fun _ _ _ _ _ => (qv 2)))))) h_units_of
abbrev s_rests_told : Stmt := topS 5
theorem sc_rests_told : FnScope N_rests_told ["p", "triple"] (defScope s_rests_told) := ⟨rfl, rfl, rfl, by decide +kernel, rfl, by decide +kernel, by decide +kernel⟩
theorem ok_rests_told {P : Program} {w : World} {K : PySem.W.Frag} {mg : Str → Option Value} {base : Heap} (T : Txt K mg) (c_first_partner : Callee P w K mg base "first_partner" 1 2 fn_first_partner) (c_partners_of : Callee P w K mg base "partners_of" 1 2 fn_partners_of) (c_tables_many : Callee P w K mg base "tables_many" 1 2 fn_tables_many) (c_units_of : Callee P w K mg base "units_of" 1 2 fn_units_of) (D : DefAt K mg "rests_told" s_rests_told ["p", "triple"]) : Callee P w K mg base "rests_told" 2 2 fn_rests_told :=
  D.callee (N := N_rests_told) (t := t_rests_told) sc_rests_told rfl (fun f cdv A outer s H E hr hgd => (qss_cons (qs_asg (vs := allv) (q_lc (own := [("number", 9)]) rfl sc_rests_told.nd (qi_tup (qv 1)) (blkOk_by (N := N_rests_told) (sc := defScope s_rests_told) (own := [("number", 9)]) (by decide +kernel)) (fun _ _ _ _ _ => (qg_name (i := 9) sc_rests_told.nd rfl (.inl rfl) (by decide))) (fun _ _ _ _ _ => qts_nil) (fun _ _ _ _ _ => (q_op oq_mod (qv 9) (qv 0)))) (qg_lst rfl (qgs_cons (qg_name (i := 2) sc_rests_told.nd rfl (.inl rfl) (by decide)) (qgs_cons (qg_name (i := 3) sc_rests_told.nd rfl (.inr rfl) (by decide)) (qgs_cons (qg_name (i := 4) sc_rests_told.nd rfl (.inr rfl) (by decide)) qgs_nil)))))
      (qss_cons (qs_set (i := 5) sc_rests_told.nd rfl (.inl rfl) (q_call c_units_of (hr.mono (by decide)) hgd (qa_cons (qv 0) (qa_cons (qv 2) qa_nil))))
      (qss_cons (qs_setLc (i := 6) (own := [("one", 10)]) rfl sc_rests_told.nd rfl rfl (sw_true rfl rfl rfl (by decide +kernel)) (qi_lst (qv 5)) (blkOk_by (N := N_rests_told) (sc := defScope s_rests_told) (own := [("one", 10)]) (by decide +kernel)) (fun _ _ _ _ _ => (qg_name (i := 10) sc_rests_told.nd rfl (.inl rfl) (by decide))) (fun _ _ _ _ _ => (qts_one (qt_cmp (oq_eq hr.units) (q_op oq_mod (q_op oq_sub (q_op oq_mul (qv 10) (qv 3)) (qv 4)) (qv 0)) q_int (nomark _)))) (fun _ _ _ _ _ => (qv 10)))
      (qss_cons (qs_set (i := 7) sc_rests_told.nd rfl (.inl rfl) (q_callB cq_len (by rfl) T.n_len bt_len (qa_cons (q_call c_partners_of (hr.mono (by decide)) hgd (qa_cons (qv 0) (qa_cons (q_tup (qa_cons (qv 2) (qa_cons (qv 3) (qa_cons (qv 4) qa_nil)))) qa_nil))) qa_nil)))
      (qss_cons (qs_set (i := 8) sc_rests_told.nd rfl (.inl rfl) (q_op oq_add (q_op oq_mul (q_op oq_sub (q_call c_tables_many (hr.mono (by decide)) hgd (qa_cons (qv 0) (qa_cons (qv 2) qa_nil))) (q_callB cq_len (by rfl) T.n_len bt_len (qa_cons (qv 5) qa_nil))) (qv 7)) (q_op oq_mul (q_callB cq_len (by rfl) T.n_len bt_len (qa_cons (qv 6) qa_nil)) (q_call c_tables_many (hr.mono (by decide)) hgd (qa_cons (qv 0) (qa_cons (qv 3) qa_nil))))))
      (qss_cons (qs_if (qt_cmp oq_gt (qv 7) q_int (nomark _)) (qss_one (qs_ret (q_tup (qa_cons (qv 8) (qa_cons (q_tup (qa_cons (q_tup (qa_cons q_int (qa_cons q_int (qa_cons (q_op oq_sub (qv 0) q_int) (qa_cons (qv 2) qa_nil))))) (qa_cons (q_call c_first_partner (hr.mono (by decide)) hgd (qa_cons (qv 0) (qa_cons (q_tup (qa_cons (qv 2) (qa_cons (qv 3) (qa_cons (qv 4) qa_nil)))) qa_nil))) qa_nil))) qa_nil))))) qss_nil)
      (qss_one (qs_ret (q_tup (qa_cons (qv 8) (qa_cons (q_tup (qa_cons (q_tup (qa_cons (q_ix iq_seq (qv 6) q_int (fun _ _ => rfl)) (qa_cons q_int (qa_cons q_int (qa_cons (q_ix iq_seq (qv 6) q_int (fun _ _ => rfl)) qa_nil))))) (qa_cons (q_tup (qa_cons q_int (qa_cons q_int (qa_cons (q_op oq_sub (qv 0) q_int) (qa_cons (qv 3) qa_nil))))) qa_nil))) qa_nil)))))))))))) h_rests_told
abbrev s_law : Stmt := topS 15
theorem sc_law : FnScope N_law ["script"] (defScope s_law) := ⟨rfl, rfl, rfl, by decide +kernel, rfl, by decide +kernel, by decide +kernel⟩
theorem ok_law {P : Program} {w : World} {K : PySem.W.Frag} {mg : Str → Option Value} {base : Heap} {f : Addr} {fd : FuncData} (T : Txt K mg) (c__law_counted : Callee P w K mg base "_law_counted" 3 1 fn__law_counted) (c__law_first_right : Callee P w K mg base "_law_first_right" 3 3 fn__law_first_right) (c__law_of : Callee P w K mg base "_law_of" 2 2 fn__law_of) (c__law_pick : Callee P w K mg base "_law_pick" 1 2 fn__law_pick) (c__law_source : Callee P w K mg base "_law_source" 1 1 fn__law_source) (c_rests_told : Callee P w K mg base "rests_told" 2 2 fn_rests_told) (F : Fun K "law" "law" s_law f fd) : FnG P w K mg base CX0 4 f fd ["script"] (spOf K 1 fn_law) :=
  fn_okA (N := N_law) (t := t_law) F sc_law rfl (fun cdv A outer s H E hr hgd => (qss_cons (qs_set (i := 1) sc_law.nd rfl (.inr rfl) (q_call c__law_source (hr.mono (by decide)) hgd (qa_cons (qv 0) qa_nil)))
      (qss_cons (qs_set (i := 2) sc_law.nd rfl (.inr rfl) (q_call c__law_of (hr.mono (by decide)) hgd (qa_cons (qv 1) (qa_cons (q_lst (qa_cons q_int (qa_cons q_int (qa_cons q_int qa_nil)))) qa_nil))))
      (qss_cons (qs_set (i := 3) sc_law.nd rfl (.inl rfl) (q_call c__law_counted (hr.mono (by decide)) hgd (qa_cons (qv 2) qa_nil)))
      (qss_cons (qs_for (vs := allv) [4, 5, 6, 14, 16] PassesOwn.never rfl (qi_range1 (by rfl) T.n_range (qa_cons q_int qa_nil)) (qg_name (i := 4) sc_law.nd rfl (.inl rfl) (by decide)) (qss_cons (qs_set (i := 5) sc_law.nd rfl (.inl rfl) (q_callTy cq_tuple (by rfl) T.n_tuple bt_tuple (qa_cons (q_lc (own := [("k", 14)]) rfl sc_law.nd (qi_range1 (by rfl) T.n_range (qa_cons q_int qa_nil)) (blkOk_by (N := N_law) (sc := defScope s_law) (own := [("k", 14)]) (by decide +kernel)) (fun _ _ _ _ _ => (qg_name (i := 14) sc_law.nd rfl (.inl rfl) (by decide))) (fun _ _ _ _ _ => qts_nil) (fun _ _ _ _ _ => (q_op oq_sub (q_call c__law_pick (hr.mono (by decide)) hgd (qa_cons (qv 1) (qa_cons q_int qa_nil))) q_int))) qa_nil)))
      (qss_cons (qs_set (i := 6) sc_law.nd rfl (.inl rfl) (q_callTy cq_tupleK (by rfl) T.n_tuple bt_tuple (qa_cons (q_lc (own := [("one", 16)]) rfl sc_law.nd (qi_tup (qv 5)) (blkOk_by (N := N_law) (sc := defScope s_law) (own := [("one", 16)]) (by decide +kernel)) (fun _ _ _ _ _ => (qg_name (i := 16) sc_law.nd rfl (.inl rfl) (by decide))) (fun _ _ _ _ _ => qts_nil) (fun _ _ _ _ _ => (q_op oq_mod (q_callTy cq_int (by rfl) T.n_int bt_int (qa_cons (qv 16) qa_nil)) (qv 2)))) qa_nil)))
      (qss_one (qs_if (qt_cmp (oq_ne hr.units) (q_callB (cq_repr hgd (reprU hr)) (by rfl) T.n_repr bt_repr (qa_cons (q_call c_rests_told (hr.mono (by decide)) hgd (qa_cons (qv 2) (qa_cons (qv 5) qa_nil))) qa_nil)) (q_callB (cq_repr hgd (reprU hr)) (by rfl) T.n_repr bt_repr (qa_cons (q_dget (hu_of hr) (qv 3) (qv 6) (q_tup (qa_cons q_int (qa_cons q_non qa_nil)))) qa_nil)) (nomark _)) (qss_one (qs_ret q_bl)) qss_nil)))))
      (qss_cons (qs_for (vs := allv) [4, 7, 8, 9, 10, 11, 12, 13, 14, 15] PassesOwn.never rfl (qi_range1 (by rfl) T.n_range (qa_cons q_int qa_nil)) (qg_name (i := 4) sc_law.nd rfl (.inl rfl) (by decide)) (qss_cons (qs_asg (vs := allv) (q_tup (qa_cons (q_call c__law_of (hr.mono (by decide)) hgd (qa_cons (qv 1) (qa_cons (q_lst (qa_cons q_int (qa_cons q_int (qa_cons q_int (qa_cons q_int (qa_cons q_int (qa_cons q_int (qa_cons q_int (qa_cons q_int (qa_cons q_int qa_nil)))))))))) qa_nil))) (qa_cons (q_call c__law_of (hr.mono (by decide)) hgd (qa_cons (qv 1) (qa_cons (q_lst (qa_cons q_int (qa_cons q_int (qa_cons (q_op oq_pow q_int q_int) qa_nil)))) qa_nil))) qa_nil))) (qg_tup rfl (qgs_cons (qg_name (i := 7) sc_law.nd rfl (.inl rfl) (by decide)) (qgs_cons (qg_name (i := 8) sc_law.nd rfl (.inr rfl) (by decide)) qgs_nil))))
      (qss_cons (qs_asg (vs := allv) (q_lc (own := [("k", 14)]) rfl sc_law.nd (qi_range1 (by rfl) T.n_range (qa_cons q_int qa_nil)) (blkOk_by (N := N_law) (sc := defScope s_law) (own := [("k", 14)]) (by decide +kernel)) (fun _ _ _ _ _ => (qg_name (i := 14) sc_law.nd rfl (.inl rfl) (by decide))) (fun _ _ _ _ _ => qts_nil) (fun _ _ _ _ _ => (q_op oq_add (q_op oq_mul (q_op oq_sub (q_call c__law_pick (hr.mono (by decide)) hgd (qa_cons (qv 1) (qa_cons q_int qa_nil))) q_int) (qv 8)) (q_call c__law_pick (hr.mono (by decide)) hgd (qa_cons (qv 1) (qa_cons q_int qa_nil)))))) (qg_lst rfl (qgs_cons (qg_name (i := 9) sc_law.nd rfl (.inl rfl) (by decide)) (qgs_cons (qg_name (i := 10) sc_law.nd rfl (.inl rfl) (by decide)) (qgs_cons (qg_name (i := 11) sc_law.nd rfl (.inl rfl) (by decide)) qgs_nil)))))
      (qss_cons (qs_asg (vs := allv) (q_call c_rests_told (hr.mono (by decide)) hgd (qa_cons (qv 7) (qa_cons (q_tup (qa_cons (qv 9) (qa_cons (qv 10) (qa_cons (qv 11) qa_nil)))) qa_nil))) (qg_tup rfl (qgs_cons (qg_name (i := 12) sc_law.nd rfl (.inl rfl) (by decide)) (qgs_cons (qg_name (i := 13) sc_law.nd rfl (.inl rfl) (by decide)) qgs_nil))))
      (qss_cons (qs_if (qt_not (qt_tru (q_call c__law_first_right (hr.mono (by decide)) hgd (qa_cons (qv 7) (qa_cons (q_tup (qa_cons (qv 9) (qa_cons (qv 10) (qa_cons (qv 11) qa_nil)))) (qa_cons (qv 13) qa_nil)))) (by intro _; rfl))) (qss_one (qs_ret q_bl)) qss_nil)
      (qss_cons (qs_set (i := 14) sc_law.nd rfl (.inl rfl) (q_op oq_mod (q_callTy cq_int (by rfl) T.n_int bt_int (qa_cons (q_op oq_sub (q_op oq_sub (q_op oq_add (q_op oq_add (q_op oq_mul (qv 9) (qv 9)) (q_op oq_mul (qv 10) (qv 10))) (q_op oq_mul (qv 11) (qv 11))) (q_op oq_mul (q_op oq_mul (qv 9) (qv 10)) (qv 11))) q_int) qa_nil)) (qv 7)))
      (qss_cons (qs_if (qt_w (qw_or (qt_w (qw_and (qt_cmp (oq_ne hr.units) (qv 14) q_int (nomark _)) (qw_and1 (qt_cmp (oq_ne hr.units) (qv 12) (q_op oq_sub (q_op oq_mul (q_op oq_mul (qv 7) (qv 7)) (qv 7)) (qv 7)) (nomark _))))) (qw_or1 (qt_w (qw_and (qt_cmp (oq_eq hr.units) (qv 14) q_int (nomark _)) (qw_and1 (qt_cmp oq_lt (qv 12) q_int (nomark _)))))))) (qss_one (qs_ret q_bl)) qss_nil)
      (qss_cons (qs_set (i := 15) sc_law.nd rfl (.inl rfl) (q_tup (qa_cons (q_op oq_add (qv 9) (q_op oq_mul (qv 7) (q_op oq_sub (q_call c__law_pick (hr.mono (by decide)) hgd (qa_cons (qv 1) (qa_cons q_int qa_nil))) q_int))) (qa_cons (q_op oq_sub (qv 10) (qv 7)) (qa_cons (qv 11) qa_nil)))))
      (qss_one (qs_if (qt_cmp (oq_ne hr.units) (q_callB (cq_repr hgd (reprU hr)) (by rfl) T.n_repr bt_repr (qa_cons (q_call c_rests_told (hr.mono (by decide)) hgd (qa_cons (qv 7) (qa_cons (qv 15) qa_nil))) qa_nil)) (q_callB (cq_repr hgd (reprU hr)) (by rfl) T.n_repr bt_repr (qa_cons (q_tup (qa_cons (qv 12) (qa_cons (qv 13) qa_nil))) qa_nil)) (nomark _)) (qss_one (qs_ret q_bl)) qss_nil))))))))))
      (qss_one (qs_ret (q_cmp (oq_eq hr.units) (q_callB (cq_repr hgd (reprU hr)) (by rfl) T.n_repr bt_repr (qa_cons (q_lst (qa_cons (q_ix iq_seq (q_call c_rests_told (hr.mono (by decide)) hgd (qa_cons q_int (qa_cons (q_tup (qa_cons q_int (qa_cons q_int (qa_cons q_int qa_nil)))) qa_nil))) q_int (fun _ _ => rfl)) (qa_cons (q_ix iq_seq (q_call c_rests_told (hr.mono (by decide)) hgd (qa_cons q_int (qa_cons (q_tup (qa_cons q_int (qa_cons q_int (qa_cons q_int qa_nil)))) qa_nil))) q_int (fun _ _ => rfl)) qa_nil))) qa_nil)) (q_callB (cq_repr hgd (reprU hr)) (by rfl) T.n_repr bt_repr (qa_cons (q_lst (qa_cons q_int (qa_cons q_int qa_nil))) qa_nil)) (nomark _)))))))))) h_law
theorem defAt_mk {K : PySem.W.Frag} {h : Heap} {mg : Str → Option Value} {x : Str} {st : Stmt} {ps : List Str} {f : Addr} {an : Option Addr} {kV dc pm cd ct : Value} (X : K.In h) (G : h.Ns mainGlobals mg)
    (a : PySem.W.nsIn K mainGlobals x = some (some (.ref f))) (F : Fun K x x st f (PySem.W.fnOf x x (defArgs st) (defBody st) (defScope st) .none kV dc pm an cd ct)) (b : Binds K (PySem.W.fnOf x x (defArgs st) (defBody st) (defScope st) .none kV dc pm an cd ct) ps []) : DefAt K mg x st ps := ⟨f, _, PySem.W.mg_of X G a, F, b⟩
theorem all_mk {l : PySem.W.OpenLaw} {w : World} {K : PySem.W.Frag} {h : Heap} {mg : Str → Option Value} {fa f0 f1 f2 f3 f4 f5 f6 f7 f8 f9 f10 f11 f12 f13 : Addr} (X : K.In h) (G : h.Ns mainGlobals mg) (hfa : mg "law" = some (.ref fa))
    {od0 an0 od1 an1 od2 an2 od3 an3 od4 an4 od5 an5 od6 an6 od7 an7 od8 an8 od9 an9 od10 an10 od11 an11 od12 an12 od13 an13 : Option Addr} {sl0 sl1 sl2 sl3 sl4 sl5 sl6 sl7 sl8 sl9 sl10 sl11 sl12 sl13 : Array (Option Value)} {oc0 kV0 dc0 pm0 cd0 ct0 oc1 kV1 dc1 pm1 cd1 ct1 oc2 kV2 dc2 pm2 cd2 ct2 oc3 kV3 dc3 pm3 cd3 ct3 oc4 kV4 dc4 pm4 cd4 ct4 oc5 kV5 dc5 pm5 cd5 ct5 oc6 kV6 dc6 pm6 cd6 ct6 oc7 kV7 dc7 pm7 cd7 ct7 oc8 kV8 dc8 pm8 cd8 ct8 oc9 kV9 dc9 pm9 cd9 ct9 oc10 kV10 dc10 pm10 cd10 ct10 oc11 kV11 dc11 pm11 cd11 ct11 oc12 kV12 dc12 pm12 cd12 ct12 oc13 kV13 dc13 pm13 cd13 ct13 : Value}
    (a0 : PySem.W.nsIn K mainGlobals "_law_all" = some (some (.ref f0))) (l0 : K.lookup f0 = some ⟨oc0, od0, .func (PySem.W.fnOf "_law_all" "_law_all" (defArgs s__law_all) (defBody s__law_all) (defScope s__law_all) .none kV0 dc0 pm0 an0 cd0 ct0), sl0⟩) (c0 : PySem.W.codeIn K cd0 "_law_all" = true) (k0 : PySem.W.keepIn K (.ref f0) = true)
    (a1 : PySem.W.nsIn K mainGlobals "_law_times" = some (some (.ref f1))) (l1 : K.lookup f1 = some ⟨oc1, od1, .func (PySem.W.fnOf "_law_times" "_law_times" (defArgs s__law_times) (defBody s__law_times) (defScope s__law_times) .none kV1 dc1 pm1 an1 cd1 ct1), sl1⟩) (c1 : PySem.W.codeIn K cd1 "_law_times" = true) (k1 : PySem.W.keepIn K (.ref f1) = true)
    (a2 : PySem.W.nsIn K mainGlobals "_law_traced" = some (some (.ref f2))) (l2 : K.lookup f2 = some ⟨oc2, od2, .func (PySem.W.fnOf "_law_traced" "_law_traced" (defArgs s__law_traced) (defBody s__law_traced) (defScope s__law_traced) .none kV2 dc2 pm2 an2 cd2 ct2), sl2⟩) (c2 : PySem.W.codeIn K cd2 "_law_traced" = true) (k2 : PySem.W.keepIn K (.ref f2) = true)
    (a3 : PySem.W.nsIn K mainGlobals "_law_counted" = some (some (.ref f3))) (l3 : K.lookup f3 = some ⟨oc3, od3, .func (PySem.W.fnOf "_law_counted" "_law_counted" (defArgs s__law_counted) (defBody s__law_counted) (defScope s__law_counted) .none kV3 dc3 pm3 an3 cd3 ct3), sl3⟩) (c3 : PySem.W.codeIn K cd3 "_law_counted" = true) (k3 : PySem.W.keepIn K (.ref f3) = true)
    (a4 : PySem.W.nsIn K mainGlobals "_law_first_right" = some (some (.ref f4))) (l4 : K.lookup f4 = some ⟨oc4, od4, .func (PySem.W.fnOf "_law_first_right" "_law_first_right" (defArgs s__law_first_right) (defBody s__law_first_right) (defScope s__law_first_right) .none kV4 dc4 pm4 an4 cd4 ct4), sl4⟩) (c4 : PySem.W.codeIn K cd4 "_law_first_right" = true) (k4 : PySem.W.keepIn K (.ref f4) = true)
    (a5 : PySem.W.nsIn K mainGlobals "_law_pick" = some (some (.ref f5))) (l5 : K.lookup f5 = some ⟨oc5, od5, .func (PySem.W.fnOf "_law_pick" "_law_pick" (defArgs s__law_pick) (defBody s__law_pick) (defScope s__law_pick) .none kV5 dc5 pm5 an5 cd5 ct5), sl5⟩) (c5 : PySem.W.codeIn K cd5 "_law_pick" = true) (k5 : PySem.W.keepIn K (.ref f5) = true)
    (a6 : PySem.W.nsIn K mainGlobals "_law_of" = some (some (.ref f6))) (l6 : K.lookup f6 = some ⟨oc6, od6, .func (PySem.W.fnOf "_law_of" "_law_of" (defArgs s__law_of) (defBody s__law_of) (defScope s__law_of) .none kV6 dc6 pm6 an6 cd6 ct6), sl6⟩) (c6 : PySem.W.codeIn K cd6 "_law_of" = true) (k6 : PySem.W.keepIn K (.ref f6) = true)
    (a7 : PySem.W.nsIn K mainGlobals "_law_source" = some (some (.ref f7))) (l7 : K.lookup f7 = some ⟨oc7, od7, .func (PySem.W.fnOf "_law_source" "_law_source" (defArgs s__law_source) (defBody s__law_source) (defScope s__law_source) .none kV7 dc7 pm7 an7 cd7 ct7), sl7⟩) (c7 : PySem.W.codeIn K cd7 "_law_source" = true) (k7 : PySem.W.keepIn K (.ref f7) = true)
    (a8 : PySem.W.nsIn K mainGlobals "first_partner" = some (some (.ref f8))) (l8 : K.lookup f8 = some ⟨oc8, od8, .func (PySem.W.fnOf "first_partner" "first_partner" (defArgs s_first_partner) (defBody s_first_partner) (defScope s_first_partner) .none kV8 dc8 pm8 an8 cd8 ct8), sl8⟩) (c8 : PySem.W.codeIn K cd8 "first_partner" = true) (k8 : PySem.W.keepIn K (.ref f8) = true)
    (a9 : PySem.W.nsIn K mainGlobals "partners_of" = some (some (.ref f9))) (l9 : K.lookup f9 = some ⟨oc9, od9, .func (PySem.W.fnOf "partners_of" "partners_of" (defArgs s_partners_of) (defBody s_partners_of) (defScope s_partners_of) .none kV9 dc9 pm9 an9 cd9 ct9), sl9⟩) (c9 : PySem.W.codeIn K cd9 "partners_of" = true) (k9 : PySem.W.keepIn K (.ref f9) = true)
    (a10 : PySem.W.nsIn K mainGlobals "tables_many" = some (some (.ref f10))) (l10 : K.lookup f10 = some ⟨oc10, od10, .func (PySem.W.fnOf "tables_many" "tables_many" (defArgs s_tables_many) (defBody s_tables_many) (defScope s_tables_many) .none kV10 dc10 pm10 an10 cd10 ct10), sl10⟩) (c10 : PySem.W.codeIn K cd10 "tables_many" = true) (k10 : PySem.W.keepIn K (.ref f10) = true)
    (a11 : PySem.W.nsIn K mainGlobals "units_of" = some (some (.ref f11))) (l11 : K.lookup f11 = some ⟨oc11, od11, .func (PySem.W.fnOf "units_of" "units_of" (defArgs s_units_of) (defBody s_units_of) (defScope s_units_of) .none kV11 dc11 pm11 an11 cd11 ct11), sl11⟩) (c11 : PySem.W.codeIn K cd11 "units_of" = true) (k11 : PySem.W.keepIn K (.ref f11) = true)
    (a12 : PySem.W.nsIn K mainGlobals "rests_told" = some (some (.ref f12))) (l12 : K.lookup f12 = some ⟨oc12, od12, .func (PySem.W.fnOf "rests_told" "rests_told" (defArgs s_rests_told) (defBody s_rests_told) (defScope s_rests_told) .none kV12 dc12 pm12 an12 cd12 ct12), sl12⟩) (c12 : PySem.W.codeIn K cd12 "rests_told" = true) (k12 : PySem.W.keepIn K (.ref f12) = true)
    (a13 : PySem.W.nsIn K mainGlobals "law" = some (some (.ref f13))) (l13 : K.lookup f13 = some ⟨oc13, od13, .func (PySem.W.fnOf "law" "law" (defArgs s_law) (defBody s_law) (defScope s_law) .none kV13 dc13 pm13 an13 cd13 ct13), sl13⟩) (c13 : PySem.W.codeIn K cd13 "law" = true) (k13 : PySem.W.keepIn K (.ref f13) = true)
    (z_abs : PySem.W.nsIn K mainGlobals "abs" = some none)
    (z_dict : PySem.W.nsIn K mainGlobals "dict" = some none)
    (z_int : PySem.W.nsIn K mainGlobals "int" = some none)
    (z_len : PySem.W.nsIn K mainGlobals "len" = some none)
    (z_max : PySem.W.nsIn K mainGlobals "max" = some none)
    (z_range : PySem.W.nsIn K mainGlobals "range" = some none)
    (z_repr : PySem.W.nsIn K mainGlobals "repr" = some none)
    (z_sorted : PySem.W.nsIn K mainGlobals "sorted" = some none)
    (z_tuple : PySem.W.nsIn K mainGlobals "tuple" = some none)
    (z_zip : PySem.W.nsIn K mainGlobals "zip" = some none)
    : ∃ fd : FuncData, (∀ (s : Shared) (v : Value), BindsTo s fd ⟨[v], []⟩ [("script", v)]) ∧ ∀ base : Heap, K.In base → base.Ns mainGlobals mg → FnG l.prog w K mg base CX0 4 fa fd ["script"] (spOf K 1 lawFn) := by
  have e := hfa.symm.trans (PySem.W.mg_of X G a13)
  cases e
  have F0 := fun_mk (st := s__law_all) l0 c0 k0
  have D__law_all : DefAt K mg "_law_all" s__law_all ["p"] := defAt_mk X G a0 F0 (F0.binds (ps := ["p"]) fun _ _ _ _ _ _ us hl => match us, hl with | [_], _ => rfl)
  have F1 := fun_mk (st := s__law_times) l1 c1 k1
  have D__law_times : DefAt K mg "_law_times" s__law_times ["one", "other"] := defAt_mk X G a1 F1 (F1.binds (ps := ["one", "other"]) fun _ _ _ _ _ _ us hl => match us, hl with | [_, _], _ => rfl)
  have F2 := fun_mk (st := s__law_traced) l2 c2 k2
  have D__law_traced : DefAt K mg "_law_traced" s__law_traced ["pair"] := defAt_mk X G a2 F2 (F2.binds (ps := ["pair"]) fun _ _ _ _ _ _ us hl => match us, hl with | [_], _ => rfl)
  have F3 := fun_mk (st := s__law_counted) l3 c3 k3
  have D__law_counted : DefAt K mg "_law_counted" s__law_counted ["p"] := defAt_mk X G a3 F3 (F3.binds (ps := ["p"]) fun _ _ _ _ _ _ us hl => match us, hl with | [_], _ => rfl)
  have F4 := fun_mk (st := s__law_first_right) l4 c4 k4
  have D__law_first_right : DefAt K mg "_law_first_right" s__law_first_right ["p", "triple", "first"] := defAt_mk X G a4 F4 (F4.binds (ps := ["p", "triple", "first"]) fun _ _ _ _ _ _ us hl => match us, hl with | [_, _, _], _ => rfl)
  have F5 := fun_mk (st := s__law_pick) l5 c5 k5
  have D__law_pick : DefAt K mg "_law_pick" s__law_pick ["source", "many"] := defAt_mk X G a5 F5 (F5.binds (ps := ["source", "many"]) fun _ _ _ _ _ _ us hl => match us, hl with | [_, _], _ => rfl)
  have F6 := fun_mk (st := s__law_of) l6 c6 k6
  have D__law_of : DefAt K mg "_law_of" s__law_of ["source", "some"] := defAt_mk X G a6 F6 (F6.binds (ps := ["source", "some"]) fun _ _ _ _ _ _ us hl => match us, hl with | [_, _], _ => rfl)
  have F7 := fun_mk (st := s__law_source) l7 c7 k7
  have D__law_source : DefAt K mg "_law_source" s__law_source ["script"] := defAt_mk X G a7 F7 (F7.binds (ps := ["script"]) fun _ _ _ _ _ _ us hl => match us, hl with | [_], _ => rfl)
  have F8 := fun_mk (st := s_first_partner) l8 c8 k8
  have D_first_partner : DefAt K mg "first_partner" s_first_partner ["p", "triple"] := defAt_mk X G a8 F8 (F8.binds (ps := ["p", "triple"]) fun _ _ _ _ _ _ us hl => match us, hl with | [_, _], _ => rfl)
  have F9 := fun_mk (st := s_partners_of) l9 c9 k9
  have D_partners_of : DefAt K mg "partners_of" s_partners_of ["p", "triple"] := defAt_mk X G a9 F9 (F9.binds (ps := ["p", "triple"]) fun _ _ _ _ _ _ us hl => match us, hl with | [_, _], _ => rfl)
  have F10 := fun_mk (st := s_tables_many) l10 c10 k10
  have D_tables_many : DefAt K mg "tables_many" s_tables_many ["p", "x"] := defAt_mk X G a10 F10 (F10.binds (ps := ["p", "x"]) fun _ _ _ _ _ _ us hl => match us, hl with | [_, _], _ => rfl)
  have F11 := fun_mk (st := s_units_of) l11 c11 k11
  have D_units_of : DefAt K mg "units_of" s_units_of ["p", "x"] := defAt_mk X G a11 F11 (F11.binds (ps := ["p", "x"]) fun _ _ _ _ _ _ us hl => match us, hl with | [_, _], _ => rfl)
  have F12 := fun_mk (st := s_rests_told) l12 c12 k12
  have D_rests_told : DefAt K mg "rests_told" s_rests_told ["p", "triple"] := defAt_mk X G a12 F12 (F12.binds (ps := ["p", "triple"]) fun _ _ _ _ _ _ us hl => match us, hl with | [_, _], _ => rfl)
  have T : Txt K mg := ⟨PySem.W.mg_none_of X G z_abs, PySem.W.mg_none_of X G z_dict, PySem.W.mg_none_of X G z_int, PySem.W.mg_none_of X G z_len, PySem.W.mg_none_of X G z_max, PySem.W.mg_none_of X G z_range, PySem.W.mg_none_of X G z_repr, PySem.W.mg_none_of X G z_sorted, PySem.W.mg_none_of X G z_tuple, PySem.W.mg_none_of X G z_zip⟩
  refine ⟨PySem.W.fnOf "law" "law" (defArgs s_law) (defBody s_law) (defScope s_law) .none kV13 dc13 pm13 an13 cd13 ct13, fun s v => .of_eq rfl, fun base _ _ => ?_⟩
  have C__law_all := ok__law_all (P := l.prog) (w := w) (base := base) T  D__law_all
  have C__law_times := ok__law_times (P := l.prog) (w := w) (base := base) T  D__law_times
  have C__law_traced := ok__law_traced (P := l.prog) (w := w) (base := base) T C__law_times D__law_traced
  have C__law_counted := ok__law_counted (P := l.prog) (w := w) (base := base) T C__law_all C__law_traced D__law_counted
  have C__law_first_right := ok__law_first_right (P := l.prog) (w := w) (base := base) T C__law_traced D__law_first_right
  have C__law_pick := ok__law_pick (P := l.prog) (w := w) (base := base) T  D__law_pick
  have C__law_of := ok__law_of (P := l.prog) (w := w) (base := base) T C__law_pick D__law_of
  have C__law_source := ok__law_source (P := l.prog) (w := w) (base := base) T  D__law_source
  have C_first_partner := ok_first_partner (P := l.prog) (w := w) (base := base) T  D_first_partner
  have C_partners_of := ok_partners_of (P := l.prog) (w := w) (base := base) T  D_partners_of
  have C_tables_many := ok_tables_many (P := l.prog) (w := w) (base := base) T  D_tables_many
  have C_units_of := ok_units_of (P := l.prog) (w := w) (base := base) T  D_units_of
  have C_rests_told := ok_rests_told (P := l.prog) (w := w) (base := base) T C_first_partner C_partners_of C_tables_many C_units_of D_rests_told
  exact ok_law T C__law_counted C__law_first_right C__law_of C__law_pick C__law_source C_rests_told (fun_mk (st := s_law) l13 c13 k13)
end QL

open PySem PySem.W PyProof.Rows in
set_option maxRecDepth 100000 in
set_option maxHeartbeats 0 in
theorem PySem.Challenge.cw_tracetriples_k54_rests_by_all_pairs_holds : PySem.Challenge.rw_tracetriples_k54_rests_by_all_pairs.Holds := by
  w_on; o_law; k_head; (case hw => w_witness2)
  k_fill
  refine QL.walkG (k := 4) (x := "script") (l := PySem.Challenge.rw_tracetriples_k54_rests_by_all_pairs) rfl rfl ⟨rfl, by decide, by decide⟩ (fun w h Y => PySem.W.kIn_of Y) ?F
  case F =>
    intro w mg fa h KX G hmg
    refine' QL.all_mk KX G hmg ?a0 ?l0 ?c0 ?k0 ?a1 ?l1 ?c1 ?k1 ?a2 ?l2 ?c2 ?k2 ?a3 ?l3 ?c3 ?k3 ?a4 ?l4 ?c4 ?k4 ?a5 ?l5 ?c5 ?k5 ?a6 ?l6 ?c6 ?k6 ?a7 ?l7 ?c7 ?k7 ?a8 ?l8 ?c8 ?k8 ?a9 ?l9 ?c9 ?k9 ?a10 ?l10 ?c10 ?k10 ?a11 ?l11 ?c11 ?k11 ?a12 ?l12 ?c12 ?k12 ?a13 ?l13 ?c13 ?k13 ?z_abs ?z_dict ?z_int ?z_len ?z_max ?z_range ?z_repr ?z_sorted ?z_tuple ?z_zip
    (case a0 => k_is)
    (case l0 => k_is)
    (case c0 => k_is)
    (case k0 => k_is)
    (case a1 => k_is)
    (case l1 => k_is)
    (case c1 => k_is)
    (case k1 => k_is)
    (case a2 => k_is)
    (case l2 => k_is)
    (case c2 => k_is)
    (case k2 => k_is)
    (case a3 => k_is)
    (case l3 => k_is)
    (case c3 => k_is)
    (case k3 => k_is)
    (case a4 => k_is)
    (case l4 => k_is)
    (case c4 => k_is)
    (case k4 => k_is)
    (case a5 => k_is)
    (case l5 => k_is)
    (case c5 => k_is)
    (case k5 => k_is)
    (case a6 => k_is)
    (case l6 => k_is)
    (case c6 => k_is)
    (case k6 => k_is)
    (case a7 => k_is)
    (case l7 => k_is)
    (case c7 => k_is)
    (case k7 => k_is)
    (case a8 => k_is)
    (case l8 => k_is)
    (case c8 => k_is)
    (case k8 => k_is)
    (case a9 => k_is)
    (case l9 => k_is)
    (case c9 => k_is)
    (case k9 => k_is)
    (case a10 => k_is)
    (case l10 => k_is)
    (case c10 => k_is)
    (case k10 => k_is)
    (case a11 => k_is)
    (case l11 => k_is)
    (case c11 => k_is)
    (case k11 => k_is)
    (case a12 => k_is)
    (case l12 => k_is)
    (case c12 => k_is)
    (case k12 => k_is)
    (case a13 => k_is)
    (case l13 => k_is)
    (case c13 => k_is)
    (case k13 => k_is)
    (case z_abs => k_is)
    (case z_dict => k_is)
    (case z_int => k_is)
    (case z_len => k_is)
    (case z_max => k_is)
    (case z_range => k_is)
    (case z_repr => k_is)
    (case z_sorted => k_is)
    (case z_tuple => k_is)
    (case z_zip => k_is)
#print axioms PySem.Challenge.cw_tracetriples_k54_rests_by_all_pairs_holds
