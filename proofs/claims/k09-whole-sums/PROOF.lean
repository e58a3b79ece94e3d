import PyProof.Rows.All
import Wide.All
import OpenK.AllK
import Wide.FinOn
import HandS.ForMost
import HandS.Deep
import HandS.TupAny
import HandS.Star
import HandS.Wide
import HandS.Conv
import KE.SortData
import KE.DataCmp
import KE.DataMinMax
import HandS.IsInst
import KE.KTupSum
import HandS.Zip
import HandS.Iter
import KE.GoesEnum
import HandS.Defaults
import HandS.Style
import HandS.Small
import HandS.Sort
import PySem.Challenge.RW_tracksenough_k09_whole_sums_over_all_sha
import HandS.Ends
import HandS.WordsExc
import HandS.Head0
import HandS.Head1
import HandS.Head2
import HandS.HeadEnd
import HandS.HeadHook1
import HandS.HeadHook2
set_option Elab.async false
set_option linter.all false
set_option maxRecDepth 100000
set_option maxHeartbeats 1000000
set_option autoImplicit false
/-! Yd: plain data over the abstract heap; lists that a def owns; what an expression, a statement reckons as a function of the slots. -/
namespace Yd
open PySem PySem.Spec PyProof.Rows L2

abbrev Dt := PyData

/-! ### a heap without some addresses -/
open Classical in
noncomputable def less (H : Hp) (C : Addr → Prop) : Hp := fun a => if C a then none else H a
theorem less_some {H : Hp} {C : Addr → Prop} {a : Addr} {o : HO} : less H C a = some o ↔ (¬ C a ∧ H a = some o) := by
  unfold less
  by_cases h : C a
  · rw [if_pos h]
    exact ⟨fun z => (nomatch z), fun z => (z.1 h).elim⟩
  · rw [if_neg h]
    exact ⟨fun z => ⟨h, z⟩, fun z => z.2⟩
/-- what stands in the one stands in the other -/
def Sub (H H' : Hp) : Prop := ∀ a o, H a = some o → H' a = some o
theorem Sub.refl (H : Hp) : Sub H H := fun _ _ h => h
theorem Sub.trans {H H1 H2 : Hp} (a : Sub H H1) (b : Sub H1 H2) : Sub H H2 := fun x o h => b x o (a x o h)
theorem Sub.new {H : Hp} {p : Addr} {o : HO} (h : H p = none) : Sub H (upd H p o) := fun a u e => by
  rw [upd_ne (ne_of_none e h)]
  exact e
theorem Sub.none {H H' : Hp} (s : Sub H H') {p : Addr} (h : H' p = none) : H p = none := by
  cases q : H p with
  | none => rfl
  | some o =>
    rw [s p o q] at h
    cases h
theorem less_sub {H : Hp} {C : Addr → Prop} : Sub (less H C) H := fun _ _ h => (less_some.mp h).2
theorem less_mono {H H' : Hp} {C C' : Addr → Prop} (s : ∀ a o, ¬ C a → H a = some o → H' a = some o ∧ ¬ C' a) : Sub (less H C) (less H' C') := fun a o h => by
  obtain ⟨h1, h2⟩ := less_some.mp h
  obtain ⟨h3, h4⟩ := s a o h1 h2
  exact less_some.mpr ⟨h4, h3⟩
theorem less_keep {H H' : Hp} {C : Addr → Prop} (s : Sub H H') : Sub (less H C) (less H' C) := less_mono fun a o n h => ⟨s a o h, n⟩

section
variable {K : PySem.W.Frag} {H H' : Hp}
theorem sub_l (s : Sub H H') {a : Addr} {xs : List V} (h : SqL K H a xs) : SqL K H' a xs := by
  rcases h with (h | ⟨o, h⟩) | h
  · exact .inl (.inl (s _ _ h))
  · exact .inl (.inr ⟨o, s _ _ h⟩)
  · exact .inr h
theorem sub_t (s : Sub H H') {a : Addr} {xs : List V} (h : SqT K H a xs) : SqT K H' a xs := by
  rcases h with (h | ⟨o, h⟩) | h
  · exact .inl (.inl (s _ _ h))
  · exact .inl (.inr ⟨o, s _ _ h⟩)
  · exact .inr h
theorem sub_r (s : Sub H H') {a : Addr} {u : HO} (h : Rd H a u) : Rd H' a u := by
  rcases h with h | ⟨o, h⟩
  · exact .inl (s _ _ h)
  · exact .inr ⟨o, s _ _ h⟩
end
/-! ### data over a heap -/
mutual
inductive Dq (K : PySem.W.Frag) (H : Hp) : V → Dt → Prop
  | non : Dq K H .non .none
  | bl (b : Bool) : Dq K H (.bl b) (.bool b)
  | int (i : Int) : Dq K H (.int i) (.int i)
  | str (x : Str) : Dq K H (.str x) (.str x)
  | lst {a : Addr} {xs : List V} {ds : List Dt} : Rd H a (.lst xs) → DqAll K H xs ds → Dq K H (.ref a) (.list ds)
  | tup {a : Addr} {xs : List V} {ds : List Dt} : H a = some (.tup xs) → DqAll K H xs ds → Dq K H (.ref a) (.tuple ds)
  | scr {a : Addr} {ns : List Int} : SqL K H a (ns.map V.int) → Dq K H (.ref a) (.dict [(.none, .list (ns.map .int))])
inductive DqAll (K : PySem.W.Frag) (H : Hp) : List V → List Dt → Prop
  | nil : DqAll K H [] []
  | cons {v : V} {vs : List V} {d : Dt} {ds : List Dt} : Dq K H v d → DqAll K H vs ds → DqAll K H (v :: vs) (d :: ds)
end
section
variable {K : PySem.W.Frag} {H H' : Hp}
mutual
theorem Dq.dp : ∀ (d : Dt) (v : V), d.canLay0 = true → Dq K H v d → Dp K H v d
  | .none, _, _, h => by cases h; exact .non
  | .bool b, _, _, h => by cases h; exact .bl b
  | .int i, _, _, h => by cases h; exact .int i
  | .str x, _, _, h => by cases h; exact .str x
  | .list ds, _, c, h => by
    cases h with
    | lst hs ha => exact .lst (.inl hs) (DqAll.dp ds _ c ha)
  | .tuple ds, _, c, h => by
    cases h with
    | tup hs ha => exact .tup (SqT.of hs) (DqAll.dp ds _ c ha)
  | .dict _, _, c, h => by cases c
theorem DqAll.dp : ∀ (ds : List Dt) (vs : List V), PyData.canLayAll0 ds = true → DqAll K H vs ds → DpAll K H vs ds
  | [], _, _, h => by cases h; exact .nil
  | d :: ds, _, c, h => by
    have c' : (d.canLay0 && PyData.canLayAll0 ds) = true := c
    rw [Bool.and_eq_true] at c'
    cases h with
    | cons h1 h2 => exact .cons (Dq.dp d _ c'.1 h1) (DqAll.dp ds _ c'.2 h2)
end
mutual
theorem Dq.keep (s : Sub H H') : ∀ (d : Dt) (v : V), Dq K H v d → Dq K H' v d
  | .none, _, h => by cases h; exact .non
  | .bool b, _, h => by cases h; exact .bl b
  | .int i, _, h => by cases h; exact .int i
  | .str x, _, h => by cases h; exact .str x
  | .list ds, _, h => by
    cases h with
    | lst hs ha => exact .lst (sub_r s hs) (DqAll.keep s ds _ ha)
  | .tuple ds, _, h => by
    cases h with
    | tup hs ha => exact .tup (s _ _ hs) (DqAll.keep s ds _ ha)
  | .dict _, _, h => by
    cases h with
    | scr hs => exact .scr (sub_l s hs)
theorem DqAll.keep (s : Sub H H') : ∀ (ds : List Dt) (vs : List V), DqAll K H vs ds → DqAll K H' vs ds
  | [], _, h => by cases h; exact .nil
  | d :: ds, _, h => by
    cases h with
    | cons h1 h2 => exact .cons (Dq.keep s d _ h1) (DqAll.keep s ds _ h2)
end
theorem DqAll.len : ∀ {vs : List V} {ds : List Dt}, DqAll K H vs ds → vs.length = ds.length
  | _, [], h => by cases h; rfl
  | _, d :: ds, h => by
    cases h with
    | cons h1 h2 => rw [List.length_cons, List.length_cons, DqAll.len h2]
theorem DqAll.app : ∀ {vs ws : List V} {ds es : List Dt}, DqAll K H vs ds → DqAll K H ws es → DqAll K H (vs ++ ws) (ds ++ es)
  | _, _, [], _, h, g => by cases h; exact g
  | _, _, d :: ds, es, h, g => by
    cases h with
    | cons h1 h2 => exact .cons h1 (DqAll.app h2 g)
theorem DqAll.at : ∀ {vs : List V} {ds : List Dt} {i : Nat} {d : Dt}, DqAll K H vs ds → ds[i]? = some d → ∃ v, vs[i]? = some v ∧ Dq K H v d
  | _, [], _, _, _, e => by simp at e
  | _, c :: ds, 0, d, h, e => by
    cases h with
    | cons h1 h2 =>
      simp at e
      subst e
      exact ⟨_, rfl, h1⟩
  | _, c :: ds, i + 1, d, h, e => by
    cases h with
    | cons h1 h2 =>
      obtain ⟨v, q, r⟩ := DqAll.at (i := i) h2 (by simpa using e)
      exact ⟨v, by simpa using q, r⟩
theorem DqAll.at' : ∀ {vs : List V} {ds : List Dt} {i : Nat} {v : V}, DqAll K H vs ds → vs[i]? = some v → ∃ d, ds[i]? = some d ∧ Dq K H v d
  | _, [], _, _, h, e => by cases h; simp at e
  | _, c :: ds, 0, v, h, e => by
    cases h with
    | cons h1 h2 =>
      simp at e
      subst e
      exact ⟨_, rfl, h1⟩
  | _, c :: ds, i + 1, v, h, e => by
    cases h with
    | cons h1 h2 =>
      obtain ⟨d, q, r⟩ := DqAll.at' (i := i) h2 (by simpa using e)
      exact ⟨d, by simpa using q, r⟩
theorem DqAll.take : ∀ {vs : List V} {ds : List Dt} (n : Nat), DqAll K H vs ds → DqAll K H (vs.take n) (ds.take n)
  | _, _, 0, _ => .nil
  | _, [], n + 1, h => by cases h; exact .nil
  | _, d :: ds, n + 1, h => by
    cases h with
    | cons h1 h2 => exact .cons h1 (DqAll.take n h2)
theorem DqAll.drop : ∀ {vs : List V} {ds : List Dt} (n : Nat), DqAll K H vs ds → DqAll K H (vs.drop n) (ds.drop n)
  | _, _, 0, h => h
  | _, [], n + 1, h => by cases h; exact .nil
  | _, d :: ds, n + 1, h => by
    cases h with
    | cons h1 h2 => exact DqAll.drop n h2
theorem DqAll.set : ∀ {vs : List V} {ds : List Dt} (i : Nat) {v : V} {d : Dt}, DqAll K H vs ds → Dq K H v d → DqAll K H (vs.set i v) (ds.set i d)
  | _, [], _, _, _, h, _ => by cases h; exact .nil
  | _, c :: ds, 0, _, _, h, g => by
    cases h with
    | cons h1 h2 => exact .cons g h2
  | _, c :: ds, i + 1, _, _, h, g => by
    cases h with
    | cons h1 h2 => exact .cons h1 (DqAll.set i h2 g)
theorem DqAll.snoc {vs : List V} {ds : List Dt} {v : V} {d : Dt} (h : DqAll K H vs ds) (g : Dq K H v d) : DqAll K H (vs ++ [v]) (ds ++ [d]) := h.app (.cons g .nil)
theorem DqAll.reverse : ∀ {vs : List V} {ds : List Dt}, DqAll K H vs ds → DqAll K H vs.reverse ds.reverse
  | _, [], h => by cases h; exact .nil
  | _, d :: ds, h => by
    cases h with
    | cons h1 h2 =>
      rw [List.reverse_cons, List.reverse_cons]
      exact (DqAll.reverse h2).snoc h1
theorem dqAll_ints : ∀ ns : List Int, DqAll K H (ns.map V.int) (ns.map .int)
  | [] => .nil
  | n :: ns => .cons (.int n) (dqAll_ints ns)
/-- ints -/
theorem DqAll.ints : ∀ {ns : List Int} {vs : List V}, DqAll K H vs (ns.map .int) → vs = ns.map V.int
  | [], _, h => by cases h; rfl
  | n :: ns, _, h => by
    cases h with
    | cons h1 h2 =>
      cases h1
      rw [DqAll.ints h2]
      rfl
theorem DqAll.bools : ∀ {ns : List Bool} {vs : List V}, DqAll K H vs (ns.map .bool) → vs = ns.map V.bl
  | [], _, h => by cases h; rfl
  | n :: ns, _, h => by
    cases h with
    | cons h1 h2 =>
      cases h1
      rw [DqAll.bools h2]
      rfl
theorem dpAll_ints : ∀ ns : List Int, DqAll K H (ns.map V.int) (ns.map .int)
  | [] => .nil
  | n :: ns => .cons (.int n) (dpAll_ints ns)
end

/-! ### slots -/
/-- what the slot of a name holds: nothing; a value; a list of its own; a list that was handed in to be changed -/
inductive Sl where
  | no
  | val (d : Dt)
  | own (ds : List Dt)
  | brw (ds : List Dt)
  /-- a dict of its own: tuples of whole numbers to whole numbers -/
  | dti (ks : List (List Int × Int))
abbrev En := List Sl
/-- the addresses of the lists that slots own; the addresses that callers own -/
structure Ow where
  own : Nat → Option Addr
  hid : Addr → Prop
def Ow.all (w : Ow) (a : Addr) : Prop := w.hid a ∨ ∃ i, w.own i = some a
def kvT (p : List Int × Int) : List Key × V := (p.1.map Sum.inl, .int p.2)
def SlR (K : PySem.W.Frag) (w : Ow) (H : Hp) (i : Nat) : Sl → Option V → Prop
  | .no, _ => w.own i = none
  | .val d, x => w.own i = none ∧ ∃ v, x = some v ∧ Dq K (less H w.all) v d
  | .own ds, x => ∃ a vs, x = some (.ref a) ∧ w.own i = some a ∧ H a = some (.lst vs) ∧ DqAll K (less H w.all) vs ds
  | .brw ds, x => ∃ a vs, x = some (.ref a) ∧ w.own i = some a ∧ H a = some (.lst vs) ∧ DqAll K (less H w.all) vs ds
  | .dti ks, x => ∃ a, x = some (.ref a) ∧ w.own i = some a ∧ H a = some (.dT (ks.map kvT))
structure SR (K : PySem.W.Frag) (w : Ow) (H : Hp) (en : En) (σ : L2.St) : Prop where
  len : en.length = σ.length
  inj : ∀ i j a, w.own i = some a → w.own j = some a → i = j
  dom : ∀ i a, w.own i = some a → i < en.length
  hid : ∀ a, w.hid a → H a ≠ none
  sep : ∀ i a, w.own i = some a → ¬ w.hid a
  slot : ∀ i s x, en[i]? = some s → σ[i]? = some x → SlR K w H i s x
/-- from one moment to a later one -/
structure Tr (w w' : Ow) (H H' : Hp) (en en' : En) : Prop where
  fr : ∀ b o, H b = some o → (∀ i, w.own i ≠ some b) → H' b = some o
  fo : ∀ i b, w'.own i = some b → (∃ j, w.own j = some b) ∨ H b = none
  hd : w'.hid = w.hid
  bw : ∀ i ds, en[i]? = some (.brw ds) → w'.own i = w.own i ∧ ∃ ds', en'[i]? = some (.brw ds')
  th : ∀ b, H b ≠ none → H' b ≠ none
section
variable {K : PySem.W.Frag} {w w' w1 w2 : Ow} {H H' H1 H2 : Hp} {en en' en1 en2 : En} {σ σ' : L2.St}
theorem Tr.refl : Tr w w H H en en := ⟨fun _ _ h _ => h, fun i b h => .inl ⟨i, h⟩, rfl, fun _ ds h => ⟨rfl, ds, h⟩, fun _ h => h⟩
theorem Tr.trans (a : Tr w w1 H H1 en en1) (b : Tr w1 w2 H1 H2 en1 en2) : Tr w w2 H H2 en en2 where
  fr := fun c o h n => b.fr c o (a.fr c o h n) fun i z => by
    rcases a.fo i c z with ⟨j, q⟩ | q
    · exact n j q
    · rw [h] at q; cases q
  fo := fun i c h => by
    rcases b.fo i c h with ⟨j, q⟩ | q
    · exact a.fo j c q
    · cases e : H c with
      | none => exact .inr rfl
      | some o =>
        by_cases n : ∀ j, w.own j ≠ some c
        · rw [a.fr c o e n] at q; cases q
        · exact .inl (Classical.byContradiction fun z => n fun j t => z ⟨j, t⟩)
  hd := b.hd.trans a.hd
  bw := fun i ds h => by
    obtain ⟨e1, ds1, h1⟩ := a.bw i ds h
    obtain ⟨e2, ds2, h2⟩ := b.bw i ds1 h1
    exact ⟨e2.trans e1, ds2, h2⟩
  th := fun c h => b.th c (a.th c h)
/-- what values lean on stays -/
theorem Tr.sub (t : Tr w w' H H' en en') : Sub (less H w.all) (less H' w'.all) := less_mono fun a o n h => by
  have n1 : ∀ i, w.own i ≠ some a := fun i z => n (.inr ⟨i, z⟩)
  refine ⟨t.fr a o h n1, fun z => ?_⟩
  rcases z with z | ⟨i, z⟩
  · rw [t.hd] at z
    exact n (.inl z)
  · rcases t.fo i a z with ⟨j, q⟩ | q
    · exact n1 j q
    · rw [h] at q; cases q
theorem Tr.dp (t : Tr w w' H H' en en') {v : V} {d : Dt} (h : Dq K (less H w.all) v d) : Dq K (less H' w'.all) v d := Dq.keep t.sub d v h
theorem Tr.dpAll (t : Tr w w' H H' en en') {vs : List V} {ds : List Dt} (h : DqAll K (less H w.all) vs ds) : DqAll K (less H' w'.all) vs ds := DqAll.keep t.sub ds vs h
theorem Tr.free (t : Tr w w' H H' en en') {p : Addr} (h : H' p = none) : H p = none := Classical.byContradiction fun z => t.th p z h
/-- the heap grows, nothing that is known changes -/
theorem Tr.grow (s : Sub H H') : Tr w w H H' en en := ⟨fun b o h _ => s b o h, fun i b h => .inl ⟨i, h⟩, rfl, fun _ ds h => ⟨rfl, ds, h⟩, fun b h z => h (s.none z)⟩
theorem SR.grow (r : SR K w H en σ) (s : Sub H H') : SR K w H' en σ where
  len := r.len
  inj := r.inj
  dom := r.dom
  hid := fun a h z => r.hid a h (s.none z)
  sep := r.sep
  slot := fun i sl x h1 h2 => by
    have q := r.slot i sl x h1 h2
    cases sl with
    | no => exact q
    | val d =>
      obtain ⟨n, v, e, p⟩ := q
      exact ⟨n, v, e, Dq.keep (less_keep s) d v p⟩
    | own ds =>
      obtain ⟨a, vs, e, o, h, p⟩ := q
      exact ⟨a, vs, e, o, s _ _ h, DqAll.keep (less_keep s) ds vs p⟩
    | brw ds =>
      obtain ⟨a, vs, e, o, h, p⟩ := q
      exact ⟨a, vs, e, o, s _ _ h, DqAll.keep (less_keep s) ds vs p⟩
    | dti ks =>
      obtain ⟨a, e, o, h⟩ := q
      exact ⟨a, e, o, s _ _ h⟩
/-- an address is hidden, too -/
def Ow.hide (w : Ow) (p : Addr) : Ow := ⟨w.own, fun a => w.hid a ∨ a = p⟩
theorem hide_all {w : Ow} {p a : Addr} : (w.hide p).all a ↔ (w.all a ∨ a = p) := by
  unfold Ow.all Ow.hide
  constructor
  · rintro ((h | h) | h)
    · exact .inl (.inl h)
    · exact .inr h
    · exact .inl (.inr h)
  · rintro ((h | h) | h)
    · exact .inl (.inl h)
    · exact .inr h
    · exact .inl (.inr h)
theorem unhide_sub {p : Addr} : Sub (less H (w.hide p).all) (less H w.all) := less_mono fun a o n h => ⟨h, fun z => n (hide_all.mpr (.inl z))⟩
theorem SR.mono (r : SR K w H en σ) {w' : Ow} (ho : w'.own = w.own) (hh : ∀ a, w'.hid a → w.hid a) : SR K w' H en σ := by
  have s : Sub (less H w.all) (less H w'.all) := less_mono fun a o n h => ⟨h, fun z => n (z.elim (fun q => .inl (hh a q)) fun ⟨i, q⟩ => .inr ⟨i, by rw [← ho]; exact q⟩)⟩
  refine ⟨r.len, fun i j a h1 h2 => r.inj i j a (by rw [← ho]; exact h1) (by rw [← ho]; exact h2), fun i a h => r.dom i a (by rw [← ho]; exact h), fun a h => r.hid a (hh a h), fun i a h z => r.sep i a (by rw [← ho]; exact h) (hh a z), fun i sl x h1 h2 => ?_⟩
  have q := r.slot i sl x h1 h2
  cases sl with
  | no => show w'.own i = none; rw [ho]; exact q
  | val d =>
    obtain ⟨n, v, e, p⟩ := q
    exact ⟨by rw [ho]; exact n, v, e, Dq.keep s d v p⟩
  | own ds =>
    obtain ⟨a, vs, e, o, h, p⟩ := q
    exact ⟨a, vs, e, by rw [ho]; exact o, h, DqAll.keep s ds vs p⟩
  | brw ds =>
    obtain ⟨a, vs, e, o, h, p⟩ := q
    exact ⟨a, vs, e, by rw [ho]; exact o, h, DqAll.keep s ds vs p⟩
  | dti ks =>
    obtain ⟨a, e, o, h⟩ := q
    exact ⟨a, e, by rw [ho]; exact o, h⟩
theorem SR.unhide {p : Addr} (r : SR K (w.hide p) H en σ) : SR K w H en σ := r.mono (w' := w) rfl fun _ h => .inl h
theorem SR.hide {p : Addr} {o : HO} (r : SR K w H en σ) (hp : H p = none) : SR K (w.hide p) (upd H p o) en σ := by
  have no : ∀ i, w.own i ≠ some p := fun i z => by
    have hi := r.dom i p z
    have e1 : en[i]? = some en[i] := List.getElem?_eq_getElem hi
    have e2 : σ[i]? = some (σ[i]'(by rw [← r.len]; exact hi)) := List.getElem?_eq_getElem _
    have q := r.slot i _ _ e1 e2
    revert q
    cases en[i] with
    | no => intro q; rw [show w.own i = none from q] at z; cases z
    | val d => intro q; rw [q.1] at z; cases z
    | own ds =>
      rintro ⟨a, vs, e, o, h, _⟩
      rw [o] at z
      cases z
      rw [hp] at h
      cases h
    | brw ds =>
      rintro ⟨a, vs, e, o, h, _⟩
      rw [o] at z
      cases z
      rw [hp] at h
      cases h
    | dti ks =>
      rintro ⟨a, e, o, h⟩
      rw [o] at z
      cases z
      rw [hp] at h
      cases h
  have s : Sub (less H w.all) (less (upd H p o) (w.hide p).all) := less_mono fun a u n h => ⟨by rw [upd_ne (ne_of_none h hp)]; exact h, fun z => (hide_all.mp z).elim n fun e => by subst e; rw [hp] at h; cases h⟩
  refine ⟨r.len, r.inj, r.dom, fun a h z => ?_, fun i a h z => ?_, fun i sl x h1 h2 => ?_⟩
  · rcases h with h | h
    · by_cases e : a = p
      · subst e; rw [upd_same] at z; cases z
      · rw [upd_ne e] at z; exact r.hid a h z
    · subst h; rw [upd_same] at z; cases z
  · rcases z with z | z
    · exact r.sep i a h z
    · subst z; exact no i h
  · have q := r.slot i sl x h1 h2
    cases sl with
    | no => exact q
    | val d =>
      obtain ⟨n, v, e, g⟩ := q
      exact ⟨n, v, e, Dq.keep s d v g⟩
    | own ds =>
      obtain ⟨a, vs, e, oo, h, g⟩ := q
      exact ⟨a, vs, e, oo, by rw [upd_ne (ne_of_none h hp)]; exact h, DqAll.keep s ds vs g⟩
    | brw ds =>
      obtain ⟨a, vs, e, oo, h, g⟩ := q
      exact ⟨a, vs, e, oo, by rw [upd_ne (ne_of_none h hp)]; exact h, DqAll.keep s ds vs g⟩
    | dti ks =>
      obtain ⟨a, e, oo, h⟩ := q
      exact ⟨a, e, oo, by rw [upd_ne (ne_of_none h hp)]; exact h⟩
/-- an owned address is known -/
theorem SR.there (r : SR K w H en σ) {i : Nat} {a : Addr} (z : w.own i = some a) : (∃ o, H a = some o) ∧ σ[i]? = some (some (.ref a)) := by
  have hi := r.dom i a z
  have e1 : en[i]? = some en[i] := List.getElem?_eq_getElem hi
  have e2 : σ[i]? = some (σ[i]'(by rw [← r.len]; exact hi)) := List.getElem?_eq_getElem _
  have q := r.slot i _ _ e1 e2
  revert q e1
  cases en[i] with
  | no => intro _ q; rw [show w.own i = none from q] at z; cases z
  | val d => intro _ q; rw [q.1] at z; cases z
  | own ds =>
    rintro e1 ⟨b, vs, e, o, h, p⟩
    rw [o] at z
    cases z
    exact ⟨⟨_, h⟩, by rw [e2, e]⟩
  | brw ds =>
    rintro e1 ⟨b, vs, e, o, h, p⟩
    rw [o] at z
    cases z
    exact ⟨⟨_, h⟩, by rw [e2, e]⟩
  | dti ks =>
    rintro e1 ⟨b, e, o, h⟩
    rw [o] at z
    cases z
    exact ⟨⟨_, h⟩, by rw [e2, e]⟩
theorem SR.allThere (r : SR K w H en σ) {a : Addr} (z : w.all a) : H a ≠ none := by
  rcases z with z | ⟨i, z⟩
  · exact r.hid a z
  · obtain ⟨⟨o, h⟩, _⟩ := r.there z
    rw [h]
    exact fun q => nomatch q
theorem SR.sig (r : SR K w H en σ) {i : Nat} {s : Sl} (h : en[i]? = some s) : ∃ x, σ[i]? = some x ∧ SlR K w H i s x := by
  have hi : i < en.length := (List.getElem?_eq_some_iff.mp h).1
  have e2 : σ[i]? = some (σ[i]'(by rw [← r.len]; exact hi)) := List.getElem?_eq_getElem _
  exact ⟨_, e2, r.slot i s _ h e2⟩
end
end Yd

set_option Elab.async false
set_option linter.all false
set_option maxRecDepth 100000
set_option maxHeartbeats 1000000
set_option autoImplicit false
namespace Yd
open PySem PySem.Spec PyProof.Rows L2

/-! ### what syntax reckons -/
abbrev ME := En → Option (Dt × En)
abbrev MB := En → Option (Bool × En)
abbrev ML := En → Option (List Dt × En)
inductive Out where
  | nx (en : En) | bk (en : En) | ct (en : En) | rt (d : Dt) (en : En) | nw (ds : List Dt) (en : En)
abbrev MT := En → Option Out

section
variable (K : PySem.W.Frag)
/-- an expression's value -/
def yE (m : ME) : TE := fun σ H Q => ∃ w en d en', SR K w H en σ ∧ m en = some (d, en') ∧ ∀ x H' w', SR K w' H' en' σ → Dq K (less H' w'.all) x d → Tr w w' H H' en en' → Q x H'
/-- a test -/
def yB (m : MB) : TT := fun σ H Q => ∃ w en b en', SR K w H en σ ∧ m en = some (b, en') ∧ ∀ H' w', SR K w' H' en' σ → Tr w w' H H' en en' → Q b H'
/-- arguments -/
def yA (m : ML) : TA := fun σ H Q => ∃ w en ds en', SR K w H en σ ∧ m en = some (ds, en') ∧ ∀ vs H' w', SR K w' H' en' σ → DqAll K (less H' w'.all) vs ds → Tr w w' H H' en en' → Q vs H'
/-- a new list that nobody else knows -/
def yF (m : ML) : TE := fun σ H Q => ∃ w en ds en', SR K w H en σ ∧ m en = some (ds, en') ∧ ∀ p vs H' w', H p = none → H' p = some (.lst vs) → SR K (w'.hide p) H' en' σ → DqAll K (less H' (w'.hide p).all) vs ds → Tr w w' H H' en en' → Q (.ref p) H'
/-- what is wanted of a statement's end -/
def Fin (D : Ends) (w : Ow) (H : Hp) (en : En) : Out → Prop
  | .nx en' => ∀ σ' H' w', SR K w' H' en' σ' → Tr w w' H H' en en' → D.nx σ' H'
  | .bk en' => ∀ σ' H' w', SR K w' H' en' σ' → Tr w w' H H' en en' → D.bk σ' H'
  | .ct en' => ∀ σ' H' w', SR K w' H' en' σ' → Tr w w' H H' en en' → D.ct σ' H'
  | .rt d en' => ∀ x σ' H' w', SR K w' H' en' σ' → Dq K (less H' w'.all) x d → Tr w w' H H' en en' → D.rt x H'
  | .nw ds en' => ∀ p vs σ' H' w', H p = none → H' p = some (.lst vs) → SR K (w'.hide p) H' en' σ' → DqAll K (less H' (w'.hide p).all) vs ds → Tr w w' H H' en en' → D.rt (.ref p) H'
def yS (m : MT) : TS := fun D σ H => ∃ w en o, SR K w H en σ ∧ m en = some o ∧ Fin K D w H en o
/-- a target, given its value -/
def yG (vs : List Nat) (g : Dt → En → Option En) : TG := fun v σ H Q => ∃ w en d en', SR K w H en σ ∧ Dq K (less H w.all) v d ∧ g d en = some en' ∧ ∀ σ' H' w', SR K w' H' en' σ' → Tr w w' H H' en en' → wipe σ' vs = wipe σ vs → Q σ' H'
def yGs (vs : List Nat) (g : List Dt → En → Option En) : TGs := fun xs σ H Q => ∃ w en ds en', SR K w H en σ ∧ DqAll K (less H w.all) xs ds ∧ g ds en = some en' ∧ ∀ σ' H' w', SR K w' H' en' σ' → Tr w w' H H' en en' → wipe σ' vs = wipe σ vs → Q σ' H'
end
section
variable {X : Cx}
abbrev OE (X : Cx) (e : Expr) (m : ME) : Prop := PE X e (yE X.K m)
abbrev OB (X : Cx) (e : Expr) (m : MB) : Prop := PT X e (yB X.K m)
abbrev OA (X : Cx) (es : List Expr) (m : ML) : Prop := PA X es (yA X.K m)
abbrev OF (X : Cx) (e : Expr) (m : ML) : Prop := PE X e (yF X.K m)
abbrev OS (X : Cx) (s : Stmt) (m : MT) : Prop := PS X s (yS X.K m)
abbrev OSs (X : Cx) (s : List Stmt) (m : MT) : Prop := PSs X s (yS X.K m)
abbrev OG (X : Cx) (e : Expr) (vs : List Nat) (g : Dt → En → Option En) : Prop := PG X e (yG X.K vs g)
abbrev OGs (X : Cx) (es : List Expr) (vs : List Nat) (g : List Dt → En → Option En) : Prop := PGs X es (yGs X.K vs g)

theorem pe_imp {e : Expr} {t t' : TE} (h : PE X e t) (k : ∀ σ H Q, t' σ H Q → t σ H Q) : PE X e t' := ⟨fun pins s σ H Q I q => h.run pins s σ H Q I (k σ H Q q)⟩
theorem pt_imp {e : Expr} {t t' : TT} (h : PT X e t) (k : ∀ σ H Q, t' σ H Q → t σ H Q) : PT X e t' := ⟨fun pins s σ H Q I q => h.run pins s σ H Q I (k σ H Q q)⟩
theorem pw_imp {e : Expr} {t t' : TT} (h : PW X e t) (k : ∀ σ H Q, t' σ H Q → t σ H Q) : PW X e t' := ⟨fun wh pins s σ H Q I q => h.run wh pins s σ H Q I (k σ H Q q)⟩
theorem pa_imp {es : List Expr} {t t' : TA} (h : PA X es t) (k : ∀ σ H Q, t' σ H Q → t σ H Q) : PA X es t' := ⟨fun pos pins s σ H Q I q => h.run pos pins s σ H Q I (k σ H Q q)⟩
theorem ps_imp {st : Stmt} {t t' : TS} (h : PS X st t) (k : ∀ D σ H, t' D σ H → t D σ H) : PS X st t' := ⟨fun pins s σ H D I q => h.run pins s σ H D I (k D σ H q)⟩
theorem pss_imp {st : List Stmt} {t t' : TS} (h : PSs X st t) (k : ∀ D σ H, t' D σ H → t D σ H) : PSs X st t' := ⟨fun pins s σ H D I q => h.run pins s σ H D I (k D σ H q)⟩
theorem pgs_imp {es : List Expr} {t t' : TGs} (h : PGs X es t) (k : ∀ v σ H Q, t' v σ H Q → t v σ H Q) : PGs X es t' := ⟨fun pins s σ H vs us Q I r q => h.run pins s σ H vs us Q I r (k vs σ H Q q)⟩
theorem pg_imp {e : Expr} {t t' : TG} (h : PG X e t) (k : ∀ v σ H Q, t' v σ H Q → t v σ H Q) : PG X e t' := ⟨fun pins s σ H v u Q I r q => h.run pins s σ H v u Q I r (k v σ H Q q)⟩
end

/-! ### stores to slots -/
def Ow.drop (w : Ow) (i : Nat) : Ow := ⟨fun j => if j = i then none else w.own j, w.hid⟩
def Ow.take (w : Ow) (i : Nat) (p : Addr) : Ow := ⟨fun j => if j = i then some p else w.own j, w.hid⟩
theorem drop_own {w : Ow} {i j : Nat} {a : Addr} (h : (w.drop i).own j = some a) : j ≠ i ∧ w.own j = some a := by
  have h : (if j = i then (none : Option Addr) else w.own j) = some a := h
  by_cases e : j = i
  · rw [if_pos e] at h
    cases h
  · rw [if_neg e] at h
    exact ⟨e, h⟩
theorem drop_self {w : Ow} {i : Nat} : (w.drop i).own i = none := if_pos rfl
theorem drop_ne {w : Ow} {i j : Nat} (h : j ≠ i) : (w.drop i).own j = w.own j := if_neg h
theorem take_self {w : Ow} {i : Nat} {p : Addr} : (w.take i p).own i = some p := if_pos rfl
theorem take_ne {w : Ow} {i j : Nat} {p : Addr} (h : j ≠ i) : (w.take i p).own j = w.own j := if_neg h
theorem drop_all {w : Ow} {i : Nat} {a : Addr} (h : (w.drop i).all a) : w.all a := by
  rcases h with h | ⟨j, h⟩
  · exact .inl h
  · exact .inr ⟨j, (drop_own h).2⟩
theorem take_all {w : Ow} {i : Nat} {p a : Addr} (h : (w.take i p).all a) : (w.hide p).all a := by
  rcases h with h | ⟨j, h⟩
  · exact hide_all.mpr (.inl (.inl h))
  · by_cases e : j = i
    · subst e
      rw [take_self] at h
      cases h
      exact hide_all.mpr (.inr rfl)
    · rw [take_ne e] at h
      exact hide_all.mpr (.inl (.inr ⟨j, h⟩))
def Sl.free : Sl → Bool
  | .brw _ => false
  | _ => true
section
variable {K : PySem.W.Frag} {w w' : Ow} {H H' : Hp} {en en' : En} {σ σ' : L2.St} {i : Nat} {d : Dt} {v : V} {s : Sl}
theorem set_of {α : Type} {l : List α} {i j : Nat} {x y : α} (h : (l.set i x)[j]? = some y) : (j = i ∧ y = x) ∨ (j ≠ i ∧ l[j]? = some y) := by
  by_cases e : j = i
  · subst e
    have hl : j < l.length := by
      have := (List.getElem?_eq_some_iff.mp h).1
      simpa using this
    rw [List.getElem?_set_self hl] at h
    cases h
    exact .inl ⟨rfl, rfl⟩
  · rw [List.getElem?_set_ne (Ne.symm e)] at h
    exact .inr ⟨e, h⟩
/-- a value into a slot that is not handed in to be changed -/
theorem SR.put (r : SR K w H en σ) (h : en[i]? = some s) (g : Dq K (less H (w.drop i).all) v d) : SR K (w.drop i) H (en.set i (.val d)) (σ.set i (some v)) := by
  have sb : Sub (less H w.all) (less H (w.drop i).all) := less_mono fun a o n h => ⟨h, fun z => n (drop_all z)⟩
  refine ⟨by rw [List.length_set, List.length_set]; exact r.len, fun j k a h1 h2 => r.inj j k a (drop_own h1).2 (drop_own h2).2, fun j a h1 => by rw [List.length_set]; exact r.dom j a (drop_own h1).2, r.hid, fun j a h1 => r.sep j a (drop_own h1).2, fun j sl x h1 h2 => ?_⟩
  rcases set_of h1 with ⟨rfl, rfl⟩ | ⟨ne, h1⟩
  · rcases set_of h2 with ⟨_, rfl⟩ | ⟨q, _⟩
    · exact ⟨drop_self, v, rfl, g⟩
    · exact (q rfl).elim
  · rcases set_of h2 with ⟨q, _⟩ | ⟨_, h2⟩
    · exact (ne q).elim
    have q := r.slot j sl x h1 h2
    cases sl with
    | no => exact (drop_ne ne).trans q
    | val d =>
      obtain ⟨n, v, e, p⟩ := q
      exact ⟨(drop_ne ne).trans n, v, e, Dq.keep sb d v p⟩
    | own ds =>
      obtain ⟨a, vs, e, o, h, p⟩ := q
      exact ⟨a, vs, e, (drop_ne ne).trans o, h, DqAll.keep sb ds vs p⟩
    | brw ds =>
      obtain ⟨a, vs, e, o, h, p⟩ := q
      exact ⟨a, vs, e, (drop_ne ne).trans o, h, DqAll.keep sb ds vs p⟩
    | dti ks =>
      obtain ⟨a, e, o, h⟩ := q
      exact ⟨a, e, (drop_ne ne).trans o, h⟩
theorem Tr.put (h : en[i]? = some s) (f : s.free = true) {sl : Sl} : Tr w (w.drop i) H H en (en.set i sl) where
  fr := fun _ _ h _ => h
  fo := fun j b z => .inl ⟨j, (drop_own z).2⟩
  hd := rfl
  bw := fun j ds z => by
    have ne : j ≠ i := fun e => by
      subst e
      rw [h] at z
      cases z
      exact absurd f (by simp [Sl.free])
    exact ⟨drop_ne ne, ds, by rw [List.getElem?_set_ne (Ne.symm ne)]; exact z⟩
  th := fun _ h => h
/-- a value that leans on what nobody owns -/
theorem dp_drop (g : Dq K (less H w.all) v d) : Dq K (less H (w.drop i).all) v d := Dq.keep (less_mono fun a o n h => ⟨h, fun z => n (drop_all z)⟩) d v g
/-- an own list becomes a value -/
theorem SR.frz {ds : List Dt} (r : SR K w H en σ) (h : en[i]? = some (.own ds)) : ∃ v, σ[i]? = some (some v) ∧ Dq K (less H (w.drop i).all) v (.list ds) ∧ SR K (w.drop i) H (en.set i (.val (.list ds))) σ ∧ Tr w (w.drop i) H H en (en.set i (.val (.list ds))) := by
  obtain ⟨x, e, a, vs, rfl, o, ha, p⟩ := r.sig h
  have na : ¬ (w.drop i).all a := by
    rintro (z | ⟨j, z⟩)
    · exact r.sep i a o z
    · obtain ⟨ne, z⟩ := drop_own z
      exact ne (r.inj j i a z o)
  have g : Dq K (less H (w.drop i).all) (.ref a) (.list ds) := .lst (.inl (less_some.mpr ⟨na, ha⟩)) (DqAll.keep (less_mono fun a o n h => ⟨h, fun z => n (drop_all z)⟩) ds vs p)
  have q := r.put h g
  have e2 : σ.set i (some (.ref a)) = σ := by
    apply List.ext_getElem?
    intro j
    by_cases ej : j = i
    · subst ej
      have hl : j < σ.length := (List.getElem?_eq_some_iff.mp e).1
      rw [List.getElem?_set_self hl, e]
    · rw [List.getElem?_set_ne (Ne.symm ej)]
  rw [e2] at q
  exact ⟨_, e, g, q, Tr.put h rfl⟩
/-- a new list into a slot, as its own -/
theorem SR.own {p : Addr} {vs : List V} {ds : List Dt} (r : SR K (w.hide p) H en σ) (hp : H p = some (.lst vs)) (np : ¬ w.hid p) (g : DqAll K (less H (w.hide p).all) vs ds) (h : en[i]? = some s) : SR K (w.take i p) H (en.set i (.own ds)) (σ.set i (some (.ref p))) := by
  have sb : Sub (less H (w.hide p).all) (less H (w.take i p).all) := less_mono fun a o n h => ⟨h, fun z => n (take_all z)⟩
  have no : ∀ j, w.own j ≠ some p := fun j z => r.sep j p z (.inr rfl)
  refine ⟨by rw [List.length_set, List.length_set]; exact r.len, fun j k a h1 h2 => ?_, fun j a h1 => ?_, fun a h => r.hid a (.inl h), fun j a h1 => ?_, fun j sl x h1 h2 => ?_⟩
  · by_cases e1 : j = i
    · by_cases e2 : k = i
      · rw [e1, e2]
      · rw [take_ne e2] at h2
        rw [e1, take_self] at h1
        cases h1
        exact (no k h2).elim
    · rw [take_ne e1] at h1
      by_cases e2 : k = i
      · rw [e2, take_self] at h2
        cases h2
        exact (no j h1).elim
      · rw [take_ne e2] at h2
        exact r.inj j k a h1 h2
  · rw [List.length_set]
    by_cases e1 : j = i
    · rw [e1]
      exact (List.getElem?_eq_some_iff.mp h).1
    · rw [take_ne e1] at h1
      exact r.dom j a h1
  · by_cases e1 : j = i
    · rw [e1, take_self] at h1
      cases h1
      exact np
    · rw [take_ne e1] at h1
      exact fun z => r.sep j a h1 (.inl z)
  · rcases set_of h1 with ⟨rfl, rfl⟩ | ⟨ne, h1⟩
    · rcases set_of h2 with ⟨_, rfl⟩ | ⟨q, _⟩
      · exact ⟨p, vs, rfl, take_self, hp, DqAll.keep sb ds vs g⟩
      · exact (q rfl).elim
    · rcases set_of h2 with ⟨q, _⟩ | ⟨_, h2⟩
      · exact (ne q).elim
      have q := r.slot j sl x h1 h2
      cases sl with
      | no => exact (take_ne ne).trans q
      | val d =>
        obtain ⟨n, v, e, p⟩ := q
        exact ⟨(take_ne ne).trans n, v, e, Dq.keep sb d v p⟩
      | own ds =>
        obtain ⟨a, vs, e, o, h, p⟩ := q
        exact ⟨a, vs, e, (take_ne ne).trans o, h, DqAll.keep sb ds vs p⟩
      | brw ds =>
        obtain ⟨a, vs, e, o, h, p⟩ := q
        exact ⟨a, vs, e, (take_ne ne).trans o, h, DqAll.keep sb ds vs p⟩
      | dti ks =>
        obtain ⟨a, e, o, h⟩ := q
        exact ⟨a, e, (take_ne ne).trans o, h⟩
theorem Tr.own {H0 : Hp} {w0 : Ow} {en0 : En} {p : Addr} (t : Tr w0 w H0 H en0 en) (hp : H0 p = none) (h : en[i]? = some s) (f : s.free = true) {sl : Sl} : Tr w0 (w.take i p) H0 H en0 (en.set i sl) where
  fr := t.fr
  fo := fun j b z => by
    by_cases e : j = i
    · rw [e, take_self] at z
      cases z
      exact .inr hp
    · rw [take_ne e] at z
      exact t.fo j b z
  hd := t.hd
  bw := fun j ds z => by
    obtain ⟨q, ds', q2⟩ := t.bw j ds z
    have ne : j ≠ i := fun e => by
      subst e
      rw [h] at q2
      cases q2
      exact absurd f (by simp [Sl.free])
    exact ⟨(take_ne ne).trans q, ds', by rw [List.getElem?_set_ne (Ne.symm ne)]; exact q2⟩
  th := t.th
/-- an own (or handed in) list is changed -/
theorem SR.chg {a : Addr} {vs vs' : List V} {ds ds' : List Dt} {sl : Sl} (r : SR K w H en σ) (o : w.own i = some a) (g : DqAll K (less H w.all) vs' ds') (he : en[i]? = some (.own ds) ∧ sl = .own ds' ∨ en[i]? = some (.brw ds) ∧ sl = .brw ds') :
    SR K w (upd H a (.lst vs')) (en.set i sl) σ := by
  have sb : Sub (less H w.all) (less (upd H a (.lst vs')) w.all) := less_mono fun b u n h => ⟨by rw [upd_ne (fun e => n (.inr ⟨i, by rw [e]; exact o⟩))]; exact h, n⟩
  obtain ⟨_, hσ⟩ := r.there o
  refine ⟨by rw [List.length_set]; exact r.len, r.inj, fun j b h1 => by rw [List.length_set]; exact r.dom j b h1, fun b h z => ?_, r.sep, fun j sj x h1 h2 => ?_⟩
  · by_cases e : b = a
    · subst e
      rw [upd_same] at z
      cases z
    · rw [upd_ne e] at z
      exact r.hid b h z
  · rcases set_of h1 with ⟨rfl, rfl⟩ | ⟨ne, h1⟩
    · rw [hσ] at h2
      cases h2
      rcases he with ⟨_, rfl⟩ | ⟨_, rfl⟩
      · exact ⟨a, vs', rfl, o, upd_same, DqAll.keep sb ds' vs' g⟩
      · exact ⟨a, vs', rfl, o, upd_same, DqAll.keep sb ds' vs' g⟩
    · have q := r.slot j sj x h1 h2
      cases sj with
      | no => exact q
      | val d =>
        obtain ⟨n, v, e, p⟩ := q
        exact ⟨n, v, e, Dq.keep sb d v p⟩
      | own ds =>
        obtain ⟨b, vs, e, o2, h, p⟩ := q
        exact ⟨b, vs, e, o2, by rw [upd_ne (fun e => ne (r.inj j i a (by rw [← e]; exact o2) o))]; exact h, DqAll.keep sb ds vs p⟩
      | brw ds =>
        obtain ⟨b, vs, e, o2, h, p⟩ := q
        exact ⟨b, vs, e, o2, by rw [upd_ne (fun e => ne (r.inj j i a (by rw [← e]; exact o2) o))]; exact h, DqAll.keep sb ds vs p⟩
      | dti ks =>
        obtain ⟨b, e, o2, h⟩ := q
        exact ⟨b, e, o2, by rw [upd_ne (fun e => ne (r.inj j i a (by rw [← e]; exact o2) o))]; exact h⟩
theorem Tr.chg {a : Addr} {vs' : List V} {ds ds' : List Dt} {sl : Sl} (o : w.own i = some a) (he : en[i]? = some (.own ds) ∧ sl = .own ds' ∨ en[i]? = some (.brw ds) ∧ sl = .brw ds') : Tr w w H (upd H a (.lst vs')) en (en.set i sl) where
  fr := fun b u h n => by
    rw [upd_ne (fun e => n i (by rw [e]; exact o))]
    exact h
  fo := fun j b z => .inl ⟨j, z⟩
  hd := rfl
  bw := fun j es z => by
    refine ⟨rfl, ?_⟩
    by_cases e : j = i
    · subst e
      rcases he with ⟨q, rfl⟩ | ⟨q, rfl⟩
      · rw [q] at z
        cases z
      · exact ⟨ds', List.getElem?_set_self (List.getElem?_eq_some_iff.mp z).1⟩
    · exact ⟨es, by rw [List.getElem?_set_ne (Ne.symm e)]; exact z⟩
  th := fun b h => by
    by_cases e : b = a
    · subst e
      rw [upd_same]
      exact fun z => nomatch z
    · rw [upd_ne e]
      exact h
end
end Yd

set_option Elab.async false
set_option linter.all false
set_option maxRecDepth 100000
set_option maxHeartbeats 1000000
set_option autoImplicit false
namespace Yd
open PySem PySem.Spec PyProof.Rows L2

/-! ### names, constants -/
def mVar (i : Nat) : ME := fun en => match en[i]? with
  | some (.val d) => some (d, en)
  | some (.own ds) => some (.list ds, en.set i (.val (.list ds)))
  | _ => none
def mC (d : Dt) : ME := fun en => some (d, en)
section
variable {X : Cx}
theorem oe_var (i : Nat) {x : Str} {pos : Pos} (hN : X.N[i]? = some x := by rfl) (hv : Vis X.env.scope x := by first | exact Or.inl rfl | exact Or.inr (Or.inl rfl) | exact Or.inr (Or.inr rfl)) (hd : (x == ("__debug__" : Str)) = false := by decide)
    (hcd : (x == ("__classdict__" : Str)) = false := by decide) : OE X (.Name x pos) (mVar i) := pe_imp (pe_var hN hv hd hcd) fun σ H Q ⟨w, en, d, en', r, e, k⟩ => by
  unfold mVar at e
  split at e
  · rename_i d' h
    cases e
    obtain ⟨x, e, n, v, rfl, p⟩ := r.sig h
    exact ⟨v, e, k v H w r p .refl⟩
  · rename_i ds h
    cases e
    obtain ⟨v, e, p, r', t⟩ := r.frz h
    exact ⟨v, e, k v H _ r' p t⟩
  · cases e
theorem oe_c {e : Expr} {v : V} {d : Dt} (h : PE X e (tC v)) (hd : ∀ H, Dq X.K H v d) : OE X e (mC d) := pe_imp h fun σ H Q ⟨w, en, d', en', r, e, k⟩ => by
  cases e
  exact k v H w r (hd _) .refl
theorem oe_int {i : Int} {j : Nat} {pos : Pos} : OE X (.Constant (.int i) j pos) (mC (.int i)) := oe_c pe_int fun _ => .int i
theorem oe_bl {b : Bool} {j : Nat} {pos : Pos} : OE X (.Constant (.bool b) j pos) (mC (.bool b)) := oe_c pe_bl fun _ => .bl b
theorem oe_non {j : Nat} {pos : Pos} : OE X (.Constant .none j pos) (mC .none) := oe_c pe_non fun _ => .non
theorem oe_str {x : Str} {j : Nat} {pos : Pos} : OE X (.Constant (.str x) j pos) (mC (.str x)) := oe_c pe_str fun _ => .str x
theorem oe_globI {x : Str} {i : Int} {t : Tok} {pos : Pos} (hg : Gl X x) (hm : X.mg x = some (.int i t)) (hd : (x == ("__debug__" : Str)) = false := by decide) : OE X (.Name x pos) (mC (.int i)) := oe_c (v := V.int i) (pe_glob hg hm ⟨t, rfl⟩ hd) fun _ => .int i
end

/-! ### operators -/
def mBin (g : Dt → Dt → Option Dt) (a b : ME) : ME := fun en => match a en with
  | none => none
  | some (x, e1) => match b e1 with
    | none => none
    | some (y, e2) => match g x y with
      | none => none
      | some z => some (z, e2)
def mUn (g : Dt → Option Dt) (a : ME) : ME := fun en => match a en with
  | none => none
  | some (x, e1) => match g x with
    | none => none
    | some z => some (z, e1)
/-- a two-place operation's answer -/
def B2 (K : PySem.W.Frag) (r : R2) (g : Dt → Dt → Option Dt) : Prop := ∀ (H : Hp) (C : Addr → Prop) (x y : V) (a b d : Dt) (Q : VK), (∀ c, C c → H c ≠ none) → Dq K (less H C) x a → Dq K (less H C) y b → g a b = some d →
  (∀ z H', Sub H H' → Dq K (less H' C) z d → Q z H') → r x y H Q
def B1 (K : PySem.W.Frag) (r : V → Hp → VK → Prop) (g : Dt → Option Dt) : Prop := ∀ (H : Hp) (C : Addr → Prop) (x : V) (a d : Dt) (Q : VK), (∀ c, C c → H c ≠ none) → Dq K (less H C) x a → g a = some d →
  (∀ z H', Sub H H' → Dq K (less H' C) z d → Q z H') → r x H Q
theorem mBin_some {g : Dt → Dt → Option Dt} {a b : ME} {en en' : En} {d : Dt} (h : mBin g a b en = some (d, en')) : ∃ x e1 y, a en = some (x, e1) ∧ b e1 = some (y, en') ∧ g x y = some d := by
  unfold mBin at h
  split at h
  · cases h
  · rename_i x e1 h1
    split at h
    · cases h
    · rename_i y e2 h2
      split at h
      · cases h
      · rename_i z h3
        cases h
        exact ⟨x, e1, y, h1, h2, h3⟩
theorem mUn_some {g : Dt → Option Dt} {a : ME} {en en' : En} {d : Dt} (h : mUn g a en = some (d, en')) : ∃ x, a en = some (x, en') ∧ g x = some d := by
  unfold mUn at h
  split at h
  · cases h
  · rename_i x e1 h1
    split at h
    · cases h
    · rename_i z h3
      cases h
      exact ⟨x, h1, h3⟩
section
variable {X : Cx} {a b c : Expr} {ma mb mc : ME} {pos : Pos}
theorem yBin {K : PySem.W.Frag} {r : R2} {g : Dt → Dt → Option Dt} (hr : B2 K r g) {σ : L2.St} {H : Hp} {Q : VK} (h : yE K (mBin g ma mb) σ H Q) : tOp r (yE K ma) (yE K mb) σ H Q := by
  obtain ⟨w, en, d, en', sr, e, k⟩ := h
  obtain ⟨x, e1, y, h1, h2, h3⟩ := mBin_some e
  refine ⟨w, en, x, e1, sr, h1, fun v H1 w1 sr1 p1 t1 => ⟨w1, e1, y, en', sr1, h2, fun u H2 w2 sr2 p2 t2 => ?_⟩⟩
  refine hr H2 w2.all v u x y d Q (fun c z => sr2.allThere z) (t2.dp p1) p2 h3 fun z H3 s3 p3 => ?_
  exact k z H3 w2 (sr2.grow s3) p3 ((t1.trans t2).trans (.grow s3))
theorem oe_op {op : Operator} {r : R2} {g : Dt → Dt → Option Dt} (ho : OpR X (binaryOp op) r) (hr : B2 X.K r g) (ha : OE X a ma) (hb : OE X b mb) : OE X (.BinOp a op b pos) (mBin g ma mb) := pe_imp (pe_op ho ha hb) fun _ _ _ h => yBin hr h
theorem oe_cmp {op : CmpOp} {r : R2} {g : Dt → Dt → Option Dt} (ho : OpR X (compareOp op) r) (hr : B2 X.K r g) (ha : OE X a ma) (hb : OE X b mb) (hm : behindInMarks op b = false) : OE X (.Compare a [op] [b] pos) (mBin g ma mb) := pe_imp (pe_cmpR ho ha hb hm) fun _ _ _ h => yBin hr h
theorem oe_un {op : UnaryOp} {r : V → Hp → VK → Prop} {g : Dt → Option Dt} (ho : UnR X (unaryOp op) r) (hr : B1 X.K r g) (ha : OE X a ma) : OE X (.UnaryOp op a pos) (mUn g ma) := pe_imp (pe_un ho ha) fun σ H Q ⟨w, en, d, en', sr, e, k⟩ => by
  obtain ⟨x, h1, h3⟩ := mUn_some e
  refine ⟨w, en, x, en', sr, h1, fun v H1 w1 sr1 p1 t1 => ?_⟩
  refine hr H1 w1.all v x d Q (fun c z => sr1.allThere z) p1 h3 fun z H3 s3 p3 => ?_
  exact k z H3 w1 (sr1.grow s3) p3 (t1.trans (.grow s3))
/-- a value that is a truth value, as a test -/
def mTst (m : ME) : MB := fun en => match m en with
  | some (.bool b, e) => some (b, e)
  | _ => none
theorem mTst_some {m : ME} {en en' : En} {b : Bool} (h : mTst m en = some (b, en')) : m en = some (.bool b, en') := by
  unfold mTst at h
  split at h
  · rename_i h1
    cases h
    exact h1
  · cases h
theorem yTst {K : PySem.W.Frag} {m : ME} {σ : L2.St} {H : Hp} {Q : Bool → Hp → Prop} (h : yB K (mTst m) σ H Q) : yE K m σ H fun x H1 => ∃ k, x = .bl k ∧ Q k H1 := by
  obtain ⟨w, en, d, en', sr, e, k⟩ := h
  refine ⟨w, en, _, en', sr, mTst_some e, fun v H1 w1 sr1 p1 t1 => ?_⟩
  cases p1
  exact ⟨_, rfl, k H1 w1 sr1 t1⟩
theorem ob_cmp {op : CmpOp} {r : R2} {g : Dt → Dt → Option Dt} (ho : OpR X (compareOp op) r) (hr : B2 X.K r g) (ha : OE X a ma) (hb : OE X b mb) (hm : behindInMarks op b = false) : OB X (.Compare a [op] [b] pos) (mTst (mBin g ma mb)) :=
  pt_imp (pt_cmpR ho ha hb hm) fun σ H Q h => yBin hr (yTst h)
/-- a value's test where the value is no comparison, and, or, not -/
theorem ob_val {e : Expr} {m : ME} (h : OE X e m) (he : ∀ whole, isTrue e X.env whole = (do let v ← whole; standAt e.pos; holding [v] (truthy v)) := by intro _; rfl) : OB X e (mTst m) :=
  pt_imp (pt_val h he) fun σ H Q h => yTst h
/-- a op b op c -/
def mChn (g g' : Dt → Dt → Option Dt) (a b c : ME) : ME := fun en => match a en with
  | none => none
  | some (x, e1) => match b e1 with
    | none => none
    | some (y, e2) => match g x y with
      | some (.bool true) => (match c e2 with
        | none => none
        | some (z, e3) => match g' y z with
          | none => none
          | some u => some (u, e3))
      | some (.bool false) => some (.bool false, e2)
      | _ => none
theorem yChn {K : PySem.W.Frag} {r r' : R2} {g g' : Dt → Dt → Option Dt} (hr : B2 K r g) (hr' : B2 K r' g') {σ : L2.St} {H : Hp} {Q : VK} (h : yE K (mChn g g' ma mb mc) σ H Q) : tChain r r' (yE K ma) (yE K mb) (yE K mc) σ H Q := by
  obtain ⟨w, en, d, en', sr, e, k⟩ := h
  unfold mChn at e
  split at e
  · cases e
  rename_i x e1 h1
  split at e
  · cases e
  rename_i y e2 h2
  refine ⟨w, en, x, e1, sr, h1, fun v H1 w1 sr1 p1 t1 => ⟨w1, e1, y, e2, sr1, h2, fun u H2 w2 sr2 p2 t2 => ?_⟩⟩
  split at e
  · rename_i h3
    split at e
    · cases e
    rename_i z e3 h4
    split at e
    · cases e
    rename_i d' h5
    cases e
    refine hr H2 w2.all v u x y _ _ (fun c z => sr2.allThere z) (t2.dp p1) p2 h3 fun q H3 s3 p3 => ?_
    cases p3
    refine ⟨true, rfl, ?_⟩
    rw [if_pos rfl]
    refine ⟨w2, e2, z, _, sr2.grow s3, h4, fun v3 H4 w4 sr4 p4 t4 => ?_⟩
    refine hr' H4 w4.all u v3 y z d Q (fun c z => sr4.allThere z) (((Tr.grow s3).trans t4).dp p2) p4 h5 fun q H5 s5 p5 => ?_
    exact k q H5 w4 (sr4.grow s5) p5 ((((t1.trans t2).trans (.grow s3)).trans t4).trans (.grow s5))
  · rename_i h3
    cases e
    refine hr H2 w2.all v u x y _ _ (fun c z => sr2.allThere z) (t2.dp p1) p2 h3 fun q H3 s3 p3 => ?_
    cases p3
    refine ⟨false, rfl, ?_⟩
    refine iteF ?_
    exact k _ H3 w2 (sr2.grow s3) (.bl false) ((t1.trans t2).trans (.grow s3))
  · cases e
theorem oe_chain {op op' : CmpOp} {r r' : R2} {g g' : Dt → Dt → Option Dt} (ho : OpR X (compareOp op) r) (ho' : OpR X (compareOp op') r') (hr : B2 X.K r g) (hr' : B2 X.K r' g') (ha : OE X a ma) (hb : OE X b mb) (hc : OE X c mc)
    (hm : lastMarks [op, op'] [b, c] = false := by with_unfolding_all rfl) : OE X (.Compare a [op, op'] [b, c] pos) (mChn g g' ma mb mc) := pe_imp (pe_chain ho ho' ha hb hc hm) fun σ H Q h => yChn hr hr' h
theorem ob_chain {op op' : CmpOp} {r r' : R2} {g g' : Dt → Dt → Option Dt} (ho : OpR X (compareOp op) r) (ho' : OpR X (compareOp op') r') (hr : B2 X.K r g) (hr' : B2 X.K r' g') (ha : OE X a ma) (hb : OE X b mb) (hc : OE X c mc)
    (hm : lastMarks [op, op'] [b, c] = false := by with_unfolding_all rfl) : OB X (.Compare a [op, op'] [b, c] pos) (mTst (mChn g g' ma mb mc)) := pt_imp (pt_chain ho ho' ha hb hc hm) fun σ H Q h => yChn hr hr' (yTst h)
end

/-! ### and, or, not, if .. else -/
def mAndB (a b : MB) : MB := fun en => match a en with
  | none => none
  | some (true, e1) => b e1
  | some (false, e1) => some (false, e1)
def mOrB (a b : MB) : MB := fun en => match a en with
  | none => none
  | some (true, e1) => some (true, e1)
  | some (false, e1) => b e1
def mNotB (a : MB) : MB := fun en => match a en with
  | none => none
  | some (b, e1) => some (!b, e1)
def mAnd (a b : ME) : ME := fun en => match a en with
  | some (.bool true, e1) => b e1
  | some (.bool false, e1) => some (.bool false, e1)
  | _ => none
def mOr (a b : ME) : ME := fun en => match a en with
  | some (.bool true, e1) => some (.bool true, e1)
  | some (.bool false, e1) => b e1
  | _ => none
def mNot (a : ME) : ME := fun en => match a en with
  | some (.bool b, e1) => some (.bool (!b), e1)
  | _ => none
def mIfE (c : MB) (a b : ME) : ME := fun en => match c en with
  | none => none
  | some (true, e1) => a e1
  | some (false, e1) => b e1
section
variable {X : Cx} {a b c : Expr} {rest : List Expr} {ma mb : ME} {ta tb tc : MB} {pos : Pos}
abbrev OW (X : Cx) (e : Expr) (m : MB) : Prop := PW X e (yB X.K m)
theorem ow_and1 (ha : OB X a ta) : OW X (.BoolOp .And [a] pos) ta := pw_and1 ha
theorem ow_or1 (ha : OB X a ta) : OW X (.BoolOp .Or [a] pos) ta := pw_or1 ha
theorem ow_and (ha : OB X a ta) (hb : OW X (.BoolOp .And (b :: rest) pos) tb) : OW X (.BoolOp .And (a :: b :: rest) pos) (mAndB ta tb) := pw_imp (pw_and ha hb) fun σ H Q ⟨w, en, d, en', sr, e, k⟩ => by
  unfold mAndB at e
  split at e
  · cases e
  · rename_i e1 h1
    refine ⟨w, en, _, e1, sr, h1, fun H1 w1 sr1 t1 => ?_⟩
    refine iteT ?_
    exact ⟨w1, e1, d, en', sr1, e, fun H2 w2 sr2 t2 => k H2 w2 sr2 (t1.trans t2)⟩
  · rename_i e1 h1
    cases e
    refine ⟨w, en, _, _, sr, h1, fun H1 w1 sr1 t1 => ?_⟩
    refine iteF ?_
    exact k H1 w1 sr1 t1
theorem ow_or (ha : OB X a ta) (hb : OW X (.BoolOp .Or (b :: rest) pos) tb) : OW X (.BoolOp .Or (a :: b :: rest) pos) (mOrB ta tb) := pw_imp (pw_or ha hb) fun σ H Q ⟨w, en, d, en', sr, e, k⟩ => by
  unfold mOrB at e
  split at e
  · cases e
  · rename_i e1 h1
    cases e
    refine ⟨w, en, _, _, sr, h1, fun H1 w1 sr1 t1 => ?_⟩
    refine iteT ?_
    exact k H1 w1 sr1 t1
  · rename_i e1 h1
    refine ⟨w, en, _, e1, sr, h1, fun H1 w1 sr1 t1 => ?_⟩
    refine iteF ?_
    exact ⟨w1, e1, d, en', sr1, e, fun H2 w2 sr2 t2 => k H2 w2 sr2 (t1.trans t2)⟩
theorem ob_w {e : Expr} {m : MB} (h : OW X e m) : OB X e m := h.pt
theorem ob_not (ha : OB X a ta) : OB X (.UnaryOp .Not a pos) (mNotB ta) := pt_imp (pt_not ha) fun σ H Q ⟨w, en, d, en', sr, e, k⟩ => by
  unfold mNotB at e
  split at e
  · cases e
  · rename_i bb e1 h1
    cases e
    exact ⟨w, en, _, _, sr, h1, k⟩
theorem oe_one {op : BoolOp} {m : ME} (h : OE X a m) : OE X (.BoolOp op [a] pos) m := pe_one h
theorem oe_and (ha : OE X a ma) (hb : OE X (.BoolOp .And (b :: rest) pos) mb) : OE X (.BoolOp .And (a :: b :: rest) pos) (mAnd ma mb) := pe_imp (pe_and ha hb) fun σ H Q ⟨w, en, d, en', sr, e, k⟩ => by
  unfold mAnd at e
  split at e
  · rename_i e1 h1
    refine ⟨w, en, _, e1, sr, h1, fun v H1 w1 sr1 p1 t1 => ?_⟩
    cases p1
    refine ⟨true, rfl, ?_⟩
    refine iteT ?_
    exact ⟨w1, e1, d, en', sr1, e, fun v2 H2 w2 sr2 p2 t2 => k v2 H2 w2 sr2 p2 (t1.trans t2)⟩
  · rename_i e1 h1
    cases e
    refine ⟨w, en, _, _, sr, h1, fun v H1 w1 sr1 p1 t1 => ?_⟩
    cases p1
    refine ⟨false, rfl, ?_⟩
    refine iteF ?_
    exact k _ H1 w1 sr1 (.bl false) t1
  · cases e
theorem oe_or (ha : OE X a ma) (hb : OE X (.BoolOp .Or (b :: rest) pos) mb) : OE X (.BoolOp .Or (a :: b :: rest) pos) (mOr ma mb) := pe_imp (pe_or ha hb) fun σ H Q ⟨w, en, d, en', sr, e, k⟩ => by
  unfold mOr at e
  split at e
  · rename_i e1 h1
    cases e
    refine ⟨w, en, _, _, sr, h1, fun v H1 w1 sr1 p1 t1 => ?_⟩
    cases p1
    refine ⟨true, rfl, ?_⟩
    refine iteT ?_
    exact k _ H1 w1 sr1 (.bl true) t1
  · rename_i e1 h1
    refine ⟨w, en, _, e1, sr, h1, fun v H1 w1 sr1 p1 t1 => ?_⟩
    cases p1
    refine ⟨false, rfl, ?_⟩
    refine iteF ?_
    exact ⟨w1, e1, d, en', sr1, e, fun v2 H2 w2 sr2 p2 t2 => k v2 H2 w2 sr2 p2 (t1.trans t2)⟩
  · cases e
theorem oe_not (ha : OE X a ma) : OE X (.UnaryOp .Not a pos) (mNot ma) := pe_imp (pe_not ha) fun σ H Q ⟨w, en, d, en', sr, e, k⟩ => by
  unfold mNot at e
  split at e
  · rename_i bb e1 h1
    cases e
    refine ⟨w, en, _, _, sr, h1, fun v H1 w1 sr1 p1 t1 => ?_⟩
    cases p1
    exact ⟨_, rfl, k _ H1 w1 sr1 (.bl _) t1⟩
  · cases e
theorem oe_ifE (hc : OB X c tc) (ha : OE X a ma) (hb : OE X b mb) : OE X (.IfExp c a b pos) (mIfE tc ma mb) := pe_imp (pe_ifExp hc ha hb) fun σ H Q ⟨w, en, d, en', sr, e, k⟩ => by
  unfold mIfE at e
  split at e
  · cases e
  · rename_i e1 h1
    refine ⟨w, en, _, e1, sr, h1, fun H1 w1 sr1 t1 => ?_⟩
    refine iteT ?_
    exact ⟨w1, e1, d, en', sr1, e, fun v2 H2 w2 sr2 p2 t2 => k v2 H2 w2 sr2 p2 (t1.trans t2)⟩
  · rename_i e1 h1
    refine ⟨w, en, _, e1, sr, h1, fun H1 w1 sr1 t1 => ?_⟩
    refine iteF ?_
    exact ⟨w1, e1, d, en', sr1, e, fun v2 H2 w2 sr2 p2 t2 => k v2 H2 w2 sr2 p2 (t1.trans t2)⟩
end

/-! ### arguments, displays -/
def mNil : ML := fun en => some ([], en)
def mCons (a : ME) (r : ML) : ML := fun en => match a en with
  | none => none
  | some (x, e1) => match r e1 with
    | none => none
    | some (xs, e2) => some (x :: xs, e2)
/-- *a, .. -/
def mStar (a : ME) (r : ML) : ML := fun en => match a en with
  | some (.list ys, e1) => (match r e1 with
    | none => none
    | some (xs, e2) => some (ys ++ xs, e2))
  | some (.tuple ys, e1) => (match r e1 with
    | none => none
    | some (xs, e2) => some (ys ++ xs, e2))
  | _ => none
/-- a display is short enough -/
def shortB (n : Nat) : Bool := Nat.ble n 100000
theorem shortB_ok {n : Nat} (h : shortB n = true) : n ≤ sizeLine := Nat.le_trans (Nat.le_of_ble_eq_true h) (by decide)
theorem shortB_lt {n : Nat} (h : shortB n = true) : n < sizeLine := Nat.lt_of_le_of_lt (Nat.le_of_ble_eq_true h) (by decide)
def mTup (m : ML) : ME := fun en => match m en with
  | none => none
  | some (ds, e) => if shortB ds.length = true then some (.tuple ds, e) else none
def mShort (m : ML) : ML := fun en => match m en with
  | none => none
  | some (ds, e) => if shortB ds.length = true then some (ds, e) else none
/-- a new list as a value -/
def mVal (m : ML) : ME := fun en => match m en with
  | none => none
  | some (ds, e) => some (.list ds, e)
section
variable {X : Cx} {e : Expr} {es : List Expr} {m : ME} {ms : ML} {pos : Pos}
theorem oa_nil : OA X [] mNil := pa_imp pa_nil fun σ H Q ⟨w, en, d, en', sr, e, k⟩ => by
  cases e
  exact k [] H w sr .nil .refl
theorem oa_cons (ha : OE X e m) (hr : OA X es ms) (hs : starEach (e :: es) X.env = (false, eval e X.env) :: starEach es X.env := by rfl) : OA X (e :: es) (mCons m ms) := pa_imp (pa_cons ha hr hs) fun σ H Q ⟨w, en, d, en', sr, e, k⟩ => by
  unfold mCons at e
  split at e
  · cases e
  rename_i x e1 h1
  split at e
  · cases e
  rename_i xs e2 h2
  cases e
  refine ⟨w, en, x, e1, sr, h1, fun v H1 w1 sr1 p1 t1 => ⟨w1, e1, xs, _, sr1, h2, fun vs H2 w2 sr2 p2 t2 => ?_⟩⟩
  exact k _ H2 w2 sr2 (.cons (t2.dp p1) p2) (t1.trans t2)
theorem oa_star {sp : Pos} (ha : OE X e m) (hr : OA X es ms) (hs : starEach (.Starred e sp :: es) X.env = (true, eval e X.env) :: starEach es X.env := by rfl) : OA X (.Starred e sp :: es) (mStar m ms) := pa_imp (StX.pa_star ha hr hs) fun σ H Q ⟨w, en, d, en', sr, e, k⟩ => by
  unfold mStar at e
  split at e
  · rename_i ys e1 h1
    split at e
    · cases e
    rename_i xs e2 h2
    cases e
    refine ⟨w, en, _, e1, sr, h1, fun v H1 w1 sr1 p1 t1 => ?_⟩
    cases p1 with
    | lst hs ha =>
      refine ⟨_, _, rfl, .inr (.inl (sub_r less_sub hs)), w1, e1, xs, _, sr1, h2, fun vs H2 w2 sr2 p2 t2 => ?_⟩
      exact k _ H2 w2 sr2 ((t2.dpAll ha).app p2) (t1.trans t2)
  · rename_i ys e1 h1
    split at e
    · cases e
    rename_i xs e2 h2
    cases e
    refine ⟨w, en, _, e1, sr, h1, fun v H1 w1 sr1 p1 t1 => ?_⟩
    cases p1 with
    | tup hs ha =>
      refine ⟨_, _, rfl, .inl (SqT.of (less_sub _ _ hs)), w1, e1, xs, _, sr1, h2, fun vs H2 w2 sr2 p2 t2 => ?_⟩
      exact k _ H2 w2 sr2 ((t2.dpAll ha).app p2) (t1.trans t2)
  · cases e
theorem oe_tup {x1 : Nat} (h : OA X es ms) : OE X (.Tuple es x1 pos) (mTup ms) := pe_imp (pe_tup h) fun σ H Q ⟨w, en, d, en', sr, e, k⟩ => by
  unfold mTup at e
  split at e
  · cases e
  rename_i ds e1 h1
  split at e
  · rename_i hs
    cases e
    refine ⟨w, en, ds, _, sr, h1, fun vs H1 w1 sr1 p1 t1 => ⟨by rw [p1.len]; exact shortB_ok hs, fun p hp => ?_⟩⟩
    refine k _ _ w1 (sr1.grow (.new hp)) ?_ (t1.trans (.grow (.new hp)))
    have np : ¬ w1.all p := fun z => sr1.allThere z hp
    exact .tup (less_some.mpr ⟨np, upd_same⟩) (DqAll.keep (less_keep (.new hp)) ds vs p1)
  · cases e
theorem of_lst (h : OA X es ms) : OF X (.List es pos) (mShort ms) := pe_imp (pe_lst h) fun σ H Q ⟨w, en, d, en', sr, e, k⟩ => by
  unfold mShort at e
  split at e
  · cases e
  rename_i ds e1 h1
  split at e
  · rename_i hs
    cases e
    refine ⟨w, en, d, _, sr, h1, fun vs H1 w1 sr1 p1 t1 => ⟨by rw [p1.len]; exact shortB_ok hs, fun p hp => ?_⟩⟩
    have np : ¬ w1.all p := fun z => sr1.allThere z hp
    have h0 : H p = none := t1.free hp
    refine k p vs _ w1 h0 upd_same (sr1.hide hp) ?_ (t1.trans (.grow (.new hp)))
    exact DqAll.keep (less_mono fun a o n h => ⟨by rw [upd_ne (ne_of_none h hp)]; exact h, fun z => (hide_all.mp z).elim n fun e => by subst e; rw [hp] at h; cases h⟩) _ vs p1
  · cases e
end
end Yd

set_option Elab.async false
set_option linter.all false
set_option maxRecDepth 100000
set_option maxHeartbeats 1000000
set_option autoImplicit false
namespace Yd
open PySem PySem.Spec PyProof.Rows L2

def CRm (X : Cx) : Prop := X.A.units + 200 < cLine
theorem crm_of {X : Cx} {k : Nat} (hr : Room k X.A) : CRm X := by
  have := hr.un
  show X.A.units + 200 < cLine
  omega
theorem CRm.u64 {X : Cx} (h : CRm X) : X.A.units + 64 < cLine := by
  have h : X.A.units + 200 < cLine := h
  omega
theorem CRm.u65 {X : Cx} (h : CRm X) : X.A.units + 65 < cLine := by
  have h : X.A.units + 200 < cLine := h
  omega
theorem CRm.u1 {X : Cx} (h : CRm X) : X.A.units < cLine := by
  have h : X.A.units + 200 < cLine := h
  omega

section
variable {X : Cx} {pins : List (Addr × Obj)} {σ : L2.St} {H : Hp} {s : Shared}
theorem Inv.rdl {l : Addr} {xs : List V} (I : Inv X pins σ H s) (h : Rd H l (.lst xs)) : xs.length ≤ sizeLine ∧ ∃ (its : List Value) (n : Nat), Vals xs its ∧ s.heap.get? l = some { cls := .type "list", data := .seq its.toArray n } := by
  obtain ⟨z, its, n, r, e⟩ := h.ok I.hok
  exact ⟨z, its, n, r, e⟩
/-- list + list -/
def rCatL : R2 := fun x y H Q => ∃ a b xs ys, x = .ref a ∧ y = .ref b ∧ Rd H a (.lst xs) ∧ Rd H b (.lst ys) ∧ xs.length + ys.length ≤ sizeLine ∧ ∀ p, H p = none → Q (.ref p) (upd H p (.lst (xs ++ ys)))
theorem op_catL : OpR X (binaryOp .Add) rCatL := by
  intro pins s σ H x y v u Q I rx ry h
  obtain ⟨a, b, xs, ys, rfl, rfl, ha, hb, hz, q⟩ := h
  cases rx
  cases ry
  obtain ⟨z, is1, n1, r1, e1⟩ := Inv.rdl I ha
  obtain ⟨z2, is2, n2, r2, e2⟩ := Inv.rdl I hb
  have l1 := r1.length
  have l2 := r2.length
  have sz : is1.toArray.size + is2.toArray.size ≤ sizeLine := by
    rw [List.size_toArray, List.size_toArray]
    omega
  refine PySem.P.add_list (hsz := sz) e1 e2 ?_
  have cat : is1.toArray ++ is2.toArray = (is1 ++ is2).toArray := by simp
  rw [cat]
  have J := Inv.lnew (t' := s.toks) I (Vals.append r1 r2) (by rw [List.length_append]; exact hz)
  exact ⟨V.ref s.heap.objs.size, _, J, rfl, q _ (Inv.fresh I)⟩
end

/-! ### + - * // % ** -/
def b2I (b : Bool) : Int := if b then 1 else 0
def gAdd : Dt → Dt → Option Dt
  | .int i, .int j => some (.int (i + j))
  | .int i, .bool b => some (.int (i + b2i b))
  | .tuple xs, .tuple ys => if shortB (xs.length + ys.length) = true then some (.tuple (xs ++ ys)) else none
  | .list xs, .list ys => if shortB (xs.length + ys.length) = true then some (.list (xs ++ ys)) else none
  | .str x, .str y => if shortB (x.length + y.length) = true then some (.str (x ++ y)) else none
  | _, _ => none
def gSub : Dt → Dt → Option Dt
  | .int i, .int j => some (.int (i - j))
  | _, _ => none
theorem log2_small {n : Nat} (h : Nat.blt n (2 ^ 4000) = true) : n.log2 < 4000 := by
  have h : n < 2 ^ 4000 := Nat.le_of_ble_eq_true h
  by_cases e : n = 0
  · rw [e]
    decide
  · exact (Nat.log2_lt e).mpr h
/-- products of numbers that are not too great -/
def gMul : Dt → Dt → Option Dt
  | .int i, .int j => if Nat.blt i.natAbs (2 ^ 4000) && Nat.blt j.natAbs (2 ^ 4000) then some (.int (i * j)) else none
  | _, _ => none
def gDiv : Dt → Dt → Option Dt
  | .int i, .int j => if decide (0 < j) && Nat.blt j.natAbs (2 ^ 4000) then some (.int (i / j)) else none
  | _, _ => none
def gMod : Dt → Dt → Option Dt
  | .int i, .int j => if decide (0 < j) then some (.int (i % j)) else none
  | _, _ => none
def gPow : Dt → Dt → Option Dt
  | .int i, .int j => if decide (0 ≤ j) && (decide (j ≤ 1000) && Nat.blt i.natAbs (2 ^ 1000)) then some (.int (i ^ j.toNat)) else none
  | _, _ => none
def gXor : Dt → Dt → Option Dt
  | .int i, .int j => some (.int (Builtin.bitXor i j))
  | _, _ => none
def gNeg : Dt → Option Dt
  | .int i => some (.int (-i))
  | _ => none
section
variable {X : Cx} {K : PySem.W.Frag}
theorem B2.or {r r' : R2} {g g' h : Dt → Dt → Option Dt} (a : B2 K r g) (b : B2 K r' g') (e : ∀ x y d, h x y = some d → g x y = some d ∨ g' x y = some d) : B2 K (fun x y H Q => r x y H Q ∨ r' x y H Q) h := fun H C x y da db d Q hc px py q k => by
  rcases e da db d q with z | z
  · exact .inl (a H C x y da db d Q hc px py z k)
  · exact .inr (b H C x y da db d Q hc px py z k)
def rAddY (K : PySem.W.Frag) : R2 := fun x y H Q => rI0 (fun i j => .int (i + j)) x y H Q ∨ (∃ i k, x = .int i ∧ y = .bl k ∧ Q (.int (i + b2i k)) H) ∨ rCatA K x y H Q ∨ rCatL x y H Q ∨ (∃ i j, x = .str i ∧ y = .str j ∧ i.length + j.length ≤ sizeLine ∧ Q (.str (i ++ j)) H)
theorem y_add : OpR X (binaryOp .Add) (rAddY X.K) := op_add.or (op_add_ib.or (op_catA.or (op_catL.or op_add_str)))
theorem new_tup {H : Hp} {C : Addr → Prop} {p : Addr} {vs : List V} {ds : List Dt} (hc : ∀ c, C c → H c ≠ none) (hp : H p = none) (h : DqAll K (less H C) vs ds) : Dq K (less (upd H p (.tup vs)) C) (.ref p) (.tuple ds) :=
  .tup (less_some.mpr ⟨fun z => hc p z hp, upd_same⟩) (DqAll.keep (less_keep (.new hp)) ds vs h)
theorem new_lst {H : Hp} {C : Addr → Prop} {p : Addr} {vs : List V} {ds : List Dt} (hc : ∀ c, C c → H c ≠ none) (hp : H p = none) (h : DqAll K (less H C) vs ds) : Dq K (less (upd H p (.lst vs)) C) (.ref p) (.list ds) :=
  .lst (.inl (less_some.mpr ⟨fun z => hc p z hp, upd_same⟩)) (DqAll.keep (less_keep (.new hp)) ds vs h)
theorem b_add : B2 K (rAddY K) gAdd := fun H C x y da db d Q hc px py q k => by
  unfold gAdd at q
  split at q
  · cases q
    cases px
    cases py
    exact .inl ⟨_, _, rfl, rfl, k _ H (.refl H) (.int _)⟩
  · cases q
    cases px
    cases py
    exact .inr (.inl ⟨_, _, rfl, rfl, k _ H (.refl H) (.int _)⟩)
  · rename_i xs ys
    split at q
    · rename_i hs
      cases q
      cases px with
      | tup hx ax =>
        cases py with
        | tup hy ay =>
          refine .inr (.inr (.inl ⟨_, _, _, _, rfl, rfl, SqT.of (less_sub _ _ hx), SqT.of (less_sub _ _ hy), by rw [ax.len, ay.len]; exact shortB_ok hs, fun e => ?_, fun e1 e2 => ?_, fun e1 e2 p hp => ?_⟩))
          · subst e
            cases ax
            exact k _ H (.refl H) (.tup hy ay)
          · subst e2
            cases ay
            rw [List.append_nil] at k
            exact k _ H (.refl H) (.tup hx ax)
          · exact k _ _ (.new hp) (new_tup hc hp (ax.app ay))
    · cases q
  · rename_i xs ys
    split at q
    · rename_i hs
      cases q
      cases px with
      | lst hx ax =>
        cases py with
        | lst hy ay => exact .inr (.inr (.inr (.inl ⟨_, _, _, _, rfl, rfl, sub_r less_sub hx, sub_r less_sub hy, by rw [ax.len, ay.len]; exact shortB_ok hs, fun p hp => k _ _ (.new hp) (new_lst hc hp (ax.app ay))⟩)))
    · cases q
  · split at q
    · rename_i hs
      cases q
      cases px
      cases py
      exact .inr (.inr (.inr (.inr ⟨_, _, rfl, rfl, shortB_ok hs, k _ H (.refl H) (.str _)⟩)))
    · cases q
  · cases q
theorem y_sub : OpR X (binaryOp .Sub) (rI0 fun i j => .int (i - j)) := op_sub
theorem b_sub : B2 K (rI0 fun i j => .int (i - j)) gSub := fun H C x y da db d Q hc px py q k => by
  unfold gSub at q
  split at q
  · cases q
    cases px
    cases py
    exact ⟨_, _, rfl, rfl, k _ H (.refl H) (.int _)⟩
  · cases q
theorem y_mul : OpR X (binaryOp .Mult) (rI CMulW fun i j => .int (i * j)) := op_mulW
theorem b_mul : B2 K (rI CMulW fun i j => .int (i * j)) gMul := fun H C x y da db d Q hc px py q k => by
  unfold gMul at q
  split at q
  · split at q
    · rename_i h
      cases q
      cases px
      cases py
      rw [Bool.and_eq_true] at h
      exact ⟨_, _, rfl, rfl, by
        have h1 := log2_small h.1
        have h2 := log2_small h.2
        unfold CMulW
        omega, k _ H (.refl H) (.int _)⟩
    · cases q
  · cases q
theorem y_div : OpR X (binaryOp .FloorDiv) (rI CDivW fun i j => .int (i / j)) := op_fdivW
theorem b_div : B2 K (rI CDivW fun i j => .int (i / j)) gDiv := fun H C x y da db d Q hc px py q k => by
  unfold gDiv at q
  split at q
  · split at q
    · rename_i h
      cases q
      cases px
      cases py
      rw [Bool.and_eq_true] at h
      exact ⟨_, _, rfl, rfl, by
        have h1 := log2_small h.2
        exact ⟨of_decide_eq_true h.1, by omega⟩, k _ H (.refl H) (.int _)⟩
    · cases q
  · cases q
theorem y_mod : OpR X (binaryOp .Mod) (rI (fun _ j => 0 < j) fun i j => .int (i % j)) := op_mod
theorem b_mod : B2 K (rI (fun _ j => 0 < j) fun i j => .int (i % j)) gMod := fun H C x y da db d Q hc px py q k => by
  unfold gMod at q
  split at q
  · split at q
    · rename_i h
      cases q
      cases px
      cases py
      exact ⟨_, _, rfl, rfl, by simpa using h, k _ H (.refl H) (.int _)⟩
    · cases q
  · cases q
def CPowW (i j : Int) : Prop := 0 ≤ j ∧ j ≤ 1000 ∧ i.natAbs < 2 ^ 1000
theorem y_pow : OpR X (binaryOp .Pow) (rI CPowW fun i j => .int (i ^ j.toNat)) := opI fun i j t u s E Q hc q => by
  have hb : Builtin.Int.intBits i ≤ 1000 := PyProof.Rows.intBits_le hc.2.2
  have hz : (Builtin.Int.intBits i : Int) * j ≤ 2 ^ 27 := by
    have h1 : (Builtin.Int.intBits i : Int) ≤ 1000 := by exact_mod_cast hb
    have h2 := Int.mul_le_mul h1 hc.2.1 hc.1 (by decide)
    refine Int.le_trans h2 (by decide)
  exact pow_int hc.1 hz q
theorem b_pow : B2 K (rI CPowW fun i j => .int (i ^ j.toNat)) gPow := fun H C x y da db d Q hc px py q k => by
  unfold gPow at q
  split at q
  · split at q
    · rename_i h
      cases q
      cases px
      cases py
      refine ⟨_, _, rfl, rfl, ?_, k _ H (.refl H) (.int _)⟩
      simp only [Bool.and_eq_true, decide_eq_true_eq, Nat.blt_eq] at h
      exact ⟨h.1, h.2.1, h.2.2⟩
    · cases q
  · cases q
theorem y_xor : OpR X (binaryOp .BitXor) (rI0 fun i j => .int (Builtin.bitXor i j)) := op_xor
theorem b_xor : B2 K (rI0 fun i j => .int (Builtin.bitXor i j)) gXor := fun H C x y da db d Q hc px py q k => by
  unfold gXor at q
  split at q
  · cases q
    cases px
    cases py
    exact ⟨_, _, rfl, rfl, k _ H (.refl H) (.int _)⟩
  · cases q
theorem y_neg : UnR X (unaryOp .USub) (rU fun i => .int (-i)) := un_neg
theorem b_neg : B1 K (rU fun i => .int (-i)) gNeg := fun H C x da d Q hc px q k => by
  unfold gNeg at q
  split at q
  · cases q
    cases px
    exact ⟨_, rfl, k _ H (.refl H) (.int _)⟩
  · cases q
end

/-! ### comparisons -/
def gEq (a b : Dt) : Option Dt := if SeqAt.shaped a && SeqAt.shaped b then some (.bool (PyData.eqv a b)) else none
def gNe (a b : Dt) : Option Dt := if SeqAt.shaped a && SeqAt.shaped b then some (.bool (!PyData.eqv a b)) else none
/-- data that can be held against each other -/
def okLt (a b : Dt) : Bool := PySem.W.alike a b && (SeqAt.shaped a && (SeqAt.shaped b && (match a with | .none => false | _ => true)))
def gCm (fi : Int → Int → Bool) (f : Dt → Dt → Bool) : Dt → Dt → Option Dt
  | .int i, .int j => some (.bool (fi i j))
  | a, b => if okLt a b then some (.bool (f a b)) else none
def gLt : Dt → Dt → Option Dt := gCm (fun i j => decide (i < j)) fun a b => PySem.W.dataLt a b
def gGt : Dt → Dt → Option Dt := gCm (fun i j => decide (j < i)) fun a b => PySem.W.dataLt b a
def gLe : Dt → Dt → Option Dt := gCm (fun i j => decide (i ≤ j)) fun a b => !PySem.W.dataLt b a
def gGe : Dt → Dt → Option Dt := gCm (fun i j => decide (j ≤ i)) fun a b => !PySem.W.dataLt a b
def gIn (a : Dt) : Dt → Option Dt
  | .list xs => if SeqAt.shaped a && SeqAt.shaped (.list xs) then some (.bool (xs.any fun z => PyData.eqv z a)) else none
  | .tuple xs => if SeqAt.shaped a && SeqAt.shaped (.tuple xs) then some (.bool (xs.any fun z => PyData.eqv z a)) else none
  | _ => none
def gNin (a : Dt) : Dt → Option Dt
  | .list xs => if SeqAt.shaped a && SeqAt.shaped (.list xs) then some (.bool (!xs.any fun z => PyData.eqv z a)) else none
  | .tuple xs => if SeqAt.shaped a && SeqAt.shaped (.tuple xs) then some (.bool (!xs.any fun z => PyData.eqv z a)) else none
  | _ => none
/-- is None; is of truth values -/
def gIs : Dt → Dt → Option Dt
  | .none, .none => some (.bool true)
  | .int _, .none => some (.bool false)
  | .bool _, .none => some (.bool false)
  | .str _, .none => some (.bool false)
  | .list _, .none => some (.bool false)
  | .tuple _, .none => some (.bool false)
  | .bool a, .bool b => some (.bool (a == b))
  | _, _ => none
def gIsNot (a b : Dt) : Option Dt := match gIs a b with
  | some (.bool c) => some (.bool (!c))
  | _ => none
section
variable {X : Cx} {K : PySem.W.Frag}
theorem y_eq (hu : CRm X) : OpR X (compareOp .Eq) (rEqD X.K) := op_eqD hu.u64
theorem y_ne (hu : CRm X) : OpR X (compareOp .NotEq) (rNeD X.K) := op_neD hu.u64
theorem b_eq : B2 K (rEqD K) gEq := fun H C x y da db d Q hc px py q k => by
  unfold gEq at q
  split at q
  · rename_i h
    cases q
    rw [Bool.and_eq_true] at h
    exact ⟨da, db, Dq.dp _ _ (SeqAt.canLay_of_shaped h.1) (Dq.keep less_sub _ _ px), Dq.dp _ _ (SeqAt.canLay_of_shaped h.2) (Dq.keep less_sub _ _ py), h.1, h.2, k _ H (.refl H) (.bl _)⟩
  · cases q
theorem b_ne : B2 K (rNeD K) gNe := fun H C x y da db d Q hc px py q k => by
  unfold gNe at q
  split at q
  · rename_i h
    cases q
    rw [Bool.and_eq_true] at h
    exact ⟨da, db, Dq.dp _ _ (SeqAt.canLay_of_shaped h.1) (Dq.keep less_sub _ _ px), Dq.dp _ _ (SeqAt.canLay_of_shaped h.2) (Dq.keep less_sub _ _ py), h.1, h.2, k _ H (.refl H) (.bl _)⟩
  · cases q
/-- a comparison's answer f of two data -/
def rCm (K : PySem.W.Frag) (f : Dt → Dt → Bool) : R2 := fun x y H Q => ∃ da db, Dp K H x da ∧ Dp K H y db ∧ PySem.W.alike da db = true ∧ SeqAt.shaped da = true ∧ da ≠ .none ∧ Q (.bl (f da db)) H
theorem room_min {A : Around} {da db : Dt} (h : SeqAt.shaped da = true) (hu : A.units + 64 < cLine) : A.units + min da.depth db.depth < cLine := by
  have h1 := SeqAt.depth_of_shaped h
  have h2 : min da.depth db.depth ≤ da.depth := Nat.min_le_left _ _
  omega
theorem y_ltD (hu : CRm X) : OpR X (compareOp .Lt) (rCm X.K fun a b => PySem.W.dataLt a b) := by
  intro pins s σ H x y v u Q I rx ry h
  obtain ⟨d, e, hd, he, al, sd, ne, q⟩ := h
  obtain ⟨as, r1⟩ := Dp.reads I d x v hd rx
  obtain ⟨bs, r2⟩ := Dp.reads I e y u he ry
  exact PySem.W.lt_data r1 r2 al ne (room_min sd hu.u64) ⟨.bl _, H, I, rfl, q⟩
theorem y_gtD (hu : CRm X) : OpR X (compareOp .Gt) (rCm X.K fun a b => PySem.W.dataLt b a) := by
  intro pins s σ H x y v u Q I rx ry h
  obtain ⟨d, e, hd, he, al, sd, ne, q⟩ := h
  obtain ⟨as, r1⟩ := Dp.reads I d x v hd rx
  obtain ⟨bs, r2⟩ := Dp.reads I e y u he ry
  exact PySem.W.gt_data r1 r2 al ne (room_min sd hu.u64) ⟨.bl _, H, I, rfl, q⟩
theorem y_leD (hu : CRm X) : OpR X (compareOp .LtE) (rCm X.K fun a b => !PySem.W.dataLt b a) := by
  intro pins s σ H x y v u Q I rx ry h
  obtain ⟨d, e, hd, he, al, sd, ne, q⟩ := h
  obtain ⟨as, r1⟩ := Dp.reads I d x v hd rx
  obtain ⟨bs, r2⟩ := Dp.reads I e y u he ry
  exact PySem.W.le_data r1 r2 al ne (room_min sd hu.u64) ⟨.bl _, H, I, rfl, q⟩
theorem y_geD (hu : CRm X) : OpR X (compareOp .GtE) (rCm X.K fun a b => !PySem.W.dataLt a b) := by
  intro pins s σ H x y v u Q I rx ry h
  obtain ⟨d, e, hd, he, al, sd, ne, q⟩ := h
  obtain ⟨as, r1⟩ := Dp.reads I d x v hd rx
  obtain ⟨bs, r2⟩ := Dp.reads I e y u he ry
  exact PySem.W.ge_data r1 r2 al ne (room_min sd hu.u64) ⟨.bl _, H, I, rfl, q⟩
theorem b_cm {f : Dt → Dt → Bool} {fi : Int → Int → Bool} : B2 K (fun x y H Q => rI0 (fun i j => .bl (fi i j)) x y H Q ∨ rCm K f x y H Q) (gCm fi f) := fun H C x y da db d Q hc px py q k => by
  unfold gCm at q
  split at q
  · cases q
    cases px
    cases py
    exact .inl ⟨_, _, rfl, rfl, k _ H (.refl H) (.bl _)⟩
  · split at q
    · rename_i h
      cases q
      unfold okLt at h
      simp only [Bool.and_eq_true] at h
      refine .inr ⟨da, db, Dq.dp _ _ (SeqAt.canLay_of_shaped h.2.1) (Dq.keep less_sub _ _ px), Dq.dp _ _ (SeqAt.canLay_of_shaped h.2.2.1) (Dq.keep less_sub _ _ py), h.1, h.2.1, fun e => ?_, k _ H (.refl H) (.bl _)⟩
      subst e
      exact absurd h.2.2.2 (by simp)
    · cases q
theorem y_lt (hu : CRm X) : OpR X (compareOp .Lt) (fun x y H Q => rI0 (fun i j => .bl (decide (i < j))) x y H Q ∨ rCm X.K (fun a b => PySem.W.dataLt a b) x y H Q) := op_lt.or (y_ltD hu)
theorem y_gt (hu : CRm X) : OpR X (compareOp .Gt) (fun x y H Q => rI0 (fun i j => .bl (decide (j < i))) x y H Q ∨ rCm X.K (fun a b => PySem.W.dataLt b a) x y H Q) := op_gt.or (y_gtD hu)
theorem y_le (hu : CRm X) : OpR X (compareOp .LtE) (fun x y H Q => rI0 (fun i j => .bl (decide (i ≤ j))) x y H Q ∨ rCm X.K (fun a b => !PySem.W.dataLt b a) x y H Q) := op_le.or (y_leD hu)
theorem y_ge (hu : CRm X) : OpR X (compareOp .GtE) (fun x y H Q => rI0 (fun i j => .bl (decide (j ≤ i))) x y H Q ∨ rCm X.K (fun a b => !PySem.W.dataLt a b) x y H Q) := op_ge.or (y_geD hu)
theorem b_lt : B2 K (fun x y H Q => rI0 (fun i j => .bl (decide (i < j))) x y H Q ∨ rCm K (fun a b => PySem.W.dataLt a b) x y H Q) gLt := b_cm
theorem b_gt : B2 K (fun x y H Q => rI0 (fun i j => .bl (decide (j < i))) x y H Q ∨ rCm K (fun a b => PySem.W.dataLt b a) x y H Q) gGt := b_cm
theorem b_le : B2 K (fun x y H Q => rI0 (fun i j => .bl (decide (i ≤ j))) x y H Q ∨ rCm K (fun a b => !PySem.W.dataLt b a) x y H Q) gLe := b_cm
theorem b_ge : B2 K (fun x y H Q => rI0 (fun i j => .bl (decide (j ≤ i))) x y H Q ∨ rCm K (fun a b => !PySem.W.dataLt a b) x y H Q) gGe := b_cm
/-- in, not in -/
def rInY (K : PySem.W.Frag) (neg : Bool) : R2 := fun x y H Q => ∃ d xs e, Dp K H x d ∧ (e = .list xs ∨ e = .tuple xs) ∧ Dp K H y e ∧ SeqAt.shaped d = true ∧ SeqAt.shaped e = true ∧ Q (.bl (if neg then !xs.any fun z => PyData.eqv z d else xs.any fun z => PyData.eqv z d)) H
theorem room_in {A : Around} {xs : List Dt} {d : Dt} (h : SeqAt.shaped d = true) (hu : A.units + 65 < cLine) : A.units + 1 + min (PyData.depthAll xs) d.depth < cLine := by
  have h1 := SeqAt.depth_of_shaped h
  have h2 : min (PyData.depthAll xs) d.depth ≤ d.depth := Nat.min_le_right _ _
  omega
theorem y_in (hu : CRm X) : OpR X (compareOp .In) (rInY X.K false) := by
  intro pins s σ H x y v u Q I rx ry h
  obtain ⟨d, xs, e, hd, ee, he, sd, se, q⟩ := h
  obtain ⟨as, r1⟩ := Dp.reads I d x v hd rx
  obtain ⟨bs, r2⟩ := Dp.reads I e y u he ry
  rcases ee with rfl | rfl
  · exact SeqAt.in_list_reads r2 r1 (SeqAt.canLay_of_shaped se) (SeqAt.canLay_of_shaped sd) (room_in sd hu.u65) ⟨.bl _, H, I, rfl, q⟩
  · exact SeqAt.in_tuple_reads r2 r1 (SeqAt.canLay_of_shaped se) (SeqAt.canLay_of_shaped sd) (room_in sd hu.u65) ⟨.bl _, H, I, rfl, q⟩
theorem y_nin (hu : CRm X) : OpR X (compareOp .NotIn) (rInY X.K true) := by
  intro pins s σ H x y v u Q I rx ry h
  obtain ⟨d, xs, e, hd, ee, he, sd, se, q⟩ := h
  obtain ⟨as, r1⟩ := Dp.reads I d x v hd rx
  obtain ⟨bs, r2⟩ := Dp.reads I e y u he ry
  rcases ee with rfl | rfl
  · exact SeqAt.notIn_list_reads r2 r1 (SeqAt.canLay_of_shaped se) (SeqAt.canLay_of_shaped sd) (room_in sd hu.u65) ⟨.bl _, H, I, rfl, q⟩
  · exact SeqAt.notIn_tuple_reads r2 r1 (SeqAt.canLay_of_shaped se) (SeqAt.canLay_of_shaped sd) (room_in sd hu.u65) ⟨.bl _, H, I, rfl, q⟩
theorem b_in : B2 K (rInY K false) gIn := fun H C x y da db d Q hc px py q k => by
  unfold gIn at q
  split at q
  · split at q
    · rename_i h
      cases q
      rw [Bool.and_eq_true] at h
      exact ⟨da, _, _, Dq.dp _ _ (SeqAt.canLay_of_shaped h.1) (Dq.keep less_sub _ _ px), .inl rfl, Dq.dp _ _ (SeqAt.canLay_of_shaped h.2) (Dq.keep less_sub _ _ py), h.1, h.2, k _ H (.refl H) (.bl _)⟩
    · cases q
  · split at q
    · rename_i h
      cases q
      rw [Bool.and_eq_true] at h
      exact ⟨da, _, _, Dq.dp _ _ (SeqAt.canLay_of_shaped h.1) (Dq.keep less_sub _ _ px), .inr rfl, Dq.dp _ _ (SeqAt.canLay_of_shaped h.2) (Dq.keep less_sub _ _ py), h.1, h.2, k _ H (.refl H) (.bl _)⟩
    · cases q
  · cases q
theorem b_nin : B2 K (rInY K true) gNin := fun H C x y da db d Q hc px py q k => by
  unfold gNin at q
  split at q
  · split at q
    · rename_i h
      cases q
      rw [Bool.and_eq_true] at h
      exact ⟨da, _, _, Dq.dp _ _ (SeqAt.canLay_of_shaped h.1) (Dq.keep less_sub _ _ px), .inl rfl, Dq.dp _ _ (SeqAt.canLay_of_shaped h.2) (Dq.keep less_sub _ _ py), h.1, h.2, k _ H (.refl H) (.bl _)⟩
    · cases q
  · split at q
    · rename_i h
      cases q
      rw [Bool.and_eq_true] at h
      exact ⟨da, _, _, Dq.dp _ _ (SeqAt.canLay_of_shaped h.1) (Dq.keep less_sub _ _ px), .inr rfl, Dq.dp _ _ (SeqAt.canLay_of_shaped h.2) (Dq.keep less_sub _ _ py), h.1, h.2, k _ H (.refl H) (.bl _)⟩
    · cases q
  · cases q
end
end Yd

set_option Elab.async false
set_option linter.all false
set_option maxRecDepth 100000
set_option maxHeartbeats 1000000
set_option autoImplicit false
namespace Yd
open PySem PySem.Spec PyProof.Rows L2

/-! ### subscripts -/
theorem DqAll.atI {K : PySem.W.Frag} {H : Hp} {vs : List V} {ds : List Dt} {i : Int} {d : Dt} (h : DqAll K H vs ds) (e : atI ds i = some d) : ∃ v, atI vs i = some v ∧ Dq K H v d := by
  unfold L2.atI at e ⊢
  rw [h.len]
  cases q : ixN ds.length i with
  | none => rw [q] at e; cases e
  | some j =>
    rw [q] at e
    obtain ⟨v, e1, e2⟩ := h.at (show ds[j]? = some d from e)
    exact ⟨v, e1, e2⟩
theorem atI_ints {ns : List Int} {i : Int} {d : Dt} (h : L2.atI (ns.map PyData.int) i = some d) : ∃ n, L2.atI (ns.map V.int) i = some (.int n) ∧ d = .int n := by
  unfold L2.atI at h ⊢
  rw [List.length_map] at h ⊢
  cases q : ixN ns.length i with
  | none => rw [q] at h; cases h
  | some j =>
    rw [q] at h
    have h : (ns.map PyData.int)[j]? = some d := h
    rw [List.getElem?_map] at h
    show ∃ n, (ns.map V.int)[j]? = some (.int n) ∧ d = .int n
    rw [List.getElem?_map]
    cases z : ns[j]? with
    | none => rw [z] at h; cases h
    | some n =>
      rw [z] at h
      cases h
      exact ⟨n, rfl, rfl⟩
def gIx : Dt → Dt → Option Dt
  | .list xs, .int i => L2.atI xs i
  | .tuple xs, .int i => L2.atI xs i
  | .dict [(.none, .list xs)], .int i => L2.atI xs i
  | .str z, .int i => if shortB z.length = true then (match L2.atI z.cps.toList i with | some c => some (.str ⟨#[c]⟩) | none => none) else none
  | _, _ => none
theorem b_ix {K : PySem.W.Frag} : B2 K (rIx K) gIx := fun H C x y da db d Q hc px py q k => by
  unfold gIx at q
  split at q
  · cases py
    cases px with
    | lst hx ax =>
      obtain ⟨v, e1, e2⟩ := DqAll.atI ax q
      exact .inl ⟨_, _, _, _, rfl, rfl, .inl (sub_r less_sub hx), e1, k _ H (.refl H) e2⟩
  · cases py
    cases px with
    | tup hx ax =>
      obtain ⟨v, e1, e2⟩ := DqAll.atI ax q
      exact .inr (.inl ⟨_, _, _, _, rfl, rfl, SqT.of (less_sub _ _ hx), e1, k _ H (.refl H) e2⟩)
  · cases py
    cases px with
    | scr hx =>
      obtain ⟨n, e1, e2⟩ := atI_ints q
      subst e2
      exact .inl ⟨_, _, _, _, rfl, rfl, sub_l less_sub hx, e1, k _ H (.refl H) (.int _)⟩
  · cases py
    cases px
    split at q
    · rename_i hs
      split at q
      · rename_i c e
        cases q
        exact .inr (.inr ⟨_, _, _, rfl, rfl, shortB_ok hs, e, k _ H (.refl H) (.str _)⟩)
      · cases q
    · cases q
  · cases q
section
variable {X : Cx} {a b : Expr} {ma mb : ME} {pos : Pos}
theorem oe_ix (ha : OE X a ma) (hb : OE X b mb) (hs : PlainIx b) : OE X (.Subscript a b pos) (mBin gIx ma mb) := pe_imp (pe_ix ix_seq ha hb hs) fun _ _ _ h => yBin b_ix h
end

/-! ### slices -/
abbrev MO := En → Option (Option Int × En)
def yO (K : PySem.W.Frag) (m : MO) : TO := fun σ H Q => ∃ w en o en', SR K w H en σ ∧ m en = some (o, en') ∧ ∀ H' w', SR K w' H' en' σ → Tr w w' H H' en en' → Q o H'
abbrev OO (X : Cx) (e : Option Expr) (m : MO) : Prop := PO X e (yO X.K m)
def mO0 : MO := fun en => some (none, en)
def mO1 (m : ME) : MO := fun en => match m en with
  | some (.int i, e) => some (some i, e)
  | _ => none
def cutD {α : Type} (xs : List α) (lo hi : Option Int) : List α := (xs.drop (HT.sIx xs.length 0 lo)).take (HT.sIx xs.length xs.length hi - HT.sIx xs.length 0 lo)
theorem DqAll.cut {K : PySem.W.Frag} {H : Hp} {vs : List V} {ds : List Dt} {lo hi : Option Int} (h : DqAll K H vs ds) : DqAll K H (cutV vs lo hi) (cutD ds lo hi) := by
  unfold cutV cutD
  rw [h.len]
  exact (h.drop _).take _
def gSl (d : Dt) (lo hi : Option Int) : Option Dt := match d with
  | .list xs => some (.list (cutD xs lo hi))
  | .dict [(.none, .list xs)] => some (.list (cutD xs lo hi))
  | .tuple xs => some (.tuple (cutD xs lo hi))
  | _ => none
def mSl (m : ME) (ml mh : MO) : ME := fun en => match m en with
  | none => none
  | some (d, e1) => match ml e1 with
    | none => none
    | some (lo, e2) => match mh e2 with
      | none => none
      | some (hi, e3) => match gSl d lo hi with
        | none => none
        | some r => some (r, e3)
def rSlY (K : PySem.W.Frag) : V → Option Int → Option Int → Hp → VK → Prop := fun x lo hi H Q => rSlA K x lo hi H Q ∨ rSlL K x lo hi H Q
section
variable {X : Cx} {e : Expr} {lo hi : Option Expr} {m : ME} {ml mh : MO} {pos p2 : Pos}
theorem po_imp {e : Option Expr} {t t' : TO} (h : PO X e t) (k : ∀ σ H Q, t' σ H Q → t σ H Q) : PO X e t' := ⟨fun pins s σ H Q I q => h.run pins s σ H Q I (k σ H Q q)⟩
theorem oo_none : OO X none mO0 := po_imp po_none fun σ H Q ⟨w, en, o, en', sr, e, k⟩ => by
  cases e
  exact k H w sr .refl
theorem oo_some (h : OE X e m) : OO X (some e) (mO1 m) := po_imp (po_some h) fun σ H Q ⟨w, en, o, en', sr, e, k⟩ => by
  unfold mO1 at e
  split at e
  · rename_i i e1 h1
    cases e
    refine ⟨w, en, _, _, sr, h1, fun v H1 w1 sr1 p1 t1 => ?_⟩
    cases p1
    exact ⟨i, rfl, k H1 w1 sr1 t1⟩
  · cases e
theorem oe_sl (he : OE X e m) (hl : OO X lo ml) (hh : OO X hi mh) : OE X (.Subscript e (.Slice lo hi none p2) pos) (mSl m ml mh) := pe_imp (pe_slice (sl_tupA.or sl_list) he hl hh) fun σ H Q ⟨w, en, d, en', sr, e, k⟩ => by
  unfold mSl at e
  split at e
  · cases e
  rename_i d0 e1 h1
  split at e
  · cases e
  rename_i lo' e2 h2
  split at e
  · cases e
  rename_i hi' e3 h3
  split at e
  · cases e
  rename_i r h4
  cases e
  refine ⟨w, en, d0, e1, sr, h1, fun v H1 w1 sr1 p1 t1 => ⟨w1, e1, lo', e2, sr1, h2, fun H2 w2 sr2 t2 => ⟨w2, e2, hi', _, sr2, h3, fun H3 w3 sr3 t3 => ?_⟩⟩⟩
  have p3 := (t2.trans t3).dp p1
  have hc : ∀ c, w3.all c → H3 c ≠ none := fun c z => sr3.allThere z
  have tt := (t1.trans t2).trans t3
  unfold gSl at h4
  split at h4
  · cases h4
    cases p3 with
    | lst hx ax =>
      exact .inr ⟨_, _, rfl, .inl (sub_r less_sub hx), fun p hp => k _ _ w3 (sr3.grow (.new hp)) (new_lst hc hp ax.cut) (tt.trans (.grow (.new hp)))⟩
  · cases h4
    cases p3 with
    | scr hx =>
      exact .inr ⟨_, _, rfl, sub_l less_sub hx, fun p hp => k _ _ w3 (sr3.grow (.new hp)) (new_lst hc hp (dqAll_ints _).cut) (tt.trans (.grow (.new hp)))⟩
  · cases h4
    cases p3 with
    | tup hx ax =>
      refine .inl ⟨_, _, rfl, SqT.of (less_sub _ _ hx), fun z => ?_, fun z p hp => k _ _ w3 (sr3.grow (.new hp)) (new_tup hc hp ax.cut) (tt.trans (.grow (.new hp)))⟩
      have whole : ∀ {α : Type} (xs : List α), HT.sIx xs.length 0 lo' = 0 → HT.sIx xs.length xs.length hi' = xs.length → cutD xs lo' hi' = xs := fun xs z1 z2 => by
        unfold cutD
        rw [z1, z2, List.drop_zero, Nat.sub_zero, List.take_length]
      rw [ax.len] at z
      rw [whole _ z.1 z.2] at k
      exact k _ H3 w3 sr3 (.tup hx ax) tt
  · cases h4
end

/-! ### calls of built-in functions by values -/
/-- a call's answer -/
def BR (K : PySem.W.Frag) (r : List V → Hp → VK → Prop) (f : List Dt → Option Dt) : Prop := ∀ (H : Hp) (C : Addr → Prop) (vs : List V) (ds : List Dt) (d : Dt) (Q : VK), (∀ c, C c → H c ≠ none) → DqAll K (less H C) vs ds → f ds = some d →
  (∀ x H', Sub H H' → Dq K (less H' C) x d → Q x H') → r vs H Q
/-- a call that makes a new list -/
def BF (K : PySem.W.Frag) (r : List V → Hp → VK → Prop) (f : List Dt → Option (List Dt)) : Prop := ∀ (H : Hp) (C : Addr → Prop) (vs : List V) (ds : List Dt) (d : List Dt) (Q : VK), (∀ c, C c → H c ≠ none) → DqAll K (less H C) vs ds → f ds = some d →
  (∀ p xs, H p = none → DqAll K (less H C) xs d → Q (.ref p) (upd H p (.lst xs))) → r vs H Q
def mFn (f : List Dt → Option Dt) (m : ML) : ME := fun en => match m en with
  | none => none
  | some (ds, e) => match f ds with
    | none => none
    | some d => some (d, e)
def mFl (f : List Dt → Option (List Dt)) (m : ML) : ML := fun en => match m en with
  | none => none
  | some (ds, e) => match f ds with
    | none => none
    | some d => some (d, e)
/-- what is known of new lists at p -/
theorem hide_new {K : PySem.W.Frag} {H : Hp} {w : Ow} {p : Addr} {o : HO} {vs : List V} {ds : List Dt} (hp : H p = none) (h : DqAll K (less H w.all) vs ds) : DqAll K (less (upd H p o) (w.hide p).all) vs ds :=
  DqAll.keep (less_mono fun a u n q => ⟨by rw [upd_ne (ne_of_none q hp)]; exact q, fun z => (hide_all.mp z).elim n fun e => by subst e; rw [hp] at q; cases q⟩) _ vs h
section
variable {X : Cx} {x : Str} {p pos : Pos} {e : Expr} {es : List Expr} {m : ML} {id T : String} {r : List V → Hp → VK → Prop} {f : List Dt → Option Dt} {fl : List Dt → Option (List Dt)}
theorem yFn {K : PySem.W.Frag} (hr : BR K r f) {σ : L2.St} {H : Hp} {Q : VK} (h : yE K (mFn f m) σ H Q) : tCB r (yA K m) σ H Q := by
  obtain ⟨w, en, d, en', sr, e, k⟩ := h
  unfold mFn at e
  split at e
  · cases e
  rename_i ds e1 h1
  split at e
  · cases e
  rename_i d' h2
  cases e
  refine ⟨w, en, ds, _, sr, h1, fun vs H1 w1 sr1 p1 t1 => hr H1 w1.all vs ds _ Q (fun c z => sr1.allThere z) p1 h2 fun x H2 s2 p2 => ?_⟩
  exact k x H2 w1 (sr1.grow s2) p2 (t1.trans (.grow s2))
theorem yFl {K : PySem.W.Frag} (hr : BF K r fl) {σ : L2.St} {H : Hp} {Q : VK} (h : yF K (mFl fl m) σ H Q) : tCB r (yA K m) σ H Q := by
  obtain ⟨w, en, d, en', sr, e, k⟩ := h
  unfold mFl at e
  split at e
  · cases e
  rename_i ds e1 h1
  split at e
  · cases e
  rename_i d' h2
  cases e
  refine ⟨w, en, ds, _, sr, h1, fun vs H1 w1 sr1 p1 t1 => hr H1 w1.all vs ds _ Q (fun c z => sr1.allThere z) p1 h2 fun q xs hq hx => ?_⟩
  exact k q xs _ w1 (t1.free hq) upd_same (sr1.hide hq) (hide_new hq hx) (t1.trans (.grow (.new hq)))
theorem oe_bi (hc : CallR X (.builtin id) r) (hr : BR X.K r f) (hg : Gl X x) (hm : X.mg x = none) (hv : bootBuiltins x = some (.builtin id)) (ha : OA X (e :: es) m) (hn : x ≠ "__name__" := by decide) (hdb : (x == ("__debug__" : Str)) = false := by decide)
    (he : starEach (e :: es) X.env = (false, eval e X.env) :: starEach es X.env := by rfl) (hpl : (backTo pos (starEach es X.env)).any (·.1) = false := by rfl) : OE X (.Call (.Name x p) (e :: es) [] pos) (mFn f m) :=
  pe_imp (pe_callB hc hg hm hv ha hn hdb he hpl) fun _ _ _ h => yFn hr h
theorem oe_ty (hc : CallR X (.type T) r) (hr : BR X.K r f) (hg : Gl X x) (hm : X.mg x = none) (hv : bootBuiltins x = some (.type T)) (ha : OA X (e :: es) m) (hn : x ≠ "__name__" := by decide) (hdb : (x == ("__debug__" : Str)) = false := by decide)
    (he : starEach (e :: es) X.env = (false, eval e X.env) :: starEach es X.env := by rfl) (hpl : (backTo pos (starEach es X.env)).any (·.1) = false := by rfl) : OE X (.Call (.Name x p) (e :: es) [] pos) (mFn f m) :=
  pe_imp (pe_callTy hc hg hm hv ha hn hdb he hpl) fun _ _ _ h => yFn hr h
theorem of_bi (hc : CallR X (.builtin id) r) (hr : BF X.K r fl) (hg : Gl X x) (hm : X.mg x = none) (hv : bootBuiltins x = some (.builtin id)) (ha : OA X (e :: es) m) (hn : x ≠ "__name__" := by decide) (hdb : (x == ("__debug__" : Str)) = false := by decide)
    (he : starEach (e :: es) X.env = (false, eval e X.env) :: starEach es X.env := by rfl) (hpl : (backTo pos (starEach es X.env)).any (·.1) = false := by rfl) : OF X (.Call (.Name x p) (e :: es) [] pos) (mFl fl m) :=
  pe_imp (pe_callB hc hg hm hv ha hn hdb he hpl) fun _ _ _ h => yFl hr h
theorem of_ty (hc : CallR X (.type T) r) (hr : BF X.K r fl) (hg : Gl X x) (hm : X.mg x = none) (hv : bootBuiltins x = some (.type T)) (ha : OA X (e :: es) m) (hn : x ≠ "__name__" := by decide) (hdb : (x == ("__debug__" : Str)) = false := by decide)
    (he : starEach (e :: es) X.env = (false, eval e X.env) :: starEach es X.env := by rfl) (hpl : (backTo pos (starEach es X.env)).any (·.1) = false := by rfl) : OF X (.Call (.Name x p) (e :: es) [] pos) (mFl fl m) :=
  pe_imp (pe_callTy hc hg hm hv ha hn hdb he hpl) fun _ _ _ h => yFl hr h
/-- a new list as a value -/
theorem oe_f (h : OF X e m) : OE X e (mVal m) := pe_imp h fun σ H Q ⟨w, en, d, en', sr, e, k⟩ => by
  unfold mVal at e
  split at e
  · cases e
  rename_i ds e1 h1
  cases e
  refine ⟨w, en, ds, _, sr, h1, fun q vs H1 w1 h0 hq sr1 p1 t1 => k _ H1 w1 sr1.unhide ?_ t1⟩
  have nq : ¬ w1.all q := by
    rintro (z | ⟨i, z⟩)
    · rw [t1.hd] at z
      exact sr.hid q z h0
    · exact sr1.sep i q z (.inr rfl)
  exact .lst (.inl (less_some.mpr ⟨nq, hq⟩)) (DqAll.keep unhide_sub _ vs p1)
end

/-! ### the built-in functions -/
section
variable {X : Cx} {K : PySem.W.Frag}
/-! len -/
def fLen : List Dt → Option Dt
  | [.list xs] => some (.int xs.length)
  | [.tuple xs] => some (.int xs.length)
  | [.dict [(.none, .list xs)]] => some (.int xs.length)
  | [.str z] => if shortB z.length = true then some (.int z.length) else none
  | _ => none
def rLenY (K : PySem.W.Frag) : List V → Hp → VK → Prop := fun xs H Q => (∃ p ys, xs = [.ref p] ∧ (SqL K H p ys ∨ SqT K H p ys) ∧ Q (.int ys.length) H) ∨ (∃ z, xs = [.str z] ∧ z.length ≤ sizeLine ∧ Q (.int z.length) H)
theorem c_len : CallR X (.builtin "len") (rLenY X.K) := call_len_seq.or call_len_str
theorem b_len : BR K (rLenY K) fLen := fun H C vs ds d Q hc h q k => by
  unfold fLen at q
  split at q
  · cases q
    cases h with
    | cons h1 h2 =>
      cases h2
      cases h1 with
      | lst hx ax =>
        rw [← ax.len] at k
        exact .inl ⟨_, _, rfl, .inl (.inl (sub_r less_sub hx)), k _ H (.refl H) (.int _)⟩
  · cases q
    cases h with
    | cons h1 h2 =>
      cases h2
      cases h1 with
      | tup hx ax =>
        rw [← ax.len] at k
        exact .inl ⟨_, _, rfl, .inr (SqT.of (less_sub _ _ hx)), k _ H (.refl H) (.int _)⟩
  · cases q
    cases h with
    | cons h1 h2 =>
      cases h2
      cases h1 with
      | scr hx =>
        refine .inl ⟨_, _, rfl, .inl (sub_l less_sub hx), ?_⟩
        rw [List.length_map] at k ⊢
        exact k _ H (.refl H) (.int _)
  · split at q
    · rename_i hs
      cases q
      cases h with
      | cons h1 h2 =>
        cases h2
        cases h1
        exact .inr ⟨_, rfl, shortB_ok hs, k _ H (.refl H) (.int _)⟩
    · cases q
  · cases q
/-! list, tuple -/
def fList : List Dt → Option (List Dt)
  | [.list xs] => some xs
  | [.tuple xs] => some xs
  | _ => none
theorem b_list : BF K (fun xs H Q => ∃ p ys, xs = [.ref p] ∧ (SqL K H p ys ∨ SqT K H p ys) ∧ ∀ l, H l = none → Q (.ref l) (upd H l (.lst ys))) fList := fun H C vs ds d Q hc h q k => by
  unfold fList at q
  split at q
  · cases q
    cases h with
    | cons h1 h2 =>
      cases h2
      cases h1 with
      | lst hx ax => exact ⟨_, _, rfl, .inl (.inl (sub_r less_sub hx)), fun l hl => k l _ hl ax⟩
  · cases q
    cases h with
    | cons h1 h2 =>
      cases h2
      cases h1 with
      | tup hx ax => exact ⟨_, _, rfl, .inr (SqT.of (less_sub _ _ hx)), fun l hl => k l _ hl ax⟩
  · cases q
def fTuple : List Dt → Option Dt
  | [.list xs] => some (.tuple xs)
  | [.tuple xs] => some (.tuple xs)
  | _ => none
theorem b_tuple : BR K (fun xs H Q => ∃ p ys, xs = [.ref p] ∧ ((SqL K H p ys ∧ ∀ l, H l = none → Q (.ref l) (upd H l (.tup ys))) ∨ (SqT K H p ys ∧ Q (.ref p) H))) fTuple := fun H C vs ds d Q hc h q k => by
  unfold fTuple at q
  split at q
  · cases q
    cases h with
    | cons h1 h2 =>
      cases h2
      cases h1 with
      | lst hx ax => exact ⟨_, _, rfl, .inl ⟨.inl (sub_r less_sub hx), fun l hl => k _ _ (.new hl) (new_tup hc hl ax)⟩⟩
  · cases q
    cases h with
    | cons h1 h2 =>
      cases h2
      cases h1 with
      | tup hx ax => exact ⟨_, _, rfl, .inr ⟨SqT.of (less_sub _ _ hx), k _ H (.refl H) (.tup hx ax)⟩⟩
  · cases q
/-! int, abs, max, min of two ints -/
def fInt : List Dt → Option Dt
  | [.int i] => some (.int i)
  | [.bool b] => some (.int (if b then 1 else 0))
  | _ => none
theorem b_intc : BR K (fun xs H Q => (∃ i, xs = [.int i] ∧ Q (.int i) H) ∨ ∃ k, xs = [.bl k] ∧ Q (.int (if k then 1 else 0)) H) fInt := fun H C vs ds d Q hc h q k => by
  unfold fInt at q
  split at q
  · cases q
    cases h with
    | cons h1 h2 =>
      cases h2
      cases h1
      exact .inl ⟨_, rfl, k _ H (.refl H) (.int _)⟩
  · cases q
    cases h with
    | cons h1 h2 =>
      cases h2
      cases h1
      exact .inr ⟨_, rfl, k _ H (.refl H) (.int _)⟩
  · cases q
def fAbs : List Dt → Option Dt
  | [.int i] => some (.int (if i < 0 then -i else i))
  | _ => none
theorem b_abs : BR K (fun xs H Q => ∃ i, xs = [.int i] ∧ Q (.int (if i < 0 then -i else i)) H) fAbs := fun H C vs ds d Q hc h q k => by
  unfold fAbs at q
  split at q
  · cases q
    cases h with
    | cons h1 h2 =>
      cases h2
      cases h1
      exact ⟨_, rfl, k _ H (.refl H) (.int _)⟩
  · cases q
def fMax2 : List Dt → Option Dt
  | [.int i, .int j] => some (.int (if j > i then j else i))
  | _ => none
theorem b_max2 : BR K (fun xs H Q => ∃ i j, xs = [.int i, .int j] ∧ Q (.int (if j > i then j else i)) H) fMax2 := fun H C vs ds d Q hc h q k => by
  unfold fMax2 at q
  split at q
  · cases q
    cases h with
    | cons h1 h2 =>
      cases h2 with
      | cons h2 h3 =>
        cases h3
        cases h1
        cases h2
        exact ⟨_, _, rfl, k _ H (.refl H) (.int _)⟩
  · cases q
def fMin2 : List Dt → Option Dt
  | [.int i, .int j] => some (.int (if j < i then j else i))
  | _ => none
theorem b_min2 : BR K (fun xs H Q => ∃ i j, xs = [.int i, .int j] ∧ Q (.int (if j < i then j else i)) H) fMin2 := fun H C vs ds d Q hc h q k => by
  unfold fMin2 at q
  split at q
  · cases q
    cases h with
    | cons h1 h2 =>
      cases h2 with
      | cons h2 h3 =>
        cases h3
        cases h1
        cases h2
        exact ⟨_, _, rfl, k _ H (.refl H) (.int _)⟩
  · cases q
/-! sum, all, any -/
def intsOf : List Dt → Option (List Int)
  | [] => some []
  | .int i :: r => (match intsOf r with | some l => some (i :: l) | none => none)
  | _ => none
def boolsOf : List Dt → Option (List Bool)
  | [] => some []
  | .bool i :: r => (match boolsOf r with | some l => some (i :: l) | none => none)
  | _ => none
theorem intsOf_some : ∀ {ds : List Dt} {ns : List Int}, intsOf ds = some ns → ds = ns.map .int
  | [], _, h => by cases h; rfl
  | .int i :: r, ns, h => by
    unfold intsOf at h
    split at h
    · rename_i l e
      cases h
      rw [intsOf_some e]
      rfl
    · cases h
  | .none :: _, _, h => by cases h
  | .bool _ :: _, _, h => by cases h
  | .str _ :: _, _, h => by cases h
  | .list _ :: _, _, h => by cases h
  | .tuple _ :: _, _, h => by cases h
  | .dict _ :: _, _, h => by cases h
theorem intsOf_map : ∀ ns : List Int, intsOf (ns.map .int) = some ns
  | [] => rfl
  | n :: ns => by
    show (match intsOf (ns.map .int) with | some l => some (n :: l) | none => none) = _
    rw [intsOf_map ns]
theorem boolsOf_some : ∀ {ds : List Dt} {ns : List Bool}, boolsOf ds = some ns → ds = ns.map .bool
  | [], _, h => by cases h; rfl
  | .bool i :: r, ns, h => by
    unfold boolsOf at h
    split at h
    · rename_i l e
      cases h
      rw [boolsOf_some e]
      rfl
    · cases h
  | .none :: _, _, h => by cases h
  | .int _ :: _, _, h => by cases h
  | .str _ :: _, _, h => by cases h
  | .list _ :: _, _, h => by cases h
  | .tuple _ :: _, _, h => by cases h
  | .dict _ :: _, _, h => by cases h
theorem boolsOf_map : ∀ ns : List Bool, boolsOf (ns.map .bool) = some ns
  | [] => rfl
  | n :: ns => by
    show (match boolsOf (ns.map .bool) with | some l => some (n :: l) | none => none) = _
    rw [boolsOf_map ns]
def fSum : List Dt → Option Dt
  | [.list xs] => (match intsOf xs with | some ns => some (.int ns.sum) | none => none)
  | [.tuple xs] => (match intsOf xs with | some ns => some (.int ns.sum) | none => none)
  | _ => none
def rSumY (K : PySem.W.Frag) : List V → Hp → VK → Prop := fun vs H Q => rSum K vs H Q ∨ ∃ (a : Addr) (ns : List Int), vs = [V.ref a] ∧ SqT K H a (ns.map V.int) ∧ Q (.int ns.sum) H
theorem c_sum (hc : X.calm = true) : CallR X (.builtin "sum") (rSumY X.K) := by
  refine (cr_sum hc).or fun pins s σ H vs us Q I r h => ?_
  obtain ⟨a, ns, rfl, hs, q⟩ := h
  obtain ⟨its, rv, hl, _⟩ := I.tuple hs
  rw [Vals.ref1 r]
  have hi := rv.ints
  obtain ⟨xs, e⟩ := hi.allInts.items
  have hn : numsOf (intItems xs).toList = ns := by rw [← e]; exact hi.numsOf
  rw [nums_intItems] at hn
  rw [e] at hl
  refine PySem.W.ktm_sumG (I.ok.hd hc) hl fun h' tk t' hk => ?_
  have hs2 : preSum (numAt xs) xs.size = ns.sum := by rw [preSum_eq, List.take_of_length_le (by simp), hn]
  rw [hs2]
  exact ⟨.int _, H, I.kept hk, ⟨_, rfl⟩, q⟩
theorem b_sum : BR K (rSumY K) fSum := fun H C vs ds d Q hc h q k => by
  unfold fSum at q
  split at q
  · split at q
    · rename_i ns e
      cases q
      cases h with
      | cons h1 h2 =>
        cases h2
        cases h1 with
        | lst hx ax =>
          rw [intsOf_some e] at ax
          rw [ax.ints] at hx
          exact .inl ⟨_, _, rfl, .inl (sub_r less_sub hx), k _ H (.refl H) (.int _)⟩
    · cases q
  · split at q
    · rename_i ns e
      cases q
      cases h with
      | cons h1 h2 =>
        cases h2
        cases h1 with
        | tup hx ax =>
          rw [intsOf_some e] at ax
          rw [ax.ints] at hx
          exact .inr ⟨_, _, rfl, SqT.of (less_sub _ _ hx), k _ H (.refl H) (.int _)⟩
    · cases q
  · cases q
def fAll : List Dt → Option Dt
  | [.list xs] => (match boolsOf xs with | some ns => some (.bool (ns.all id)) | none => none)
  | _ => none
def fAny : List Dt → Option Dt
  | [.list xs] => (match boolsOf xs with | some ns => some (.bool (ns.any id)) | none => none)
  | _ => none
theorem b_all : BR K (rAll K) fAll := fun H C vs ds d Q hc h q k => by
  unfold fAll at q
  split at q
  · split at q
    · rename_i ns e
      cases q
      cases h with
      | cons h1 h2 =>
        cases h2
        cases h1 with
        | lst hx ax =>
          rw [boolsOf_some e] at ax
          rw [ax.bools] at hx
          exact ⟨_, _, rfl, .inl (sub_r less_sub hx), k _ H (.refl H) (.bl _)⟩
    · cases q
  · cases q
theorem b_any : BR K (rAny K) fAny := fun H C vs ds d Q hc h q k => by
  unfold fAny at q
  split at q
  · split at q
    · rename_i ns e
      cases q
      cases h with
      | cons h1 h2 =>
        cases h2
        cases h1 with
        | lst hx ax =>
          rw [boolsOf_some e] at ax
          rw [ax.bools] at hx
          exact ⟨_, _, rfl, .inl (sub_r less_sub hx), k _ H (.refl H) (.bl _)⟩
    · cases q
  · cases q
end

/-! ### isinstance -/
def tyN : Dt → String
  | .none => "NoneType"
  | .bool _ => "bool"
  | .int _ => "int"
  | .str _ => "str"
  | .list _ => "list"
  | .tuple _ => "tuple"
  | .dict _ => "dict"
def isInt : Dt → Bool
  | .bool _ => true
  | .int _ => true
  | _ => false
def isBool : Dt → Bool
  | .bool _ => true
  | _ => false
def isStr : Dt → Bool
  | .str _ => true
  | _ => false
def isList : Dt → Bool
  | .list _ => true
  | _ => false
def isTuple : Dt → Bool
  | .tuple _ => true
  | _ => false
def IsOk (T : String) (f : Dt → Bool) : Prop := ∀ d : Dt, L2.kitB (tyN d) T = some (f d)
theorem is_int : IsOk "int" isInt
  | .none => (by decide +kernel : L2.kitB "NoneType" "int" = some false)
  | .bool _ => (by decide +kernel : L2.kitB "bool" "int" = some true)
  | .int _ => (by decide +kernel : L2.kitB "int" "int" = some true)
  | .str _ => (by decide +kernel : L2.kitB "str" "int" = some false)
  | .list _ => (by decide +kernel : L2.kitB "list" "int" = some false)
  | .tuple _ => (by decide +kernel : L2.kitB "tuple" "int" = some false)
  | .dict _ => (by decide +kernel : L2.kitB "dict" "int" = some false)
theorem is_bool : IsOk "bool" isBool
  | .none => (by decide +kernel : L2.kitB "NoneType" "bool" = some false)
  | .bool _ => (by decide +kernel : L2.kitB "bool" "bool" = some true)
  | .int _ => (by decide +kernel : L2.kitB "int" "bool" = some false)
  | .str _ => (by decide +kernel : L2.kitB "str" "bool" = some false)
  | .list _ => (by decide +kernel : L2.kitB "list" "bool" = some false)
  | .tuple _ => (by decide +kernel : L2.kitB "tuple" "bool" = some false)
  | .dict _ => (by decide +kernel : L2.kitB "dict" "bool" = some false)
theorem is_str : IsOk "str" isStr
  | .none => (by decide +kernel : L2.kitB "NoneType" "str" = some false)
  | .bool _ => (by decide +kernel : L2.kitB "bool" "str" = some false)
  | .int _ => (by decide +kernel : L2.kitB "int" "str" = some false)
  | .str _ => (by decide +kernel : L2.kitB "str" "str" = some true)
  | .list _ => (by decide +kernel : L2.kitB "list" "str" = some false)
  | .tuple _ => (by decide +kernel : L2.kitB "tuple" "str" = some false)
  | .dict _ => (by decide +kernel : L2.kitB "dict" "str" = some false)
theorem is_list : IsOk "list" isList
  | .none => (by decide +kernel : L2.kitB "NoneType" "list" = some false)
  | .bool _ => (by decide +kernel : L2.kitB "bool" "list" = some false)
  | .int _ => (by decide +kernel : L2.kitB "int" "list" = some false)
  | .str _ => (by decide +kernel : L2.kitB "str" "list" = some false)
  | .list _ => (by decide +kernel : L2.kitB "list" "list" = some true)
  | .tuple _ => (by decide +kernel : L2.kitB "tuple" "list" = some false)
  | .dict _ => (by decide +kernel : L2.kitB "dict" "list" = some false)
theorem is_tuple : IsOk "tuple" isTuple
  | .none => (by decide +kernel : L2.kitB "NoneType" "tuple" = some false)
  | .bool _ => (by decide +kernel : L2.kitB "bool" "tuple" = some false)
  | .int _ => (by decide +kernel : L2.kitB "int" "tuple" = some false)
  | .str _ => (by decide +kernel : L2.kitB "str" "tuple" = some false)
  | .list _ => (by decide +kernel : L2.kitB "list" "tuple" = some false)
  | .tuple _ => (by decide +kernel : L2.kitB "tuple" "tuple" = some true)
  | .dict _ => (by decide +kernel : L2.kitB "dict" "tuple" = some false)
def notDict : Dt → Bool
  | .dict _ => false
  | _ => true
theorem Dq.ty {K : PySem.W.Frag} {H : Hp} {v : V} {d : Dt} (n : notDict d = true) (h : Dq K H v d) : TyX K H v (.type (tyN d)) := by
  cases h with
  | non => exact .base .non
  | bl b => exact .base (.bl b)
  | int i => exact .base (.int i)
  | str x => exact .base (.str x)
  | lst h _ =>
    rcases h with h | ⟨o, h⟩
    · exact .base (.lst h)
    · exact .base (.frz h)
  | tup h _ => exact .base (.tup h)
  | scr h => cases n
def mIsi (f : Dt → Bool) (m : ME) : ME := fun en => match m en with
  | none => none
  | some (d, e) => if notDict d = true then some (.bool (f d), e) else none
section
variable {X : Cx} {e : Expr} {m : ME} {pos p1 p2 : Pos} {T : Str} {T' : String} {f : Dt → Bool}
theorem oe_isi (hf : IsOk T' f) (he : OE X e m) (hg : Gl X "isinstance") (hm : X.mg "isinstance" = none) (hgT : Gl X T) (hmT : X.mg T = none) (hvT : bootBuiltins T = some (.type T')) (hnT : T ≠ "__name__" := by decide) (hdT : (T == ("__debug__" : Str)) = false := by decide)
    (hs : starEach [e, .Name T p2] X.env = (false, eval e X.env) :: starEach [.Name T p2] X.env := by rfl) : OE X (.Call (.Name "isinstance" p1) [e, .Name T p2] [] pos) (mIsi f m) :=
  pe_imp (pe_callB call_isi hg hm (by decide +kernel) (pa_cons he (pa_cons (pe_bltn (v := .ty T') hgT hmT hvT rfl hnT hdT) pa_nil) hs) (by decide) (by decide) hs) fun σ H Q ⟨w, en, d, en', sr, e, k⟩ => by
    unfold mIsi at e
    split at e
    · cases e
    rename_i d0 e1 h1
    split at e
    rotate_left
    · cases e
    rename_i hnd
    cases e
    refine ⟨w, en, d0, _, sr, h1, fun v H1 w1 sr1 p1 t1 => ?_⟩
    exact ⟨v, .ty T', _, .type T', f d0, rfl, .ty T', Dq.ty hnd (Dq.keep less_sub _ _ p1), kit_ty (hf d0), k _ H1 w1 sr1 (.bl _) t1⟩
end
end Yd

set_option Elab.async false
set_option linter.all false
set_option maxRecDepth 100000
set_option maxHeartbeats 1000000
set_option autoImplicit false
namespace Yd
open PySem PySem.Spec PyProof.Rows L2

/-! ### enumerate(tuple) -/
/-- the tuple at a, each item in a new pair with its number -/
def Jen (K : PySem.W.Frag) (a : Addr) : It where
  go := fun i H => ∃ (xs : List V) (x : V), SqT K H a xs ∧ xs[i]? = some x
  yld := fun i H v H' => ∃ T x, v = .ref T ∧ H T = none ∧ H' = upd H T (.tup [.int (i : Nat), x]) ∧ ∀ xs, SqT K H a xs → xs[i]? = some x
  stop := fun i H => ∃ xs : List V, SqT K H a xs ∧ xs.length = i
theorem turn_en {P : Program} {w : World} {K : PySem.W.Frag} {elts : List Expr} {kk : Nat} {tpos : Pos} (a e it : Addr) :
    Turn P w K (.Tuple elts kk tpos) (Jen K a) [e, it] e (fun i h => (∃ old, IsEnum h e it ((i : Nat) : Int) old) ∧ h.IsTupleIter it a i ∧ e ≠ it) where
  mem := by simp
  obj := fun i h st b hb => by
    obtain ⟨⟨old, he⟩, ⟨o, ho, hc, hd⟩, _⟩ := st
    rcases List.mem_cons.mp hb with rfl | hb
    · exact ⟨_, he, fun v q => nomatch q⟩
    · obtain rfl := List.mem_singleton.mp hb
      exact ⟨o, ho, fun v q => by rw [hd] at q; cases q⟩
  keep := fun i h h' st k => by
    obtain ⟨⟨old, he⟩, hi, hne⟩ := st
    exact ⟨⟨old, k e (by simp) _ he⟩, hi.at fun o q => k it (by simp) o q, hne⟩
  item := by
    intro X hP hw hK hc i pins s σ H E I hf st hg
    subst hP hw hK
    obtain ⟨⟨old, he⟩, hit, hne⟩ := st
    obtain ⟨xs, x, hq, hx⟩ := hg
    obtain ⟨its, rv, p, hz⟩ := I.tuple hq
    obtain ⟨u, hu, ru⟩ := rv.get hx
    have hel : e < s.heap.objs.size := Heap.lt_size he
    have hil : it < s.heap.objs.size := by
      obtain ⟨_, q, _⟩ := id hit
      exact Heap.lt_size q
    have hai : a ≠ it := fun z => by
      obtain ⟨o1, q1, c1, _⟩ := id p
      obtain ⟨o2, q2, c2, _⟩ := id hit
      rw [z, q2] at q1
      cases q1
      rw [c2] at c1
      injection c1 with c1
      exact absurd c1 (by decide)
    have hae : a ≠ e := fun z => by
      obtain ⟨o1, q1, c1, _⟩ := id p
      have he' : s.heap.get? e = some _ := he
      rw [z, he'] at q1
      cases q1
      injection c1 with c1
      exact absurd c1 (by decide)
    have hu' : its.toArray[i]? = some u := by simpa using hu
    have hlt : i < its.toArray.size := (Array.getElem?_eq_some_iff.mp hu').1
    have hh : X.A.in1.handled = none := I.ok.hd hc
    refine wpAny_pyNext_enum_itemD (Draws.tuple hh it a hai its.toArray) he ⟨hit, p⟩ hlt hne (by simp [hne, Ne.symm hae]) fun u' h' tk hP ho hit' hT hsz hk => ?_
    have eu : u' = u := by
      have hP : its.toArray[i]? = some u' := hP
      rw [hu'] at hP
      exact (Option.some.inj hP).symm
    subst eu
    refine ⟨_, rfl, wpAny_letOwnedTupleGo_enum (s := { s with heap := h', toks := tk + 1 }) ho fun h'' he' sb => ?_⟩
    have hT2 : h''.get? s.heap.objs.size = some { cls := .type "tuple", data := .seq #[.int i tk, u'] } := (sb.2 _ (Nat.ne_of_gt hel)).trans hT
    have new : ObjOk X.prog X.w (upd H s.heap.objs.size (.tup [.int (i : Nat), x])) h'' s.heap.objs.size (.tup [.int (i : Nat), x]) :=
      ⟨by show 2 ≤ sizeLine; decide, [.int i tk, u'], Paired.cons ⟨_, rfl⟩ (Paired.cons ru Paired.nil), ⟨_, hT2, rfl, _, rfl⟩⟩
    have keep : ∀ b ob, b ∉ [e, it] → s.heap.get? b = some ob → h''.get? b = some ob := fun b ob hb q => by
      have n1 : b ≠ e := fun z => hb (by simp [z])
      have n2 : b ≠ it := fun z => hb (by simp [z])
      exact (sb.2 b n1).trans (hk b ob n1 n2 q)
    have I1 : Inv X pins σ (upd H s.heap.objs.size (.tup [.int (i : Nat), x])) { s with heap := h'', toks := tk + 1 } := Inv.turnedNew (ch := [e, it]) I keep hf (Nat.le_refl _) new
    have nT : H s.heap.objs.size = none := I.hok.fresh (Nat.le_refl _)
    refine ⟨.ref s.heap.objs.size, _, I1, rfl, ⟨_, x, rfl, nT, rfl, fun ys hy => ?_⟩, ⟨⟨u', ?_⟩, hit'.1.at fun o q => (sb.2 it (Ne.symm hne)).trans q, hne⟩, fun b hb => ?_⟩
    · rw [I.tuple_inj hy hq]
      exact hx
    · have e1 : ((i + 1 : Nat) : Int) = (i : Int) + 1 := by omega
      rw [e1]
      exact he'
    · have hlt : b < s.heap.objs.size := by
        rcases List.mem_cons.mp hb with rfl | hb
        · exact hel
        · obtain rfl := List.mem_singleton.mp hb
          exact hil
      rw [upd_ne (Nat.ne_of_lt hlt)]
      exact (hf b hb).1
  done := by
    intro X hP hw hK hc i pins s σ H E I hf st hg
    subst hP hw hK
    obtain ⟨⟨old, he⟩, hit, hne⟩ := st
    obtain ⟨xs, hq, hx⟩ := hg
    obtain ⟨its, rv, p, hz⟩ := I.tuple hq
    obtain ⟨f0, f1, f2, f3, f4, f5⟩ := hf it (by simp)
    have hai : a ≠ it := fun z => by
      obtain ⟨o1, q1, c1, _⟩ := id p
      obtain ⟨o2, q2, c2, _⟩ := id hit
      rw [z, q2] at q1
      cases q1
      rw [c2] at c1
      injection c1 with c1
      exact absurd c1 (by decide)
    have hh : X.A.in1.handled = none := I.ok.hd hc
    have hl := rv.length
    have D := Draws.tuple (prog := X.prog) (w := X.w) hh it a hai its.toArray
    have en : its.toArray.size = i := by
      rw [List.size_toArray]
      omega
    rw [en] at D
    exact wpAny_pyNext_enum_endD D he ⟨hit, p⟩ fun h' eb => ⟨rfl, I.turned (t' := s.toks) (fun b o hb q => eb b o hb q) f0 f1 f3 f4 f5⟩
  self := fun A i s Q E st h => wpAny_pyIter_enum st.1.choose_spec h

/-! ### enumerate(v): what v begins with -/
theorem en_new {v : Value} {o : Obj} {G : Heap → Prop} (B : Begins v o G) :
    Meets (Builtin.«enumerate.__new__» ⟨[.type "enumerate", v], []⟩) (fun _ R s => G s.heap ∧
      R (.ok (.ret (.ref (s.heap.push o).objs.size))) { s with heap := (s.heap.push o).push { cls := .type "enumerate", data := .fields #[.none, .bool false, .ref s.heap.objs.size, rawInt 0, .none, .none] } }) :=
  .of_wp fun prog w A R s h => by
    obtain ⟨hp, g, dr, tk, os⟩ := s
    obtain ⟨h1, h⟩ := h
    have hsub := sub_enumerate
    have begin' : ∀ {A' : Around} {E : Value → Shared → Prop} {Q : Value → Shared → Prop}, Q (.ref hp.objs.size) ⟨hp.push o, g, dr, tk, os⟩ → wpAny (model prog w) A' (pyIter v) Q E ⟨hp, g, dr, tk, os⟩ := fun q => B.iter prog w _ _ _ _ h1 q
    wp_walk using begin'
    refine wpAny_stack_any fun st => wpAny_pure ?_
    split
    · rename_i c _ _ _ _ _
      cases (c == Value.type "enumerate") <;> (wp_walk using begin'; exact ⟨_, rfl, h⟩)
    · wp_walk using begin'
      exact ⟨_, rfl, h⟩
theorem en_begins {prog : Program} {w : World} {A : Around} {E : Value → Shared → Prop} {s : Shared} {v : Value} {o : Obj} {G : Heap → Prop} {Q : Value → Shared → Prop} (B : Begins v o G) (h1 : G s.heap)
    (h : ∀ h', IsEnum h' (s.heap.objs.size + 1) s.heap.objs.size 0 .none → h'.get? s.heap.objs.size = some o → (∀ b ob, s.heap.get? b = some ob → h'.get? b = some ob) → Q (.ref (s.heap.objs.size + 1)) { s with heap := h' }) :
    wpAny (model prog w) A (call (.type "enumerate") [v]) Q E s := by
  refine callType_new F.called_enumerate (by decide) (F.typeCall_enumerate_1 _) (F.newCall_enumerate_1 _) (fun obj => F.args_object_init_2 obj _) F.entry_enumerate_new (en_new B) ⟨h1, ?_⟩
  have hz : (s.heap.push o).objs.size = s.heap.objs.size + 1 := Heap.size_push ..
  show _ ∧ _
  rw [hz]
  have he := Heap.get?_push_size (s.heap.push o) (o := { cls := .type "enumerate", data := .fields #[.none, .bool false, .ref s.heap.objs.size, rawInt 0, .none, .none] }) rfl
  rw [hz] at he
  exact ⟨⟨_, he, rfl⟩, h _ he (Heap.get?_push_of_some _ (Heap.get?_push_size _ B.free)) fun b ob x => Heap.get?_push_of_some _ (Heap.get?_push_of_some _ x)⟩

/-! ### what is walked, as data -/
/-- the iteration J yields the data ds, as long as C0 stands -/
structure IterOf (K : PySem.W.Frag) (J : It) (C0 : Hp) (ds : List Dt) : Prop where
  go : ∀ (i : Nat) (H : Hp) (C : Addr → Prop) (d : Dt), ds[i]? = some d → (∀ c, C c → H c ≠ none) → Sub C0 (less H C) → J.go i H ∧ ∀ x H', J.yld i H x H' → Sub H H' ∧ Dq K (less H' C) x d
  stop : ∀ (i : Nat) (H : Hp) (C : Addr → Prop), i = ds.length → (∀ c, C c → H c ≠ none) → Sub C0 (less H C) → J.stop i H
def yI (K : PySem.W.Frag) (m : ML) : TI := fun σ H R => ∃ w en ds en', SR K w H en σ ∧ m en = some (ds, en') ∧ ∀ J H' w', SR K w' H' en' σ → Tr w w' H H' en en' → IterOf K J (less H' w'.all) ds → R J H'
abbrev OI (X : Cx) (tg e : Expr) (m : ML) : Prop := PI X tg e (yI X.K m)
theorem pi_imp {X : Cx} {tg e : Expr} {t t' : TI} (h : PI X tg e t) (k : ∀ σ H R, t' σ H R → t σ H R) : PI X tg e t' := ⟨fun pins s σ H R I q => h.run pins s σ H R I (k σ H R q)⟩
section
variable {K : PySem.W.Frag} {C0 : Hp} {vs : List V} {ds : List Dt} {a : Addr}
theorem it_list (h : Rd C0 a (.lst vs)) (q : DqAll K C0 vs ds) : IterOf K (Itl K a) C0 ds where
  go := fun i H C d e hc s => by
    obtain ⟨v, ev, dv⟩ := q.at e
    have hr : Rd H a (.lst vs) := sub_r (s.trans less_sub) h
    refine ⟨⟨vs, v, .inl hr, ev⟩, fun x H' y => ?_⟩
    obtain ⟨rfl, y⟩ := y
    have := (y vs (.inl hr)).symm.trans ev
    cases this
    exact ⟨.refl _, Dq.keep s d _ dv⟩
  stop := fun i H C e hc s => ⟨vs, .inl (sub_r (s.trans less_sub) h), by rw [q.len, e]; exact Nat.le_refl _⟩
theorem it_tup (h : C0 a = some (.tup vs)) (q : DqAll K C0 vs ds) : IterOf K (Itt K a) C0 ds where
  go := fun i H C d e hc s => by
    obtain ⟨v, ev, dv⟩ := q.at e
    have hr : H a = some (.tup vs) := (s.trans less_sub) _ _ h
    refine ⟨⟨vs, v, SqT.of hr, ev⟩, fun x H' y => ?_⟩
    obtain ⟨rfl, y⟩ := y
    have := (y vs (SqT.of hr)).symm.trans ev
    cases this
    exact ⟨.refl _, Dq.keep s d _ dv⟩
  stop := fun i H C e hc s => ⟨vs, SqT.of ((s.trans less_sub) _ _ h), by rw [q.len, e]; exact Nat.le_refl _⟩
/-- a new pair -/
theorem pair_of {K : PySem.W.Frag} {H : Hp} {C : Addr → Prop} {T : Addr} {x y : V} {dx dy : Dt} (hc : ∀ c, C c → H c ≠ none) (hT : H T = none) (h1 : Dq K (less H C) x dx) (h2 : Dq K (less H C) y dy) : Dq K (less (upd H T (.tup [x, y])) C) (.ref T) (.tuple [dx, dy]) :=
  new_tup hc hT (.cons h1 (.cons h2 .nil))
def enumD (i : Nat) : List Dt → List Dt
  | [] => []
  | d :: r => .tuple [.int (i : Nat), d] :: enumD (i + 1) r
theorem enumD_len : ∀ (ds : List Dt) (i : Nat), (enumD i ds).length = ds.length
  | [], _ => rfl
  | d :: r, i => by
    show (enumD (i + 1) r).length + 1 = r.length + 1
    rw [enumD_len r]
theorem enumD_at : ∀ (ds : List Dt) (k i : Nat) (e : Dt), (enumD k ds)[i]? = some e → ∃ d, ds[i]? = some d ∧ e = .tuple [.int ((k + i : Nat) : Int), d]
  | [], _, _, _, h => by simp [enumD] at h
  | d :: r, k, 0, e, h => by
    simp [enumD] at h
    exact ⟨d, rfl, h.symm⟩
  | d :: r, k, i + 1, e, h => by
    have h' : (enumD (k + 1) r)[i]? = some e := by simpa [enumD] using h
    obtain ⟨d', e1, e2⟩ := enumD_at r (k + 1) i e h'
    exact ⟨d', by simpa using e1, by rw [e2]; congr 3; omega⟩
theorem it_enL (h : Rd C0 a (.lst vs)) (q : DqAll K C0 vs ds) : IterOf K (Ite K a) C0 (enumD 0 ds) where
  go := fun i H C d e hc s => by
    obtain ⟨d', e1, e2⟩ := enumD_at ds 0 i d e
    obtain ⟨v, ev, dv⟩ := q.at e1
    have hr : Rd H a (.lst vs) := sub_r (s.trans less_sub) h
    refine ⟨⟨vs, v, .inl hr, ev⟩, fun x H' y => ?_⟩
    obtain ⟨T, x', rfl, nT, rfl, y⟩ := y
    have := (y vs (.inl hr)).symm.trans ev
    cases this
    subst e2
    rw [Nat.zero_add]
    exact ⟨.new nT, pair_of hc nT (.int _) (Dq.keep s _ _ dv)⟩
  stop := fun i H C e hc s => ⟨vs, .inl (sub_r (s.trans less_sub) h), by rw [q.len, e, enumD_len]; exact Nat.le_refl _⟩
theorem it_enT (h : C0 a = some (.tup vs)) (q : DqAll K C0 vs ds) : IterOf K (Jen K a) C0 (enumD 0 ds) where
  go := fun i H C d e hc s => by
    obtain ⟨d', e1, e2⟩ := enumD_at ds 0 i d e
    obtain ⟨v, ev, dv⟩ := q.at e1
    have hr : H a = some (.tup vs) := (s.trans less_sub) _ _ h
    refine ⟨⟨vs, v, SqT.of hr, ev⟩, fun x H' y => ?_⟩
    obtain ⟨T, x', rfl, nT, rfl, y⟩ := y
    have := (y vs (SqT.of hr)).symm.trans ev
    cases this
    subst e2
    rw [Nat.zero_add]
    exact ⟨.new nT, pair_of hc nT (.int _) (Dq.keep s _ _ dv)⟩
  stop := fun i H C e hc s => ⟨vs, SqT.of ((s.trans less_sub) _ _ h), by rw [q.len, e, enumD_len]⟩
def zipD : List Dt → List Dt → List Dt
  | x :: xs, y :: ys => .tuple [x, y] :: zipD xs ys
  | _, _ => []
theorem zipD_at : ∀ (xs ys : List Dt) (i : Nat) (e : Dt), (zipD xs ys)[i]? = some e → ∃ x y, xs[i]? = some x ∧ ys[i]? = some y ∧ e = .tuple [x, y]
  | [], _, _, _, h => by simp [zipD] at h
  | _ :: _, [], _, _, h => by simp [zipD] at h
  | x :: xs, y :: ys, 0, e, h => by
    simp [zipD] at h
    exact ⟨x, y, rfl, rfl, h.symm⟩
  | x :: xs, y :: ys, i + 1, e, h => by
    obtain ⟨x', y', e1, e2, e3⟩ := zipD_at xs ys i e (by simpa [zipD] using h)
    exact ⟨x', y', by simpa using e1, by simpa using e2, e3⟩
theorem zipD_len : ∀ (xs ys : List Dt), (zipD xs ys).length = min xs.length ys.length
  | [], _ => by simp [zipD]
  | _ :: _, [] => by simp [zipD]
  | x :: xs, y :: ys => by
    have := zipD_len xs ys
    simp only [zipD, List.length_cons, this]
    omega
variable {b : Addr} {ws : List V} {es : List Dt}
theorem it_zipL (h1 : Rd C0 a (.lst vs)) (q1 : DqAll K C0 vs ds) (h2 : Rd C0 b (.lst ws)) (q2 : DqAll K C0 ws es) : IterOf K (Itz K a b) C0 (zipD ds es) where
  go := fun i H C d e hc s => by
    obtain ⟨x, y, e1, e2, e3⟩ := zipD_at ds es i d e
    obtain ⟨v, ev, dv⟩ := q1.at e1
    obtain ⟨u, eu, du⟩ := q2.at e2
    have r1 : Rd H a (.lst vs) := sub_r (s.trans less_sub) h1
    have r2 : Rd H b (.lst ws) := sub_r (s.trans less_sub) h2
    refine ⟨⟨vs, ws, v, u, .inl r1, .inl r2, ev, eu⟩, fun x H' y => ?_⟩
    obtain ⟨T, x', y', rfl, nT, rfl, z1, z2⟩ := y
    have t1 := (z1 vs (.inl r1)).symm.trans ev
    have t2 := (z2 ws (.inl r2)).symm.trans eu
    cases t1
    cases t2
    subst e3
    exact ⟨.new nT, pair_of hc nT (Dq.keep s _ _ dv) (Dq.keep s _ _ du)⟩
  stop := fun i H C e hc s => ⟨vs, ws, .inl (sub_r (s.trans less_sub) h1), .inl (sub_r (s.trans less_sub) h2), by rw [q1.len, q2.len, e, zipD_len]; omega⟩
theorem it_zipT (h1 : C0 a = some (.tup vs)) (q1 : DqAll K C0 vs ds) (h2 : C0 b = some (.tup ws)) (q2 : DqAll K C0 ws es) : IterOf K (RZ.ItzT K a b) C0 (zipD ds es) where
  go := fun i H C d e hc s => by
    obtain ⟨x, y, e1, e2, e3⟩ := zipD_at ds es i d e
    obtain ⟨v, ev, dv⟩ := q1.at e1
    obtain ⟨u, eu, du⟩ := q2.at e2
    have r1 : H a = some (.tup vs) := (s.trans less_sub) _ _ h1
    have r2 : H b = some (.tup ws) := (s.trans less_sub) _ _ h2
    refine ⟨⟨vs, ws, v, u, SqT.of r1, SqT.of r2, ev, eu⟩, fun x H' y => ?_⟩
    obtain ⟨T, x', y', rfl, nT, rfl, z1, z2⟩ := y
    have t1 := (z1 vs (SqT.of r1)).symm.trans ev
    have t2 := (z2 ws (SqT.of r2)).symm.trans eu
    cases t1
    cases t2
    subst e3
    exact ⟨.new nT, pair_of hc nT (Dq.keep s _ _ dv) (Dq.keep s _ _ du)⟩
  stop := fun i H C e hc s => ⟨vs, ws, SqT.of ((s.trans less_sub) _ _ h1), SqT.of ((s.trans less_sub) _ _ h2), by rw [q1.len, q2.len, e, zipD_len]; omega⟩
def rngD (lo : Int) : Nat → List Dt
  | 0 => []
  | n + 1 => .int lo :: rngD (lo + 1) n
theorem rngD_len : ∀ (n : Nat) (lo : Int), (rngD lo n).length = n
  | 0, _ => rfl
  | n + 1, lo => by
    show (rngD (lo + 1) n).length + 1 = n + 1
    rw [rngD_len n]
theorem rngD_at : ∀ (n i : Nat) (lo : Int) (d : Dt), (rngD lo n)[i]? = some d → i < n ∧ d = .int (lo + i)
  | 0, _, _, _, h => by simp [rngD] at h
  | n + 1, 0, lo, d, h => by
    simp [rngD] at h
    exact ⟨Nat.succ_pos _, by rw [← h]; simp⟩
  | n + 1, i + 1, lo, d, h => by
    obtain ⟨h1, h2⟩ := rngD_at n i (lo + 1) d (by simpa [rngD] using h)
    exact ⟨by omega, by rw [h2]; congr 1; omega⟩
theorem it_rng {lo : Int} {n : Nat} : IterOf K (Itr lo n) C0 (rngD lo n) where
  go := fun i H C d e hc s => by
    obtain ⟨h1, h2⟩ := rngD_at n i lo d e
    refine ⟨h1, fun x H' y => ?_⟩
    obtain ⟨rfl, rfl⟩ := y
    subst h2
    exact ⟨.refl _, .int _⟩
  stop := fun i H C e hc s => by
    show n ≤ i
    rw [e, rngD_len]
    exact Nat.le_refl _
def rngC (lo c : Int) : Nat → List Dt
  | 0 => []
  | n + 1 => .int lo :: rngC (lo + c) c n
theorem rngC_len : ∀ (n : Nat) (lo c : Int), (rngC lo c n).length = n
  | 0, _, _ => rfl
  | n + 1, lo, c => by
    show (rngC (lo + c) c n).length + 1 = n + 1
    rw [rngC_len n]
theorem rngC_at : ∀ (n i : Nat) (lo c : Int) (d : Dt), (rngC lo c n)[i]? = some d → i < n ∧ d = .int (lo + (i : Nat) * c)
  | 0, _, _, _, _, h => by simp [rngC] at h
  | n + 1, 0, lo, c, d, h => by
    simp [rngC] at h
    exact ⟨Nat.succ_pos _, by rw [← h]; simp⟩
  | n + 1, i + 1, lo, c, d, h => by
    obtain ⟨h1, h2⟩ := rngC_at n i (lo + c) c d (by simpa [rngC] using h)
    refine ⟨by omega, ?_⟩
    rw [h2]
    congr 1
    have e : ((i + 1 : Nat) : Int) * c = (i : Nat) * c + c := by
      rw [Int.natCast_add, Int.add_mul]
      simp
    rw [e]
    omega
theorem it_rngC {lo c : Int} {n : Nat} : IterOf K (Itc lo c n) C0 (rngC lo c n) where
  go := fun i H C d e hc s => by
    obtain ⟨h1, h2⟩ := rngC_at n i lo c d e
    refine ⟨h1, fun x H' y => ?_⟩
    obtain ⟨rfl, rfl⟩ := y
    subst h2
    exact ⟨.refl _, .int _⟩
  stop := fun i H C e hc s => by
    show n ≤ i
    rw [e, rngC_len]
    exact Nat.le_refl _
def sgnD (z : Str) : List Dt := z.cps.toList.map fun c => .str ⟨#[c]⟩
theorem it_str {z : Str} : IterOf K (Its z) C0 (sgnD z) where
  go := fun i H C d e hc s => by
    unfold sgnD at e
    rw [List.getElem?_map] at e
    cases q : z.cps.toList[i]? with
    | none => rw [q] at e; cases e
    | some c =>
      rw [q] at e
      cases e
      have hi : i < z.cps.size := by simpa using (List.getElem?_eq_some_iff.mp q).1
      refine ⟨hi, fun x H' y => ?_⟩
      obtain ⟨rfl, c', e1, rfl⟩ := y
      have e2 : z.cps[i]? = some c := by simpa using q
      rw [e2] at e1
      cases e1
      exact ⟨.refl _, .str _⟩
  stop := fun i H C e hc s => by
    show z.cps.size ≤ i
    rw [e]
    unfold sgnD
    simp
end
end Yd

set_option Elab.async false
set_option linter.all false
set_option maxRecDepth 100000
set_option maxHeartbeats 1000000
set_option autoImplicit false
namespace Yd
open PySem PySem.Spec PyProof.Rows L2

/-! ### what a for, a comprehension walks -/
def seqOf : Dt → Option (List Dt)
  | .list xs => some xs
  | .tuple xs => some xs
  | .str z => some (sgnD z)
  | _ => none
/-- the items of a list, a tuple, a text -/
def mItems (m : ME) : ML := fun en => match m en with
  | none => none
  | some (d, e) => match seqOf d with
    | none => none
    | some ds => some (ds, e)
def iSeq (K : PySem.W.Frag) (t : TE) : TI := fun σ H R => t σ H fun x H1 => (∃ a xs, x = .ref a ∧ Rd H1 a (.lst xs) ∧ R (Itl K a) H1) ∨ (∃ a xs, x = .ref a ∧ H1 a = some (.tup xs) ∧ R (Itt K a) H1) ∨ ∃ z, x = .str z ∧ R (Its z) H1
section
variable {X : Cx} {tg e : Expr} {m : ME}
theorem pi_seq {t : TE} (he : PE X e t) : PI X tg e (iSeq X.K t) := by
  refine ⟨fun pins s σ H R I h => ?_⟩
  refine thn (he.run pins s σ H _ I h) fun v s1 ⟨y, H1, I1, r1, q⟩ => ?_
  rcases q with ⟨a, xs, rfl, hx, q⟩ | ⟨a, xs, rfl, hx, q⟩ | ⟨z, rfl, q⟩
  · cases r1
    obtain ⟨its, _, p, _⟩ := I1.list (.inl hx)
    refine wpAny_pyIter_list p.isList ?_
    exact pi_one (tk := s1.toks) I1 _ (turn_list a _) ⟨_, Heap.get?_push_size _ rfl, rfl, rfl⟩ q
  · cases r1
    obtain ⟨its, _, p, _⟩ := I1.tuple (SqT.of hx)
    refine wpAny_pyIter_tuple (show s1.heap.IsTuple a its.toArray from p) ?_
    exact pi_one (tk := s1.toks) I1 _ (turn_tuple a _) ⟨_, Heap.get?_push_size _ rfl, rfl, rfl⟩ q
  · obtain ⟨t, rfl⟩ := r1
    cases ha : z.cps.all (· < 128)
    · exact wpAny_pyIter_wide ha (pi_one (tk := s1.toks) I1 _ (turn_str _ z t "str_iterator" (.inr rfl)) ⟨_, Heap.get?_push_size _ rfl, rfl, rfl⟩ q)
    · exact wpAny_pyIter_ascii ha (pi_one (tk := s1.toks) I1 _ (turn_str _ z t "str_ascii_iterator" (.inl rfl)) ⟨_, Heap.get?_push_size _ rfl, rfl, rfl⟩ q)
theorem oi_seq (he : OE X e m) : OI X tg e (mItems m) := pi_imp (pi_seq he) fun σ H R ⟨w, en, ds, en', sr, e, k⟩ => by
  unfold mItems at e
  split at e
  · cases e
  rename_i d e1 h1
  split at e
  · cases e
  rename_i ds' h2
  cases e
  refine ⟨w, en, d, _, sr, h1, fun x H1 w1 sr1 p1 t1 => ?_⟩
  unfold seqOf at h2
  split at h2
  · cases h2
    cases p1 with
    | lst hx ax => exact .inl ⟨_, _, rfl, sub_r less_sub hx, k _ H1 w1 sr1 t1 (it_list hx ax)⟩
  · cases h2
    cases p1 with
    | tup hx ax => exact .inr (.inl ⟨_, _, rfl, less_sub _ _ hx, k _ H1 w1 sr1 t1 (it_tup hx ax)⟩)
  · cases h2
    cases p1
    exact .inr (.inr ⟨_, rfl, k _ H1 w1 sr1 t1 it_str⟩)
  · cases h2
/-! ranges -/
def small62 (i : Int) : Bool := decide (-(2 ^ 62) ≤ i) && decide (i < 2 ^ 62)
theorem small62_ok {i : Int} (h : small62 i = true) : -(2 ^ 62) ≤ i ∧ i < 2 ^ 62 := by
  unfold small62 at h
  simp only [Bool.and_eq_true, decide_eq_true_eq] at h
  exact h
def fRng1 : List Dt → Option (List Dt)
  | [.int j] => if small62 j = true then some (rngD 0 j.toNat) else none
  | _ => none
def fRng2 : List Dt → Option (List Dt)
  | [.int i, .int j] => if small62 i = true ∧ small62 j = true then some (rngD i (j - i).toNat) else none
  | _ => none
/-- by -1 -/
def fRng3 : List Dt → Option (List Dt)
  | [.int i, .int j, .int c] => if c = -1 ∧ small62 i = true ∧ small62 j = true then some (rngC i (-1) (i - j).toNat) else none
  | _ => none
def mRng (f : List Dt → Option (List Dt)) (m : ML) : ML := fun en => match m en with
  | none => none
  | some (ds, e) => match f ds with
    | none => none
    | some rs => some (rs, e)
theorem mRng_some {f : List Dt → Option (List Dt)} {ms : ML} {en en' : En} {rs : List Dt} (h : mRng f ms en = some (rs, en')) : ∃ ds, ms en = some (ds, en') ∧ f ds = some rs := by
  unfold mRng at h
  split at h
  · cases h
  rename_i ds e1 h1
  split at h
  · cases h
  rename_i rs' h2
  cases h
  exact ⟨ds, h1, h2⟩
variable {ms : ML} {a b c : Expr} {p pos : Pos}
theorem oi_rng1 (hg : Gl X "range") (hm : X.mg "range" = none) (ha : OA X [a] ms) (hs : starEach [a] X.env = [(false, eval a X.env)] := by rfl) : OI X tg (.Call (.Name "range" p) [a] [] pos) (mRng fRng1 ms) :=
  pi_imp (pi_range1 hg hm ha hs) fun σ H R ⟨w, en, rs, en', sr, e, k⟩ => by
    obtain ⟨ds, h1, h2⟩ := mRng_some e
    refine ⟨w, en, ds, en', sr, h1, fun vs H1 w1 sr1 p1 t1 => ?_⟩
    unfold fRng1 at h2
    split at h2
    · split at h2
      · rename_i hsm
        cases h2
        cases p1 with
        | cons q1 q2 =>
          cases q2
          cases q1
          obtain ⟨z1, z2⟩ := small62_ok hsm
          exact ⟨_, rfl, z1, z2, k _ H1 w1 sr1 t1 it_rng⟩
      · cases h2
    · cases h2
theorem oi_rng2 (hg : Gl X "range") (hm : X.mg "range" = none) (ha : OA X [a, b] ms) (hs : starEach [a, b] X.env = [(false, eval a X.env), (false, eval b X.env)] := by rfl) (hs2 : starEach [b] X.env = [(false, eval b X.env)] := by rfl) :
    OI X tg (.Call (.Name "range" p) [a, b] [] pos) (mRng fRng2 ms) :=
  pi_imp (pi_range2 hg hm ha hs hs2) fun σ H R ⟨w, en, rs, en', sr, e, k⟩ => by
    obtain ⟨ds, h1, h2⟩ := mRng_some e
    refine ⟨w, en, ds, en', sr, h1, fun vs H1 w1 sr1 p1 t1 => ?_⟩
    unfold fRng2 at h2
    split at h2
    · split at h2
      · rename_i hsm
        cases h2
        cases p1 with
        | cons q1 q2 =>
          cases q2 with
          | cons q2 q3 =>
            cases q3
            cases q1
            cases q2
            obtain ⟨z1, z2⟩ := small62_ok hsm.1
            obtain ⟨z3, z4⟩ := small62_ok hsm.2
            exact ⟨_, _, rfl, ⟨z1, z2, z3, z4⟩, k _ H1 w1 sr1 t1 it_rng⟩
      · cases h2
    · cases h2
theorem oi_rng3 (hg : Gl X "range") (hm : X.mg "range" = none) (ha : OA X [a, b, c] ms) (hs : starEach [a, b, c] X.env = (false, eval a X.env) :: starEach [b, c] X.env := by rfl) (hpl : (backTo pos (starEach [b, c] X.env)).any (·.1) = false := by rfl) :
    OI X tg (.Call (.Name "range" p) [a, b, c] [] pos) (mRng fRng3 ms) :=
  pi_imp (pi_range3 hg hm ha hs hpl) fun σ H R ⟨w, en, rs, en', sr, e, k⟩ => by
    obtain ⟨ds, h1, h2⟩ := mRng_some e
    refine ⟨w, en, ds, en', sr, h1, fun vs H1 w1 sr1 p1 t1 => ?_⟩
    unfold fRng3 at h2
    split at h2
    · split at h2
      · rename_i hsm
        cases h2
        cases p1 with
        | cons q1 q2 =>
          cases q2 with
          | cons q2 q3 =>
            cases q3 with
            | cons q3 q4 =>
              cases q4
              cases q1
              cases q2
              cases q3
              obtain ⟨hc, h5, h6⟩ := hsm
              subst hc
              obtain ⟨z1, z2⟩ := small62_ok h5
              obtain ⟨z3, z4⟩ := small62_ok h6
              exact ⟨_, _, _, _, rfl, RgC.neg z1 z2 z3 z4, k _ H1 w1 sr1 t1 it_rngC⟩
      · cases h2
    · cases h2
/-! enumerate, zip -/
def mEnum (m : ME) : ML := fun en => match m en with
  | some (.list xs, e) => some (enumD 0 xs, e)
  | some (.tuple xs, e) => some (enumD 0 xs, e)
  | _ => none
def iEn (K : PySem.W.Frag) (t : TA) : TI := fun σ H R => t σ H fun vs H1 => ∃ a xs, vs = [.ref a] ∧ ((Rd H1 a (.lst xs) ∧ R (Ite K a) H1) ∨ (H1 a = some (.tup xs) ∧ R (Jen K a) H1))
variable {elts : List Expr} {kk : Nat} {tpos : Pos} {e2 : Expr}
theorem fp2 {pins : List (Addr × Obj)} {σ : L2.St} {H : Hp} {s : Shared} (I : Inv X pins σ H s) : ∀ c, c ∈ [s.heap.objs.size + 1, s.heap.objs.size] → FpOk X pins H c := fun c hcm => by
  have hle : s.heap.objs.size ≤ c := by
    rcases List.mem_cons.mp hcm with rfl | hcm
    · exact Nat.le_add_right _ _
    · rw [List.mem_singleton.mp hcm]
      exact Nat.le_refl _
  exact I.fpOk hle (I.hok.fresh hle)
theorem pi_en {t : TA} (hg : Gl X "enumerate") (hm : X.mg "enumerate" = none) (ha : PA X [e] t) (hs : starEach [e] X.env = [(false, eval e X.env)] := by rfl) :
    PI X (.Tuple elts kk tpos) (.Call (.Name "enumerate" p) [e] [] pos) (iEn X.K t) := by
  refine ⟨fun pins s σ H R I h => ?_⟩
  refine Call_ (ld_blt I hg hm boot_enumerate (PyProof.Rows.callWith_type1 (thn (ha.run pos pins s σ H _ I h) fun us s1 ⟨vs, H1, I1, r1, q1⟩ => ?_) hs rfl))
  obtain ⟨a, xs, ex, q⟩ := q1
  subst ex
  rw [Vals.ref1 r1]
  rcases q with ⟨hx, q⟩ | ⟨hx, q⟩
  · obtain ⟨its, rv, p', hz⟩ := I1.list (.inl hx)
    refine en_begins (begins_list a its.toArray) p'.isList fun h' he hit hk => wpAny_pyIter_enum he ?_
    have I2 : Inv X pins σ H1 { s1 with heap := h' } := I1.kept (t' := s1.toks) hk
    exact ⟨_, _, _, _, H1, rfl, I2, turn_enum a (s1.heap.objs.size + 1) s1.heap.objs.size, ⟨⟨.none, he⟩, ⟨_, hit, rfl, rfl⟩, Nat.succ_ne_self _⟩, fp2 I1, q⟩
  · obtain ⟨its, rv, p', hz⟩ := I1.tuple (SqT.of hx)
    refine en_begins (begins_tuple a its.toArray) p' fun h' he hit hk => wpAny_pyIter_enum he ?_
    have I2 : Inv X pins σ H1 { s1 with heap := h' } := I1.kept (t' := s1.toks) hk
    exact ⟨_, _, _, _, H1, rfl, I2, turn_en a (s1.heap.objs.size + 1) s1.heap.objs.size, ⟨⟨.none, he⟩, ⟨_, hit, rfl, rfl⟩, Nat.succ_ne_self _⟩, fp2 I1, q⟩
theorem oi_en (hg : Gl X "enumerate") (hm : X.mg "enumerate" = none) (he : OE X e m) (hs : starEach [e] X.env = [(false, eval e X.env)] := by rfl) : OI X (.Tuple elts kk tpos) (.Call (.Name "enumerate" p) [e] [] pos) (mEnum m) :=
  pi_imp (pi_en hg hm (pa_cons he pa_nil hs) hs) fun σ H R ⟨w, en, rs, en', sr, e, k⟩ => by
    unfold mEnum at e
    split at e
    · rename_i xs e1 h1
      cases e
      refine ⟨w, en, _, _, sr, h1, fun x H1 w1 sr1 p1 t1 => ?_⟩
      cases p1 with
      | lst hx ax => exact ⟨_, _, rfl, .inl ⟨sub_r less_sub hx, k _ H1 w1 sr1 t1 (it_enL hx ax)⟩⟩
    · rename_i xs e1 h1
      cases e
      refine ⟨w, en, _, _, sr, h1, fun x H1 w1 sr1 p1 t1 => ?_⟩
      cases p1 with
      | tup hx ax => exact ⟨_, _, rfl, .inr ⟨less_sub _ _ hx, k _ H1 w1 sr1 t1 (it_enT hx ax)⟩⟩
    · cases e
/-- zip of two lists, of two tuples -/
def fZip : List Dt → Option (List Dt)
  | [.list xs, .list ys] => some (zipD xs ys)
  | [.tuple xs, .tuple ys] => some (zipD xs ys)
  | _ => none
theorem oi_zip (hg : Gl X "zip") (hm : X.mg "zip" = none) (ha : OA X [e, e2] ms) (hs : starEach [e, e2] X.env = (false, eval e X.env) :: starEach [e2] X.env := by rfl) (hpl : (backTo pos (starEach [e2] X.env)).any (·.1) = false := by rfl) :
    OI X (.Tuple elts kk tpos) (.Call (.Name "zip" p) [e, e2] [] pos) (mRng fZip ms) :=
  pi_imp (RZ.pi_zipA hg hm ha hs hpl) fun σ H R ⟨w, en, rs, en', sr, e, k⟩ => by
    obtain ⟨ds, h1, h2⟩ := mRng_some e
    refine ⟨w, en, ds, en', sr, h1, fun vs H1 w1 sr1 p1 t1 => ?_⟩
    unfold fZip at h2
    split at h2
    · cases h2
      cases p1 with
      | cons q1 q2 =>
        cases q2 with
        | cons q2 q3 =>
          cases q3
          cases q1 with
          | lst hx ax =>
            cases q2 with
            | lst hy ay => exact ⟨_, _, _, _, rfl, .inl ⟨.inl (sub_r less_sub hx), .inl (sub_r less_sub hy), k _ H1 w1 sr1 t1 (it_zipL hx ax hy ay)⟩⟩
    · cases h2
      cases p1 with
      | cons q1 q2 =>
        cases q2 with
        | cons q2 q3 =>
          cases q3
          cases q1 with
          | tup hx ax =>
            cases q2 with
            | tup hy ay => exact ⟨_, _, _, _, rfl, .inr ⟨SqT.of (less_sub _ _ hx), SqT.of (less_sub _ _ hy), k _ H1 w1 sr1 t1 (it_zipT hx ax hy ay)⟩⟩
    · cases h2
end
end Yd

set_option Elab.async false
set_option linter.all false
set_option maxRecDepth 100000
set_option maxHeartbeats 1000000
set_option autoImplicit false
namespace Yd
open PySem PySem.Spec PyProof.Rows L2

/-! ### targets -/
theorem wipe_get {σ : L2.St} {j : Nat} : ∀ {vs : List Nat}, (wipe σ vs)[j]? = if j ∈ vs then σ[j]?.map (fun _ => none) else σ[j]?
  | [] => by simp [wipe]
  | v :: vs => by
    unfold wipe
    rw [List.getElem?_set]
    rw [wipe_length]
    by_cases h : v = j
    · subst h
      simp only [if_true, List.mem_cons, true_or]
      by_cases hl : v < σ.length
      · simp [hl]
      · simp [hl, List.getElem?_eq_none (Nat.le_of_not_lt hl)]
    · simp only [if_neg h]
      rw [wipe_get]
      have e : (j ∈ v :: vs) ↔ (j ∈ vs) := by simp [Ne.symm h]
      simp only [e]
theorem wipe_eq {σ τ : L2.St} {vs : List Nat} (hl : σ.length = τ.length) (h : ∀ j, j ∉ vs → σ[j]? = τ[j]?) : wipe σ vs = wipe τ vs := by
  apply List.ext_getElem?
  intro j
  rw [wipe_get, wipe_get]
  by_cases hj : j ∈ vs
  · rw [if_pos hj, if_pos hj]
    by_cases hlt : j < σ.length
    · have h2 : j < τ.length := hl ▸ hlt
      simp [hlt, h2]
    · have h2 : ¬ j < τ.length := hl ▸ hlt
      simp [hlt, h2]
  · rw [if_neg hj, if_neg hj]
    exact h j hj
theorem wipe_set {σ : L2.St} {vs : List Nat} {i : Nat} {x : Option V} (h : i ∈ vs) : wipe (σ.set i x) vs = wipe σ vs :=
  wipe_eq (by simp) fun j hj => by rw [List.getElem?_set_ne (fun e => hj (by rw [← e]; exact h))]
def gSet (i : Nat) : Dt → En → Option En := fun d en => match en[i]? with
  | some s => if s.free = true then some (en.set i (.val d)) else none
  | none => none
def gNil' : List Dt → En → Option En
  | [], en => some en
  | _, _ => none
def gCons' (g : Dt → En → Option En) (r : List Dt → En → Option En) : List Dt → En → Option En
  | d :: ds, en => (match g d en with | none => none | some e => r ds e)
  | _, _ => none
def gTupY (n : Nat) (g : List Dt → En → Option En) : Dt → En → Option En
  | .tuple ds, en => if ds.length = n then g ds en else none
  | _, _ => none
section
variable {X : Cx} {pos : Pos} {vs : List Nat}
theorem og_name {i : Nat} {x : Str} (hi' : i ∈ vs) (hN : X.N.Nodup) (hi : X.N[i]? = some x) (hx : Loc X.env.scope x) (hf : X.fn x = true ∨ X.env.scope.names.lookup x = some .local := by first | exact .inl rfl | exact .inr rfl | assumption) : OG X (.Name x pos) vs (gSet i) :=
  pg_imp (pg_name hN hi hx hf) fun v σ H Q ⟨w, en, d, en', sr, dv, e, k⟩ => by
    unfold gSet at e
    split at e
    · rename_i s h
      split at e
      · rename_i hf
        cases e
        exact k _ H (w.drop i) (sr.put h (dp_drop dv)) (Tr.put h hf) (wipe_set hi')
      · cases e
    · cases e
theorem ogs_nil : OGs X [] vs gNil' := pgs_imp pgs_nil fun xs σ H Q ⟨w, en, ds, en', sr, dv, e, k⟩ => by
  unfold gNil' at e
  split at e
  · cases e
    cases dv
    exact ⟨rfl, k σ H w sr .refl rfl⟩
  · cases e
theorem ogs_cons {t : Expr} {ts : List Expr} {g : Dt → En → Option En} {r : List Dt → En → Option En} (h1 : OG X t vs g) (h2 : OGs X ts vs r) (hs : (assignEach (t :: ts) X.env).map (·.2) = assign t X.env :: (assignEach ts X.env).map (·.2) := by rfl) : OGs X (t :: ts) vs (gCons' g r) :=
  pgs_imp (pgs_cons h1 h2 hs) fun xs σ H Q ⟨w, en, ds, en', sr, dv, e, k⟩ => by
    unfold gCons' at e
    split at e
    · split at e
      · cases e
      · rename_i e1 h1
        cases dv with
        | cons d1 d2 =>
          refine ⟨_, _, rfl, w, _, _, e1, sr, d1, h1, fun σ1 H1 w1 sr1 t1 z1 => ⟨w1, e1, _, en', sr1, t1.dpAll d2, e, fun σ2 H2 w2 sr2 t2 z2 => ?_⟩⟩
          exact k σ2 H2 w2 sr2 (t1.trans t2) (z2.trans z1)
    · cases e
theorem og_tup {ts : List Expr} {k : Nat} {g : List Dt → En → Option En} {n : Nat} (hc : X.calm = true) (h : OGs X ts vs g) (hn : (assignEach ts X.env).length = n := by rfl) (hst : (assignEach ts X.env).findIdx? (·.1) = none := by rfl) : OG X (.Tuple ts k pos) vs (gTupY n g) :=
  pg_imp (pg_tup hc h hn hst) fun v σ H Q ⟨w, en, d, en', sr, dv, e, kk⟩ => by
    unfold gTupY at e
    split at e
    · split at e
      · rename_i hl
        cases dv with
        | tup hx ax => exact ⟨_, _, rfl, SqT.of (less_sub _ _ hx), by rw [ax.len]; exact hl, w, en, _, en', sr, ax, e, kk⟩
      · cases e
    · cases e
end

/-! ### small statements, blocks -/
def mNext : MT := fun en => some (.nx en)
def mSeq (a b : MT) : MT := fun en => match a en with
  | some (.nx e) => b e
  | o => o
def mRet (m : ME) : MT := fun en => match m en with
  | none => none
  | some (d, e) => some (.rt d e)
def mDrop (m : ME) : MT := fun en => match m en with
  | none => none
  | some (_, e) => some (.nx e)
def mIfS (c : MB) (a b : MT) : MT := fun en => match c en with
  | none => none
  | some (true, e) => a e
  | some (false, e) => b e
def mNever : MT := fun _ => none
def mRetN (m : ML) : MT := fun en => match m en with
  | none => none
  | some (d, e) => some (.nw d e)
/-- a value into a slot -/
def mSet (i : Nat) (m : ME) : MT := fun en => match m en with
  | none => none
  | some (d, e) => match gSet i d e with
    | none => none
    | some e' => some (.nx e')
/-- a new list into a slot, as its own -/
def mOwn (i : Nat) (m : ML) : MT := fun en => match m en with
  | none => none
  | some (ds, e) => match e[i]? with
    | some s => if s.free = true then some (.nx (e.set i (.own ds))) else none
    | none => none
/-- a value to a target -/
def mAsg (m : ME) (g : Dt → En → Option En) : MT := fun en => match m en with
  | none => none
  | some (d, e) => match g d e with
    | none => none
    | some e' => some (.nx e')
theorem Fin.of {K : PySem.W.Frag} {D D' : Ends} {w w' : Ow} {H H' : Hp} {en en' : En} (t : Tr w w' H H' en en') (h1 : D.nx = D'.nx) (h2 : D.bk = D'.bk) (h3 : D.ct = D'.ct) (h4 : D.rt = D'.rt) : ∀ {o : Out}, Fin K D w H en o → Fin K D' w' H' en' o
  | .nx _, f => fun σ1 H1 w1 sr1 t1 => h1 ▸ f σ1 H1 w1 sr1 (t.trans t1)
  | .bk _, f => fun σ1 H1 w1 sr1 t1 => h2 ▸ f σ1 H1 w1 sr1 (t.trans t1)
  | .ct _, f => fun σ1 H1 w1 sr1 t1 => h3 ▸ f σ1 H1 w1 sr1 (t.trans t1)
  | .rt _ _, f => fun x σ1 H1 w1 sr1 p1 t1 => h4 ▸ f x σ1 H1 w1 sr1 p1 (t.trans t1)
  | .nw _ _, f => fun p vs σ1 H1 w1 h0 hp sr1 p1 t1 => h4 ▸ f p vs σ1 H1 w1 (t.free h0) hp sr1 p1 (t.trans t1)
theorem Fin.to {K : PySem.W.Frag} {D : Ends} {w w' : Ow} {H H' : Hp} {en en' : En} (t : Tr w w' H H' en en') {o : Out} (f : Fin K D w H en o) : Fin K D w' H' en' o := Fin.of t rfl rfl rfl rfl f
section
variable {X : Cx} {st : Stmt} {rest : List Stmt} {a b : MT} {e : Expr} {m : ME} {pos : Pos}
theorem os_nil : OSs X [] mNext := pss_imp pss_nil fun D σ H ⟨w, en, o, sr, e, f⟩ => by
  cases e
  exact f σ H w sr .refl
theorem os_cons (h1 : OS X st a) (h2 : OSs X rest b) : OSs X (st :: rest) (mSeq a b) := pss_imp (pss_cons h1 h2) fun D σ H ⟨w, en, o, sr, e, f⟩ => by
  unfold mSeq at e
  split at e
  · rename_i e1 h1
    exact ⟨w, en, _, sr, h1, fun σ1 H1 w1 sr1 t1 => ⟨w1, e1, o, sr1, e, f.to t1⟩⟩
  · rename_i h1
    refine ⟨w, en, o, sr, e, ?_⟩
    cases o with
    | nx e1 => exact absurd e (h1 e1)
    | bk e1 => exact f
    | ct e1 => exact f
    | rt d e1 => exact f
    | nw d e1 => exact f
theorem os_one (h1 : OS X st a) : OSs X [st] a := pss_one h1
theorem os_ret (h : OE X e m) : OS X (.Return (some e) pos) (mRet m) := ps_imp (ps_ret h) fun D σ H ⟨w, en, o, sr, e, f⟩ => by
  unfold mRet at e
  split at e
  · cases e
  · rename_i d e1 h1
    cases e
    exact ⟨w, en, d, _, sr, h1, fun x H1 w1 sr1 p1 t1 => f x σ H1 w1 sr1 p1 t1⟩
theorem os_retN {ml : ML} (h : OF X e ml) : OS X (.Return (some e) pos) (mRetN ml) := ps_imp (ps_ret h) fun D σ H ⟨w, en, o, sr, e, f⟩ => by
  unfold mRetN at e
  split at e
  · cases e
  · rename_i d e1 h1
    cases e
    exact ⟨w, en, d, _, sr, h1, fun p vs H1 w1 h0 hp sr1 p1 t1 => f p vs σ H1 w1 h0 hp sr1 p1 t1⟩
theorem os_expr (h : OE X e m) (hs : swapsWith e none pos.line X.env = pure false := by rfl) : OS X (.Expr e pos) (mDrop m) := ps_imp (ps_expr h hs) fun D σ H ⟨w, en, o, sr, e, f⟩ => by
  unfold mDrop at e
  split at e
  · cases e
  · rename_i d e1 h1
    cases e
    exact ⟨w, en, d, _, sr, h1, fun x H1 w1 sr1 p1 t1 => f σ H1 w1 sr1 t1⟩
theorem os_doc {x : Str} {j : Nat} {p : Pos} : OS X (.Expr (.Constant (.str x) j p) pos) mNext := ps_imp ps_doc fun D σ H ⟨w, en, o, sr, e, f⟩ => by
  cases e
  exact f σ H w sr .refl
theorem os_pass : OS X (.Pass pos) mNext := ps_imp ps_pass fun D σ H ⟨w, en, o, sr, e, f⟩ => by
  cases e
  exact f σ H w sr .refl
theorem os_brk : OS X (.Break pos) (fun en => some (.bk en)) := ps_imp ps_break fun D σ H ⟨w, en, o, sr, e, f⟩ => by
  cases e
  exact f σ H w sr .refl
theorem os_cnt : OS X (.Continue pos) (fun en => some (.ct en)) := ps_imp ps_continue fun D σ H ⟨w, en, o, sr, e, f⟩ => by
  cases e
  exact f σ H w sr .refl
theorem os_never : OS X st mNever := ps_imp ps_never fun D σ H ⟨w, en, o, sr, e, f⟩ => by cases e
theorem os_nevers {sts : List Stmt} : OSs X sts mNever := pss_imp pss_never fun D σ H ⟨w, en, o, sr, e, f⟩ => by cases e
theorem os_if {c : Expr} {ss ts : List Stmt} {mc : MB} (hc : OB X c mc) (ha : OSs X ss a) (hb : OSs X ts b) : OS X (.If c ss ts pos) (mIfS mc a b) := ps_imp (ps_if hc ha hb) fun D σ H ⟨w, en, o, sr, e, f⟩ => by
  unfold mIfS at e
  split at e
  · cases e
  · rename_i e1 h1
    refine ⟨w, en, _, e1, sr, h1, fun H1 w1 sr1 t1 => iteT ⟨w1, e1, o, sr1, e, f.to t1⟩⟩
  · rename_i e1 h1
    refine ⟨w, en, _, e1, sr, h1, fun H1 w1 sr1 t1 => iteF ⟨w1, e1, o, sr1, e, f.to t1⟩⟩
/-- target = value -/
theorem os_asg {tg : Expr} {vs : List Nat} {g : Dt → En → Option En} (he : OE X e m) (hg : OG X tg vs g) (hs : swapsWithSole [tg] e pos.line X.env = pure false := by rfl) (hw : swappedStores [tg] e X.env = pure none := by rfl)
    (h1 : (assignEach [tg] X.env).map (·.2) = [assign tg X.env] := by rfl) : OS X (.Assign [tg] e pos) (mAsg m g) := ps_imp (ps_asg he hg hs hw h1) fun D σ H ⟨w, en, o, sr, e, f⟩ => by
  unfold mAsg at e
  split at e
  · cases e
  rename_i d e1 h1
  split at e
  · cases e
  rename_i e2 h2
  cases e
  exact ⟨w, en, d, e1, sr, h1, fun x H1 w1 sr1 p1 t1 => ⟨w1, e1, d, _, sr1, p1, h2, fun σ2 H2 w2 sr2 t2 _ => f σ2 H2 w2 sr2 (t1.trans t2)⟩⟩
/-- what follows a value that goes to a slot -/
theorem ySet {K : PySem.W.Frag} {i : Nat} {D : Ends} {σ : L2.St} {H : Hp} (h : yS K (mSet i m) D σ H) : tAsg (yE K m) (gName i) D σ H := by
  obtain ⟨w, en, o, sr, e, f⟩ := h
  unfold mSet at e
  split at e
  · cases e
  rename_i d e1 h1
  split at e
  · cases e
  rename_i e2 h2
  cases e
  refine ⟨w, en, d, e1, sr, h1, fun x H1 w1 sr1 p1 t1 => ?_⟩
  unfold gSet at h2
  split at h2
  · rename_i s h
    split at h2
    · rename_i hf
      cases h2
      exact f _ H1 (w1.drop i) (sr1.put h (dp_drop p1)) (t1.trans (Tr.put h hf))
    · cases h2
  · cases h2
theorem yOwn {K : PySem.W.Frag} {i : Nat} {ml : ML} {D : Ends} {σ : L2.St} {H : Hp} (h : yS K (mOwn i ml) D σ H) : tAsg (yF K ml) (gName i) D σ H := by
  obtain ⟨w, en, o, sr, e, f⟩ := h
  unfold mOwn at e
  split at e
  · cases e
  rename_i ds e1 h1
  split at e
  · rename_i s h
    split at e
    · rename_i hf
      cases e
      refine ⟨w, en, ds, e1, sr, h1, fun p vs H1 w1 h0 hp sr1 p1 t1 => ?_⟩
      have np : ¬ w1.hid p := fun z => by
        rw [t1.hd] at z
        exact sr.hid p z h0
      exact f _ H1 (w1.take i p) (sr1.own hp np p1 h) (t1.own h0 h hf)
    · cases e
  · cases e
/-- name = value -/
theorem os_set {i : Nat} {x : Str} {pos' : Pos} (hN : X.N.Nodup) (hi : X.N[i]? = some x) (hx : Loc X.env.scope x) (he : OE X e m) (hs : swapsWith e (some (.Name x pos')) pos.line X.env = pure false := by rfl) (hf : X.fn x = true ∨ X.env.scope.names.lookup x = some .local := by first | exact .inl rfl | exact .inr rfl | assumption) :
    OS X (.Assign [.Name x pos'] e pos) (mSet i m) := ps_imp (ps_set hN hi hx he hs hf) fun D σ H h => ySet h
/-- name = a new list -/
theorem os_own {i : Nat} {x : Str} {ml : ML} {pos' : Pos} (hN : X.N.Nodup) (hi : X.N[i]? = some x) (hx : Loc X.env.scope x) (he : OF X e ml) (hs : swapsWith e (some (.Name x pos')) pos.line X.env = pure false := by rfl) (hf : X.fn x = true ∨ X.env.scope.names.lookup x = some .local := by first | exact .inl rfl | exact .inr rfl | assumption) :
    OS X (.Assign [.Name x pos'] e pos) (mOwn i ml) := ps_imp (ps_set hN hi hx he hs hf) fun D σ H h => yOwn h
end

/-! ### for -/
def forGo (g : Dt → En → Option En) (b : MT) : List Dt → En → Option Out
  | [], en => some (.nx en)
  | d :: ds, en => match g d en with
    | none => none
    | some e1 => match b e1 with
      | some (.nx e2) => forGo g b ds e2
      | some (.ct e2) => forGo g b ds e2
      | some (.bk e2) => some (.nx e2)
      | some (.rt r e2) => some (.rt r e2)
      | _ => none
def mFor (mi : ML) (g : Dt → En → Option En) (b : MT) : MT := fun en => match mi en with
  | none => none
  | some (ds, e) => forGo g b ds e
section
variable {X : Cx} {tg iter : Expr} {body : List Stmt} {mi : ML} {g : Dt → En → Option En} {b : MT} {pos : Pos} {vs : List Nat}
theorem os_for (hp : PassesOwn (model X.prog X.w) X.A X.env X.xe) (hc : X.calm = true) (hi : OI X tg iter mi) (hg : OG X tg vs g) (hb : OSs X body b) (hs : ∀ x, foldedSetIterable iter X.env x = pure x := by intro _; rfl) : OS X (.For tg iter body [] pos) (mFor mi g b) :=
  ps_imp (ps_for hp hc hi hg hb hs) fun D σ H ⟨w, en, o, sr, e, f⟩ => by
    unfold mFor at e
    split at e
    · cases e
    rename_i ds e1 h1
    refine ⟨w, en, ds, e1, sr, h1, fun J H1 w1 sr1 t1 io => ?_⟩
    have f1 : Fin X.K D w1 H1 e1 o := f.to t1
    -- before turn i: the rest of the run comes to o
    let W : Nat → Nat → L2.St → Hp → Prop := fun i m σ H => ∃ w en, SR X.K w H en σ ∧ Tr w1 w H1 H e1 en ∧ m = ds.length - i ∧ i ≤ ds.length ∧ forGo g b (ds.drop i) en = some o
    refine ⟨W, ⟨ds.length, w1, e1, sr1, .refl, by simp, Nat.zero_le _, by rw [List.drop_zero]; exact e⟩, ?_⟩
    rintro i mm σ2 H2 ⟨w2, e2, sr2, t2, rfl, hi, hrun⟩
    have hall : ∀ c, w2.all c → H2 c ≠ none := fun c z => sr2.allThere z
    by_cases hlt : i < ds.length
    · have hd : ds[i]? = some ds[i] := List.getElem?_eq_getElem hlt
      have hdrop : ds.drop i = ds[i] :: ds.drop (i + 1) := List.drop_eq_getElem_cons hlt
      rw [hdrop] at hrun
      unfold forGo at hrun
      split at hrun
      · cases hrun
      rename_i e3 hg3
      obtain ⟨hgo, hy⟩ := io.go i H2 w2.all ds[i] hd hall t2.sub
      refine .inr ⟨hgo, fun σ' H' => ∃ w' e', SR X.K w' H' e' σ' ∧ Tr w1 w' H1 H' e1 e' ∧ forGo g b (ds.drop (i + 1)) e' = some o, fun σ' H' ⟨w', e', sr', t', hr'⟩ => ⟨ds.length - (i + 1), by omega, w', e', sr', t', rfl, hlt, hr'⟩, fun x H3 hyx => ?_⟩
      obtain ⟨s3, d3⟩ := hy x H3 hyx
      refine ⟨w2, e2, ds[i], e3, sr2.grow s3, d3, hg3, fun σ4 H4 w4 sr4 t4 _ => ?_⟩
      have t4' : Tr w1 w4 H1 H4 e1 e3 := (t2.trans (.grow s3)).trans t4
      split at hrun
      · rename_i e5 hb5
        exact ⟨w4, e3, _, sr4, hb5, fun σ5 H5 w5 sr5 t5 => ⟨w5, e5, sr5, t4'.trans t5, hrun⟩⟩
      · rename_i e5 hb5
        exact ⟨w4, e3, _, sr4, hb5, fun σ5 H5 w5 sr5 t5 => ⟨w5, e5, sr5, t4'.trans t5, hrun⟩⟩
      · rename_i e5 hb5
        cases hrun
        exact ⟨w4, e3, _, sr4, hb5, fun σ5 H5 w5 sr5 t5 => f1 σ5 H5 w5 sr5 (t4'.trans t5)⟩
      · rename_i r5 e5 hb5
        cases hrun
        exact ⟨w4, e3, _, sr4, hb5, fun x5 σ5 H5 w5 sr5 p5 t5 => f1 x5 σ5 H5 w5 sr5 p5 (t4'.trans t5)⟩
      · cases hrun
    · have e0 : i = ds.length := by omega
      have hnil : ds.drop i = [] := by rw [e0]; simp
      rw [hnil] at hrun
      unfold forGo at hrun
      cases hrun
      exact .inl ⟨io.stop i H2 w2.all e0 hall t2.sub, f1 σ2 H2 w2 sr2 t2⟩
end

/-! ### while: so many turns at most -/
def whileGo (c : MB) (b : MT) : Nat → En → Option Out
  | 0, _ => none
  | n + 1, en => match c en with
    | none => none
    | some (false, e1) => some (.nx e1)
    | some (true, e1) => match b e1 with
      | some (.nx e2) => whileGo c b n e2
      | some (.ct e2) => whileGo c b n e2
      | some (.bk e2) => some (.nx e2)
      | some (.rt r e2) => some (.rt r e2)
      | _ => none
section
variable {X : Cx} {c : Expr} {body : List Stmt} {mc : MB} {b : MT} {pos : Pos}
theorem os_while (n : Nat) (hp : PassesOwn (model X.prog X.w) X.A X.env X.xe) (hc : OB X c mc) (hb : OSs X body b) : OS X (.While c body [] pos) (whileGo mc b n) :=
  ps_imp (ps_while hp hc hb) fun D σ H ⟨w, en, o, sr, e, f⟩ => by
    let W : Nat → L2.St → Hp → Prop := fun m σ H => ∃ w' en', SR X.K w' H en' σ ∧ Fin X.K D w' H en' o ∧ whileGo mc b m en' = some o
    refine ⟨W, ⟨n, w, en, sr, f, e⟩, ?_⟩
    rintro m σ1 H1 ⟨w1, e1, sr1, f1, hrun⟩
    cases m with
    | zero => cases hrun
    | succ m =>
      unfold whileGo at hrun
      split at hrun
      · cases hrun
      · rename_i e2 hc2
        cases hrun
        exact ⟨w1, e1, _, e2, sr1, hc2, fun H2 w2 sr2 t2 => iteF (f1 σ1 H2 w2 sr2 t2)⟩
      · rename_i e2 hc2
        refine ⟨w1, e1, _, e2, sr1, hc2, fun H2 w2 sr2 t2 => iteT ⟨W m, fun σ' H' h => ⟨m, Nat.lt_succ_self m, h⟩, ?_⟩⟩
        have f2 : Fin X.K D w2 H2 e2 o := f1.to t2
        split at hrun
        · rename_i e5 hb5
          exact ⟨w2, e2, _, sr2, hb5, fun σ5 H5 w5 sr5 t5 => ⟨w5, e5, sr5, f2.to t5, hrun⟩⟩
        · rename_i e5 hb5
          exact ⟨w2, e2, _, sr2, hb5, fun σ5 H5 w5 sr5 t5 => ⟨w5, e5, sr5, f2.to t5, hrun⟩⟩
        · rename_i e5 hb5
          cases hrun
          exact ⟨w2, e2, _, sr2, hb5, fun σ5 H5 w5 sr5 t5 => f2 σ5 H5 w5 sr5 t5⟩
        · rename_i r5 e5 hb5
          cases hrun
          exact ⟨w2, e2, _, sr2, hb5, fun x5 σ5 H5 w5 sr5 p5 t5 => f2 x5 σ5 H5 w5 sr5 p5 t5⟩
        · cases hrun
end
end Yd

set_option Elab.async false
set_option linter.all false
set_option maxRecDepth 100000
set_option maxHeartbeats 1000000
set_option autoImplicit false
namespace Yd
open PySem PySem.Spec PyProof.Rows L2

/-! ### a block's own slots -/
def wipeE (en : En) : List Nat → En
  | [] => en
  | v :: vs => (wipeE en vs).set v .no
def backE (en0 en : En) : List Nat → En
  | [] => en
  | v :: vs => (backE en0 en vs).set v (en0.getD v .no)
def Sl.plain : Sl → Bool
  | .own _ => false
  | .brw _ => false
  | .dti _ => false
  | _ => true
def okSl (en : En) (vs : List Nat) : Bool := vs.all fun v => match en[v]? with
  | some s => s.plain
  | none => false
def wipeC (en : En) (vs : List Nat) : Option En := if okSl en vs = true then some (wipeE en vs) else none
theorem wipeE_len (en : En) : ∀ vs : List Nat, (wipeE en vs).length = en.length
  | [] => rfl
  | v :: vs => by unfold wipeE; rw [List.length_set, wipeE_len en vs]
theorem backE_len (en0 en : En) : ∀ vs : List Nat, (backE en0 en vs).length = en.length
  | [] => rfl
  | v :: vs => by unfold backE; rw [List.length_set, backE_len en0 en vs]
theorem wipeE_in {en : En} {j : Nat} {s : Sl} : ∀ {vs : List Nat}, j ∈ vs → (wipeE en vs)[j]? = some s → s = .no
  | v :: vs, hj, h => by
    unfold wipeE at h
    rcases set_of h with ⟨_, e⟩ | ⟨ne, h⟩
    · exact e
    · rcases List.mem_cons.mp hj with e | hj
      · exact absurd e ne
      · exact wipeE_in hj h
theorem wipeE_out {en : En} {j : Nat} : ∀ {vs : List Nat}, j ∉ vs → (wipeE en vs)[j]? = en[j]?
  | [], _ => rfl
  | v :: vs, hj => by
    unfold wipeE
    rw [List.getElem?_set_ne (fun e => hj (by rw [e]; exact List.mem_cons_self))]
    exact wipeE_out fun z => hj (List.mem_cons_of_mem _ z)
theorem backE_out {en0 en : En} {j : Nat} : ∀ {vs : List Nat}, j ∉ vs → (backE en0 en vs)[j]? = en[j]?
  | [], _ => rfl
  | v :: vs, hj => by
    unfold backE
    rw [List.getElem?_set_ne (fun e => hj (by rw [e]; exact List.mem_cons_self))]
    exact backE_out fun z => hj (List.mem_cons_of_mem _ z)
theorem backE_in {en0 en : En} {j : Nat} {s : Sl} : ∀ {vs : List Nat}, j ∈ vs → (backE en0 en vs)[j]? = some s → s = en0.getD j .no
  | v :: vs, hj, h => by
    unfold backE at h
    rcases set_of h with ⟨e1, e⟩ | ⟨ne, h⟩
    · rw [e, e1]
    · rcases List.mem_cons.mp hj with e | hj
      · exact absurd e ne
      · exact backE_in hj h
theorem okSl_at {en : En} {vs : List Nat} (h : okSl en vs = true) {j : Nat} (hj : j ∈ vs) : ∃ s, en[j]? = some s ∧ s.plain = true := by
  have q := List.all_eq_true.mp h j hj
  split at q
  · rename_i s e
    exact ⟨s, e, q⟩
  · cases q
section
variable {K : PySem.W.Frag} {w w1 wh wh' : Ow} {H H1 H' : Hp} {en e1 en' : En} {σ : L2.St} {vs : List Nat}
theorem SlR.plain_own {i : Nat} {s : Sl} {x : Option V} (h : SlR K w H i s x) (p : s.plain = true) : w.own i = none := by
  cases s with
  | no => exact h
  | val d => exact h.1
  | own ds => cases p
  | brw ds => cases p
  | dti ks => cases p
theorem SR.wipe (r : SR K w H en σ) (h : okSl en vs = true) : SR K w H (wipeE en vs) (L2.wipe σ vs) where
  len := by rw [wipeE_len, wipe_length]; exact r.len
  inj := r.inj
  dom := fun i a z => by rw [wipeE_len]; exact r.dom i a z
  hid := r.hid
  sep := r.sep
  slot := fun i s x h1 h2 => by
    by_cases hi : i ∈ vs
    · obtain ⟨s0, e0, p0⟩ := okSl_at h hi
      obtain ⟨x0, _, q⟩ := r.sig e0
      rw [wipeE_in hi h1]
      exact q.plain_own p0
    · rw [wipeE_out hi] at h1
      rw [wipe_get, if_neg hi] at h2
      exact r.slot i s x h1 h2
theorem Tr.wipe (h : okSl en vs = true) : Tr w w H H en (wipeE en vs) where
  fr := fun _ _ h _ => h
  fo := fun i b h => .inl ⟨i, h⟩
  hd := rfl
  bw := fun i ds z => by
    have hi : i ∉ vs := fun hi => by
      obtain ⟨s0, e0, p0⟩ := okSl_at h hi
      rw [z] at e0
      cases e0
      cases p0
    exact ⟨rfl, ds, by rw [wipeE_out hi]; exact z⟩
  th := fun _ h => h
theorem Tr.unh (h : Addr → Prop) (t : Tr wh wh' H H' en en') : Tr ⟨wh.own, h⟩ ⟨wh'.own, h⟩ H H' en en' := ⟨t.fr, t.fo, rfl, t.bw, t.th⟩
theorem Tr.newD {D : Addr} {o : HO} (t : Tr w1 w H1 H e1 en) (hD : H1 D = none) : Tr w1 w H1 (upd H D o) e1 en where
  fr := fun b u h n => by rw [upd_ne (ne_of_none h hD)]; exact t.fr b u h n
  fo := t.fo
  hd := t.hd
  bw := t.bw
  th := fun b h => by
    by_cases e : b = D
    · subst e; rw [upd_same]; exact fun z => nomatch z
    · rw [upd_ne e]; exact t.th b h
theorem Tr.back (t : Tr w1 w H1 H e1 en) (h : okSl e1 vs = true) : Tr w1 w H1 H e1 (backE e1 en vs) where
  fr := t.fr
  fo := t.fo
  hd := t.hd
  bw := fun i ds z => by
    have hi : i ∉ vs := fun hi => by
      obtain ⟨s0, e0, p0⟩ := okSl_at h hi
      rw [z] at e0
      cases e0
      cases p0
    obtain ⟨q, ds', q2⟩ := t.bw i ds z
    exact ⟨q, ds', by rw [backE_out hi]; exact q2⟩
  th := t.th
/-- behind a block: its own slots hold again what they held -/
theorem SR.back (r1 : SR K w1 H1 e1 σ) (r : SR K w H en (L2.wipe σ vs)) (s : Sub (less H1 w1.all) (less H w.all)) (h : okSl e1 vs = true) (hn : ∀ j ∈ vs, ∀ s, en[j]? = some s → s.plain = true) : SR K w H (backE e1 en vs) σ where
  len := by rw [backE_len, r.len, wipe_length]
  inj := r.inj
  dom := fun i a z => by rw [backE_len]; exact r.dom i a z
  hid := r.hid
  sep := r.sep
  slot := fun i sl x h1 h2 => by
    by_cases hi : i ∈ vs
    · obtain ⟨s0, e0, p0⟩ := okSl_at h hi
      have e2 := backE_in hi h1
      rw [List.getD_eq_getElem?_getD, e0] at e2
      have e2 : sl = s0 := e2
      subst e2
      have q := r1.slot i sl x e0 h2
      have own : w.own i = none := by
        have hlt : i < en.length := by
          have := (List.getElem?_eq_some_iff.mp h1).1
          rw [backE_len] at this
          exact this
        have e3 : en[i]? = some en[i] := List.getElem?_eq_getElem hlt
        obtain ⟨x3, _, q3⟩ := r.sig e3
        exact q3.plain_own (hn i hi _ e3)
      cases sl with
      | no => exact own
      | val d =>
        obtain ⟨_, v, e, p⟩ := q
        exact ⟨own, v, e, Dq.keep s d v p⟩
      | own ds => cases p0
      | brw ds => cases p0
      | dti ks => cases p0
    · rw [backE_out hi] at h1
      exact r.slot i sl x h1 (by rw [wipe_get, if_neg hi]; exact h2)
/-- a hidden list is changed -/
theorem SR.upHid {D : Addr} {xs ys : List V} (r : SR K w H en σ) (hD : w.hid D) (h : H D = some (.lst xs)) : SR K w (upd H D (.lst ys)) en σ := by
  have s : Sub (less H w.all) (less (upd H D (.lst ys)) w.all) := less_mono fun a o n q => ⟨by rw [upd_ne (fun e => n (by rw [e]; exact .inl hD))]; exact q, n⟩
  refine ⟨r.len, r.inj, r.dom, fun a q z => ?_, r.sep, fun i sl x h1 h2 => ?_⟩
  · by_cases e : a = D
    · subst e; rw [upd_same] at z; cases z
    · rw [upd_ne e] at z; exact r.hid a q z
  · have q := r.slot i sl x h1 h2
    cases sl with
    | no => exact q
    | val d =>
      obtain ⟨n, v, e, p⟩ := q
      exact ⟨n, v, e, Dq.keep s d v p⟩
    | own ds =>
      obtain ⟨a, us, e, o, g, p⟩ := q
      exact ⟨a, us, e, o, by rw [upd_ne (fun z => r.sep i a o (by rw [z]; exact hD))]; exact g, DqAll.keep s ds us p⟩
    | brw ds =>
      obtain ⟨a, us, e, o, g, p⟩ := q
      exact ⟨a, us, e, o, by rw [upd_ne (fun z => r.sep i a o (by rw [z]; exact hD))]; exact g, DqAll.keep s ds us p⟩
    | dti ks =>
      obtain ⟨a, e, o, g⟩ := q
      exact ⟨a, e, o, by rw [upd_ne (fun z => r.sep i a o (by rw [z]; exact hD))]; exact g⟩
theorem sub_upHid {D : Addr} {o : HO} (hD : w.hid D) : Sub (less H w.all) (less (upd H D o) w.all) := less_mono fun a u n q => ⟨by rw [upd_ne (fun e => n (by rw [e]; exact .inl hD))]; exact q, n⟩
end

/-! ### a list comprehension -/
def lcGo (vs : List Nat) (g : Dt → En → Option En) (tt : MB) (te : ME) : List Dt → En → Option (List Dt × En)
  | [], en => some ([], en)
  | d :: ds, en => match g d en with
    | none => none
    | some e1 => match tt e1 with
      | none => none
      | some (false, e2) => (match wipeC e2 vs with
        | none => none
        | some e3 => lcGo vs g tt te ds e3)
      | some (true, e2) => match te e2 with
        | none => none
        | some (y, e3) => match wipeC e3 vs with
          | none => none
          | some e4 => match lcGo vs g tt te ds e4 with
            | none => none
            | some (ys, e5) => some (y :: ys, e5)
def mLc (mi : ML) (vs : List Nat) (g : Dt → En → Option En) (tt : MB) (te : ME) : ML := fun en => match mi en with
  | none => none
  | some (ds, e1) => if shortB ds.length = true then (match wipeC e1 vs with
    | none => none
    | some e2 => match lcGo vs g tt te ds e2 with
      | none => none
      | some (ys, e3) => if okSl e3 vs = true then some (ys, backE e1 e3 vs) else none) else none
def mYes : MB := fun en => some (true, en)
theorem yLc {K : PySem.W.Frag} {mi : ML} {vs : List Nat} {g : Dt → En → Option En} {tt : MB} {te : ME} {σ : L2.St} {H : Hp} {Q : VK} (h : yF K (mLc mi vs g tt te) σ H Q) : tLc (yI K mi) (yG K vs g) (yB K tt) (yE K te) vs σ H Q := by
  obtain ⟨w, en, rs, en', sr, e, k⟩ := h
  unfold mLc at e
  split at e
  · cases e
  rename_i ds e1 h1
  split at e
  rotate_left
  · cases e
  rename_i hsh
  split at e
  · cases e
  rename_i e2 h2
  split at e
  · cases e
  rename_i ys e3 h3
  split at e
  rotate_left
  · cases e
  rename_i hok3
  cases e
  unfold wipeC at h2
  split at h2
  rotate_left
  · cases h2
  rename_i hok1
  cases h2
  refine ⟨w, en, ds, e1, sr, h1, fun J H1 w1 sr1 t1 io D hD => ?_⟩
  have h0 : H D = none := t1.free hD
  -- before turn i
  let W : Nat → Nat → Hp → Prop := fun i m H2 => ∃ wh ec acc accD rest, m = ds.length - i ∧ i ≤ ds.length ∧ SR K wh H2 ec (L2.wipe σ vs) ∧ wh.hid = (w1.hide D).hid ∧ Tr w1 ⟨wh.own, w1.hid⟩ H1 H2 e1 ec ∧ H2 D = some (.lst acc) ∧
    DqAll K (less H2 wh.all) acc accD ∧ accD.length ≤ i ∧ lcGo vs g tt te (ds.drop i) ec = some (rest, e3) ∧ accD ++ rest = rs
  have subC : ∀ {wh : Ow} {H2 : Hp} {ec : En}, wh.hid = (w1.hide D).hid → Tr w1 ⟨wh.own, w1.hid⟩ H1 H2 e1 ec → Sub (less H1 w1.all) (less H2 wh.all) := fun {wh H2 ec} hh t => less_mono fun a o n q => by
    have n1 : ∀ i, w1.own i ≠ some a := fun i z => n (.inr ⟨i, z⟩)
    refine ⟨t.fr a o q n1, fun z => ?_⟩
    rcases z with z | ⟨i, z⟩
    · rw [hh] at z
      rcases z with z | z
      · exact n (.inl z)
      · rw [z, hD] at q
        cases q
    · rcases t.fo i a z with ⟨j, r⟩ | r
      · exact n1 j r
      · rw [q] at r
        cases r
  refine ⟨W, ⟨ds.length, w1.hide D, wipeE e1 vs, [], [], rs, by simp, Nat.zero_le _, (sr1.hide hD).wipe hok1, rfl, (Tr.wipe hok1).newD hD, upd_same, .nil, Nat.le_refl _, by rw [List.drop_zero]; exact h3, rfl⟩, ?_⟩
  rintro i mm H2 ⟨wh, ec, acc, accD, rest, rfl, hi, srh, hh, tr, hacc, dacc, hlen, hrun, hrest⟩
  have hall : ∀ c, wh.all c → H2 c ≠ none := fun c z => srh.allThere z
  have hidD : wh.hid D := by rw [hh]; exact .inr rfl
  by_cases hlt : i < ds.length
  · have hd : ds[i]? = some ds[i] := List.getElem?_eq_getElem hlt
    have hdrop : ds.drop i = ds[i] :: ds.drop (i + 1) := List.drop_eq_getElem_cons hlt
    rw [hdrop] at hrun
    unfold lcGo at hrun
    split at hrun
    · cases hrun
    rename_i g1 hg1
    obtain ⟨hgo, hy⟩ := io.go i H2 wh.all ds[i] hd hall (subC hh tr)
    refine .inr ⟨hgo, W (i + 1) (ds.length - (i + 1)), fun H' hW => ⟨ds.length - (i + 1), by omega, hW⟩, fun x H3 hyx => ?_⟩
    obtain ⟨s3, d3⟩ := hy x H3 hyx
    have hacc3 : H3 D = some (.lst acc) := s3 _ _ hacc
    refine ⟨wh, ec, ds[i], g1, srh.grow s3, d3, hg1, fun σ4 H4 w4 sr4 t4 z4 => ?_⟩
    have ow4 : ∀ j, wh.own j ≠ some D := fun j z => srh.sep j D z hidD
    have hacc4 : H4 D = some (.lst acc) := t4.fr _ _ hacc3 ow4
    have t04 : Tr wh w4 H2 H4 ec g1 := (Tr.grow s3).trans t4
    have wi : L2.wipe (L2.wipe σ vs) vs = L2.wipe σ vs := wipe_eq (wipe_length σ vs) fun j hj => by rw [wipe_get, if_neg hj]
    refine ⟨z4.trans wi, ?_⟩
    split at hrun
    · cases hrun
    · -- the test says no
      rename_i g2 hg2
      split at hrun
      · cases hrun
      rename_i g3 hg3
      refine ⟨w4, g1, false, g2, sr4, hg2, fun H5 w5 sr5 t5 => iteF ?_⟩
      unfold wipeC at hg3
      split at hg3
      rotate_left
      · cases hg3
      rename_i ok3
      cases hg3
      have t05 := t04.trans t5
      have ow5 : ∀ j, w4.own j ≠ some D := fun j z => sr4.sep j D z (by rw [t04.hd]; exact hidD)
      have srw := sr5.wipe ok3
      rw [z4.trans wi] at srw
      exact ⟨w5, wipeE g2 vs, acc, accD, rest, rfl, hlt, srw, t05.hd.trans hh, tr.trans ((t05.trans (Tr.wipe ok3)).unh w1.hid), t5.fr _ _ hacc4 ow5, t05.dpAll dacc, Nat.le_succ_of_le hlen, hrun, hrest⟩
    · rename_i g2 hg2
      split at hrun
      · cases hrun
      rename_i y g3 hg3
      split at hrun
      · cases hrun
      rename_i g4 hg4
      split at hrun
      · cases hrun
      rename_i ys' e5 hg5
      cases hrun
      refine ⟨w4, g1, true, g2, sr4, hg2, fun H5 w5 sr5 t5 => iteT ⟨w5, g2, y, g3, sr5, hg3, fun v H6 w6 sr6 p6 t6 => ?_⟩⟩
      unfold wipeC at hg4
      split at hg4
      rotate_left
      · cases hg4
      rename_i ok4
      cases hg4
      have t05 := t04.trans t5
      have t06 := t05.trans t6
      have ow5 : ∀ j, w4.own j ≠ some D := fun j z => sr4.sep j D z (by rw [t04.hd]; exact hidD)
      have ow6 : ∀ j, w5.own j ≠ some D := fun j z => sr5.sep j D z (by rw [t05.hd]; exact hidD)
      have hacc6 : H6 D = some (.lst acc) := t6.fr _ _ (t5.fr _ _ hacc4 ow5) ow6
      have hid6 : w6.hid D := by rw [t06.hd]; exact hidD
      have dacc6 := t06.dpAll dacc
      have al := dacc6.len
      have hl2 := Nat.le_of_ble_eq_true hsh
      refine ⟨acc, hacc6, ?_, ?_⟩
      · have : ds.length ≤ 100000 := hl2
        rw [al]
        exact Nat.lt_of_lt_of_le (Nat.lt_of_le_of_lt hlen (Nat.lt_of_lt_of_le hlt this)) (by decide)
      · have srw := (sr6.wipe ok4).upHid (ys := acc ++ [v]) hid6 hacc6
        rw [z4.trans wi] at srw
        refine ⟨w6, wipeE g3 vs, acc ++ [v], accD ++ [y], ys', rfl, hlt, srw, t06.hd.trans hh, ?_, upd_same, DqAll.keep (sub_upHid hid6) _ _ (dacc6.snoc p6), ?_, hg5, ?_⟩
        · exact (tr.trans ((t06.trans (Tr.wipe ok4)).unh w1.hid)).newD hD
        · rw [List.length_append]
          exact Nat.succ_le_succ hlen
        · rw [List.append_assoc]
          exact hrest
  · have e0 : i = ds.length := by omega
    have hnil : ds.drop i = [] := by rw [e0]; simp
    rw [hnil] at hrun
    unfold lcGo at hrun
    cases hrun
    rw [List.append_nil] at hrest
    subst hrest
    refine .inl ⟨io.stop i H2 wh.all e0 hall (subC hh tr), ?_⟩
    have ew : wh = (Ow.mk wh.own w1.hid).hide D := by
      have : wh = ⟨wh.own, wh.hid⟩ := rfl
      rw [this, hh]
      rfl
    have srb : SR K wh H2 (backE e1 e3 vs) σ := SR.back sr1 srh (subC hh tr) hok1 fun j hj s hs => by
      obtain ⟨s0, q0, p0⟩ := okSl_at hok3 hj
      rw [q0] at hs
      cases hs
      exact p0
    rw [ew] at srb dacc
    exact k D acc H2 ⟨wh.own, w1.hid⟩ h0 hacc srb dacc (t1.trans (tr.back hok1))
section
variable {X : Cx} {elt tg iter : Expr} {ifs : List Expr} {scope : Scope} {own : List (Str × Nat)} {pos : Pos} {mi : ML} {g : Dt → En → Option En} {tt : MB} {te : ME}
abbrev OTs (X : Cx) (ifs : List Expr) (m : MB) : Prop := PTs X ifs (yB X.K m)
theorem ots_nil : OTs X [] mYes := ⟨fun pins s σ H Q I ⟨w, en, b, en', sr, e, k⟩ => by
  cases e
  exact pts_nil.run pins s σ H Q I (k H w sr .refl)⟩
theorem ots_one {c : Expr} (h : OB X c tt) : OTs X [c] tt := pts_one h
/-- a comprehension's block -/
structure Blk (X : Cx) (scope : Scope) (own : List (Str × Nat)) (elt tg : Expr) (ifs : List Expr) (g : Dt → En → Option En) (tt : MB) (te : ME) : Prop where
  ok : BlkOk X.N X.env.scope scope own
  g : ∀ (s : Shared) (H : Hp) (C : Addr) (cl : List (Str × Addr)) (fp : List Addr), OG (X.blk s H scope (compEnvC scope cl C X.env) fp) tg (own.map (·.2)) g
  t : ∀ (s : Shared) (H : Hp) (C : Addr) (cl : List (Str × Addr)) (fp : List Addr), OTs (X.blk s H scope (compEnvC scope cl C X.env) fp) ifs tt
  e : ∀ (s : Shared) (H : Hp) (C : Addr) (cl : List (Str × Addr)) (fp : List Addr), OE (X.blk s H scope (compEnvC scope cl C X.env) fp) elt te
theorem of_lc (hc : X.calm = true) (hN : X.N.Nodup) (hi : OI X tg iter mi) (B : Blk X scope own elt tg ifs g tt te) (hs : ∀ x, foldedSetIterable iter X.env x = pure x := by intro _; rfl) : OF X (.ListComp elt [⟨tg, iter, ifs, 0⟩] scope pos) (mLc mi (own.map (·.2)) g tt te) :=
  pe_imp (pe_lc hc hN hi B.ok B.g B.t B.e hs) fun _ _ _ h => yLc h
/-- name = [..] on one line -/
theorem ps_lcT {i : Nat} {y : Str} {py spos : Pos} (hc : X.calm = true) (hN : X.N.Nodup) (hy : X.N[i]? = some y) (hyl : X.env.scope.names.lookup y = some .local)
    (hsw : swapsWith (.ListComp elt [⟨tg, iter, ifs, 0⟩] scope pos) (some (.Name y py)) spos.line X.env = pure true) (hi : OI X tg iter mi) (B : Blk X scope own elt tg ifs g tt te) (hs : ∀ x, foldedSetIterable iter X.env x = pure x := by intro _; rfl) :
    PS X (.Assign [.Name y py] (.ListComp elt [⟨tg, iter, ifs, 0⟩] scope pos) spos) (tAsg (yF X.K (mLc mi (own.map (·.2)) g tt te)) (gName i)) :=
  ps_imp (ps_setLc hc hN hy hyl hsw hi B.ok B.g B.t B.e hs) fun _ _ _ h => yLc h
theorem os_lcOwn {i : Nat} {y : Str} {py spos : Pos} (hc : X.calm = true) (hN : X.N.Nodup) (hy : X.N[i]? = some y) (hyl : X.env.scope.names.lookup y = some .local)
    (hsw : swapsWith (.ListComp elt [⟨tg, iter, ifs, 0⟩] scope pos) (some (.Name y py)) spos.line X.env = pure true) (hi : OI X tg iter mi) (B : Blk X scope own elt tg ifs g tt te) (hs : ∀ x, foldedSetIterable iter X.env x = pure x := by intro _; rfl) :
    OS X (.Assign [.Name y py] (.ListComp elt [⟨tg, iter, ifs, 0⟩] scope pos) spos) (mOwn i (mLc mi (own.map (·.2)) g tt te)) := ps_imp (ps_lcT hc hN hy hyl hsw hi B hs) fun _ _ _ h => yOwn h
/-- a new list is a value -/
theorem yVal {K : PySem.W.Frag} {m : ML} {σ : L2.St} {H : Hp} {Q : VK} (h : yE K (mVal m) σ H Q) : yF K m σ H Q := by
  obtain ⟨w, en, d, en', sr, e, k⟩ := h
  unfold mVal at e
  split at e
  · cases e
  rename_i ds e1 h1
  cases e
  refine ⟨w, en, ds, _, sr, h1, fun q vs H1 w1 h0 hq sr1 p1 t1 => k _ H1 w1 sr1.unhide ?_ t1⟩
  have nq : ¬ w1.all q := by
    rintro (z | ⟨i, z⟩)
    · rw [t1.hd] at z
      exact sr.hid q z h0
    · exact sr1.sep i q z (.inr rfl)
  exact .lst (.inl (less_some.mpr ⟨nq, hq⟩)) (DqAll.keep unhide_sub _ vs p1)
theorem os_lcSet {i : Nat} {y : Str} {py spos : Pos} (hc : X.calm = true) (hN : X.N.Nodup) (hy : X.N[i]? = some y) (hyl : X.env.scope.names.lookup y = some .local)
    (hsw : swapsWith (.ListComp elt [⟨tg, iter, ifs, 0⟩] scope pos) (some (.Name y py)) spos.line X.env = pure true) (hi : OI X tg iter mi) (B : Blk X scope own elt tg ifs g tt te) (hs : ∀ x, foldedSetIterable iter X.env x = pure x := by intro _; rfl) :
    OS X (.Assign [.Name y py] (.ListComp elt [⟨tg, iter, ifs, 0⟩] scope pos) spos) (mSet i (mVal (mLc mi (own.map (·.2)) g tt te))) := ps_imp (ps_lcT hc hN hy hyl hsw hi B hs) fun D σ H h => yVal (ySet h)
end
end Yd

set_option Elab.async false
set_option linter.all false
set_option maxRecDepth 100000
set_option maxHeartbeats 1000000
set_option autoImplicit false
namespace Yd
open PySem PySem.Spec PyProof.Rows L2

/-! ### lists that a slot owns (or was handed) -/
def ownAt (en : En) (i : Nat) : Option (List Dt) := match en[i]? with
  | some (.own ds) => some ds
  | some (.brw ds) => some ds
  | _ => none
def setOwn (en : En) (i : Nat) (ds : List Dt) : En := match en[i]? with
  | some (.own _) => en.set i (.own ds)
  | some (.brw _) => en.set i (.brw ds)
  | _ => en
section
variable {K : PySem.W.Frag} {w : Ow} {H : Hp} {en : En} {σ : L2.St} {i : Nat} {ds ds' : List Dt}
theorem SR.at (r : SR K w H en σ) (h : ownAt en i = some ds) : ∃ a vs, σ[i]? = some (some (.ref a)) ∧ w.own i = some a ∧ H a = some (.lst vs) ∧ DqAll K (less H w.all) vs ds := by
  unfold ownAt at h
  split at h
  · rename_i ds' e
    cases h
    obtain ⟨x, e1, a, vs, rfl, o, ha, p⟩ := r.sig e
    exact ⟨a, vs, e1, o, ha, p⟩
  · rename_i ds' e
    cases h
    obtain ⟨x, e1, a, vs, rfl, o, ha, p⟩ := r.sig e
    exact ⟨a, vs, e1, o, ha, p⟩
  · cases h
theorem own_kind (h : ownAt en i = some ds) : en[i]? = some (.own ds) ∧ setOwn en i ds' = en.set i (.own ds') ∨ en[i]? = some (.brw ds) ∧ setOwn en i ds' = en.set i (.brw ds') := by
  unfold ownAt at h
  split at h
  · rename_i d e
    cases h
    refine .inl ⟨e, ?_⟩
    unfold setOwn
    rw [e]
  · rename_i d e
    cases h
    refine .inr ⟨e, ?_⟩
    unfold setOwn
    rw [e]
  · cases h
theorem SR.chO {a : Addr} {vs vs' : List V} (r : SR K w H en σ) (h : ownAt en i = some ds) (o : w.own i = some a) (g : DqAll K (less H w.all) vs' ds') : SR K w (upd H a (.lst vs')) (setOwn en i ds') σ ∧ Tr w w H (upd H a (.lst vs')) en (setOwn en i ds') := by
  rcases own_kind (ds' := ds') h with ⟨e1, e2⟩ | ⟨e1, e2⟩
  · rw [e2]
    exact ⟨r.chg (vs := vs) o g (.inl ⟨e1, rfl⟩), Tr.chg o (.inl ⟨e1, rfl⟩)⟩
  · rw [e2]
    exact ⟨r.chg (vs := vs) o g (.inr ⟨e1, rfl⟩), Tr.chg o (.inr ⟨e1, rfl⟩)⟩
/-- what is owned stays at its address, as long as it is owned -/
theorem own_same {w' : Ow} {H' : Hp} {en' : En} {a a' : Addr} {es : List Dt} (r' : SR K w' H' en' σ) (e : σ[i]? = some (some (.ref a))) (h : ownAt en' i = some es) : ∃ vs, w'.own i = some a ∧ H' a = some (.lst vs) ∧ DqAll K (less H' w'.all) vs es := by
  obtain ⟨b, vs, e1, o, hb, p⟩ := r'.at h
  rw [e] at e1
  cases e1
  exact ⟨vs, o, hb, p⟩
end
/-- x.append(e) -/
def mApp (i : Nat) (m : ME) : MT := fun en => match ownAt en i with
  | none => none
  | some _ => match m en with
    | none => none
    | some (d, e) => match ownAt e i with
      | none => none
      | some ds => if shortB ds.length = true then some (.nx (setOwn e i (ds ++ [d]))) else none
/-- x.extend(a new list) -/
def mExt (i : Nat) (m : ML) : MT := fun en => match ownAt en i with
  | none => none
  | some _ => match m en with
    | none => none
    | some (es, e) => match ownAt e i with
      | none => none
      | some ds => if shortB (ds.length + es.length) = true then some (.nx (setOwn e i (ds ++ es))) else none
/-- x[k] = e -/
def mPut (i : Nat) (m mk : ME) : MT := fun en => match m en with
  | none => none
  | some (d, e1) => match ownAt e1 i with
    | none => none
    | some _ => match mk e1 with
      | some (.int k, e2) => (match ownAt e2 i with
        | none => none
        | some ds => match ixN ds.length k with
          | none => none
          | some j => some (.nx (setOwn e2 i (ds.set j d))))
      | _ => none
/-- x[k] -/
def mGet (i : Nat) (mk : ME) : ME := fun en => match ownAt en i with
  | none => none
  | some _ => match mk en with
    | some (.int k, e) => (match ownAt e i with
      | none => none
      | some ds => match L2.atI ds k with
        | none => none
        | some d => some (d, e))
    | _ => none
def isScal : Dt → Bool
  | .none => true
  | .bool _ => true
  | .int _ => true
  | .str _ => true
  | _ => false
/-- a built-in function of an own list, that tells no object -/
def mPeek (f : List Dt → Option Dt) (i : Nat) : ME := fun en => match ownAt en i with
  | none => none
  | some ds => match f [.list ds] with
    | none => none
    | some d => if isScal d = true then some (d, en) else none
/-- x.pop() -/
def mPop (i : Nat) : ME := fun en => match ownAt en i with
  | none => none
  | some ds => match ds[ds.length - 1]? with
    | none => none
    | some d => some (d, setOwn en i ds.dropLast)
theorem scal_keep {K : PySem.W.Frag} {H H' : Hp} {v : V} : ∀ {d : Dt}, isScal d = true → Dq K H v d → Dq K H' v d
  | .none, _, h => by cases h; exact .non
  | .bool _, _, h => by cases h; exact .bl _
  | .int _, _, h => by cases h; exact .int _
  | .str _, _, h => by cases h; exact .str _
section
variable {X : Cx} {e k : Expr} {i : Nat} {x : Str} {m mk : ME} {ml : ML} {px pa pc pos : Pos}
theorem os_app (hN : X.N[i]? = some x := by rfl) (hv : Vis X.env.scope x := by first | exact Or.inl rfl | exact Or.inr (Or.inl rfl) | exact Or.inr (Or.inr rfl)) (he : OE X e m) (hd : (x == ("__debug__" : Str)) = false := by decide) (hcd : (x == ("__classdict__" : Str)) = false := by decide)
    (hbase : attributeBase (.Name x px) "append" X.env (eval (.Name x px) X.env) = eval (.Name x px) X.env := by rfl)
    (hfew : ((backTo pc (starEach (e :: []) X.env)).all (fun x => !x.1) && (backToKw pc (keywordEach [] X.env)).all (fun x => x.1.isSome)
      && decide ((e :: ([] : List Expr)).length + ([] : List Keyword).length + (if ([] : List Keyword).isEmpty then 0 else 1) < 30)) = true := by rfl)
    (hline : (pa.endLine == pc.line) = true := by rfl) (hs : starEach (e :: []) X.env = (false, eval e X.env) :: starEach [] X.env := by rfl) (hsw : swapsWith (.Call (.Attribute (.Name x px) "append" pa) [e] [] pc) none pos.line X.env = pure false := by rfl) :
    OS X (.Expr (.Call (.Attribute (.Name x px) "append" pa) [e] [] pc) pos) (mApp i m) :=
  ps_imp (ps_expr (pe_bm PySem.F.plainAttrs_list PySem.F.slot_list_append PySem.F.type_list_append mt_append (pe_var hN hv hd hcd) (pa_cons he pa_nil hs) hbase hfew hline hs) hsw) fun D σ H ⟨w, en, o, sr, e, f⟩ => by
    unfold mApp at e
    split at e
    · cases e
    rename_i ds0 h0
    split at e
    · cases e
    rename_i d e1 h1
    split at e
    · cases e
    rename_i ds h2
    split at e
    · rename_i hsh
      cases e
      obtain ⟨a, vs0, es, ow, ha, _⟩ := sr.at h0
      refine ⟨.ref a, es, .inl ⟨rfl, _, SqL.of ha⟩, w, en, d, e1, sr, h1, fun v H1 w1 sr1 p1 t1 => ?_⟩
      obtain ⟨vs, ow1, ha1, p2⟩ := own_same (a' := a) sr1 es h2
      refine ⟨a, vs, v, rfl, rfl, ha1, by rw [p2.len]; exact shortB_lt hsh, ?_⟩
      obtain ⟨sr2, t2⟩ := sr1.chO (vs := vs) h2 ow1 (p2.snoc p1)
      exact f σ _ w1 sr2 (t1.trans t2)
    · cases e
theorem os_ext (hN : X.N[i]? = some x := by rfl) (hv : Vis X.env.scope x := by first | exact Or.inl rfl | exact Or.inr (Or.inl rfl) | exact Or.inr (Or.inr rfl)) (he : OF X e ml) (hd : (x == ("__debug__" : Str)) = false := by decide) (hcd : (x == ("__classdict__" : Str)) = false := by decide)
    (hbase : attributeBase (.Name x px) "extend" X.env (eval (.Name x px) X.env) = eval (.Name x px) X.env := by rfl)
    (hfew : ((backTo pc (starEach (e :: []) X.env)).all (fun x => !x.1) && (backToKw pc (keywordEach [] X.env)).all (fun x => x.1.isSome)
      && decide ((e :: ([] : List Expr)).length + ([] : List Keyword).length + (if ([] : List Keyword).isEmpty then 0 else 1) < 30)) = true := by rfl)
    (hline : (pa.endLine == pc.line) = true := by rfl) (hs : starEach (e :: []) X.env = (false, eval e X.env) :: starEach [] X.env := by rfl) (hsw : swapsWith (.Call (.Attribute (.Name x px) "extend" pa) [e] [] pc) none pos.line X.env = pure false := by rfl) :
    OS X (.Expr (.Call (.Attribute (.Name x px) "extend" pa) [e] [] pc) pos) (mExt i ml) :=
  ps_imp (ps_expr (pe_bm PySem.F.plainAttrs_list PySem.F.slot_list_extend PySem.F.type_list_extend mt_extend (pe_var hN hv hd hcd) (pa_cons he pa_nil hs) hbase hfew hline hs) hsw) fun D σ H ⟨w, en, o, sr, e, f⟩ => by
    unfold mExt at e
    split at e
    · cases e
    rename_i ds0 h0
    split at e
    · cases e
    rename_i es0 e1 h1
    split at e
    · cases e
    rename_i ds h2
    split at e
    · rename_i hsh
      cases e
      obtain ⟨a, vs0, es, ow, ha, _⟩ := sr.at h0
      refine ⟨.ref a, es, .inl ⟨rfl, _, SqL.of ha⟩, w, en, es0, e1, sr, h1, fun p us H1 w1 hp hp1 sr1 p1 t1 => ?_⟩
      have sr1' := sr1.unhide
      obtain ⟨vs, ow1, ha1, p2⟩ := own_same (a' := a) sr1' es h2
      refine ⟨a, p, vs, us, rfl, rfl, ha1, hp1, by rw [p2.len, p1.len]; exact shortB_ok hsh, ?_⟩
      obtain ⟨sr2, t2⟩ := sr1'.chO (vs := vs) h2 ow1 (p2.app (DqAll.keep unhide_sub _ _ p1))
      exact f σ _ w1 sr2 (t1.trans t2)
    · cases e
theorem os_put (hN : X.N[i]? = some x := by rfl) (hv : Vis X.env.scope x := by first | exact Or.inl rfl | exact Or.inr (Or.inl rfl) | exact Or.inr (Or.inr rfl)) (he : OE X e m) (hk : OE X k mk) (hd : (x == ("__debug__" : Str)) = false := by decide) (hcd : (x == ("__classdict__" : Str)) = false := by decide)
    (ha : ∀ v, assign (.Subscript (.Name x px) k pa) X.env v = (do
      let ov ← holding [v] (eval (.Name x px) X.env)
      let iv ← holding [v, ov] (eval k X.env)
      standAt pa
      holding [v, ov, iv] (setItem ov iv v)
      release [v, ov, iv] []) := by intro _; rfl)
    (hs : swapsWithSole [.Subscript (.Name x px) k pa] e pos.line X.env = pure false := by rfl) (hw : swappedStores [.Subscript (.Name x px) k pa] e X.env = pure none := by rfl)
    (h1 : (assignEach [.Subscript (.Name x px) k pa] X.env).map (·.2) = [assign (.Subscript (.Name x px) k pa) X.env] := by rfl) :
    OS X (.Assign [.Subscript (.Name x px) k pa] e pos) (mPut i m mk) :=
  ps_imp (ps_asg he (pg_sub (pe_var hN hv hd hcd) hk set_list ha) hs hw h1) fun D σ H ⟨w, en, o, sr, e, f⟩ => by
    unfold mPut at e
    split at e
    · cases e
    rename_i d e1 h1
    split at e
    · cases e
    rename_i ds0 h2
    split at e
    · rename_i kk e2 h3
      split at e
      · cases e
      rename_i ds h4
      split at e
      · cases e
      rename_i j h5
      cases e
      refine ⟨w, en, d, e1, sr, h1, fun v H1 w1 sr1 p1 t1 => ?_⟩
      obtain ⟨a, vs0, es, ow, ha, _⟩ := sr1.at h2
      refine ⟨.ref a, es, w1, e1, _, e2, sr1, h3, fun u H2 w2 sr2 p2 t2 => ?_⟩
      cases p2
      obtain ⟨vs, ow2, ha2, p3⟩ := own_same (a' := a) sr2 es h4
      refine ⟨a, vs, kk, j, rfl, rfl, ha2, by rw [p3.len]; exact h5, ?_⟩
      obtain ⟨sr3, t3⟩ := sr2.chO (vs := vs) h4 ow2 (p3.set j (t2.dp p1))
      exact f σ _ w2 sr3 ((t1.trans t2).trans t3)
    · cases e
theorem oe_get (hN : X.N[i]? = some x := by rfl) (hv : Vis X.env.scope x := by first | exact Or.inl rfl | exact Or.inr (Or.inl rfl) | exact Or.inr (Or.inr rfl)) (hk : OE X k mk) (hs : PlainIx k) (hd : (x == ("__debug__" : Str)) = false := by decide) (hcd : (x == ("__classdict__" : Str)) = false := by decide) :
    OE X (.Subscript (.Name x px) k pos) (mGet i mk) := pe_imp (pe_ix ix_list (pe_var hN hv hd hcd) hk hs) fun σ H Q ⟨w, en, d, en', sr, e, kk⟩ => by
  unfold mGet at e
  split at e
  · cases e
  rename_i ds0 h0
  split at e
  · rename_i n e1 h1
    split at e
    · cases e
    rename_i ds h2
    split at e
    · cases e
    rename_i d' h3
    cases e
    obtain ⟨a, vs0, es, ow, ha, _⟩ := sr.at h0
    refine ⟨.ref a, es, w, en, _, _, sr, h1, fun u H1 w1 sr1 p1 t1 => ?_⟩
    cases p1
    obtain ⟨vs, ow1, ha1, p3⟩ := own_same (a' := a) sr1 es h2
    obtain ⟨v, e1, e2⟩ := DqAll.atI p3 h3
    exact ⟨a, vs, n, v, rfl, rfl, SqL.of ha1, e1, kk v H1 w1 sr1 e2 t1⟩
  · cases e
theorem own_out {K : PySem.W.Frag} {w : Ow} {H : Hp} {en : En} {σ : L2.St} {ds : List Dt} {a : Addr} {vs : List V} (r : SR K w H en σ) (o : w.own i = some a) (ha : H a = some (.lst vs)) (p : DqAll K (less H w.all) vs ds) : Dq K (less H (w.drop i).all) (.ref a) (.list ds) := by
  have na : ¬ (w.drop i).all a := by
    rintro (z | ⟨j, z⟩)
    · exact r.sep i a o z
    · obtain ⟨ne, z⟩ := drop_own z
      exact ne (r.inj j i a z o)
  exact .lst (.inl (less_some.mpr ⟨na, ha⟩)) (DqAll.keep (less_mono fun a o n h => ⟨h, fun z => n (drop_all z)⟩) ds vs p)
theorem oe_peek {id : String} {r : List V → Hp → VK → Prop} {f : List Dt → Option Dt} {y : Str} {p : Pos} (hN : X.N[i]? = some x := by rfl) (hv : Vis X.env.scope x := by first | exact Or.inl rfl | exact Or.inr (Or.inl rfl) | exact Or.inr (Or.inr rfl))
    (hc : CallR X (.builtin id) r) (hr : BR X.K r f) (hg : Gl X y) (hm : X.mg y = none) (hvb : bootBuiltins y = some (.builtin id)) (hn : y ≠ "__name__" := by decide) (hdb : (y == ("__debug__" : Str)) = false := by decide)
    (he : starEach [.Name x px] X.env = (false, eval (.Name x px) X.env) :: starEach [] X.env := by rfl) (hd : (x == ("__debug__" : Str)) = false := by decide) (hcd : (x == ("__classdict__" : Str)) = false := by decide) : OE X (.Call (.Name y p) [.Name x px] [] pos) (mPeek f i) :=
  pe_imp (pe_callB hc hg hm hvb (pa_cons (pe_var hN hv hd hcd) pa_nil he) hn hdb he) fun σ H Q ⟨w, en, d, en', sr, e, k⟩ => by
    unfold mPeek at e
    split at e
    · cases e
    rename_i ds h0
    split at e
    · cases e
    rename_i d' h1
    split at e
    · rename_i hs
      cases e
      obtain ⟨a, vs, es, ow, ha, pa⟩ := sr.at h0
      refine ⟨.ref a, es, ?_⟩
      refine hr H (w.drop i).all [.ref a] [.list ds] d Q (fun c z => sr.allThere (drop_all z)) (.cons (own_out sr ow ha pa) .nil) h1 fun v H1 s1 p1 => ?_
      exact k v H1 w (sr.grow s1) (scal_keep hs p1) (.grow s1)
    · cases e
theorem oe_pop (hN : X.N[i]? = some x := by rfl) (hv : Vis X.env.scope x := by first | exact Or.inl rfl | exact Or.inr (Or.inl rfl) | exact Or.inr (Or.inr rfl)) (hd : (x == ("__debug__" : Str)) = false := by decide) (hcd : (x == ("__classdict__" : Str)) = false := by decide)
    (hbase : attributeBase (.Name x px) "pop" X.env (eval (.Name x px) X.env) = eval (.Name x px) X.env := by rfl) (hline : (pa.endLine == pc.line) = true := by rfl) : OE X (.Call (.Attribute (.Name x px) "pop" pa) [] [] pc) (mPop i) :=
  pe_imp (pe_bm0 PySem.F.plainAttrs_list PySem.F.slot_list_pop PySem.F.type_list_pop mt_pop (pe_var hN hv hd hcd) hbase hline) fun σ H Q ⟨w, en, d, en', sr, e, k⟩ => by
    unfold mPop at e
    split at e
    · cases e
    rename_i ds h0
    split at e
    · cases e
    rename_i d' h1
    cases e
    obtain ⟨a, vs, es, ow, ha, pa⟩ := sr.at h0
    refine ⟨.ref a, es, .inl ⟨rfl, _, SqL.of ha⟩, ?_⟩
    rw [← pa.len] at h1
    obtain ⟨v, ev, dv⟩ := pa.at h1
    have pd : DqAll X.K (less H w.all) vs.dropLast ds.dropLast := by
      rw [List.dropLast_eq_take, List.dropLast_eq_take, pa.len]
      exact pa.take _
    obtain ⟨sr2, t2⟩ := sr.chO (vs := vs) h0 ow pd
    exact ⟨a, vs, v, rfl, rfl, ha, ev, k v _ w sr2 (t2.dp dv) t2⟩
end

/-! ### defs -/
/-- what a def promises that changes nothing: f of its arguments -/
def spP (K : PySem.W.Frag) (n : Nat) (f : List Dt → Option Dt) : Sp := fun vs H Q _ => ∃ (C : Addr → Prop) (ds : List Dt) (r : Dt), vs.length = n ∧ (∀ a, C a → H a ≠ none) ∧ DqAll K (less H C) vs ds ∧ f ds = some r ∧ ∀ x H', Sub H H' → Dq K (less H' C) x r → Q x H'
/-- what a def promises that changes the list that is its first argument -/
def spB (K : PySem.W.Frag) (n : Nat) (f : List Dt → List Dt → Option (Dt × List Dt)) : Sp := fun vs H Q _ => ∃ (C : Addr → Prop) (a : Addr) (vr vs0 : List V) (xs ds : List Dt) (r : Dt) (ys : List Dt), vs = .ref a :: vr ∧ vs.length = n ∧ (∀ c, C c → H c ≠ none) ∧ C a ∧ H a = some (.lst vs0) ∧
  DqAll K (less H C) vs0 xs ∧ DqAll K (less H C) vr ds ∧ f xs ds = some (r, ys) ∧ ∀ x H' vs1, (∀ b o, H b = some o → b ≠ a → H' b = some o) → H' a = some (.lst vs1) → DqAll K (less H' C) vs1 ys → Dq K (less H' C) x r → Q x H'
/-- the slots at a def's begin -/
def env0 (N : Nat) (ds : List Dt) : En := ds.map .val ++ List.replicate (N - ds.length) .no
def envB (N : Nat) (xs : List Dt) (ds : List Dt) : En := .brw xs :: env0 (N - 1) ds
/-- a body's answer -/
def ansP (o : Option Out) : Option Dt := match o with
  | some (.rt d _) => some d
  | some (.nx _) => some .none
  | _ => none
def ansB (o : Option Out) : Option (Dt × List Dt) := match o with
  | some (.rt d e) => (match (e[0]? : Option Sl) with | some (.brw ys) => some (d, ys) | _ => none)
  | some (.nx e) => (match (e[0]? : Option Sl) with | some (.brw ys) => some (.none, ys) | _ => none)
  | _ => none
theorem env0_len {N : Nat} {ds : List Dt} (h : ds.length ≤ N) : (env0 N ds).length = N := by
  unfold env0
  rw [List.length_append, List.length_map, List.length_replicate]
  omega
theorem env0_at {N : Nat} {ds : List Dt} {i : Nat} {s : Sl} (h : (env0 N ds)[i]? = some s) : (∃ d, ds[i]? = some d ∧ s = .val d) ∨ s = .no := by
  unfold env0 at h
  by_cases hi : i < ds.length
  · rw [List.getElem?_append_left (by simpa using hi), List.getElem?_map] at h
    cases q : ds[i]? with
    | none => rw [q] at h; cases h
    | some d =>
      rw [q] at h
      cases h
      exact .inl ⟨d, rfl, rfl⟩
  · rw [List.getElem?_append_right (by simpa using hi)] at h
    rw [List.getElem?_replicate] at h
    split at h
    · cases h
      exact .inr rfl
    · cases h
theorem start_at {N : List Str} {vs : List V} {i : Nat} {v : V} (h : vs[i]? = some v) : (start N vs)[i]? = some (some v) := by
  unfold L2.start
  have hi := (List.getElem?_eq_some_iff.mp h).1
  rw [List.getElem?_append_left (by simpa using hi), List.getElem?_map, h]
  rfl
theorem start_len {N : List Str} {vs : List V} (h : vs.length ≤ N.length) : (start N vs).length = N.length := by
  unfold L2.start
  rw [List.length_append, List.length_map, List.length_replicate]
  omega
section
variable {K : PySem.W.Frag} {H : Hp} {N : List Str} {vs : List V} {ds : List Dt} {C : Addr → Prop}
theorem SR.begin (hC : ∀ c, C c → H c ≠ none) (h : DqAll K (less H C) vs ds) (hl : vs.length ≤ N.length) : SR K ⟨fun _ => none, C⟩ H (env0 N.length ds) (start N vs) where
  len := by rw [start_len hl, env0_len (by rw [← h.len]; exact hl)]
  inj := fun i j a z => nomatch z
  dom := fun i a z => nomatch z
  hid := hC
  sep := fun i a z => nomatch z
  slot := fun i s x h1 h2 => by
    rcases env0_at h1 with ⟨d, e, rfl⟩ | rfl
    · obtain ⟨v, ev, dv⟩ := h.at e
      rw [start_at ev] at h2
      cases h2
      exact ⟨rfl, v, rfl, Dq.keep (less_mono fun a o n q => ⟨q, fun z => n (z.elim id fun ⟨i, z⟩ => nomatch z)⟩) d v dv⟩
    · exact rfl
theorem SR.beginB {a : Addr} {vs0 : List V} {xs : List Dt} (hC : ∀ c, C c → H c ≠ none) (ha : C a) (hH : H a = some (.lst vs0)) (h0 : DqAll K (less H C) vs0 xs) (h : DqAll K (less H C) vs ds) (hl : vs.length + 1 ≤ N.length) :
    SR K ⟨fun i => if i = 0 then some a else none, fun c => C c ∧ c ≠ a⟩ H (envB N.length xs ds) (start N (.ref a :: vs)) := by
  have own : ∀ i b, (if i = 0 then some a else none : Option Addr) = some b → i = 0 ∧ b = a := fun i b z => by
    by_cases e : i = 0
    · rw [if_pos e] at z
      cases z
      exact ⟨e, rfl⟩
    · rw [if_neg e] at z
      cases z
  have sb : Sub (less H C) (less H (Ow.mk (fun i => if i = 0 then some a else none) fun c => C c ∧ c ≠ a).all) := less_mono fun b o n q => ⟨q, fun z => by
    rcases z with z | ⟨i, z⟩
    · exact n z.1
    · rw [(own i b z).2] at n
      exact n ha⟩
  refine ⟨?_, fun i j b z1 z2 => (own i b z1).1.trans (own j b z2).1.symm, fun i b z => ?_, fun b z => hC b z.1, fun i b z q => q.2 (own i b z).2, fun i s x h1 h2 => ?_⟩
  · rw [start_len (by simpa using hl)]
    unfold envB
    rw [List.length_cons, env0_len (by rw [← h.len]; omega)]
    omega
  · rw [(own i b z).1]
    unfold envB
    simp
  · cases i with
    | zero =>
      unfold envB at h1
      simp at h1
      subst h1
      have e : (start N (.ref a :: vs))[0]? = some (some (.ref a)) := start_at rfl
      rw [e] at h2
      cases h2
      exact ⟨a, vs0, rfl, rfl, hH, DqAll.keep sb _ _ h0⟩
    | succ i =>
      unfold envB at h1
      rw [List.getElem?_cons_succ] at h1
      rcases env0_at h1 with ⟨d, e, rfl⟩ | rfl
      · obtain ⟨v, ev, dv⟩ := h.at e
        have e2 : (start N (.ref a :: vs))[i + 1]? = some (some v) := start_at (by simpa using ev)
        rw [e2] at h2
        cases h2
        exact ⟨rfl, v, rfl, Dq.keep sb d v dv⟩
      · exact rfl
end
section
variable {P : Program} {w : World} {K : PySem.W.Frag} {mg : Str → Option Value} {base : Heap}
/-- a def that changes nothing keeps its promise -/
theorem okP {x qual : Str} {st : Stmt} {f : Addr} {fd : FuncData} {N ps : List Str} {k : Nat} {g : List Dt → Option Dt} {m : MT} (F : FunD K x qual (defArgs st) (defBody st) (defScope st) [] [] f fd) (S : FnScope N ps (defScope st)) (hp : ps.length ≤ N.length)
    (hb : ∀ (cdv : Value) (A : Around) (outer : List Env) (s : Shared) (H : Hp) (E : XK), Room k (A.deeper (envOfC qual (defScope st) s.heap.objs.size f cdv)) → OSs (cxOf CX0 P w K mg base N qual (defScope st) f cdv A outer s H E).nox (defBody st) m)
    (hg : ∀ ds r, ds.length = ps.length → g ds = some r → ansP (m (env0 N.length ds)) = some r) : FnOk P w K mg base CX0 (k + 1) f fd ps (spP K ps.length g) := by
  refine F.ok S (fun vs H Q E h => ?_) (fun cdv A outer s H vs Q E hr h => ?_)
  · obtain ⟨C, ds, r, hl, _⟩ := h
    exact hl
  · obtain ⟨C, ds, r, hl, hC, hd, hf, q⟩ := h
    refine ⟨_, PSs.nox (hb cdv A outer s H E hr), ?_⟩
    have sr : SR K ⟨fun _ => none, C⟩ H (env0 N.length ds) (start N vs) := SR.begin hC hd (by rw [hl]; exact hp)
    have ha := hg ds r (by rw [← hd.len]; exact hl) hf
    have out : ∀ {w' : Ow} {H' : Hp} {en' : En}, Tr ⟨fun _ => none, C⟩ w' H H' (env0 N.length ds) en' → Sub H H' := fun t b o e => t.fr b o e fun i z => nomatch z
    unfold ansP at ha
    split at ha
    · rename_i d e hm
      cases ha
      refine ⟨_, _, _, sr, hm, fun v σ' H' w' sr' p' t' => q v H' (out t') (Dq.keep (less_mono fun a o n e => ⟨e, fun z => n (.inl (by rw [t'.hd]; exact z))⟩) _ _ p')⟩
    · rename_i e hm
      cases ha
      exact ⟨_, _, _, sr, hm, fun σ' H' w' sr' t' => q _ H' (out t') .non⟩
    · cases ha
/-- a def that changes the list that is its first argument -/
theorem okB {x qual : Str} {st : Stmt} {f : Addr} {fd : FuncData} {N ps : List Str} {k : Nat} {g : List Dt → List Dt → Option (Dt × List Dt)} {m : MT} (F : FunD K x qual (defArgs st) (defBody st) (defScope st) [] [] f fd) (S : FnScope N ps (defScope st)) (hp : ps.length ≤ N.length)
    (hb : ∀ (cdv : Value) (A : Around) (outer : List Env) (s : Shared) (H : Hp) (E : XK), Room k (A.deeper (envOfC qual (defScope st) s.heap.objs.size f cdv)) → OSs (cxOf CX0 P w K mg base N qual (defScope st) f cdv A outer s H E).nox (defBody st) m)
    (hg : ∀ xs ds r, ds.length + 1 = ps.length → g xs ds = some r → ansB (m (envB N.length xs ds)) = some r) : FnOk P w K mg base CX0 (k + 1) f fd ps (spB K ps.length g) := by
  refine F.ok S (fun vs H Q E h => ?_) (fun cdv A outer s H vs Q E hr h => ?_)
  · obtain ⟨C, a, vr, vs0, xs, ds, r, ys, _, hl, _⟩ := h
    exact hl
  · obtain ⟨C, a, vr, vs0, xs, ds, r, ys, rfl, hl, hC, hCa, hHa, h0, hd, hf, q⟩ := h
    refine ⟨_, PSs.nox (hb cdv A outer s H E hr), ?_⟩
    have hl' : vr.length + 1 = ps.length := hl
    have sr := SR.beginB (N := N) hC hCa hHa h0 hd (by omega)
    have ha := hg xs ds (r, ys) (by rw [← hd.len]; exact hl') hf
    have out : ∀ {w' : Ow} {H' : Hp} {en' : En}, Tr ⟨fun i => if i = 0 then some a else none, fun c => C c ∧ c ≠ a⟩ w' H H' (envB N.length xs ds) en' → ∀ b o, H b = some o → b ≠ a → H' b = some o := fun t b o e n => t.fr b o e fun i z => by
      by_cases ei : i = 0
      · have z : (if i = 0 then some a else none : Option Addr) = some b := z
        rw [if_pos ei] at z
        cases z
        exact n rfl
      · have z : (if i = 0 then some a else none : Option Addr) = some b := z
        rw [if_neg ei] at z
        cases z
    have fin : ∀ {σ' : L2.St} {w' : Ow} {H' : Hp} {en' : En} {ys : List Dt}, SR K w' H' en' σ' → Tr ⟨fun i => if i = 0 then some a else none, fun c => C c ∧ c ≠ a⟩ w' H H' (envB N.length xs ds) en' → en'[0]? = some (.brw ys) →
        ∃ vs1, H' a = some (.lst vs1) ∧ Sub (less H' w'.all) (less H' C) ∧ DqAll K (less H' w'.all) vs1 ys := fun {σ' w' H' en' ys} sr' t' h0 => by
      obtain ⟨e1, _⟩ := t'.bw 0 xs rfl
      have e1 : w'.own 0 = some a := e1.trans rfl
      obtain ⟨x, _, b, vs1, _, o, hb, p⟩ := sr'.sig h0
      rw [e1] at o
      cases o
      refine ⟨vs1, hb, less_mono fun c oc n e => ⟨e, fun z => ?_⟩, p⟩
      by_cases ec : c = a
      · exact n (.inr ⟨0, by rw [ec]; exact e1⟩)
      · exact n (.inl (by rw [t'.hd]; exact ⟨z, ec⟩))
    unfold ansB at ha
    split at ha
    · rename_i d e hm
      split at ha
      · rename_i ys' h0'
        cases ha
        refine ⟨_, _, _, sr, hm, fun v σ' H' w' sr' p' t' => ?_⟩
        obtain ⟨vs1, e1, e2, e3⟩ := fin sr' t' h0'
        exact q v H' vs1 (out t') e1 (DqAll.keep e2 _ _ e3) (Dq.keep e2 _ _ p')
      · cases ha
    · rename_i e hm
      split at ha
      · rename_i ys' h0'
        cases ha
        refine ⟨_, _, _, sr, hm, fun σ' H' w' sr' t' => ?_⟩
        obtain ⟨vs1, e1, e2, e3⟩ := fin sr' t' h0'
        exact q _ H' vs1 (out t') e1 (DqAll.keep e2 _ _ e3) .non
      · cases ha
    · cases ha
end

/-! ### calls of defs -/
/-- f(x, ..), x an own (or handed in) list that f changes -/
def mCallB (f : List Dt → List Dt → Option (Dt × List Dt)) (i : Nat) (m : ML) : ME := fun en => match ownAt en i with
  | none => none
  | some _ => match m en with
    | none => none
    | some (ds, e) => match ownAt e i with
      | none => none
      | some xs => match f xs ds with
        | none => none
        | some (r, ys) => some (r, setOwn e i ys)
section
variable {X : Cx} {k n i : Nat} {f : Addr} {fd : FuncData} {ps : List Str} {g : List Dt → Option Dt} {gb : List Dt → List Dt → Option (Dt × List Dt)} {x y : Str} {p pos px : Pos} {e : Expr} {es : List Expr} {m : ML}
theorem oe_call (F : FnOk X.prog X.w X.K X.mg X.base CX0 k f fd ps (spP X.K n g)) (hr : Room k X.A) (hg : Gl X x) (hm : X.mg x = some (.ref f)) (hk : PySem.W.keepIn X.K (.ref f) = true) (hb : Binds X.K fd ps []) (ha : OA X (e :: es) m) (hn : ∀ en ds en', m en = some (ds, en') → ds.length = n)
    (hdb : (x == ("__debug__" : Str)) = false := by decide) (he : starEach (e :: es) X.env = (false, eval e X.env) :: starEach es X.env := by rfl) (hpl : (backTo pos (starEach es X.env)).any (·.1) = false := by rfl) : OE X (.Call (.Name x p) (e :: es) [] pos) (mFn g m) :=
  pe_imp (pe_call F hr hg hm hk hb .nil pass0 ha hdb he hpl) fun σ H Q ⟨w, en, d, en', sr, e, kk⟩ => by
    unfold mFn at e
    split at e
    · cases e
    rename_i ds e1 h1
    split at e
    · cases e
    rename_i d' h2
    cases e
    refine ⟨w, en, ds, _, sr, h1, fun vs H1 w1 sr1 p1 t1 => ?_⟩
    show spP X.K n g (vs ++ []) H1 Q E0
    rw [List.append_nil]
    exact ⟨w1.all, ds, d, by rw [p1.len]; exact hn _ _ _ h1, fun c z => sr1.allThere z, p1, h2, fun v H2 s2 p2 => kk v H2 w1 (sr1.grow s2) p2 (t1.trans (.grow s2))⟩
theorem oe_callB (F : FnOk X.prog X.w X.K X.mg X.base CX0 k f fd ps (spB X.K n gb)) (hr : Room k X.A) (hg : Gl X x) (hm : X.mg x = some (.ref f)) (hk : PySem.W.keepIn X.K (.ref f) = true) (hb : Binds X.K fd ps []) (hN : X.N[i]? = some y := by rfl)
    (hv : Vis X.env.scope y := by first | exact Or.inl rfl | exact Or.inr (Or.inl rfl) | exact Or.inr (Or.inr rfl)) (ha : OA X es m) (hn : ∀ en ds en', m en = some (ds, en') → ds.length + 1 = n)
    (hdb : (x == ("__debug__" : Str)) = false := by decide) (he : starEach (.Name y px :: es) X.env = (false, eval (.Name y px) X.env) :: starEach es X.env := by rfl) (hpl : (backTo pos (starEach es X.env)).any (·.1) = false := by rfl)
    (hd : (y == ("__debug__" : Str)) = false := by decide) (hcd : (y == ("__classdict__" : Str)) = false := by decide) : OE X (.Call (.Name x p) (.Name y px :: es) [] pos) (mCallB gb i m) :=
  pe_imp (pe_call F hr hg hm hk hb .nil pass0 (pa_cons (pe_var hN hv hd hcd) ha he) hdb he hpl) fun σ H Q ⟨w, en, d, en', sr, e, kk⟩ => by
    unfold mCallB at e
    split at e
    · cases e
    rename_i xs0 h0
    split at e
    · cases e
    rename_i ds e1 h1
    split at e
    · cases e
    rename_i xs h2
    split at e
    · cases e
    rename_i r ys h3
    cases e
    obtain ⟨a, vs0, es, ow, ha, _⟩ := sr.at h0
    refine ⟨.ref a, es, w, en, ds, e1, sr, h1, fun vs H1 w1 sr1 p1 t1 => ?_⟩
    obtain ⟨vs1, ow1, ha1, q1⟩ := own_same (a' := a) sr1 es h2
    show spB X.K n gb (.ref a :: vs ++ []) H1 Q E0
    rw [List.append_nil]
    refine ⟨w1.all, a, vs, vs1, xs, ds, d, ys, rfl, by rw [List.length_cons, p1.len]; exact hn _ _ _ h1, fun c z => sr1.allThere z, .inr ⟨i, ow1⟩, ha1, q1, p1, h3, fun v H2 vs2 fr ha2 q2 p2 => ?_⟩
    -- the heap behind the call: all else grew, the list changed
    have key : SR X.K w1 H2 (setOwn e1 i ys) σ ∧ Tr w1 w1 H1 H2 e1 (setOwn e1 i ys) := by
      have fr' : ∀ b o, H1 b = some o → (∀ j, w1.own j ≠ some b) → H2 b = some o := fun b o e n => fr b o e fun z => n i (by rw [z]; exact ow1)
      have th : ∀ b, H1 b ≠ none → H2 b ≠ none := fun b h z => by
        by_cases e : b = a
        · rw [e, ha2] at z
          cases z
        · cases q : H1 b with
          | none => exact h q
          | some o =>
            rw [fr b o q e] at z
            cases z
      have sb : Sub (less H1 w1.all) (less H2 w1.all) := less_mono fun b o n e => ⟨fr b o e fun z => n (.inr ⟨i, by rw [z]; exact ow1⟩), n⟩
      obtain ⟨sr2, t2⟩ := sr1.chO (vs := vs1) (vs' := vs1) (ds' := xs) h2 ow1 q1
      refine ⟨⟨?_, sr1.inj, ?_, fun c h => th c (sr1.hid c h), sr1.sep, fun j s x e1' e2' => ?_⟩, ⟨fr', fun j b z => .inl ⟨j, z⟩, rfl, ?_, th⟩⟩
      · rcases own_kind (ds' := ys) h2 with ⟨_, z⟩ | ⟨_, z⟩ <;> rw [z, List.length_set] <;> exact sr1.len
      · intro j b z
        rcases own_kind (ds' := ys) h2 with ⟨_, zz⟩ | ⟨_, zz⟩ <;> rw [zz, List.length_set] <;> exact sr1.dom j b z
      · have same : ∀ {ny : Sl}, j = i → (ny = .own ys ∨ ny = .brw ys) → SlR X.K w1 H2 i ny x := fun {ny} ej en => by
          subst ej
          rw [es] at e2'
          cases e2'
          rcases en with rfl | rfl
          · exact ⟨a, vs2, rfl, ow1, ha2, q2⟩
          · exact ⟨a, vs2, rfl, ow1, ha2, q2⟩
        have other : j ≠ i → e1[j]? = some s → SlR X.K w1 H2 j s x := fun ne es' => by
          have q := sr1.slot j s x es' e2'
          cases s with
          | no => exact q
          | val d =>
            obtain ⟨n, v, e, p⟩ := q
            exact ⟨n, v, e, Dq.keep sb d v p⟩
          | own ds =>
            obtain ⟨b, us, e, o, h, p⟩ := q
            exact ⟨b, us, e, o, fr b _ h fun z => ne (sr1.inj j i a (by rw [← z]; exact o) ow1), DqAll.keep sb ds us p⟩
          | brw ds =>
            obtain ⟨b, us, e, o, h, p⟩ := q
            exact ⟨b, us, e, o, fr b _ h fun z => ne (sr1.inj j i a (by rw [← z]; exact o) ow1), DqAll.keep sb ds us p⟩
          | dti ks =>
            obtain ⟨b, e, o, h⟩ := q
            exact ⟨b, e, o, fr b _ h fun z => ne (sr1.inj j i a (by rw [← z]; exact o) ow1)⟩
        rcases own_kind (ds' := ys) h2 with ⟨_, z⟩ | ⟨_, z⟩
        · rw [z] at e1'
          rcases set_of e1' with ⟨ej, rfl⟩ | ⟨ne, e3⟩
          · rw [ej]
            exact same ej (.inl rfl)
          · exact other ne e3
        · rw [z] at e1'
          rcases set_of e1' with ⟨ej, rfl⟩ | ⟨ne, e3⟩
          · rw [ej]
            exact same ej (.inr rfl)
          · exact other ne e3
      · intro j ds z
        refine ⟨rfl, ?_⟩
        rcases own_kind (ds' := ys) h2 with ⟨q, zz⟩ | ⟨q, zz⟩
        · rw [zz]
          by_cases ej : j = i
          · rw [ej, q] at z
            cases z
          · exact ⟨ds, by rw [List.getElem?_set_ne (Ne.symm ej)]; exact z⟩
        · rw [zz]
          by_cases ej : j = i
          · subst ej
            exact ⟨ys, List.getElem?_set_self (List.getElem?_eq_some_iff.mp z).1⟩
          · exact ⟨ds, by rw [List.getElem?_set_ne (Ne.symm ej)]; exact z⟩
    exact kk v H2 w1 key.1 p2 (t1.trans key.2)
end
end Yd

set_option Elab.async false
set_option linter.all false
set_option maxRecDepth 100000
set_option maxHeartbeats 1000000
set_option autoImplicit false
namespace Yd
open PySem PySem.Spec PyProof.Rows L2

/-! ### a, b = x, y -/
def mPar (i j : Nat) (ml : ML) : MT := fun en => match ml en with
  | some ([a, b], e) => (match gSet i a e with
    | none => none
    | some e1 => match gSet j b e1 with
      | none => none
      | some e2 => some (.nx e2))
  | _ => none
def mPar3 (i j l : Nat) (ml : ML) : MT := fun en => match ml en with
  | some ([a, b, c], e) => (match gSet i a e with
    | none => none
    | some e1 => match gSet j b e1 with
      | none => none
      | some e2 => match gSet l c e2 with
        | none => none
        | some e3 => some (.nx e3))
  | _ => none
theorem SR.gset {K : PySem.W.Frag} {w : Ow} {H : Hp} {en en' : En} {σ : L2.St} {i : Nat} {d : Dt} {v : V} (r : SR K w H en σ) (h : gSet i d en = some en') (g : Dq K (less H w.all) v d) : SR K (w.drop i) H en' (σ.set i (some v)) ∧ Tr w (w.drop i) H H en en' := by
  unfold gSet at h
  split at h
  · rename_i s hs
    split at h
    · rename_i hf
      cases h
      exact ⟨r.put hs (dp_drop g), Tr.put hs hf⟩
    · cases h
  · cases h
section
variable {X : Cx} {a b c : Expr} {ml : ML} {pos px py pz pt : Pos} {kt k2 : Nat} {pt2 : Pos} {x y z : Str} {i j l : Nat}
theorem os_par (hc : X.calm = true) (hN : X.N.Nodup) (hx : X.env.scope.names.lookup x = some .local) (hy : X.env.scope.names.lookup y = some .local) (ha : OA X [a, b] ml)
    (hi : X.N[i]? = some x := by rfl) (hj : X.N[j]? = some y := by rfl) (hij : i ≠ j := by decide)
    (hw : swappedStores [.Tuple [.Name x px, .Name y py] kt pt] (.Tuple [a, b] k2 pt2) X.env = pure (some [x, y]) := by rfl)
    (hs : swapsWithSole [.Tuple [.Name x px, .Name y py] kt pt] (.Tuple [a, b] k2 pt2) pos.line X.env = pure false := by rfl) :
    OS X (.Assign [.Tuple [.Name x px, .Name y py] kt pt] (.Tuple [a, b] k2 pt2) pos) (mPar i j ml) := ps_imp (ps_par hc hN hi hj hij hx hy ha hw hs) fun D σ H ⟨w, en, o, sr, e, f⟩ => by
  unfold mPar at e
  split at e
  · rename_i da db e0 h0
    split at e
    · cases e
    rename_i e1 h1
    split at e
    · cases e
    rename_i e2 h2
    cases e
    refine ⟨w, en, _, e0, sr, h0, fun vs H1 w1 sr1 p1 t1 => ?_⟩
    cases p1 with
    | cons q1 q2 =>
      cases q2 with
      | cons q2 q3 =>
        cases q3
        obtain ⟨s1, r1⟩ := sr1.gset h1 q1
        obtain ⟨s2, r2⟩ := s1.gset h2 (r1.dp q2)
        exact ⟨_, _, rfl, f _ H1 _ s2 ((t1.trans r1).trans r2)⟩
  · cases e
theorem os_par3 (hc : X.calm = true) (hN : X.N.Nodup) (hx : X.env.scope.names.lookup x = some .local) (hy : X.env.scope.names.lookup y = some .local) (hz : X.env.scope.names.lookup z = some .local) (ha : OA X [a, b, c] ml)
    (hi : X.N[i]? = some x := by rfl) (hj : X.N[j]? = some y := by rfl) (hl : X.N[l]? = some z := by rfl) (hij : i ≠ j := by decide) (hil : i ≠ l := by decide) (hjl : j ≠ l := by decide)
    (hw : swappedStores [.Tuple [.Name x px, .Name y py, .Name z pz] kt pt] (.Tuple [a, b, c] k2 pt2) X.env = pure (some [x, y, z]) := by rfl)
    (hs : swapsWithSole [.Tuple [.Name x px, .Name y py, .Name z pz] kt pt] (.Tuple [a, b, c] k2 pt2) pos.line X.env = pure false := by rfl) :
    OS X (.Assign [.Tuple [.Name x px, .Name y py, .Name z pz] kt pt] (.Tuple [a, b, c] k2 pt2) pos) (mPar3 i j l ml) := ps_imp (ps_par3 hc hN hi hj hl hij hil hjl hx hy hz ha hw hs) fun D σ H ⟨w, en, o, sr, e, f⟩ => by
  unfold mPar3 at e
  split at e
  · rename_i da db dc e0 h0
    split at e
    · cases e
    rename_i e1 h1
    split at e
    · cases e
    rename_i e2 h2
    split at e
    · cases e
    rename_i e3 h3
    cases e
    refine ⟨w, en, _, e0, sr, h0, fun vs H1 w1 sr1 p1 t1 => ?_⟩
    cases p1 with
    | cons q1 q2 =>
      cases q2 with
      | cons q2 q3 =>
        cases q3 with
        | cons q3 q4 =>
          cases q4
          obtain ⟨s1, r1⟩ := sr1.gset h1 q1
          obtain ⟨s2, r2⟩ := s1.gset h2 (r1.dp q2)
          obtain ⟨s3, r3⟩ := s2.gset h3 ((r1.trans r2).dp q3)
          exact ⟨_, _, _, rfl, f _ H1 _ s3 (((t1.trans r1).trans r2).trans r3)⟩
  · cases e
end

/-! ### a new list, known by another's heap -/
theorem SR.hideG {K : PySem.W.Frag} {w : Ow} {H H' : Hp} {en : En} {σ : L2.St} {p : Addr} {o : HO} (r : SR K w H en σ) (s : Sub H H') (h0 : H p = none) (h1 : H' p = some o) : SR K (w.hide p) H' en σ :=
  (r.hide (o := o) h0).grow fun a u e => by
    by_cases ea : a = p
    · subst ea
      rw [upd_same] at e
      cases e
      exact h1
    · rw [upd_ne ea] at e
      exact s a u e

/-! ### defs that answer a new list -/
def spN (K : PySem.W.Frag) (n : Nat) (f : List Dt → Option (List Dt)) : Sp := fun vs H Q _ => ∃ (C : Addr → Prop) (ds : List Dt) (r : List Dt), vs.length = n ∧ (∀ a, C a → H a ≠ none) ∧ DqAll K (less H C) vs ds ∧ f ds = some r ∧
  ∀ p us H', Sub H H' → H p = none → H' p = some (.lst us) → DqAll K (less H' (fun a => C a ∨ a = p)) us r → Q (.ref p) H'
def ansN (o : Option Out) : Option (List Dt) := match o with
  | some (.nw d _) => some d
  | _ => none
section
variable {P : Program} {w : World} {K : PySem.W.Frag} {mg : Str → Option Value} {base : Heap}
theorem okN {x qual : Str} {st : Stmt} {f : Addr} {fd : FuncData} {N ps : List Str} {k : Nat} {g : List Dt → Option (List Dt)} {m : MT} (F : FunD K x qual (defArgs st) (defBody st) (defScope st) [] [] f fd) (S : FnScope N ps (defScope st)) (hp : ps.length ≤ N.length)
    (hb : ∀ (cdv : Value) (A : Around) (outer : List Env) (s : Shared) (H : Hp) (E : XK), Room k (A.deeper (envOfC qual (defScope st) s.heap.objs.size f cdv)) → OSs (cxOf CX0 P w K mg base N qual (defScope st) f cdv A outer s H E).nox (defBody st) m)
    (hg : ∀ ds r, ds.length = ps.length → g ds = some r → ansN (m (env0 N.length ds)) = some r) : FnOk P w K mg base CX0 (k + 1) f fd ps (spN K ps.length g) := by
  refine F.ok S (fun vs H Q E h => ?_) (fun cdv A outer s H vs Q E hr h => ?_)
  · obtain ⟨C, ds, r, hl, _⟩ := h
    exact hl
  · obtain ⟨C, ds, r, hl, hC, hd, hf, q⟩ := h
    refine ⟨_, PSs.nox (hb cdv A outer s H E hr), ?_⟩
    have sr : SR K ⟨fun _ => none, C⟩ H (env0 N.length ds) (start N vs) := SR.begin hC hd (by rw [hl]; exact hp)
    have ha := hg ds r (by rw [← hd.len]; exact hl) hf
    have out : ∀ {w' : Ow} {H' : Hp} {en' : En}, Tr ⟨fun _ => none, C⟩ w' H H' (env0 N.length ds) en' → Sub H H' := fun t b o e => t.fr b o e fun i z => nomatch z
    unfold ansN at ha
    split at ha
    · rename_i d e hm
      cases ha
      refine ⟨_, _, _, sr, hm, fun p us σ' H' w' h0 hp' sr' p' t' => q p us H' (out t') h0 hp' (DqAll.keep (less_mono fun a o n e => ⟨e, fun z => n (hide_all.mpr ?_)⟩) _ _ p')⟩
      rcases z with z | z
      · exact .inl (.inl (by rw [t'.hd]; exact z))
      · exact .inr z
    · cases ha
end
section
variable {X : Cx} {k n i : Nat} {f : Addr} {fd : FuncData} {ps : List Str} {g : List Dt → Option (List Dt)} {gb : List Dt → List Dt → Option (Dt × List Dt)} {x y : Str} {p pos px : Pos} {e : Expr} {es : List Expr} {m : ML}
theorem of_callN (F : FnOk X.prog X.w X.K X.mg X.base CX0 k f fd ps (spN X.K n g)) (hr : Room k X.A) (hg : Gl X x) (hm : X.mg x = some (.ref f)) (hk : PySem.W.keepIn X.K (.ref f) = true) (hb : Binds X.K fd ps []) (ha : OA X (e :: es) m) (hn : ∀ en ds en', m en = some (ds, en') → ds.length = n)
    (hdb : (x == ("__debug__" : Str)) = false := by decide) (he : starEach (e :: es) X.env = (false, eval e X.env) :: starEach es X.env := by rfl) (hpl : (backTo pos (starEach es X.env)).any (·.1) = false := by rfl) : OF X (.Call (.Name x p) (e :: es) [] pos) (mFl g m) :=
  pe_imp (pe_call F hr hg hm hk hb .nil pass0 ha hdb he hpl) fun σ H Q ⟨w, en, d, en', sr, e, kk⟩ => by
    unfold mFl at e
    split at e
    · cases e
    rename_i ds e1 h1
    split at e
    · cases e
    rename_i d' h2
    cases e
    refine ⟨w, en, ds, _, sr, h1, fun vs H1 w1 sr1 p1 t1 => ?_⟩
    show spN X.K n g (vs ++ []) H1 Q E0
    rw [List.append_nil]
    refine ⟨w1.all, ds, d, by rw [p1.len]; exact hn _ _ _ h1, fun c z => sr1.allThere z, p1, h2, fun q us H2 s2 h0 hq p2 => ?_⟩
    exact kk q us H2 w1 (t1.free h0) hq (sr1.hideG s2 h0 hq) (DqAll.keep (less_mono fun a o n e => ⟨e, fun z => n (hide_all.mp z)⟩) _ _ p2) (t1.trans (.grow s2))
/-- f(a new list), f changes it; nobody keeps it -/
def mCallF (f : List Dt → List Dt → Option (Dt × List Dt)) (m : ML) : ME := fun en => match m en with
  | none => none
  | some (xs, e) => match f xs [] with
    | none => none
    | some (r, _) => some (r, e)
theorem oe_callBF (F : FnOk X.prog X.w X.K X.mg X.base CX0 k f fd ps (spB X.K 1 gb)) (hr : Room k X.A) (hg : Gl X x) (hm : X.mg x = some (.ref f)) (hk : PySem.W.keepIn X.K (.ref f) = true) (hb : Binds X.K fd ps []) (ha : OF X e m)
    (hdb : (x == ("__debug__" : Str)) = false := by decide) (he : starEach [e] X.env = (false, eval e X.env) :: starEach [] X.env := by rfl) (hpl : (backTo pos (starEach [] X.env)).any (·.1) = false := by rfl) : OE X (.Call (.Name x p) [e] [] pos) (mCallF gb m) :=
  pe_imp (pe_call F hr hg hm hk hb .nil pass0 (pa_cons ha pa_nil he) hdb he hpl) fun σ H Q ⟨w, en, d, en', sr, e, kk⟩ => by
    unfold mCallF at e
    split at e
    · cases e
    rename_i xs e1 h1
    split at e
    · cases e
    rename_i r ys h2
    cases e
    refine ⟨w, en, xs, _, sr, h1, fun q us H1 w1 h0 hq sr1 p1 t1 => ?_⟩
    show spB X.K 1 gb [.ref q] H1 Q E0
    refine ⟨(w1.hide q).all, q, [], us, xs, [], d, ys, rfl, rfl, fun c z => sr1.allThere z, hide_all.mpr (.inr rfl), hq, p1, .nil, h2, fun v H2 vs2 fr ha2 q2 p2 => ?_⟩
    have sr2 : SR X.K w1 H2 en' σ := ((sr1.upHid (ys := vs2) (.inr rfl) hq).grow (H' := H2) fun b o e => by
      by_cases eb : b = q
      · subst eb
        rw [upd_same] at e
        cases e
        exact ha2
      · rw [upd_ne eb] at e
        exact fr b o e eb).unhide
    refine kk v H2 w1 sr2 (Dq.keep unhide_sub _ _ p2) ⟨fun b o e n => fr b o (t1.fr b o e n) fun z => ?_, t1.fo, t1.hd, t1.bw, fun b e z => ?_⟩
    · subst z
      rw [h0] at e
      cases e
    · have nb : b ≠ q := fun z => by
        subst z
        exact e h0
      cases hb1 : H1 b with
      | none => exact t1.th b e hb1
      | some o =>
        rw [fr b o hb1 nb] at z
        cases z
end
end Yd

set_option Elab.async false
set_option linter.all false
set_option maxRecDepth 100000
set_option maxHeartbeats 1000000
set_option autoImplicit false
namespace Yd
open PySem PySem.Spec PyProof.Rows L2

/-! ### sorting, plainly -/
section
variable {α : Type}
def ins (le : α → α → Bool) (x : α) : List α → List α
  | [] => [x]
  | y :: ys => if le x y = true then x :: y :: ys else y :: ins le x ys
def insSort (le : α → α → Bool) : List α → List α
  | [] => []
  | x :: xs => ins le x (insSort le xs)
variable {le : α → α → Bool}
theorem ins_mem (x : α) : ∀ (ys : List α) (z : α), z ∈ ins le x ys → z = x ∨ z ∈ ys
  | [], z, h => by
    unfold ins at h
    exact .inl (List.mem_singleton.mp h)
  | y :: ys, z, h => by
    unfold ins at h
    split at h
    · rcases List.mem_cons.mp h with h | h
      · exact .inl h
      · exact .inr h
    · rcases List.mem_cons.mp h with h | h
      · exact .inr (by rw [h]; exact List.mem_cons_self)
      · rcases ins_mem x ys z h with h | h
        · exact .inl h
        · exact .inr (List.mem_cons_of_mem _ h)
theorem ins_pw (T : PySem.W.TotalLe le) (x : α) : ∀ ys : List α, ys.Pairwise (fun a b => le a b = true) → (ins le x ys).Pairwise (fun a b => le a b = true)
  | [], _ => List.pairwise_singleton _ _
  | y :: ys, h => by
    obtain ⟨h1, h2⟩ := List.pairwise_cons.mp h
    unfold ins
    split
    · rename_i hxy
      refine List.pairwise_cons.mpr ⟨fun z hz => ?_, h⟩
      rcases List.mem_cons.mp hz with hz | hz
      · rw [hz]; exact hxy
      · exact T.trans _ _ _ hxy (h1 z hz)
    · rename_i hxy
      refine List.pairwise_cons.mpr ⟨fun z hz => ?_, ins_pw T x ys h2⟩
      rcases ins_mem x ys z hz with hz | hz
      · rw [hz]
        exact (T.total y x).resolve_right hxy
      · exact h1 z hz
theorem ins_fil (T : PySem.W.TotalLe le) (c x : α) : ∀ ys : List α, (ins le x ys).filter (PySem.W.sameRank le c) = (x :: ys).filter (PySem.W.sameRank le c)
  | [] => rfl
  | y :: ys => by
    unfold ins
    split
    · rfl
    · rename_i hxy
      rw [List.filter_cons, ins_fil T c x ys, List.filter_cons, List.filter_cons, List.filter_cons]
      by_cases hx : PySem.W.sameRank le c x = true
      · have hy : PySem.W.sameRank le c y = false := by
          cases q : PySem.W.sameRank le c y with
          | false => rfl
          | true =>
            unfold PySem.W.sameRank at hx q
            rw [Bool.and_eq_true] at hx q
            exact absurd (T.trans _ _ _ hx.2 q.1) hxy
        rw [hy, if_pos hx]
        simp [hx]
      · rw [if_neg hx, if_neg hx]
theorem insSort_eq (T : PySem.W.TotalLe le) (l : List α) : insSort le l = l.mergeSort le := by
  refine PySem.W.sort_unique T ?_ fun c => ?_
  · induction l with
    | nil => exact List.Pairwise.nil
    | cons x xs ih => exact ins_pw T x _ ih
  · induction l with
    | nil => rfl
    | cons x xs ih =>
      show (ins le x (insSort le xs)).filter _ = _
      rw [ins_fil T, List.filter_cons, List.filter_cons, ih]
theorem insSort_len : ∀ l : List α, (insSort le l).length = l.length
  | [] => rfl
  | x :: xs => by
    have h : ∀ ys : List α, (ins le x ys).length = ys.length + 1 := fun ys => by
      induction ys with
      | nil => rfl
      | cons y ys ih =>
        unfold ins
        split
        · rfl
        · rw [List.length_cons, ih, List.length_cons]
    show (ins le x (insSort le xs)).length = _
    rw [h, insSort_len xs, List.length_cons]
end
/-- rows of whole numbers, upwards -/
def leT : List Int → List Int → Bool
  | [], _ => true
  | _ :: _, [] => false
  | a :: as, b :: bs => if a = b then leT as bs else decide (a < b)
theorem leT_eq : ∀ xs ys : List Int, leT xs ys = !decide (ys < xs)
  | [], ys => by simp [leT]
  | x :: xs, [] => by simp [leT]
  | x :: xs, y :: ys => by
    unfold leT
    by_cases h : x = y
    · subst h
      rw [if_pos rfl, leT_eq xs ys]
      simp [List.cons_lt_cons_iff]
    · rw [if_neg h]
      by_cases h2 : x < y
      · have h3 : ¬ y < x := by omega
        simp [List.cons_lt_cons_iff, h2, h3, Ne.symm h]
      · have h3 : y < x := by omega
        simp [List.cons_lt_cons_iff, h2, h3]
def encT (l : List Int) : Dt := .tuple (l.map .int)
theorem leT_data : PySem.W.dataLe false encT = leT := by
  funext p q
  show (!PySem.W.dataLt (.tuple (q.map .int)) (.tuple (p.map .int))) = _
  rw [PySem.W.dataLt_tuple]
  show (!PySem.W.rowLt (q.map .int) (p.map .int)) = _
  rw [PySem.W.dataLt_ints, leT_eq]
theorem leT_total : PySem.W.TotalLe leT := by
  rw [← leT_data]
  exact PySem.W.sortLe_total _ _ _
def tupsOf : List Dt → Option (List (List Int))
  | [] => some []
  | .tuple ds :: r => match intsOf ds with
    | none => none
    | some l => match tupsOf r with
      | none => none
      | some ls => some (l :: ls)
  | _ :: _ => none
theorem tupsOf_some : ∀ {ds : List Dt} {ls : List (List Int)}, tupsOf ds = some ls → ds = ls.map encT
  | [], ls, h => by
    cases h
    rfl
  | d :: r, ls, h => by
    unfold tupsOf at h
    split at h
    · rename_i e; cases e
    · rename_i e
      split at h
      · cases h
      rename_i l h1
      split at h
      · cases h
      rename_i ls' h2
      cases h
      cases e
      rw [intsOf_some h1, tupsOf_some h2]
      rfl
    · cases h
def okT (ls : List (List Int)) : Bool := shortB ls.length && (Nat.blt ls.length 2 || ls.all fun l => !l.isEmpty)
def leI (a b : Int) : Bool := decide (a ≤ b)
theorem leI_data : PySem.W.dataLe false (fun b : Int => .int b) = leI := PySem.W.dataLe_int _
theorem leI_total : PySem.W.TotalLe leI := by
  rw [← leI_data]
  exact PySem.W.sortLe_total _ _ _
/-- sorted(l): rows of whole numbers, or whole numbers -/
def fSort : List Dt → Option (List Dt)
  | [.list bs] => match tupsOf bs with
    | some ls => if okT ls = true then some ((insSort leT ls).map encT) else none
    | none => match intsOf bs with
      | some ns => if shortB ns.length = true then some ((insSort leI ns).map .int) else none
      | none => none
  | _ => none

/-! ### the rule -/
section
variable {β : Type}
theorem each_join {R : V → Dt → Prop} {enc : β → Dt} : ∀ {xs : List V} {us : List Value} {bs : List β}, Vals xs us → PySem.W.EachIs R xs (bs.map enc) → PySem.W.EachIs (fun u b => ∃ x, RelV x u ∧ R x (enc b)) us bs
  | _, _, [], r, e => by
    have e : PySem.W.EachIs R _ [] := e
    cases e
    cases r
    exact .nil
  | _, _, b :: bs, r, e => by
    have e : PySem.W.EachIs R _ (enc b :: bs.map enc) := e
    cases e with
    | cons h1 h2 =>
      cases r with
      | cons r1 r2 => exact .cons ⟨_, r1, h1⟩ (each_join r2 h2)
theorem each_split {R : V → Dt → Prop} {enc : β → Dt} : ∀ {us : List Value} {bs : List β}, PySem.W.EachIs (fun u b => ∃ x, RelV x u ∧ R x (enc b)) us bs → ∃ xs, Vals xs us ∧ PySem.W.EachIs R xs (bs.map enc)
  | _, [], e => by
    cases e
    exact ⟨[], .nil, .nil⟩
  | _, b :: bs, e => by
    cases e with
    | cons h1 h2 =>
      obtain ⟨x, r, h⟩ := h1
      obtain ⟨xs, rs, es⟩ := each_split h2
      exact ⟨x :: xs, .cons r rs, .cons h es⟩
end
theorem DqAll.each {K : PySem.W.Frag} {H : Hp} : ∀ {vs : List V} {ds : List Dt}, DqAll K H vs ds → PySem.W.EachIs (Dq K H) vs ds
  | _, [], h => by cases h; exact .nil
  | _, d :: ds, h => by
    cases h with
    | cons h1 h2 => exact .cons h1 (DqAll.each h2)
theorem DqAll.of_each {K : PySem.W.Frag} {H : Hp} : ∀ {vs : List V} {ds : List Dt}, PySem.W.EachIs (Dq K H) vs ds → DqAll K H vs ds
  | _, [], h => by cases h; exact .nil
  | _, d :: ds, h => by
    cases h with
    | cons h1 h2 => exact .cons h1 (DqAll.of_each h2)
def rSortY (K : PySem.W.Frag) : List V → Hp → VK → Prop := fun vs H Q => ∃ (a : Addr) (xs : List V) (bs cs : List Dt) (R : V → Dt → Prop), vs = [.ref a] ∧ Rd H a (.lst xs) ∧ fSort [.list bs] = some cs ∧ DpAll K H xs bs ∧ PySem.W.EachIs R xs bs ∧
  ∀ p ys, H p = none → PySem.W.EachIs R ys cs → Q (.ref p) (upd H p (.lst ys))
section
variable {X : Cx}
theorem depth_ints0 : ∀ xs : List Int, PyData.depthAll (xs.map .int) = 0
  | [] => by simp [PyData.depthAll]
  | x :: xs => by
    show PyData.depthAll (.int x :: xs.map .int) = 0
    rw [PyData.depthAll, depth_ints0 xs]
    simp [PyData.depth]
theorem sort_enc {β : Type} {enc : β → Dt} {le : β → β → Bool} (hle : PySem.W.dataLe false enc = le) (T : PySem.W.TotalLe le) (hu : CRm X) {pins : List (Addr × Obj)} {σ : L2.St} {H : Hp} {s : Shared} {a : Addr} {xs : List V} {bs : List β} {R : V → Dt → Prop} {Q : VK}
    (I : Inv X pins σ H s) (hx : Rd H a (.lst xs)) (hd : DpAll X.K H xs (bs.map enc)) (he : PySem.W.EachIs R xs (bs.map enc)) (hal : PySem.W.AllAlike (bs.map enc)) (hk : PySem.W.Sortable (bs.map enc)) (hL : bs.length ≤ sizeLine) (hdep : ∀ b, b ∈ bs → (enc b).depth ≤ 64)
    (q : ∀ p ys, H p = none → PySem.W.EachIs R ys ((insSort le bs).map enc) → Q (.ref p) (upd H p (.lst ys))) :
    wpAny (model X.prog X.w) X.A (call (.builtin "sorted") [.ref a]) (fun u s' => ∃ x H', Inv X pins σ H' s' ∧ RelV x u ∧ Q x H') X.xe s := by
  obtain ⟨its, rv, p', hz⟩ := I.list (.inl hx)
  obtain ⟨as, ra⟩ := Dp.readsAll I _ _ _ hd rv
  refine PySem.W.sorted_data (enc := enc) (R := fun u b => ∃ x, RelV x u ∧ R x (enc b)) p'.isList (each_join rv he) (PySem.W.readsAll_each enc ra) hal hk hL (fun b hb => ?_) fun out ho eo => ?_
  · have h1 := hdep b hb
    have h2 : X.A.units + 200 < cLine := hu
    omega
  · rw [hle, ← insSort_eq T] at eo
    obtain ⟨ys, ry, ey⟩ := each_split eo
    obtain ⟨ep, he'⟩ := PyProof.Rows.sortedAll_at s.heap its out.toArray
    have hlen : ys.length ≤ sizeLine := by rw [ry.length, ho]; exact hL
    exact ⟨.ref _, upd H (s.heap.objs.size + 1) (.lst ys), I.laid (t' := s.toks) (fun _ _ => PyProof.Rows.sortedAll_old) (Nat.le_succ _) ⟨hlen, out, ep, ry, he'⟩, rfl, q _ _ (I.hok.fresh (Nat.le_succ _)) ey⟩
theorem sort_few {pins : List (Addr × Obj)} {σ : L2.St} {H : Hp} {s : Shared} {a : Addr} {xs : List V} {Q : VK} (I : Inv X pins σ H s) (hx : Rd H a (.lst xs)) (h2 : xs.length < 2)
    (q : ∀ p, H p = none → Q (.ref p) (upd H p (.lst xs))) :
    wpAny (model X.prog X.w) X.A (call (.builtin "sorted") [.ref a]) (fun u s' => ∃ x H', Inv X pins σ H' s' ∧ RelV x u ∧ Q x H') X.xe s := by
  obtain ⟨its, rv, p', hz⟩ := I.list (.inl hx)
  have hl := rv.length
  refine Srt.sorted_any p'.isList (by rw [← hl]; exact hz) (fun h => absurd h (by omega)) fun out hp => ?_
  have eo : out = its := by
    have h3 := hp.length_eq
    match its, out, hp, h3 with
    | [], [], _, _ => rfl
    | [x], [y], hp, _ => rw [List.perm_singleton.mp hp]
    | [], _ :: _, _, h3 => simp at h3
    | [_], [], _, h3 => simp at h3
    | [_], _ :: _ :: _, _, h3 => simp at h3
    | _ :: _ :: _, _, _, _ => rw [List.length_cons, List.length_cons] at hl; omega
  subst eo
  obtain ⟨ep, he'⟩ := PyProof.Rows.sortedAll_at s.heap out out.toArray
  exact ⟨.ref _, upd H (s.heap.objs.size + 1) (.lst xs), I.laid (t' := s.toks) (fun _ _ => PyProof.Rows.sortedAll_old) (Nat.le_succ _) ⟨hz, out, ep, rv, he'⟩, rfl, q _ (I.hok.fresh (Nat.le_succ _))⟩
theorem alike_tups {ls : List (List Int)} : PySem.W.AllAlike (ls.map encT) := PySem.W.AllAlike.of fun b b' => by
  show PySem.W.alike (.tuple (b.map .int)) (.tuple (b'.map .int)) = true
  rw [PySem.W.alike]
  exact PySem.W.alike_ints b b'
theorem sortable_tups {ls : List (List Int)} (h : (ls.all fun l => !l.isEmpty) = true) : PySem.W.Sortable (ls.map encT) := .inl fun d hd => by
  obtain ⟨b, hb, rfl⟩ := List.mem_map.mp hd
  have q := List.all_eq_true.mp h b hb
  cases b with
  | nil => simp at q
  | cons x r => exact ⟨.int x, r.map .int, rfl⟩
theorem depth_tup (b : List Int) : (encT b).depth ≤ 64 := by
  unfold encT
  rw [PyData.depth, depth_ints0]
  decide
theorem c_sort (hu : CRm X) : CallR X (.builtin "sorted") (rSortY X.K) := by
  intro pins s σ H vs us Q I r h
  obtain ⟨a, xs, bs, cs, R, rfl, hx, hf, hd, he, q⟩ := h
  rw [Vals.ref1 r]
  unfold fSort at hf
  simp only at hf
  split at hf
  · rename_i ls hls
    have e1 := tupsOf_some hls
    subst e1
    split at hf
    rotate_left
    · cases hf
    rename_i ok
    cases hf
    unfold okT at ok
    rw [Bool.and_eq_true, Bool.or_eq_true] at ok
    rcases ok.2 with h2 | h2
    · have h3 : ls.length < 2 := Nat.le_of_ble_eq_true h2
      have h4 : xs.length = ls.length := by rw [he.length, List.length_map]
      refine sort_few I hx (by omega) fun p hp => q p xs hp ?_
      have e2 : insSort leT ls = ls := by
        match ls, h3 with
        | [], _ => rfl
        | [_], _ => rfl
        | _ :: _ :: _, h3 => simp at h3; omega
      rw [e2]
      exact he
    · exact sort_enc leT_data leT_total hu I hx hd he alike_tups (sortable_tups h2) (shortB_ok ok.1) (fun b _ => depth_tup b) q
  · split at hf
    · rename_i ns hns
      have e1 := intsOf_some hns
      subst e1
      split at hf
      · rename_i ok
        cases hf
        refine sort_enc (enc := fun b : Int => .int b) leI_data leI_total hu I hx hd he (PySem.W.AllAlike.of fun b b' => by rw [PySem.W.alike]) (PySem.W.Sortable.others fun b => ⟨fun e => (nomatch e), fun _ e => (nomatch e)⟩) (shortB_ok ok) (fun b _ => by rw [PyData.depth]; decide) q
      · cases hf
    · cases hf
theorem canLay_ints : ∀ ns : List Int, PyData.canLayAll0 (ns.map .int) = true
  | [] => rfl
  | n :: ns => by
    show ((PyData.int n).canLay0 && PyData.canLayAll0 (ns.map .int)) = true
    rw [canLay_ints ns]
    rfl
theorem canLay_tups : ∀ ls : List (List Int), PyData.canLayAll0 (ls.map encT) = true
  | [] => rfl
  | l :: ls => by
    show ((encT l).canLay0 && PyData.canLayAll0 (ls.map encT)) = true
    rw [canLay_tups ls]
    show (PyData.canLayAll0 (l.map .int) && true) = true
    rw [canLay_ints l]
    rfl
theorem b_sort {K : PySem.W.Frag} : BF K (rSortY K) fSort := fun H C vs ds d Q hc h q k => by
  match ds, q, h with
  | [.list bs], q, h =>
    cases h with
    | cons h1 h2 =>
      cases h2
      cases h1 with
      | lst hx ax =>
        have lay : PyData.canLayAll0 bs = true := by
          unfold fSort at q
          simp only at q
          split at q
          · rename_i ls hls
            rw [tupsOf_some hls]
            exact canLay_tups ls
          · split at q
            · rename_i ns hns
              rw [intsOf_some hns]
              exact canLay_ints ns
            · cases q
        exact ⟨_, _, bs, d, Dq K (less H C), rfl, sub_r less_sub hx, q, DqAll.dp _ _ lay (DqAll.keep less_sub _ _ ax), ax.each, fun p ys hp e => k p ys hp (.of_each e)⟩
end
end Yd

set_option Elab.async false
set_option linter.all false
set_option maxRecDepth 100000
set_option maxHeartbeats 1000000
set_option autoImplicit false
namespace Yd
open PySem PySem.Spec PyProof.Rows L2

section
variable {K : PySem.W.Frag} {w w' : Ow} {H H' : Hp} {en en' : En} {σ σ' : L2.St} {i : Nat} {s : Sl} {p a : Addr}
/-- a new thing into a slot, as its own -/
theorem SR.ownG {sl : Sl} (r : SR K (w.hide p) H en σ) (np : ¬ w.hid p) (g : SlR K (w.take i p) H i sl (some (.ref p))) (h : en[i]? = some s) : SR K (w.take i p) H (en.set i sl) (σ.set i (some (.ref p))) := by
  have sb : Sub (less H (w.hide p).all) (less H (w.take i p).all) := less_mono fun a o n h => ⟨h, fun z => n (take_all z)⟩
  have no : ∀ j, w.own j ≠ some p := fun j z => r.sep j p z (.inr rfl)
  refine ⟨by rw [List.length_set, List.length_set]; exact r.len, fun j k a h1 h2 => ?_, fun j a h1 => ?_, fun a h => r.hid a (.inl h), fun j a h1 => ?_, fun j sl x h1 h2 => ?_⟩
  · by_cases e1 : j = i
    · by_cases e2 : k = i
      · rw [e1, e2]
      · rw [take_ne e2] at h2
        rw [e1, take_self] at h1
        cases h1
        exact (no k h2).elim
    · rw [take_ne e1] at h1
      by_cases e2 : k = i
      · rw [e2, take_self] at h2
        cases h2
        exact (no j h1).elim
      · rw [take_ne e2] at h2
        exact r.inj j k a h1 h2
  · rw [List.length_set]
    by_cases e1 : j = i
    · rw [e1]
      exact (List.getElem?_eq_some_iff.mp h).1
    · rw [take_ne e1] at h1
      exact r.dom j a h1
  · by_cases e1 : j = i
    · rw [e1, take_self] at h1
      cases h1
      exact np
    · rw [take_ne e1] at h1
      exact fun z => r.sep j a h1 (.inl z)
  · rcases set_of h1 with ⟨rfl, rfl⟩ | ⟨ne, h1⟩
    · rcases set_of h2 with ⟨_, rfl⟩ | ⟨q, _⟩
      · exact g
      · exact (q rfl).elim
    · rcases set_of h2 with ⟨q, _⟩ | ⟨_, h2⟩
      · exact (ne q).elim
      have q := r.slot j sl x h1 h2
      cases sl with
      | no => exact (take_ne ne).trans q
      | val d =>
        obtain ⟨n, v, e, p⟩ := q
        exact ⟨(take_ne ne).trans n, v, e, Dq.keep sb d v p⟩
      | own ds =>
        obtain ⟨a, vs, e, o, h, p⟩ := q
        exact ⟨a, vs, e, (take_ne ne).trans o, h, DqAll.keep sb ds vs p⟩
      | brw ds =>
        obtain ⟨a, vs, e, o, h, p⟩ := q
        exact ⟨a, vs, e, (take_ne ne).trans o, h, DqAll.keep sb ds vs p⟩
      | dti ks =>
        obtain ⟨a, e, o, h⟩ := q
        exact ⟨a, e, (take_ne ne).trans o, h⟩
/-- what a slot owns is changed -/
theorem SR.chgG {sl : Sl} {u : HO} (r : SR K w H en σ) (o : w.own i = some a) (g : SlR K w (upd H a u) i sl (some (.ref a))) : SR K w (upd H a u) (en.set i sl) σ := by
  have sb : Sub (less H w.all) (less (upd H a u) w.all) := less_mono fun b u n h => ⟨by rw [upd_ne (fun e => n (.inr ⟨i, by rw [e]; exact o⟩))]; exact h, n⟩
  obtain ⟨_, hσ⟩ := r.there o
  refine ⟨by rw [List.length_set]; exact r.len, r.inj, fun j b h1 => by rw [List.length_set]; exact r.dom j b h1, fun b h z => ?_, r.sep, fun j sj x h1 h2 => ?_⟩
  · by_cases e : b = a
    · subst e
      rw [upd_same] at z
      cases z
    · rw [upd_ne e] at z
      exact r.hid b h z
  · rcases set_of h1 with ⟨rfl, rfl⟩ | ⟨ne, h1⟩
    · rw [hσ] at h2
      cases h2
      exact g
    · have q := r.slot j sj x h1 h2
      cases sj with
      | no => exact q
      | val d =>
        obtain ⟨n, v, e, p⟩ := q
        exact ⟨n, v, e, Dq.keep sb d v p⟩
      | own ds =>
        obtain ⟨b, vs, e, o2, h, p⟩ := q
        exact ⟨b, vs, e, o2, by rw [upd_ne (fun e => ne (r.inj j i a (by rw [← e]; exact o2) o))]; exact h, DqAll.keep sb ds vs p⟩
      | brw ds =>
        obtain ⟨b, vs, e, o2, h, p⟩ := q
        exact ⟨b, vs, e, o2, by rw [upd_ne (fun e => ne (r.inj j i a (by rw [← e]; exact o2) o))]; exact h, DqAll.keep sb ds vs p⟩
      | dti ks =>
        obtain ⟨b, e, o2, h⟩ := q
        exact ⟨b, e, o2, by rw [upd_ne (fun e => ne (r.inj j i a (by rw [← e]; exact o2) o))]; exact h⟩
theorem Tr.chgG {sl : Sl} {u : HO} (o : w.own i = some a) (he : en[i]? = some s) (f : s.free = true) : Tr w w H (upd H a u) en (en.set i sl) where
  fr := fun b u h n => by
    rw [upd_ne (fun e => n i (by rw [e]; exact o))]
    exact h
  fo := fun j b z => .inl ⟨j, z⟩
  hd := rfl
  bw := fun j es z => by
    refine ⟨rfl, ?_⟩
    by_cases e : j = i
    · subst e
      rw [he] at z
      cases z
      cases f
    · exact ⟨es, by rw [List.getElem?_set_ne (Ne.symm e)]; exact z⟩
  th := fun b h => by
    by_cases e : b = a
    · subst e
      rw [upd_same]
      exact fun z => nomatch z
    · rw [upd_ne e]
      exact h
end

/-! ### a dict of one's own: rows of whole numbers to whole numbers -/
def eqT : List Int → List Int → Bool
  | [], [] => true
  | a :: as, b :: bs => if a = b then eqT as bs else false
  | _, _ => false
theorem eqT_iff : ∀ {a b : List Int}, eqT a b = true ↔ a = b
  | [], [] => by simp [eqT]
  | [], b :: bs => by simp [eqT]
  | a :: as, [] => by simp [eqT]
  | a :: as, b :: bs => by
    unfold eqT
    by_cases h : a = b
    · rw [if_pos h, eqT_iff]
      simp [h]
    · rw [if_neg h]
      simp [h]
def findT (k : List Int) : List (List Int × Int) → Option Int
  | [] => none
  | (l, v) :: r => if eqT l k = true then some v else findT k r
def putT (k : List Int) (v : Int) : List (List Int × Int) → List (List Int × Int)
  | [] => [(k, v)]
  | (l, u) :: r => if eqT l k = true then (l, v) :: r else (l, u) :: putT k v r
theorem inl_inj : ∀ {a b : List Int}, a.map (Sum.inl : Int → Key) = b.map Sum.inl → a = b
  | [], [], _ => rfl
  | [], _ :: _, h => by simp at h
  | _ :: _, [], h => by simp at h
  | a :: as, b :: bs, h => by
    simp only [List.map_cons, List.cons.injEq] at h
    rw [Sum.inl.inj h.1, inl_inj h.2]
theorem findT_val (k : List Int) : ∀ ks : List (List Int × Int), valV (ks.map kvT) (k.map Sum.inl) = (findT k ks).map V.int
  | [] => rfl
  | (l, v) :: r => by
    rw [List.map_cons]
    unfold findT
    by_cases h : l = k
    · subst h
      rw [if_pos (eqT_iff.mpr rfl), valV_pos (p := kvT (l, v)) (show (kvT (l, v)).1 = l.map Sum.inl from rfl)]
      rfl
    · rw [if_neg (fun e => h (eqT_iff.mp e)), valV_neg (p := kvT (l, v)) (show ¬ (kvT (l, v)).1 = k.map Sum.inl from fun e => h (inl_inj e))]
      exact findT_val k r
theorem putT_new (k : List Int) (v : Int) : ∀ ks : List (List Int × Int), findT k ks = none → putT k v ks = ks ++ [(k, v)]
  | [], _ => rfl
  | (l, u) :: r, h => by
    unfold findT at h
    split at h
    · cases h
    · rename_i ne
      unfold putT
      rw [if_neg ne, putT_new k v r h]
      rfl
/-- the keys are all different -/
def nodupT (ks : List (List Int × Int)) : Prop := (ks.map (·.1)).Nodup
theorem putT_far (k : List Int) (v : Int) : ∀ r : List (List Int × Int), k ∉ r.map (·.1) → (r.map kvT).map (fun kv => if kv.1 = k.map Sum.inl then (kv.1, V.int v) else kv) = r.map kvT
  | [], _ => rfl
  | q :: r, hn => by
    have hn : k ∉ q.1 :: r.map (·.1) := hn
    rw [List.mem_cons, not_or] at hn
    have ih := putT_far k v r hn.2
    have h2 : ¬ (kvT q).1 = k.map Sum.inl := fun e => hn.1 (inl_inj e).symm
    show (if (kvT q).1 = k.map Sum.inl then ((kvT q).1, V.int v) else kvT q) :: (r.map kvT).map _ = kvT q :: r.map kvT
    rw [ih]
    exact congrArg (· :: r.map kvT) (if_neg h2)
theorem putT_old (k : List Int) (v : Int) : ∀ ks : List (List Int × Int), nodupT ks → (findT k ks).isSome = true → (ks.map kvT).map (fun kv => if kv.1 = k.map Sum.inl then (kv.1, V.int v) else kv) = (putT k v ks).map kvT
  | [], _, h => by cases h
  | (l, u) :: r, nd, hs => by
    obtain ⟨n1, n2⟩ := List.nodup_cons.mp nd
    unfold findT at hs
    unfold putT
    show (if (kvT (l, u)).1 = k.map Sum.inl then ((kvT (l, u)).1, V.int v) else kvT (l, u)) :: (r.map kvT).map _ = _
    by_cases h : l = k
    · subst h
      rw [if_pos (eqT_iff.mpr rfl), putT_far l v r n1]
      exact congrArg (· :: r.map kvT) (if_pos (show (kvT (l, u)).1 = l.map Sum.inl from rfl))
    · have ne : ¬ eqT l k = true := fun e => h (eqT_iff.mp e)
      rw [if_neg ne] at hs ⊢
      have h2 : ¬ (kvT (l, u)).1 = k.map Sum.inl := fun e => h (inl_inj e)
      rw [putT_old k v r n2 hs]
      exact congrArg (· :: (putT k v r).map kvT) (if_neg h2)
theorem putT_put (k : List Int) (v : Int) (ks : List (List Int × Int)) (nd : nodupT ks) : putK (ks.map kvT) (k.map Sum.inl) (.int v) = (putT k v ks).map kvT := by
  unfold putK
  rw [valV_any, findT_val, Option.isSome_map]
  cases h : (findT k ks).isSome with
  | true =>
    simp only [if_true]
    exact putT_old k v ks nd h
  | false =>
    rw [putT_new k v ks (by simpa using h)]
    simp
    rfl
theorem kvT_key (k : List Int) : (k.map (Sum.inl : Int → Key)).map kV = k.map V.int := by
  rw [List.map_map]
  rfl
/-- the dict's own object says that its keys are different -/
theorem kt_keys {H : Hp} : ∀ {kvs : List (List Key × V)} {xs : List (List Key × Addr × Value)}, KT H kvs xs → xs.map (·.1) = kvs.map (·.1)
  | [], _, r => by cases r; rfl
  | _ :: _, _, r => by
    cases r with
    | cons h t => rw [List.map_cons, List.map_cons, kt_keys t, h.1]
theorem dti_nodup {X : Cx} {pins : List (Addr × Obj)} {σ : L2.St} {H : Hp} {s : Shared} {a : Addr} {ks : List (List Int × Int)} (I : Inv X pins σ H s) (h : H a = some (.dT (ks.map kvT))) : nodupT ks := by
  obtain ⟨_, _, xs, rel, o, es, ep, _, _, _, _, _, nd⟩ := dt_of I.hok h
  rw [kt_keys rel, List.map_map] at nd
  have e : ks.map ((fun x : List Key × V => x.1) ∘ kvT) = (ks.map (·.1)).map (fun l : List Int => l.map (Sum.inl : Int → Key)) := by
    rw [List.map_map]
    rfl
  rw [e] at nd
  exact List.Pairwise.of_map (fun l : List Int => l.map (Sum.inl : Int → Key)) (fun a b ne e => ne (by rw [e])) nd
def dtiAt (en : En) (i : Nat) : Option (List (List Int × Int)) := match en[i]? with
  | some (.dti ks) => some ks
  | _ => none
theorem dtiAt_some {en : En} {i : Nat} {ks : List (List Int × Int)} (h : dtiAt en i = some ks) : en[i]? = some (.dti ks) := by
  unfold dtiAt at h
  split at h
  · rename_i e
    cases h
    exact e
  · cases h
def keyOf : Dt → Option (List Int)
  | .tuple ds => intsOf ds
  | _ => none
theorem keyOf_at {K : PySem.W.Frag} {H : Hp} {v : V} {d : Dt} {k : List Int} (h : Dq K H v d) (e : keyOf d = some k) : ∃ b, v = .ref b ∧ H b = some (.tup ((k.map (Sum.inl : Int → Key)).map kV)) := by
  unfold keyOf at e
  split at e
  · rename_i ds
    have e1 := intsOf_some e
    subst e1
    cases h with
    | tup hx ax =>
      rw [ax.ints] at hx
      exact ⟨_, rfl, by rw [kvT_key]; exact hx⟩
  · cases e
section
variable {K : PySem.W.Frag} {w w' : Ow} {H H' : Hp} {en en' : En} {σ : L2.St} {i : Nat} {a : Addr} {ks : List (List Int × Int)}
theorem SR.dti (r : SR K w H en σ) (h : dtiAt en i = some ks) : ∃ a, σ[i]? = some (some (.ref a)) ∧ w.own i = some a ∧ H a = some (.dT (ks.map kvT)) := by
  obtain ⟨x, e1, a, rfl, o, ha⟩ := r.sig (dtiAt_some h)
  exact ⟨a, e1, o, ha⟩
theorem dti_same (r' : SR K w' H' en' σ) (e : σ[i]? = some (some (.ref a))) (h : dtiAt en' i = some ks) : w'.own i = some a ∧ H' a = some (.dT (ks.map kvT)) := by
  obtain ⟨b, e1, o, hb⟩ := r'.dti h
  rw [e] at e1
  cases e1
  exact ⟨o, hb⟩
end
/-- name = {} -/
def mDnew (i : Nat) : MT := fun en => match en[i]? with
  | some s => if s.free = true then some (.nx (en.set i (.dti []))) else none
  | none => none
/-- x[k] -/
def mDix (i : Nat) (mk : ME) : ME := fun en => match dtiAt en i with
  | none => none
  | some _ => match mk en with
    | none => none
    | some (d, e) => match keyOf d with
      | none => none
      | some k => match dtiAt e i with
        | none => none
        | some ks => match findT k ks with
          | none => none
          | some v => some (.int v, e)
/-- x.get(k, z) -/
def mDgt (i : Nat) (mk mz : ME) : ME := fun en => match dtiAt en i with
  | none => none
  | some _ => match mk en with
    | none => none
    | some (d, e) => match mz e with
      | none => none
      | some (z, e2) => match keyOf d with
        | none => none
        | some k => match dtiAt e2 i with
          | none => none
          | some ks => match findT k ks with
            | none => some (z, e2)
            | some v => some (.int v, e2)
/-- x[k] = e -/
def mDput (i : Nat) (m mk : ME) : MT := fun en => match m en with
  | some (.int v, e1) => (match dtiAt e1 i with
    | none => none
    | some _ => match mk e1 with
      | none => none
      | some (d, e2) => match keyOf d with
        | none => none
        | some k => match dtiAt e2 i with
          | none => none
          | some ks => if shortB ks.length = true then some (.nx (e2.set i (.dti (putT k v ks)))) else none)
  | _ => none
section
variable {X : Cx} {e k z : Expr} {i : Nat} {x : Str} {m mk mz : ME} {px pa pc pos : Pos}
theorem CRm.u2 (h : CRm X) : X.A.units + 1 < cLine := by
  have h : X.A.units + 200 < cLine := h
  omega
theorem os_dnew {pos' : Pos} (hN : X.N.Nodup) (hx : Loc X.env.scope x) (hi : X.N[i]? = some x := by rfl) (hs : swapsWith (.Dict [] [] px) (some (.Name x pos')) pos.line X.env = pure false := by rfl)
    (hf : X.fn x = true ∨ X.env.scope.names.lookup x = some .local := by first | exact .inl rfl | exact .inr rfl | assumption) : OS X (.Assign [.Name x pos'] (.Dict [] [] px) pos) (mDnew i) :=
  ps_imp (ps_set hN hi hx pe_dnewT hs hf) fun D σ H ⟨w, en, o, sr, e, f⟩ => by
    unfold mDnew at e
    split at e
    · rename_i s h
      split at e
      · rename_i hf
        cases e
        intro p hp
        have np : ¬ w.hid p := fun z => sr.hid p z hp
        exact f _ _ (w.take i p) ((sr.hide (o := .dT []) hp).ownG np ⟨p, rfl, take_self, upd_same⟩ h) ((Tr.grow (.new hp)).own hp h hf)
      · cases e
    · cases e
theorem oe_dix (hu : CRm X) (hk : OE X k mk) (hs : NoSl k) (hN : X.N[i]? = some x := by rfl) (hv : Vis X.env.scope x := by first | exact Or.inl rfl | exact Or.inr (Or.inl rfl) | exact Or.inr (Or.inr rfl)) (hd : (x == ("__debug__" : Str)) = false := by decide) (hcd : (x == ("__classdict__" : Str)) = false := by decide) :
    OE X (.Subscript (.Name x px) k pos) (mDix i mk) := pe_imp (pe_dget hu.u2 (pe_var hN hv hd hcd) hk hs) fun σ H Q ⟨w, en, d, en', sr, e, kk⟩ => by
  unfold mDix at e
  split at e
  · cases e
  rename_i ks0 h0
  split at e
  · cases e
  rename_i dk e1 h1
  split at e
  · cases e
  rename_i ky h2
  split at e
  · cases e
  rename_i ks h3
  split at e
  · cases e
  rename_i v h4
  cases e
  obtain ⟨a, es, ow, ha⟩ := sr.dti h0
  refine ⟨.ref a, es, w, en, _, _, sr, h1, fun u H1 w1 sr1 p1 t1 => ?_⟩
  obtain ⟨ow1, ha1⟩ := dti_same sr1 es h3
  obtain ⟨b, rfl, hb⟩ := keyOf_at p1 h2
  refine ⟨a, .int v, rfl, ?_, kk _ H1 w1 sr1 (.int v) t1⟩
  have g := DGet.t ha1 (less_sub _ _ hb)
  rw [findT_val, h4] at g
  exact g
theorem oe_dgt (hu : CRm X) (hk : OE X k mk) (hz : OE X z mz) (m2 : M2 X (.Name x px) "get" pa k z pc) (hN : X.N[i]? = some x := by rfl) (hv : Vis X.env.scope x := by first | exact Or.inl rfl | exact Or.inr (Or.inl rfl) | exact Or.inr (Or.inr rfl)) (hd : (x == ("__debug__" : Str)) = false := by decide) (hcd : (x == ("__classdict__" : Str)) = false := by decide) :
    OE X (.Call (.Attribute (.Name x px) "get" pa) [k, z] [] pc) (mDgt i mk mz) := pe_imp (pe_dget2 hu.u2 (pe_var hN hv hd hcd) hk hz m2) fun σ H Q ⟨w, en, d, en', sr, e, kk⟩ => by
  unfold mDgt at e
  split at e
  · cases e
  rename_i ks0 h0
  split at e
  · cases e
  rename_i dk e1 h1
  split at e
  · cases e
  rename_i dz e2 hz2
  split at e
  · cases e
  rename_i ky h2
  split at e
  · cases e
  rename_i ks h3
  obtain ⟨a, es, ow, ha⟩ := sr.dti h0
  refine ⟨.ref a, es, a, rfl, .inr ⟨_, .inl ha⟩, w, en, _, _, sr, h1, fun u H1 w1 sr1 p1 t1 => ⟨w1, e1, _, _, sr1, hz2, fun uz H2 w2 sr2 p2 t2 => ?_⟩⟩
  obtain ⟨ow1, ha1⟩ := dti_same sr2 es h3
  obtain ⟨b, rfl, hb⟩ := keyOf_at (t2.dp p1) h2
  refine ⟨_, DGet.t ha1 (less_sub _ _ hb), ?_⟩
  rw [findT_val]
  split at e
  · rename_i h4
    cases e
    rw [h4]
    exact kk _ H2 w2 sr2 p2 (t1.trans t2)
  · rename_i v h4
    cases e
    rw [h4]
    exact kk _ H2 w2 sr2 (.int v) (t1.trans t2)
theorem ps_inv {st : Stmt} {t : TS} (h : ∀ (pins : List (Addr × Obj)) (s : Shared) (σ : L2.St) (H : Hp) (D : Ends), Inv X pins σ H s → t D σ H → ∃ t', PS X st t' ∧ t' D σ H) : PS X st t := ⟨fun pins s σ H D I q => by
  obtain ⟨t', h1, h2⟩ := h pins s σ H D I q
  exact h1.run pins s σ H D I h2⟩
/-- at every state: the keys are different -/
def sDPutI (td ty tv : TE) : TS := fun D σ H => tv σ H fun v H1 => td σ H1 fun x H2 => ty σ H2 fun y H3 => ∃ (a b : Addr) (ks : List (List Int × Int)) (k : List Int) (n : Int), x = .ref a ∧ y = .ref b ∧ v = .int n ∧ H3 a = some (.dT (ks.map kvT)) ∧
  H3 b = some (.tup ((k.map (Sum.inl : Int → Key)).map kV)) ∧ ks.length < sizeLine ∧ D.nx σ (upd H3 a (.dT ((putT k n ks).map kvT)))
theorem ps_dputI {o i value : Expr} {td ty tv : TE} {pos' : Pos} (hu : X.A.units + 1 < cLine) (ho : PE X o td) (hi : PE X i ty) (hv : PE X value tv) (hs : swapsWith value (some (.Subscript o i pos')) pos.line X.env = pure false) :
    PS X (.Assign [.Subscript o i pos'] value pos) (sDPutI td ty tv) := by
  refine ⟨fun pins s σ H D I h => ?_⟩
  refine wpAny_Assign_Subscript (thn (hv.run pins s σ H _ I h) fun r s1 ⟨v, H1, I1, rv, q1⟩ => thn (ho.run pins s1 σ H1 _ I1 q1) fun u s2 ⟨x, H2, I2, rx, q2⟩ => thn (hi.run pins s2 σ H2 _ I2 q2) fun iv s3 ⟨y, H3, I3, ry, a, b, ks, k, n, ex, ey, ev, ha, hb, hl, q3⟩ => ?_) hs
  subst ex
  subst ey
  subst ev
  obtain rfl : u = Value.ref a := rx
  have nd := dti_nodup I3 ha
  have g : DPut H3 a (.ref b) (.int n) (upd H3 a (.dT ((putT k n ks).map kvT))) := by
    have g := DPut.t (v := .int n) ha hb (by rw [List.length_map]; exact hl)
    rw [putT_put k n ks nd] at g
    exact g
  exact d_setItem hu I3 g ry rv fun s4 I4 => ⟨σ, _, I4, q3⟩
theorem os_dput {pos' : Pos} (hu : CRm X) (he : OE X e m) (hk : OE X k mk) (hN : X.N[i]? = some x := by rfl) (hv : Vis X.env.scope x := by first | exact Or.inl rfl | exact Or.inr (Or.inl rfl) | exact Or.inr (Or.inr rfl)) (hd : (x == ("__debug__" : Str)) = false := by decide) (hcd : (x == ("__classdict__" : Str)) = false := by decide)
    (hs : swapsWith e (some (.Subscript (.Name x px) k pos')) pos.line X.env = pure false := by rfl) : OS X (.Assign [.Subscript (.Name x px) k pos'] e pos) (mDput i m mk) :=
  ps_imp (ps_dputI hu.u2 (pe_var hN hv hd hcd) hk he hs) fun D σ H ⟨w, en, o, sr, e, f⟩ => by
    unfold mDput at e
    split at e
    · rename_i v e1 h1
      split at e
      · cases e
      rename_i ks0 h0
      split at e
      · cases e
      rename_i dk e2 h2
      split at e
      · cases e
      rename_i ky h3
      split at e
      · cases e
      rename_i ks h4
      split at e
      · rename_i hsh
        cases e
        refine ⟨w, en, _, e1, sr, h1, fun u H1 w1 sr1 p1 t1 => ?_⟩
        obtain ⟨a, es, ow, ha⟩ := sr1.dti h0
        refine ⟨.ref a, es, w1, e1, _, e2, sr1, h2, fun y H2 w2 sr2 p2 t2 => ?_⟩
        obtain ⟨ow2, ha2⟩ := dti_same sr2 es h4
        obtain ⟨b, rfl, hb⟩ := keyOf_at p2 h3
        cases p1
        refine ⟨a, b, ks, ky, v, rfl, rfl, rfl, ha2, less_sub _ _ hb, shortB_lt hsh, ?_⟩
        exact f σ _ w2 (sr2.chgG ow2 ⟨a, rfl, ow2, upd_same⟩) ((t1.trans t2).trans (Tr.chgG ow2 (dtiAt_some h4) rfl))
      · cases e
    · cases e
end

/-! ### sorted(x) != y, x a dict of one's own -/
def rSortT : List V → Hp → VK → Prop := fun vs H Q => ∃ (a : Addr) (ks : List (List Int × Int)), vs = [.ref a] ∧ H a = some (.dT (ks.map kvT)) ∧ shortB ks.length = true ∧ (ks.all fun p => !p.1.isEmpty) = true ∧
  ∀ p (bs : List V), H p = none → PySem.W.EachIs (fun v l => ∃ b, v = V.ref b ∧ H b = some (.tup (l.map V.int))) bs (insSort leT (ks.map (·.1))) → Q (.ref p) (upd H p (.lst bs))
section
variable {X : Cx}
theorem each_keys {H : Hp} : ∀ {ks : List (List Int × Int)} {xs : List (List Key × Addr × Value)}, KT H (ks.map kvT) xs → PySem.W.EachIs (fun u l => ∃ b, u = Value.ref b ∧ H b = some (.tup (l.map V.int))) (xs.map fun x => Value.ref x.2.1) (ks.map (·.1))
  | [], _, r => by
    cases r
    exact .nil
  | k :: ks, _, r => by
    have r : KT H (kvT k :: ks.map kvT) _ := r
    cases r with
    | cons h t =>
      refine .cons ⟨_, rfl, ?_⟩ (each_keys t)
      have := h.2.1
      rw [show (kvT k).1 = k.1.map Sum.inl from rfl, kvT_key] at this
      exact this
theorem c_sortT (hc : X.calm = true) (hu : CRm X) : CallR X (.builtin "sorted") rSortT := by
  intro pins s σ H vs us Q I r h
  obtain ⟨a, kvs, rfl, hd, hsh, hne, q⟩ := h
  rw [Vals.ref1 r]
  obtain ⟨z, hs, ks, pr, o, es, ep, ho, hx, hdt, he, hn⟩ := (show ObjOk X.prog X.w H s.heap a (.dT (kvs.map kvT)) from I.hok a _ hd)
  have l1 : es.size = ks.length := size_of_entries he
  have l2 : (kvs.map kvT).length = ks.length := Paired.length pr
  rw [List.length_map] at l2
  have hz : ks.length ≤ sizeLine := by rw [← l2]; exact shortB_ok hsh
  refine Calls.call_function_entry PyProof.Rows.kind_sorted PyProof.Rows.plain_sorted PyProof.Rows.entry_sorted (PyProof.Rows.args_sorted1 _) ?_
  unfold Builtin.«sorted»
  refine wpAny_bind (m := checkCount "sorted" 1 1 _) (wpAny_pure ?_)
  refine wpAny_bind (PySem.W.kdu_collect (A := X.A.in1) (kdl_raw hs hx hdt) (I.ok.hd hc) ho (by omega) fun h' tk acc hk it => ?_)
  have ea : acc.toList = ks.map fun x => Value.ref x.2.1 := by
    have hl : acc.toList.length = ks.length := by rw [Array.length_toList, it.1]; exact l1
    apply List.ext_getElem?
    intro j
    rw [List.getElem?_map]
    cases hj : acc.toList[j]? with
    | none =>
      have h1 := List.getElem?_eq_none_iff.mp hj
      rw [List.getElem?_eq_none (by omega)]
      all_goals rfl
    | some v =>
      obtain ⟨en, hen, hv⟩ := it.2 j v (by rw [← Array.getElem?_toList]; exact hj)
      have qe := entry_at he j
      rw [hen] at qe
      cases hb : ks[j]? with
      | none =>
        rw [hb] at qe
        exact nomatch (show some en = none from qe)
      | some b =>
        rw [hb] at qe
        have e2 : en = entryOfKey (tupleKind (mixKind X.prog X.w)) b := Option.some.inj qe
        rw [hv, e2]
        all_goals rfl
  have hal : acc.toList.length = ks.length := by rw [Array.length_toList, it.1]; exact l1
  have I1 : Inv X pins σ H { s with heap := h', toks := tk } := I.kept hk
  refine wpAny_bind (wpAny_newList ?_ (by rw [hal]; exact hz))
  have hoL : (h'.push (seqObj "list" acc.toList.toArray 0)).get? h'.objs.size = some (seqObj "list" acc.toList.toArray 0) := Heap.get?_push_size _ rfl
  show wpAny _ _ _ _ _ { s with heap := h'.push (seqObj "list" acc.toList.toArray 0), toks := tk }
  have I2 : Inv X pins σ H { s with heap := h'.push (seqObj "list" acc.toList.toArray 0), toks := tk } := I1.kept (t' := tk) fun b o e => Heap.get?_push_of_some _ e
  have ek := each_keys pr
  rw [← ea] at ek
  have er : PySem.W.EachIs (fun v b => ∃ as, Reads (h'.push (seqObj "list" acc.toList.toArray 0)) v (encT b) as ∧ h'.objs.size ∉ as) acc.toList (kvs.map (·.1)) := ek.mono fun u l ⟨b, eu, hb⟩ => by
    subst eu
    obtain ⟨_, its, rv, ob, hob, hct, nt, hdt2⟩ := (show ObjOk X.prog X.w H _ b (.tup (l.map V.int)) from I2.hok b _ hb)
    obtain ⟨as, ra⟩ := Dp.readsAll I2 (l.map .int) (l.map V.int) its (DqAll.dp (K := X.K) (H := H) _ _ (canLay_ints l) (dqAll_ints l)) rv
    have na : as = [] := by
      have key : ∀ (l : List Int) (us : List Value) (as : List Addr), ReadsAll (h'.push (seqObj "list" acc.toList.toArray 0)) us (l.map PyData.int) as → as = [] := by
        intro l
        induction l with
        | nil =>
          intro us as r
          have r : ReadsAll _ us [] as := r
          cases r
          rfl
        | cons n l ih =>
          intro us as r
          have r : ReadsAll _ us (PyData.int n :: l.map PyData.int) as := r
          cases r with
          | cons h1 h2 =>
            rw [ih _ _ h2]
            cases h1
            rfl
      exact key l _ _ ra
    subst na
    refine ⟨[], ?_, by simp⟩
    exact Reads.tuple hob hct hdt2 (by simpa using ra)
  refine wpAny_bind (wpAny_holding (wpAny_mono (PySem.W.list_sort_data (A := X.A.in1) (s := { s with heap := h'.push (seqObj "list" acc.toList.toArray 0), toks := tk }) (enc := encT) (R := fun u l => ∃ b, u = Value.ref b ∧ H b = some (.tup (l.map V.int)))
    (Q := fun _ s' => ∃ x H', Inv X pins σ H' s' ∧ RelV x (.ref h'.objs.size) ∧ Q x H') hoL ek er alike_tups (sortable_tups (by rw [List.all_map]; exact hne)) (by rw [List.length_map]; exact shortB_ok hsh) (fun b hb => ?_) fun out ho2 eo => ?_) (fun _ s' x => wpAny_pure ⟨_, rfl, x⟩) fun _ _ e => e))
  · have h1 := depth_tup b
    have h2 : X.A.units + 200 < cLine := hu
    show X.A.in1.units + 1 + _ < _
    have h3 : X.A.in1.units = X.A.units + 1 := rfl
    omega
  · rw [leT_data, ← insSort_eq leT_total] at eo
    have eo2 : PySem.W.EachIs (fun u l => ∃ x, RelV x u ∧ ∃ b, x = V.ref b ∧ H b = some (.tup (l.map V.int))) out (insSort leT (kvs.map (·.1))) := eo.mono fun u l ⟨b, eu, hb⟩ => ⟨.ref b, by subst eu; rfl, b, rfl, hb⟩
    have sp : ∀ {us : List Value} {ls : List (List Int)}, PySem.W.EachIs (fun u l => ∃ x, RelV x u ∧ ∃ b, x = V.ref b ∧ H b = some (.tup (l.map V.int))) us ls → ∃ xs, Vals xs us ∧ PySem.W.EachIs (fun v l => ∃ b, v = V.ref b ∧ H b = some (.tup (l.map V.int))) xs ls := by
      intro us ls e
      induction e with
      | nil => exact ⟨[], .nil, .nil⟩
      | cons h t ih =>
        obtain ⟨x, r, h⟩ := h
        obtain ⟨xs, rs, es⟩ := ih
        exact ⟨x :: xs, .cons r rs, .cons h es⟩
    obtain ⟨ys, ry, ey⟩ := sp eo2
    obtain ⟨e', he'⟩ := PyProof.Rows.sortedHeap_at (vs := acc.toList) (out := out.toArray) hoL
    have hlen : ys.length ≤ sizeLine := by
      rw [ry.length, ho2, List.length_map]
      exact shortB_ok hsh
    refine ⟨.ref h'.objs.size, upd H h'.objs.size (.lst ys), I1.laid (t' := tk) (fun b u e => ?_) (Nat.le_refl _) ⟨hlen, out, e', ry, he'⟩, rfl, q _ _ (I1.hok.fresh (Nat.le_refl _)) ey⟩
    have hb : b < h'.objs.size := Heap.lt_size e
    rw [PyProof.Rows.sortedHeap_old (Nat.ne_of_lt hb) (by rw [size_push']; exact Nat.lt_succ_of_lt hb)]
    exact Heap.get?_push_of_some _ e
/-- sorted(x) != y, y a value -/
def mSortNe (i j : Nat) : ME := fun en => match dtiAt en i with
  | none => none
  | some ks => match en[j]? with
    | some (.val d) => if shortB ks.length && ks.all (fun p => !p.1.isEmpty) then (match gNe (.list ((insSort leT (ks.map (·.1))).map encT)) d with
      | some r => some (r, en)
      | none => none) else none
    | _ => none
theorem dp_keys {K : PySem.W.Frag} {H : Hp} : ∀ {vs : List V} {ls : List (List Int)}, PySem.W.EachIs (fun v l => ∃ b, v = V.ref b ∧ H b = some (.tup (l.map V.int))) vs ls → DqAll K H vs (ls.map encT)
  | _, [], e => by cases e; exact .nil
  | _, l :: ls, e => by
    cases e with
    | cons h t =>
      obtain ⟨b, rfl, hb⟩ := h
      exact .cons (.tup hb (dqAll_ints l)) (dp_keys t)
theorem ob_sortNe {i j : Nat} {x y : Str} {p px py pc pos : Pos} (hc : X.calm = true) (hu : CRm X) (hg : Gl X "sorted") (hm : X.mg "sorted" = none) (hvb : bootBuiltins "sorted" = some (.builtin "sorted"))
    (hN : X.N[i]? = some x := by rfl) (hv : Vis X.env.scope x := by first | exact Or.inl rfl | exact Or.inr (Or.inl rfl) | exact Or.inr (Or.inr rfl)) (hd : (x == ("__debug__" : Str)) = false := by decide) (hcd : (x == ("__classdict__" : Str)) = false := by decide)
    (hN2 : X.N[j]? = some y := by rfl) (hv2 : Vis X.env.scope y := by first | exact Or.inl rfl | exact Or.inr (Or.inl rfl) | exact Or.inr (Or.inr rfl)) (hd2 : (y == ("__debug__" : Str)) = false := by decide) (hcd2 : (y == ("__classdict__" : Str)) = false := by decide)
    (he : starEach [.Name x px] X.env = (false, eval (.Name x px) X.env) :: starEach [] X.env := by rfl) (hmk : behindInMarks .NotEq (.Name y py) = false := by rfl) :
    OB X (.Compare (.Call (.Name "sorted" p) [.Name x px] [] pc) [.NotEq] [.Name y py] pos) (mTst (mSortNe i j)) :=
  pt_imp (pt_cmpR (y_ne hu) (pe_callB (c_sortT hc hu) hg hm hvb (pa_cons (pe_var hN hv hd hcd) pa_nil he) (by decide) (by decide) he) (pe_var hN2 hv2 hd2 hcd2) hmk) fun σ H Q h => by
    obtain ⟨w, en, d, en', sr, e, kk⟩ := yTst h
    unfold mSortNe at e
    split at e
    · cases e
    rename_i ks h0
    split at e
    · rename_i dj hj
      split at e
      · rename_i hok
        split at e
        · rename_i r hr
          cases e
          rw [Bool.and_eq_true] at hok
          obtain ⟨a, es, ow, ha⟩ := sr.dti h0
          obtain ⟨xj, ej, nj, vj, rfl, pj⟩ := sr.sig hj
          refine ⟨.ref a, es, a, ks, rfl, ha, hok.1, hok.2, fun q bs hq eb => ⟨vj, ej, ?_⟩⟩
          have s1 : Sub H (upd H q (.lst bs)) := .new hq
          unfold gNe at hr
          split at hr
          · rename_i hsh
            cases hr
            rw [Bool.and_eq_true] at hsh
            refine ⟨_, dj, ?_, Dq.dp _ _ (SeqAt.canLay_of_shaped hsh.2) (Dq.keep (less_sub.trans s1) _ _ pj), hsh.1, hsh.2, kk _ _ w (sr.grow s1) (.bl _) (.grow s1)⟩
            exact Dq.dp _ _ (SeqAt.canLay_of_shaped hsh.1) (.lst (.inl upd_same) (DqAll.keep s1 _ _ (dp_keys eb)))
          · cases hr
        · cases e
      · cases e
    · cases e
end
end Yd

set_option Elab.async false
set_option linter.all false
set_option maxRecDepth 100000
set_option maxHeartbeats 1000000
set_option autoImplicit false
namespace Yd
open PySem PySem.Spec PyProof.Rows L2

/-! ### list(range(..)), tuple(range(..)) -/
theorem dqAll_at {K : PySem.W.Frag} {H : Hp} : ∀ {vs : List V} {ds : List Dt}, vs.length = ds.length → (∀ (i : Nat) (v : V) (d : Dt), vs[i]? = some v → ds[i]? = some d → Dq K H v d) → DqAll K H vs ds
  | [], [], _, _ => .nil
  | [], _ :: _, h, _ => by simp at h
  | _ :: _, [], h, _ => by simp at h
  | v :: vs, d :: ds, h, f => .cons (f 0 v d rfl rfl) (dqAll_at (by simpa using h) fun i a b h1 h2 => f (i + 1) a b (by simpa using h1) (by simpa using h2))
theorem dq_rg {K : PySem.W.Frag} {H : Hp} (a b : Int) : DqAll K H (rgV a b) (rngD a (b - a).toNat) := by
  refine dqAll_at (by rw [rgV_length, rngD_len]) fun i v d h1 h2 => ?_
  obtain ⟨h3, h4⟩ := rngD_at _ _ _ _ h2
  unfold rgV at h1
  rw [List.getElem?_map, List.getElem?_range h3] at h1
  cases h1
  rw [h4]
  exact .int _
def rgB (a b : Int) : Bool := small62 a && (small62 b && shortB (b - a).toNat)
theorem rgB_ok {a b : Int} (h : rgB a b = true) : RgOk a b := by
  unfold rgB at h
  rw [Bool.and_eq_true, Bool.and_eq_true] at h
  obtain ⟨z1, z2⟩ := small62_ok h.1
  obtain ⟨z3, z4⟩ := small62_ok h.2.1
  exact ⟨z1, z2, z3, z4, Nat.le_trans (Nat.le_of_ble_eq_true h.2.2) (by decide)⟩
def mRg1 (m : ME) : ML := fun en => match m en with
  | some (.int n, e) => if rgB 0 n = true then some (rngD 0 (n - 0).toNat, e) else none
  | _ => none
def mRg2 (m m2 : ME) : ML := fun en => match m en with
  | some (.int i, e) => (match m2 e with
    | some (.int j, e2) => if rgB i j = true then some (rngD i (j - i).toNat, e2) else none
    | _ => none)
  | _ => none
section
variable {X : Cx} {a b : Expr} {m m2 : ME} {p p2 pos pos2 : Pos}
theorem of_lrg1 (hc : X.calm = true) (hg : Gl X "list") (hm : X.mg "list" = none) (hg2 : Gl X "range") (hm2 : X.mg "range" = none) (ha : OE X a m)
    (na : starEach [a] X.env = (false, eval a X.env) :: starEach [] X.env := by rfl) (nb : starEach [.Call (.Name "range" p2) [a] [] pos2] X.env = (false, eval (.Call (.Name "range" p2) [a] [] pos2) X.env) :: starEach [] X.env := by rfl) :
    OF X (.Call (.Name "list" p) [.Call (.Name "range" p2) [a] [] pos2] [] pos) (mRg1 m) :=
  pe_imp (pe_listRg hc hg hm (prg_1 hg2 hm2 ha na) nb) fun σ H Q ⟨w, en, d, en', sr, e, kk⟩ => by
    unfold mRg1 at e
    split at e
    · rename_i n e1 h1
      split at e
      · rename_i hok
        cases e
        refine ⟨w, en, _, _, sr, h1, fun x H1 w1 sr1 p1 t1 => ?_⟩
        cases p1
        exact ⟨n, rfl, rgB_ok hok, fun q hq => kk q _ _ w1 (t1.free hq) upd_same (sr1.hide hq) (hide_new hq (dq_rg 0 n)) (t1.trans (.grow (.new hq)))⟩
      · cases e
    · cases e
theorem of_lrg2 (hc : X.calm = true) (hg : Gl X "list") (hm : X.mg "list" = none) (hg2 : Gl X "range") (hm2 : X.mg "range" = none) (ha : OE X a m) (hb : OE X b m2)
    (na : starEach [a, b] X.env = (false, eval a X.env) :: starEach [b] X.env := by rfl) (na2 : starEach [b] X.env = (false, eval b X.env) :: starEach [] X.env := by rfl) (hp : (backTo pos2 (starEach [b] X.env)).any (·.1) = false := by rfl)
    (nb : starEach [.Call (.Name "range" p2) [a, b] [] pos2] X.env = (false, eval (.Call (.Name "range" p2) [a, b] [] pos2) X.env) :: starEach [] X.env := by rfl) :
    OF X (.Call (.Name "list" p) [.Call (.Name "range" p2) [a, b] [] pos2] [] pos) (mRg2 m m2) :=
  pe_imp (pe_listRg hc hg hm (prg_2 hg2 hm2 ha hb na na2 hp) nb) fun σ H Q ⟨w, en, d, en', sr, e, kk⟩ => by
    unfold mRg2 at e
    split at e
    · rename_i i e1 h1
      split at e
      · rename_i j e2 h2
        split at e
        · rename_i hok
          cases e
          refine ⟨w, en, _, _, sr, h1, fun x H1 w1 sr1 p1 t1 => ⟨w1, e1, _, _, sr1, h2, fun y H2 w2 sr2 p2 t2 => ?_⟩⟩
          cases p1
          cases p2
          exact ⟨i, j, rfl, rfl, rgB_ok hok, fun q hq => kk q _ _ w2 (t1.free (t2.free hq)) upd_same (sr2.hide hq) (hide_new hq (dq_rg i j)) ((t1.trans t2).trans (.grow (.new hq)))⟩
        · cases e
      · cases e
    · cases e
theorem oe_trg1 (hc : X.calm = true) (hg : Gl X "tuple") (hm : X.mg "tuple" = none) (hg2 : Gl X "range") (hm2 : X.mg "range" = none) (ha : OE X a m)
    (na : starEach [a] X.env = (false, eval a X.env) :: starEach [] X.env := by rfl) (nb : starEach [.Call (.Name "range" p2) [a] [] pos2] X.env = (false, eval (.Call (.Name "range" p2) [a] [] pos2) X.env) :: starEach [] X.env := by rfl) :
    OE X (.Call (.Name "tuple" p) [.Call (.Name "range" p2) [a] [] pos2] [] pos) (mTup (mRg1 m)) :=
  pe_imp (pe_tupRg hc hg hm (prg_1 hg2 hm2 ha na) nb) fun σ H Q ⟨w, en, d, en', sr, e, kk⟩ => by
    unfold mTup at e
    split at e
    · cases e
    rename_i ds e0 h0
    split at e
    rotate_left
    · cases e
    cases e
    unfold mRg1 at h0
    split at h0
    · rename_i n e1 h1
      split at h0
      · rename_i hok
        cases h0
        refine ⟨w, en, _, _, sr, h1, fun x H1 w1 sr1 p1 t1 => ?_⟩
        cases p1
        exact ⟨n, rfl, rgB_ok hok, fun q hq => kk _ _ w1 (sr1.grow (.new hq)) (new_tup (fun c z => sr1.allThere z) hq (dq_rg 0 n)) (t1.trans (.grow (.new hq)))⟩
      · cases h0
    · cases h0
end
end Yd

set_option Elab.async false
set_option linter.all false
set_option maxRecDepth 100000
set_option autoImplicit false
namespace Yd
open PySem PySem.Spec PyProof.Rows L2
theorem bt_len : bootBuiltins "len" = some (.builtin "len") := by decide +kernel
theorem bt_abs : bootBuiltins "abs" = some (.builtin "abs") := by decide +kernel
theorem bt_max : bootBuiltins "max" = some (.builtin "max") := by decide +kernel
theorem bt_min : bootBuiltins "min" = some (.builtin "min") := by decide +kernel
theorem bt_sum : bootBuiltins "sum" = some (.builtin "sum") := by decide +kernel
theorem bt_all : bootBuiltins "all" = some (.builtin "all") := by decide +kernel
theorem bt_any : bootBuiltins "any" = some (.builtin "any") := by decide +kernel
theorem bt_sorted : bootBuiltins "sorted" = some (.builtin "sorted") := by decide +kernel
theorem bt_int : bootBuiltins "int" = some (.type "int") := by decide +kernel
theorem bt_bool : bootBuiltins "bool" = some (.type "bool") := by decide +kernel
theorem bt_str : bootBuiltins "str" = some (.type "str") := by decide +kernel
theorem bt_tuple : bootBuiltins "tuple" = some (.type "tuple") := by decide +kernel
theorem bt_list : bootBuiltins "list" = some (.type "list") := by decide +kernel
/-- how many arguments -/
def LenIs (m : ML) (n : Nat) : Prop := ∀ en ds en', m en = some (ds, en') → ds.length = n
theorem len_nil : LenIs mNil 0 := fun en ds en' h => by
  cases h
  rfl
theorem len_cons {a : ME} {r : ML} {n : Nat} (h : LenIs r n) : LenIs (mCons a r) (n + 1) := fun en ds en' e => by
  unfold mCons at e
  split at e
  · cases e
  · split at e
    · cases e
    · rename_i h2
      cases e
      rw [List.length_cons, h _ _ _ h2]
theorem len_up {m : ML} {n : Nat} (h : LenIs m n) : ∀ en ds en', m en = some (ds, en') → ds.length + 1 = n + 1 := fun en ds en' e => congrArg (· + 1) (h en ds en' e)
end Yd
namespace Yd
open PySem PySem.Spec PyProof.Rows L2
theorem script_ok {K : PySem.W.Frag} {H : Hp} {a : Addr} {ns : List Int} {g : List Dt → Option Dt} (hS : SqL K H a (ns.map V.int)) (h : g [.dict [(.none, .list (ns.map .int))]] = some (.bool true)) : spP K 1 g [.ref a] H (fun v _ => v = .bl true) fun _ _ _ => False :=
  ⟨fun _ => False, [_], _, rfl, fun _ z => z.elim, .cons (.scr (sub_l (fun b o e => less_some.mpr ⟨fun z => z, e⟩) hS)) .nil, h, fun x H' _ p => by
    cases p
    rfl⟩
end Yd

set_option Elab.async false
set_option linter.all false
set_option maxRecDepth 100000
set_option maxHeartbeats 1000000
set_option autoImplicit false
/-! The same functions, with their data worked out as they go: for the kernel's sake. -/
namespace Yd
open PySem PySem.Spec PyProof.Rows L2
noncomputable section
section
variable {α β : Type}
def frN (n : Nat) (k : Nat → β) : β := Nat.casesOn n (k 0) fun m => k (Nat.succ m)
theorem frN_eq (n : Nat) (k : Nat → β) : frN n k = k n := by cases n <;> rfl
def frI (i : Int) (k : Int → β) : β := Int.casesOn i (fun n => frN n fun m => k (Int.ofNat m)) fun n => frN n fun m => k (Int.negSucc m)
theorem frI_eq (i : Int) (k : Int → β) : frI i k = k i := by
  cases i with
  | ofNat n => exact frN_eq n fun m => k (Int.ofNat m)
  | negSucc n => exact frN_eq n fun m => k (Int.negSucc m)
def spL (xs : List α) : (List α → β) → β := List.rec (fun k => k []) (fun x _ ih k => ih fun ys => k (x :: ys)) xs
theorem spL_eq : ∀ (xs : List α) (k : List α → β), spL xs k = k xs
  | [], _ => rfl
  | x :: xs, k => by
    show spL xs (fun ys => k (x :: ys)) = _
    rw [spL_eq xs]
def shD (d : Dt) (k : Dt → β) : β := match d with
  | .int i => frI i fun j => k (.int j)
  | .bool b => Bool.casesOn b (k (.bool false)) (k (.bool true))
  | .list xs => spL xs fun ys => k (.list ys)
  | .tuple xs => spL xs fun ys => k (.tuple ys)
  | d => k d
theorem shD_eq (d : Dt) (k : Dt → β) : shD d k = k d := by
  unfold shD
  split
  · exact frI_eq _ _
  · rename_i b
    cases b <;> rfl
  · exact spL_eq _ _
  · exact spL_eq _ _
  · rfl
def spD (xs : List Dt) : (List Dt → β) → β := List.rec (fun k => k []) (fun x _ ih k => shD x fun y => ih fun ys => k (y :: ys)) xs
theorem spD_eq : ∀ (xs : List Dt) (k : List Dt → β), spD xs k = k xs
  | [], _ => rfl
  | x :: xs, k => by
    show shD x (fun y => spD xs fun ys => k (y :: ys)) = _
    rw [shD_eq, spD_eq xs]
def nfSl (s : Sl) (k : Sl → β) : β := match s with
  | .no => k .no
  | .val d => k (.val d)
  | .own ds => k (.own ds)
  | .brw ds => k (.brw ds)
  | .dti ks => k (.dti ks)
theorem nfSl_eq (s : Sl) (k : Sl → β) : nfSl s k = k s := by cases s <;> rfl
def nfE (xs : En) : (En → β) → β := List.rec (fun k => k []) (fun x _ ih k => nfSl x fun y => ih fun ys => k (y :: ys)) xs
theorem nfE_eq : ∀ (xs : En) (k : En → β), nfE xs k = k xs
  | [], _ => rfl
  | x :: xs, k => by
    show nfSl x (fun y => nfE xs fun ys => k (y :: ys)) = _
    rw [nfSl_eq, nfE_eq xs]
end
def mCS (d : Dt) : ME := fun en => shD d fun e => some (e, en)
theorem mC_s (d : Dt) : mC d = mCS d := by
  funext en
  exact (shD_eq d fun e => some (e, en)).symm
def mBinS (g : Dt → Dt → Option Dt) (a b : ME) : ME := fun en => match a en with
  | none => none
  | some (x, e1) => match b e1 with
    | none => none
    | some (y, e2) => match g x y with
      | none => none
      | some z => shD z fun z => some (z, e2)
theorem mBin_s (g : Dt → Dt → Option Dt) (a b : ME) : mBin g a b = mBinS g a b := by
  funext en
  unfold mBin mBinS
  simp only [shD_eq] <;> rfl
def mUnS (g : Dt → Option Dt) (a : ME) : ME := fun en => match a en with
  | none => none
  | some (x, e1) => match g x with
    | none => none
    | some z => shD z fun z => some (z, e1)
theorem mUn_s (g : Dt → Option Dt) (a : ME) : mUn g a = mUnS g a := by
  funext en
  unfold mUn mUnS
  simp only [shD_eq] <;> rfl
def mSlS (m : ME) (ml mh : MO) : ME := fun en => match m en with
  | none => none
  | some (d, e1) => match ml e1 with
    | none => none
    | some (lo, e2) => match mh e2 with
      | none => none
      | some (hi, e3) => match gSl d lo hi with
        | none => none
        | some r => shD r fun r => some (r, e3)
theorem mSl_s (m : ME) (ml mh : MO) : mSl m ml mh = mSlS m ml mh := by
  funext en
  unfold mSl mSlS
  simp only [shD_eq] <;> rfl
def mFnS (f : List Dt → Option Dt) (m : ML) : ME := fun en => match m en with
  | none => none
  | some (ds, e) => match f ds with
    | none => none
    | some d => shD d fun d => some (d, e)
theorem mFn_s (f : List Dt → Option Dt) (m : ML) : mFn f m = mFnS f m := by
  funext en
  unfold mFn mFnS
  simp only [shD_eq] <;> rfl
def mFlS (f : List Dt → Option (List Dt)) (m : ML) : ML := fun en => match m en with
  | none => none
  | some (ds, e) => match f ds with
    | none => none
    | some d => spD d fun d => some (d, e)
theorem mFl_s (f : List Dt → Option (List Dt)) (m : ML) : mFl f m = mFlS f m := by
  funext en
  unfold mFl mFlS
  simp only [spD_eq] <;> rfl
def mRngS (f : List Dt → Option (List Dt)) (m : ML) : ML := fun en => match m en with
  | none => none
  | some (ds, e) => match f ds with
    | none => none
    | some rs => spD rs fun rs => some (rs, e)
theorem mRng_s (f : List Dt → Option (List Dt)) (m : ML) : mRng f m = mRngS f m := by
  funext en
  unfold mRng mRngS
  simp only [spD_eq] <;> rfl
def enS {β : Type} (xs : List Dt) : Nat → (List Dt → β) → β := List.rec (fun _ k => k []) (fun x _ ih i k => frN i fun j => ih (Nat.succ j) fun ys => k (.tuple [.int (Int.ofNat j), x] :: ys)) xs
theorem enS_eq {β : Type} : ∀ (xs : List Dt) (i : Nat) (k : List Dt → β), enS xs i k = k (enumD i xs)
  | [], _, _ => rfl
  | x :: xs, i, k => by
    show frN i (fun j => enS xs (Nat.succ j) fun ys => k (.tuple [.int (Int.ofNat j), x] :: ys)) = _
    rw [frN_eq, enS_eq xs]
    rfl
def mEnumS (m : ME) : ML := fun en => match m en with
  | some (.list xs, e) => enS xs 0 fun ys => some (ys, e)
  | some (.tuple xs, e) => enS xs 0 fun ys => some (ys, e)
  | _ => none
theorem mEnum_s (m : ME) : mEnum m = mEnumS m := by
  funext en
  unfold mEnum mEnumS
  simp only [enS_eq] <;> rfl
def mRg1S (m : ME) : ML := fun en => match mRg1 m en with
  | none => none
  | some (ds, e) => spD ds fun ds => some (ds, e)
theorem mRg1_s (m : ME) : mRg1 m = mRg1S m := by
  funext en
  unfold mRg1S
  simp only [spD_eq]
  split <;> simp_all
def mRg2S (m m2 : ME) : ML := fun en => match mRg2 m m2 en with
  | none => none
  | some (ds, e) => spD ds fun ds => some (ds, e)
theorem mRg2_s (m m2 : ME) : mRg2 m m2 = mRg2S m m2 := by
  funext en
  unfold mRg2S
  simp only [spD_eq]
  split <;> simp_all
def mStarS (a : ME) (r : ML) : ML := fun en => match mStar a r en with
  | none => none
  | some (ds, e) => spL ds fun ds => some (ds, e)
theorem mStar_s (a : ME) (r : ML) : mStar a r = mStarS a r := by
  funext en
  unfold mStarS
  simp only [spL_eq]
  split <;> simp_all
def mSeqS (a b : MT) : MT := fun en => match a en with
  | some (.nx e) => nfE e b
  | o => o
theorem mSeq_s (a b : MT) : mSeq a b = mSeqS a b := by
  funext en
  unfold mSeq mSeqS
  simp only [nfE_eq] <;> rfl
def forGoS (g : Dt → En → Option En) (b : MT) (ds : List Dt) : En → Option Out := List.rec (fun en => some (.nx en)) (fun d _ ih en => match g d en with
    | none => none
    | some e1 => nfE e1 fun e1 => match b e1 with
      | some (.nx e2) => nfE e2 ih
      | some (.ct e2) => nfE e2 ih
      | some (.bk e2) => some (.nx e2)
      | some (.rt r e2) => some (.rt r e2)
      | _ => none) ds
theorem forGo_s (g : Dt → En → Option En) (b : MT) : ∀ (ds : List Dt) (en : En), forGo g b ds en = forGoS g b ds en
  | [], _ => rfl
  | d :: ds, en => by
    show forGo g b (d :: ds) en = (match g d en with
    | none => none
    | some e1 => nfE e1 fun e1 => match b e1 with
      | some (.nx e2) => nfE e2 (forGoS g b ds)
      | some (.ct e2) => nfE e2 (forGoS g b ds)
      | some (.bk e2) => some (.nx e2)
      | some (.rt r e2) => some (.rt r e2)
      | _ => none)
    unfold forGo
    simp only [nfE_eq, forGo_s g b ds] <;> rfl
def mForS (mi : ML) (g : Dt → En → Option En) (b : MT) : MT := fun en => match mi en with
  | none => none
  | some (ds, e) => forGoS g b ds e
theorem mFor_s (mi : ML) (g : Dt → En → Option En) (b : MT) : mFor mi g b = mForS mi g b := by
  funext en
  unfold mFor mForS
  simp only [forGo_s] <;> rfl
def whileGoS (c : MB) (b : MT) (n : Nat) : MT := Nat.rec (fun _ => none) (fun _ ih en => match c en with
    | none => none
    | some (false, e1) => some (.nx e1)
    | some (true, e1) => nfE e1 fun e1 => match b e1 with
      | some (.nx e2) => nfE e2 ih
      | some (.ct e2) => nfE e2 ih
      | some (.bk e2) => some (.nx e2)
      | some (.rt r e2) => some (.rt r e2)
      | _ => none) n
theorem whileGo_s' (c : MB) (b : MT) : ∀ (n : Nat) (en : En), whileGo c b n en = whileGoS c b n en
  | 0, _ => rfl
  | n + 1, en => by
    show whileGo c b (n + 1) en = (match c en with
    | none => none
    | some (false, e1) => some (.nx e1)
    | some (true, e1) => nfE e1 fun e1 => match b e1 with
      | some (.nx e2) => nfE e2 (whileGoS c b n)
      | some (.ct e2) => nfE e2 (whileGoS c b n)
      | some (.bk e2) => some (.nx e2)
      | some (.rt r e2) => some (.rt r e2)
      | _ => none)
    unfold whileGo
    simp only [nfE_eq, whileGo_s' c b n] <;> rfl
theorem whileGo_s (c : MB) (b : MT) (n : Nat) : whileGo c b n = whileGoS c b n := by
  funext en
  exact whileGo_s' c b n en
def lcGoS (vs : List Nat) (g : Dt → En → Option En) (tt : MB) (te : ME) (ds : List Dt) : En → Option (List Dt × En) := List.rec (fun en => some ([], en)) (fun d _ ih en => match g d en with
    | none => none
    | some e1 => nfE e1 fun e1 => match tt e1 with
      | none => none
      | some (false, e2) => (match wipeC e2 vs with
        | none => none
        | some e3 => nfE e3 ih)
      | some (true, e2) => match te e2 with
        | none => none
        | some (y, e3) => match wipeC e3 vs with
          | none => none
          | some e4 => match nfE e4 ih with
            | none => none
            | some (ys, e5) => some (y :: ys, e5)) ds
theorem lcGo_s (vs : List Nat) (g : Dt → En → Option En) (tt : MB) (te : ME) : ∀ (ds : List Dt) (en : En), lcGo vs g tt te ds en = lcGoS vs g tt te ds en
  | [], _ => rfl
  | d :: ds, en => by
    show lcGo vs g tt te (d :: ds) en = (match g d en with
    | none => none
    | some e1 => nfE e1 fun e1 => match tt e1 with
      | none => none
      | some (false, e2) => (match wipeC e2 vs with
        | none => none
        | some e3 => nfE e3 (lcGoS vs g tt te ds))
      | some (true, e2) => match te e2 with
        | none => none
        | some (y, e3) => match wipeC e3 vs with
          | none => none
          | some e4 => match nfE e4 (lcGoS vs g tt te ds) with
            | none => none
            | some (ys, e5) => some (y :: ys, e5))
    unfold lcGo
    simp only [nfE_eq, lcGo_s vs g tt te ds] <;> rfl
def mLcS (mi : ML) (vs : List Nat) (g : Dt → En → Option En) (tt : MB) (te : ME) : ML := fun en => match mi en with
  | none => none
  | some (ds, e1) => if shortB ds.length = true then (match wipeC e1 vs with
    | none => none
    | some e2 => match nfE e2 (lcGoS vs g tt te ds) with
      | none => none
      | some (ys, e3) => if okSl e3 vs = true then nfE (backE e1 e3 vs) fun e4 => some (ys, e4) else none) else none
theorem mLc_s (mi : ML) (vs : List Nat) (g : Dt → En → Option En) (tt : MB) (te : ME) : mLc mi vs g tt te = mLcS mi vs g tt te := by
  funext en
  unfold mLc mLcS
  simp only [nfE_eq, lcGo_s] <;> rfl
def mAppS (i : Nat) (m : ME) : MT := fun en => match ownAt en i with
  | none => none
  | some _ => match m en with
    | none => none
    | some (d, e) => match ownAt e i with
      | none => none
      | some ds => if shortB ds.length = true then spL (ds ++ [d]) fun es => some (.nx (setOwn e i es)) else none
theorem mApp_s (i : Nat) (m : ME) : mApp i m = mAppS i m := by
  funext en
  unfold mApp mAppS
  simp only [spL_eq] <;> rfl
def mExtS (i : Nat) (m : ML) : MT := fun en => match ownAt en i with
  | none => none
  | some _ => match m en with
    | none => none
    | some (es, e) => match ownAt e i with
      | none => none
      | some ds => if shortB (ds.length + es.length) = true then spL (ds ++ es) fun fs => some (.nx (setOwn e i fs)) else none
theorem mExt_s (i : Nat) (m : ML) : mExt i m = mExtS i m := by
  funext en
  unfold mExt mExtS
  simp only [spL_eq] <;> rfl
def mPutS (i : Nat) (m mk : ME) : MT := fun en => match m en with
  | none => none
  | some (d, e1) => match ownAt e1 i with
    | none => none
    | some _ => match mk e1 with
      | some (.int k, e2) => (match ownAt e2 i with
        | none => none
        | some ds => match ixN ds.length k with
          | none => none
          | some j => spL (ds.set j d) fun es => some (.nx (setOwn e2 i es)))
      | _ => none
theorem mPut_s (i : Nat) (m mk : ME) : mPut i m mk = mPutS i m mk := by
  funext en
  unfold mPut mPutS
  simp only [spL_eq] <;> rfl
def mPeekS (f : List Dt → Option Dt) (i : Nat) : ME := fun en => match mPeek f i en with
  | none => none
  | some (d, e) => shD d fun d => some (d, e)
theorem mPeek_s (f : List Dt → Option Dt) (i : Nat) : mPeek f i = mPeekS f i := by
  funext en
  unfold mPeekS
  simp only [shD_eq]
  split <;> simp_all
def mDputS (i : Nat) (m mk : ME) : MT := fun en => match m en with
  | some (.int v, e1) => (match dtiAt e1 i with
    | none => none
    | some _ => match mk e1 with
      | none => none
      | some (d, e2) => match keyOf d with
        | none => none
        | some k => match dtiAt e2 i with
          | none => none
          | some ks => if shortB ks.length = true then spL (putT k v ks) fun ls => some (.nx (e2.set i (.dti ls))) else none)
  | _ => none
theorem mDput_s (i : Nat) (m mk : ME) : mDput i m mk = mDputS i m mk := by
  funext en
  unfold mDput mDputS
  simp only [spL_eq] <;> rfl
end
end Yd

set_option Elab.async false
set_option linter.all false
set_option maxRecDepth 100000
set_option maxHeartbeats 1000000
set_option autoImplicit false
/-! The same functions once more, by recursors alone. -/
namespace Yd
open PySem PySem.Spec PyProof.Rows L2
noncomputable section
def gt (i : Nat) : En → Option Sl := Nat.rec (fun en => List.rec none (fun s _ _ => some s) en) (fun _ ih en => List.rec none (fun _ r _ => ih r) en) i
def st (x : Sl) (i : Nat) : En → En := Nat.rec (fun en => List.rec [] (fun s r _ => x :: r) en) (fun _ ih en => List.rec [] (fun s r _ => s :: ih r) en) i
theorem gt_eq : ∀ (i : Nat) (en : En), gt i en = en[i]?
  | 0, [] => rfl
  | 0, s :: r => rfl
  | i + 1, [] => rfl
  | i + 1, s :: r => by
    show gt i r = _
    rw [gt_eq i r]
    simp
theorem st_eq (x : Sl) : ∀ (i : Nat) (en : En), st x i en = en.set i x
  | 0, [] => rfl
  | 0, s :: r => rfl
  | i + 1, [] => rfl
  | i + 1, s :: r => by
    show s :: st x i r = _
    rw [st_eq x i r]
    rfl
def mVarX (i : Nat) : ME := fun en => Option.rec none (fun s => Sl.rec none (fun d => some (d, en)) (fun ds => some (.list ds, st (.val (.list ds)) i en)) (fun _ => none) (fun _ => none) s) (gt i en)
theorem mVar_x (i : Nat) : mVar i = mVarX i := by
  funext en
  unfold mVar mVarX
  simp only [gt_eq, st_eq]
  cases en[i]? with
  | none => rfl
  | some s => cases s <;> rfl
def gSetX (i : Nat) (d : Dt) (en : En) : Option En := Option.rec none (fun s => Sl.rec (some (st (.val d) i en)) (fun _ => some (st (.val d) i en)) (fun _ => some (st (.val d) i en)) (fun _ => none) (fun _ => some (st (.val d) i en)) s) (gt i en)
theorem gSet_x (i : Nat) : gSet i = gSetX i := by
  funext d en
  unfold gSet gSetX
  simp only [gt_eq, st_eq]
  cases en[i]? with
  | none => rfl
  | some s => cases s <;> rfl
def mSetX (i : Nat) (m : ME) : MT := fun en => Option.rec none (fun p => Prod.rec (fun d e => Option.rec none (fun e' => some (.nx e')) (gSetX i d e)) p) (m en)
theorem mSet_x (i : Nat) (m : ME) : mSet i m = mSetX i m := by
  funext en
  unfold mSet mSetX
  rw [gSet_x]
  cases m en with
  | none => rfl
  | some p =>
    obtain ⟨d, e⟩ := p
    show (match gSetX i d e with | none => none | some e' => some (Out.nx e')) = Option.rec none (fun e' => some (Out.nx e')) (gSetX i d e)
    cases gSetX i d e <;> rfl
def mBinX (g : Dt → Dt → Option Dt) (a b : ME) : ME := fun en => Option.rec none (fun p => Prod.rec (fun x e1 => Option.rec none (fun q => Prod.rec (fun y e2 => Option.rec none (fun z => shD z fun z => some (z, e2)) (g x y)) q) (b e1)) p) (a en)
theorem mBin_x (g : Dt → Dt → Option Dt) (a b : ME) : mBin g a b = mBinX g a b := by
  funext en
  unfold mBin mBinX
  cases a en with
  | none => rfl
  | some p =>
    obtain ⟨x, e1⟩ := p
    show (match b e1 with | none => none | some (y, e2) => match g x y with | none => none | some z => some (z, e2)) = Option.rec none (fun q => Prod.rec (fun y e2 => Option.rec none (fun z => shD z fun z => some (z, e2)) (g x y)) q) (b e1)
    cases b e1 with
    | none => rfl
    | some q =>
      obtain ⟨y, e2⟩ := q
      show (match g x y with | none => none | some z => some (z, e2)) = Option.rec none (fun z => shD z fun z => some (z, e2)) (g x y)
      cases g x y with
      | none => rfl
      | some z => exact (shD_eq z fun z => some (z, e2)).symm
def mConsX (a : ME) (r : ML) : ML := fun en => Option.rec none (fun p => Prod.rec (fun x e1 => Option.rec none (fun q => Prod.rec (fun xs e2 => some (x :: xs, e2)) q) (r e1)) p) (a en)
theorem mCons_x (a : ME) (r : ML) : mCons a r = mConsX a r := by
  funext en
  unfold mCons mConsX
  cases a en with
  | none => rfl
  | some p =>
    obtain ⟨x, e1⟩ := p
    show (match r e1 with | none => none | some (xs, e2) => some (x :: xs, e2)) = Option.rec none (fun q => Prod.rec (fun xs e2 => some (x :: xs, e2)) q) (r e1)
    cases r e1 with
    | none => rfl
    | some q => rfl
def mFnX (f : List Dt → Option Dt) (m : ML) : ME := fun en => Option.rec none (fun p => Prod.rec (fun ds e => Option.rec none (fun d => shD d fun d => some (d, e)) (f ds)) p) (m en)
theorem mFn_x (f : List Dt → Option Dt) (m : ML) : mFn f m = mFnX f m := by
  funext en
  unfold mFn mFnX
  cases m en with
  | none => rfl
  | some p =>
    obtain ⟨ds, e⟩ := p
    show (match f ds with | none => none | some d => some (d, e)) = Option.rec none (fun d => shD d fun d => some (d, e)) (f ds)
    cases f ds with
    | none => rfl
    | some d => exact (shD_eq d fun d => some (d, e)).symm
def mTstX (m : ME) : MB := fun en => Option.rec none (fun p => Prod.rec (fun d e => PyData.casesOn d none (fun b => some (b, e)) (fun _ => none) (fun _ => none) (fun _ => none) (fun _ => none) fun _ => none) p) (m en)
theorem mTst_x (m : ME) : mTst m = mTstX m := by
  funext en
  unfold mTst mTstX
  cases m en with
  | none => rfl
  | some p =>
    obtain ⟨d, e⟩ := p
    cases d <;> rfl
def mIfSX (c : MB) (a b : MT) : MT := fun en => Option.rec none (fun p => Prod.rec (fun t e => Bool.rec (b e) (a e) t) p) (c en)
theorem mIfS_x (c : MB) (a b : MT) : mIfS c a b = mIfSX c a b := by
  funext en
  unfold mIfS mIfSX
  cases c en with
  | none => rfl
  | some p =>
    obtain ⟨t, e⟩ := p
    cases t <;> rfl
def mIfEX (c : MB) (a b : ME) : ME := fun en => Option.rec none (fun p => Prod.rec (fun t e => Bool.rec (b e) (a e) t) p) (c en)
theorem mIfE_x (c : MB) (a b : ME) : mIfE c a b = mIfEX c a b := by
  funext en
  unfold mIfE mIfEX
  cases c en with
  | none => rfl
  | some p =>
    obtain ⟨t, e⟩ := p
    cases t <;> rfl
def okX (en : En) (vs : List Nat) : Bool := List.rec true (fun v _ ih => Option.rec false (fun s => Sl.rec ih (fun _ => ih) (fun _ => false) (fun _ => false) (fun _ => false) s) (gt v en)) vs
theorem okX_eq (en : En) : ∀ vs : List Nat, okX en vs = okSl en vs
  | [] => rfl
  | v :: vs => by
    have ih := okX_eq en vs
    show (Option.rec false (fun s => Sl.rec (okX en vs) (fun _ => okX en vs) (fun _ => false) (fun _ => false) (fun _ => false) s) (gt v en) : Bool) = _
    unfold okSl at ih ⊢
    rw [List.all_cons, gt_eq, ih]
    cases en[v]? with
    | none => rfl
    | some s => cases s <;> simp [Sl.plain]
def wipeX (en : En) (vs : List Nat) : En := List.rec en (fun v _ ih => st .no v ih) vs
theorem wipeX_eq (en : En) : ∀ vs : List Nat, wipeX en vs = wipeE en vs
  | [] => rfl
  | v :: vs => by
    show st .no v (wipeX en vs) = _
    rw [wipeX_eq en vs, st_eq]
    rfl
def backX (en0 en : En) (vs : List Nat) : En := List.rec en (fun v _ ih => Option.rec (st .no v ih) (fun s => st s v ih) (gt v en0)) vs
theorem backX_eq (en0 en : En) : ∀ vs : List Nat, backX en0 en vs = backE en0 en vs
  | [] => rfl
  | v :: vs => by
    show (Option.rec (st .no v (backX en0 en vs)) (fun s => st s v (backX en0 en vs)) (gt v en0) : En) = (backE en0 en vs).set v (en0.getD v .no)
    rw [backX_eq en0 en vs, gt_eq, List.getD_eq_getElem?_getD]
    cases en0[v]? with
    | none => exact st_eq _ _ _
    | some s => exact st_eq _ _ _
def lcGoX (vs : List Nat) (g : Dt → En → Option En) (tt : MB) (te : ME) (ds : List Dt) : En → Option (List Dt × En) := List.rec (fun en => some ([], en)) (fun d _ ih en => Option.rec none (fun e1 => nfE e1 fun e1 =>
    Option.rec none (fun p => Prod.rec (fun t e2 => Bool.rec (Bool.rec none (nfE (wipeX e2 vs) ih) (okX e2 vs))
      (Option.rec none (fun q => Prod.rec (fun y e3 => Bool.rec none (Option.rec none (fun z => Prod.rec (fun ys e5 => some (y :: ys, e5)) z) (nfE (wipeX e3 vs) ih)) (okX e3 vs)) q) (te e2)) t) p) (tt e1)) (g d en)) ds
theorem lcGo_x (vs : List Nat) (g : Dt → En → Option En) (tt : MB) (te : ME) : ∀ (ds : List Dt) (en : En), lcGo vs g tt te ds en = lcGoX vs g tt te ds en
  | [], _ => rfl
  | d :: ds, en => by
    show lcGo vs g tt te (d :: ds) en = (Option.rec none (fun e1 => nfE e1 fun e1 =>
    Option.rec none (fun p => Prod.rec (fun t e2 => Bool.rec (Bool.rec none (nfE (wipeX e2 vs) (lcGoX vs g tt te ds)) (okX e2 vs))
      (Option.rec none (fun q => Prod.rec (fun y e3 => Bool.rec none (Option.rec none (fun z => Prod.rec (fun ys e5 => some (y :: ys, e5)) z) (nfE (wipeX e3 vs) (lcGoX vs g tt te ds))) (okX e3 vs)) q) (te e2)) t) p) (tt e1)) (g d en) : Option (List Dt × En))
    unfold lcGo
    cases g d en with
    | none => rfl
    | some e1 =>
      simp only [nfE_eq, okX_eq, wipeX_eq]
      cases tt e1 with
      | none => rfl
      | some p =>
        obtain ⟨t, e2⟩ := p
        cases t with
        | false =>
          simp only [wipeC]
          cases h : okSl e2 vs with
          | false => simp
          | true => simp [lcGo_x vs g tt te ds]
        | true =>
          dsimp only
          cases te e2 with
          | none => rfl
          | some q =>
            obtain ⟨y, e3⟩ := q
            simp only [wipeC]
            cases h : okSl e3 vs with
            | false => simp
            | true =>
              simp only [if_true, lcGo_x vs g tt te ds]
              cases lcGoX vs g tt te ds (wipeE e3 vs) <;> rfl
def mLcX (mi : ML) (vs : List Nat) (g : Dt → En → Option En) (tt : MB) (te : ME) : ML := fun en => Option.rec none (fun p => Prod.rec (fun ds e1 => Bool.rec none (Bool.rec none (Option.rec none (fun q => Prod.rec (fun ys e3 => Bool.rec none (nfE (backX e1 e3 vs) fun e4 => some (ys, e4)) (okX e3 vs)) q)
    (nfE (wipeX e1 vs) (lcGoX vs g tt te ds))) (okX e1 vs)) (shortB ds.length)) p) (mi en)
theorem mLc_x (mi : ML) (vs : List Nat) (g : Dt → En → Option En) (tt : MB) (te : ME) : mLc mi vs g tt te = mLcX mi vs g tt te := by
  funext en
  unfold mLc mLcX
  cases mi en with
  | none => rfl
  | some p =>
    obtain ⟨ds, e1⟩ := p
    simp only [nfE_eq, okX_eq, wipeX_eq, backX_eq, wipeC, lcGo_x]
    cases shortB ds.length with
    | false => simp
    | true =>
      cases okSl e1 vs with
      | false => simp
      | true =>
        simp only [if_true]
        cases lcGoX vs g tt te ds (wipeE e1 vs) with
        | none => rfl
        | some q =>
          obtain ⟨ys, e3⟩ := q
          simp only
          cases okSl e3 vs <;> simp
def ownX (en : En) (i : Nat) : Option (List Dt) := Option.rec none (fun s => Sl.rec none (fun _ => none) (fun ds => some ds) (fun ds => some ds) (fun _ => none) s) (gt i en)
theorem ownX_eq (en : En) (i : Nat) : ownAt en i = ownX en i := by
  unfold ownAt ownX
  rw [gt_eq]
  cases en[i]? with
  | none => rfl
  | some s => cases s <;> rfl
def sownX (en : En) (i : Nat) (ds : List Dt) : En := Option.rec en (fun s => Sl.rec en (fun _ => en) (fun _ => st (.own ds) i en) (fun _ => st (.brw ds) i en) (fun _ => en) s) (gt i en)
theorem sownX_eq (en : En) (i : Nat) (ds : List Dt) : setOwn en i ds = sownX en i ds := by
  unfold setOwn sownX
  rw [gt_eq]
  simp only [st_eq]
  cases en[i]? with
  | none => rfl
  | some s => cases s <;> rfl
def mGetX (i : Nat) (mk : ME) : ME := fun en => Option.rec none (fun _ => Option.rec none (fun p => Prod.rec (fun d e => PyData.casesOn d none (fun _ => none) (fun k => Option.rec none (fun ds => Option.rec none (fun d => some (d, e)) (L2.atI ds k)) (ownX e i)) (fun _ => none) (fun _ => none) (fun _ => none) fun _ => none) p) (mk en)) (ownX en i)
theorem mGet_x (i : Nat) (mk : ME) : mGet i mk = mGetX i mk := by
  funext en
  unfold mGet mGetX
  simp only [ownX_eq]
  cases ownX en i with
  | none => rfl
  | some _ =>
    dsimp only
    cases mk en with
    | none => rfl
    | some p =>
      obtain ⟨d, e⟩ := p
      cases d with
      | int k =>
        dsimp only
        cases ownX e i with
        | none => rfl
        | some ds =>
          dsimp only
          cases L2.atI ds k <;> rfl
      | _ => rfl
def mAppX (i : Nat) (m : ME) : MT := fun en => Option.rec none (fun _ => Option.rec none (fun p => Prod.rec (fun d e => Option.rec none (fun ds => Bool.rec none (spL (ds ++ [d]) fun es => some (.nx (sownX e i es))) (shortB ds.length)) (ownX e i)) p) (m en)) (ownX en i)
theorem mApp_x (i : Nat) (m : ME) : mApp i m = mAppX i m := by
  funext en
  unfold mApp mAppX
  simp only [ownX_eq, sownX_eq, spL_eq]
  cases ownX en i with
  | none => rfl
  | some _ =>
    dsimp only
    cases m en with
    | none => rfl
    | some p =>
      obtain ⟨d, e⟩ := p
      dsimp only
      cases ownX e i with
      | none => rfl
      | some ds =>
        dsimp only
        cases shortB ds.length <;> simp
end
end Yd

set_option Elab.async false
set_option linter.all false
set_option maxRecDepth 100000
set_option maxHeartbeats 1000000
set_option autoImplicit false
/-! Contracts over finitely many arguments: a value in plain Lean, checked by the kernel at each. -/
namespace Yd
open PySem PySem.Spec PyProof.Rows L2
mutual
def eqD : Dt → Dt → Bool
  | .none, .none => true
  | .bool a, .bool b => decide (a = b)
  | .int a, .int b => decide (a = b)
  | .list xs, .list ys => eqDs xs ys
  | .tuple xs, .tuple ys => eqDs xs ys
  | _, _ => false
def eqDs : List Dt → List Dt → Bool
  | [], [] => true
  | x :: xs, y :: ys => eqD x y && eqDs xs ys
  | _, _ => false
end
mutual
theorem eqD_ok : ∀ (a b : Dt), eqD a b = true → a = b
  | .none, b, h => by
    cases b <;> first | rfl | (simp [eqD] at h)
  | .bool x, b, h => by
    cases b <;> simp_all [eqD]
  | .int x, b, h => by
    cases b <;> simp_all [eqD]
  | .str x, b, h => by
    cases b <;> simp [eqD] at h
  | .list xs, b, h => by
    cases b with
    | list ys => rw [eqDs_ok xs ys (by simpa [eqD] using h)]
    | _ => simp [eqD] at h
  | .tuple xs, b, h => by
    cases b with
    | tuple ys => rw [eqDs_ok xs ys (by simpa [eqD] using h)]
    | _ => simp [eqD] at h
  | .dict xs, b, h => by
    cases b <;> simp [eqD] at h
theorem eqDs_ok : ∀ (a b : List Dt), eqDs a b = true → a = b
  | [], b, h => by
    cases b with
    | nil => rfl
    | cons y ys => simp [eqDs] at h
  | x :: xs, b, h => by
    cases b with
    | nil => simp [eqDs] at h
    | cons y ys =>
      have h : (eqD x y && eqDs xs ys) = true := by simpa [eqDs] using h
      rw [Bool.and_eq_true] at h
      rw [eqD_ok x y h.1, eqDs_ok xs ys h.2]
end
def nD (n : Nat) : Dt := .int (.ofNat n)
def encN (s : List Nat) : Dt := .tuple (s.map nD)
def natsOf : List Dt → Option (List Nat)
  | [] => some []
  | .int (.ofNat n) :: r => match natsOf r with
    | none => none
    | some l => some (n :: l)
  | _ => none
theorem natsOf_some : ∀ {ds : List Dt} {l : List Nat}, natsOf ds = some l → ds = l.map nD
  | [], l, h => by
    cases h
    rfl
  | d :: r, l, h => by
    unfold natsOf at h
    split at h
    · rename_i e
      cases e
    · rename_i n r' e
      cases e
      split at h
      · cases h
      · rename_i l' h2
        cases h
        rw [natsOf_some h2]
        rfl
    · cases h
theorem natsOf_map : ∀ l : List Nat, natsOf (l.map nD) = some l
  | [] => rfl
  | n :: l => by
    show (match natsOf (l.map nD) with | none => none | some l => some (n :: l)) = _
    rw [natsOf_map l]
def part : Nat → List Nat → Bool
  | _, [] => true
  | m, x :: xs => Nat.ble 1 x && (Nat.ble x m && part x xs)
def sumN : List Nat → Nat
  | [] => 0
  | x :: xs => x + sumN xs
def inD (lim : Nat) (s : List Nat) : Bool := part lim s && Nat.ble (sumN s) lim
def allP : Nat → Nat → Nat → List (List Nat)
  | 0, n, _ => if n = 0 then [[]] else []
  | f + 1, n, m => if n = 0 then [[]] else (List.range (min n m)).flatMap fun i => (allP f (n - (i + 1)) (i + 1)).map fun r => (i + 1) :: r
theorem mem_allP : ∀ (s : List Nat) (f n m : Nat), part m s = true → sumN s = n → n ≤ f → s ∈ allP f n m
  | [], f, n, m, _, h2, _ => by
    have e : n = 0 := h2.symm
    subst e
    cases f <;> simp [allP]
  | x :: xs, f, n, m, h1, h2, h3 => by
    have h1 : (Nat.ble 1 x && (Nat.ble x m && part x xs)) = true := h1
    rw [Bool.and_eq_true, Bool.and_eq_true] at h1
    have a1 : 1 ≤ x := Nat.le_of_ble_eq_true h1.1
    have a2 : x ≤ m := Nat.le_of_ble_eq_true h1.2.1
    have h2 : x + sumN xs = n := h2
    cases f with
    | zero => omega
    | succ f =>
      unfold allP
      rw [if_neg (by omega)]
      refine List.mem_flatMap.mpr ⟨x - 1, List.mem_range.mpr (by omega), ?_⟩
      have e : x - 1 + 1 = x := by omega
      rw [e]
      exact List.mem_map.mpr ⟨xs, mem_allP xs f (n - x) x h1.2.2 (by omega) (by omega), rfl⟩
def domL (lim : Nat) : List (List Nat) := (List.range (lim + 1)).flatMap fun n => allP n n lim
theorem mem_dom {lim : Nat} {s : List Nat} (h : inD lim s = true) : s ∈ domL lim := by
  unfold inD at h
  rw [Bool.and_eq_true] at h
  have h2 : sumN s ≤ lim := Nat.le_of_ble_eq_true h.2
  exact List.mem_flatMap.mpr ⟨sumN s, List.mem_range.mpr (by omega), mem_allP s _ _ _ h.1 rfl (Nat.le_refl _)⟩
noncomputable section
/-- f of one shape -/
def gU (lim : Nat) (val : List Nat → Dt) : List Dt → Option Dt
  | [.tuple xs] => match natsOf xs with
    | some s => if inD lim s = true then some (val s) else none
    | none => none
  | _ => none
def chk (o : Option Dt) (d : Dt) : Bool := match o with
  | some c => eqD c d
  | none => false
theorem chk_ok {o : Option Dt} {d : Dt} (h : chk o d = true) : o = some d := by
  unfold chk at h
  split at h
  · rw [eqD_ok _ _ h]
  · cases h
theorem gU_ok {m ms : MT} {N lim : Nat} {val : List Nat → Dt} (me : m = ms) (h : ((domL lim).all fun s => chk (nfE (env0 N [encN s]) fun e => ansP (ms e)) (val s)) = true) :
    ∀ ds r, ds.length = 1 → gU lim val ds = some r → ansP (m (env0 N ds)) = some r := fun ds r _ e => by
  unfold gU at e
  split at e
  · rename_i xs
    split at e
    · rename_i s hs
      split at e
      · rename_i hd
        cases e
        have q := chk_ok (List.all_eq_true.mp h s (mem_dom hd))
        rw [nfE_eq] at q
        rw [natsOf_some hs, me]
        exact q
      · cases e
    · cases e
  · cases e
theorem gU_at {lim : Nat} {val : List Nat → Dt} {s : List Nat} (h : inD lim s = true) : gU lim val [encN s] = some (val s) := by
  unfold gU encN
  simp only [natsOf_map, h, if_true]
/-- f of one shape and one number -/
def gK (lim top : Nat) (val : List Nat → Nat → Dt) : List Dt → Option Dt
  | [.tuple xs, .int (.ofNat k)] => match natsOf xs with
    | some s => if (inD lim s && (Nat.ble 1 k && Nat.ble k top)) = true then some (val s k) else none
    | none => none
  | _ => none
def upto (n : Nat) : List Nat := (List.range n).map fun i => i + 1
theorem mem_upto {k n : Nat} (h1 : 1 ≤ k) (h2 : k ≤ n) : k ∈ upto n := List.mem_map.mpr ⟨k - 1, List.mem_range.mpr (by omega), by omega⟩
theorem gK_ok {m ms : MT} {N lim top : Nat} {val : List Nat → Nat → Dt} (me : m = ms) (h : ((upto top).all fun k => (domL lim).all fun s => chk (nfE (env0 N [encN s, nD k]) fun e => ansP (ms e)) (val s k)) = true) :
    ∀ ds r, ds.length = 2 → gK lim top val ds = some r → ansP (m (env0 N ds)) = some r := fun ds r hlen e => by
  clear hlen
  unfold gK at e
  split at e
  · rename_i xs k
    split at e
    · rename_i s hs
      split at e
      · rename_i hd
        cases e
        rw [Bool.and_eq_true, Bool.and_eq_true] at hd
        have q := chk_ok (List.all_eq_true.mp (List.all_eq_true.mp h k (mem_upto (Nat.le_of_ble_eq_true hd.2.1) (Nat.le_of_ble_eq_true hd.2.2))) s (mem_dom hd.1))
        rw [nfE_eq] at q
        rw [natsOf_some hs, me]
        exact q
      · cases e
    · cases e
  · cases e
theorem gK_at {lim top : Nat} {val : List Nat → Nat → Dt} {s : List Nat} {k : Nat} (h : inD lim s = true) (h1 : 1 ≤ k) (h2 : k ≤ top) : gK lim top val [encN s, nD k] = some (val s k) := by
  have e1 : Nat.ble 1 k = true := Nat.ble_eq_true_of_le h1
  have e2 : Nat.ble k top = true := Nat.ble_eq_true_of_le h2
  show (match natsOf (s.map nD) with
    | some s => if (inD lim s && (Nat.ble 1 k && Nat.ble k top)) = true then some (val s k) else none
    | none => none) = _
  rw [natsOf_map]
  simp only [h, e1, e2, Bool.and_true, if_true]
theorem dom_all {lim : Nat} {f : List Nat → Bool} (h : ∀ n, n ≤ lim → (allP n n lim).all f = true) : (domL lim).all f = true := by
  refine List.all_eq_true.mpr fun s hs => ?_
  obtain ⟨n, hn, hm⟩ := List.mem_flatMap.mp hs
  exact List.all_eq_true.mp (h n (by have := List.mem_range.mp hn; omega)) s hm
theorem upto_all {top : Nat} {f : Nat → Bool} (h : ∀ k, 1 ≤ k → k ≤ top → f k = true) : (upto top).all f = true := by
  refine List.all_eq_true.mpr fun k hk => ?_
  obtain ⟨i, hi, rfl⟩ := List.mem_map.mp hk
  exact h (i + 1) (by omega) (by have := List.mem_range.mp hi; omega)
end
end Yd

set_option maxRecDepth 100000
namespace Yd
/-! shapes: how many larger come behind, hooks, columns, one more, one less -/
def cntG (j : Nat) : List Nat → Nat
  | [] => 0
  | x :: xs => if Nat.blt j x = true then cntG j xs + 1 else cntG j xs
def mulUp : Nat → (Nat → Nat) → Nat → Nat
  | 0, _, acc => acc
  | n + 1, f, acc => mulUp n f (acc * f n)
def hookN : List Nat → Nat
  | [] => 1
  | w :: r => mulUp w (fun j => w - j + cntG j r) (hookN r)
def factN : Nat → Nat
  | 0 => 1
  | n + 1 => factN n * (n + 1)
def scN (s : List Nat) : Nat := factN (sumN s) / hookN s
def wayN (k : Nat) : Nat → List Nat → Nat
  | _, [] => 1
  | i, w :: r => mulUp w (fun j => k + j - i) (wayN k (i + 1) r)
def tcN (s : List Nat) (k : Nat) : Nat := wayN k 0 s / hookN s
def colN (s : List Nat) : List Nat := (List.range (s.headD 0)).map fun j => cntG j s
def evenN (s : List Nat) : Bool := s.all fun x => Nat.beq (x % 2) 0
def upsN : Nat → List Nat → List (List Nat)
  | _, [] => [[1]]
  | p, x :: xs => (upsN x xs).map (fun r => x :: r) ++ (if Nat.blt x p = true then [(x + 1) :: xs] else [])
def downsN : List Nat → List (List Nat)
  | [] => []
  | x :: xs => (if Nat.blt (xs.headD 0) x = true then [if Nat.beq x 1 = true then xs else (x - 1) :: xs] else []) ++ (downsN xs).map fun r => x :: r
end Yd

set_option Elab.async false
set_option linter.all false
set_option maxRecDepth 1000000
set_option maxHeartbeats 4000000
set_option autoImplicit false
namespace Yd
open PySem PySem.Spec PyProof.Rows L2
def tp (i : Nat) : Stmt := PySem.Challenge.pw_tracksenough_k09_whole_sums_over_all_sha.main.body.getD i (.Pass ⟨0, 0, 0, 0⟩)
abbrev s_is_integer : Stmt := tp 5
abbrev s_is_between : Stmt := tp 6
abbrev s_is_shape : Stmt := tp 10
abbrev s_check_shape : Stmt := tp 11
abbrev s_check_upto : Stmt := tp 12
abbrev s_all_shapes : Stmt := tp 13
abbrev s_shapes : Stmt := tp 14
abbrev s_more_by : Stmt := tp 15
abbrev s_less_by : Stmt := tp 16
abbrev s_grown : Stmt := tp 17
abbrev s_shrunk : Stmt := tp 18
abbrev s_hooks_of : Stmt := tp 19
abbrev s_product : Stmt := tp 20
abbrev s_all_hooks : Stmt := tp 21
abbrev s_standard_count_of : Stmt := tp 22
abbrev s_standard_count : Stmt := tp 23
abbrev s_table_count : Stmt := tp 24
abbrev s_rows_of_shape : Stmt := tp 25
abbrev s_rows_led : Stmt := tp 26
abbrev s__law_pot : Stmt := tp 28
abbrev s__law_take : Stmt := tp 29
abbrev s__law_of : Stmt := tp 30
abbrev s__law_cells : Stmt := tp 31
abbrev s__law_choose : Stmt := tp 32
abbrev s__law_product : Stmt := tp 33
abbrev s__law_power : Stmt := tp 34
abbrev s__law_columns : Stmt := tp 35
abbrev s__law_all_shapes : Stmt := tp 36
abbrev s__law_even : Stmt := tp 37
abbrev s__law_heaps : Stmt := tp 38
abbrev s__law_are_tables_right : Stmt := tp 39
abbrev s__law_are_rows_right : Stmt := tp 40
abbrev s__law_are_steps_right : Stmt := tp 41
abbrev s__law_right : Stmt := tp 42
abbrev s_law : Stmt := tp 43
abbrev FnP (K : PySem.W.Frag) (x : Str) (st : Stmt) (f : Addr) (fd : FuncData) : Prop := FunD K x x (defArgs st) (defBody st) (defScope st) [] [] f fd
structure Al (K : PySem.W.Frag) (mg : Str → Option Value) where
  a_is_integer : Addr
  d_is_integer : FuncData
  F_is_integer : FnP K "is_integer" s_is_integer a_is_integer d_is_integer
  g_is_integer : mg "is_integer" = some (.ref a_is_integer)
  a_is_between : Addr
  d_is_between : FuncData
  F_is_between : FnP K "is_between" s_is_between a_is_between d_is_between
  g_is_between : mg "is_between" = some (.ref a_is_between)
  a_is_shape : Addr
  d_is_shape : FuncData
  F_is_shape : FnP K "is_shape" s_is_shape a_is_shape d_is_shape
  g_is_shape : mg "is_shape" = some (.ref a_is_shape)
  a_check_shape : Addr
  d_check_shape : FuncData
  F_check_shape : FnP K "check_shape" s_check_shape a_check_shape d_check_shape
  g_check_shape : mg "check_shape" = some (.ref a_check_shape)
  a_check_upto : Addr
  d_check_upto : FuncData
  F_check_upto : FnP K "check_upto" s_check_upto a_check_upto d_check_upto
  g_check_upto : mg "check_upto" = some (.ref a_check_upto)
  a_all_shapes : Addr
  d_all_shapes : FuncData
  F_all_shapes : FnP K "all_shapes" s_all_shapes a_all_shapes d_all_shapes
  g_all_shapes : mg "all_shapes" = some (.ref a_all_shapes)
  a_shapes : Addr
  d_shapes : FuncData
  F_shapes : FnP K "shapes" s_shapes a_shapes d_shapes
  g_shapes : mg "shapes" = some (.ref a_shapes)
  a_more_by : Addr
  d_more_by : FuncData
  F_more_by : FnP K "more_by" s_more_by a_more_by d_more_by
  g_more_by : mg "more_by" = some (.ref a_more_by)
  a_less_by : Addr
  d_less_by : FuncData
  F_less_by : FnP K "less_by" s_less_by a_less_by d_less_by
  g_less_by : mg "less_by" = some (.ref a_less_by)
  a_grown : Addr
  d_grown : FuncData
  F_grown : FnP K "grown" s_grown a_grown d_grown
  g_grown : mg "grown" = some (.ref a_grown)
  a_shrunk : Addr
  d_shrunk : FuncData
  F_shrunk : FnP K "shrunk" s_shrunk a_shrunk d_shrunk
  g_shrunk : mg "shrunk" = some (.ref a_shrunk)
  a_hooks_of : Addr
  d_hooks_of : FuncData
  F_hooks_of : FnP K "hooks_of" s_hooks_of a_hooks_of d_hooks_of
  g_hooks_of : mg "hooks_of" = some (.ref a_hooks_of)
  a_product : Addr
  d_product : FuncData
  F_product : FnP K "product" s_product a_product d_product
  g_product : mg "product" = some (.ref a_product)
  a_all_hooks : Addr
  d_all_hooks : FuncData
  F_all_hooks : FnP K "all_hooks" s_all_hooks a_all_hooks d_all_hooks
  g_all_hooks : mg "all_hooks" = some (.ref a_all_hooks)
  a_standard_count_of : Addr
  d_standard_count_of : FuncData
  F_standard_count_of : FnP K "standard_count_of" s_standard_count_of a_standard_count_of d_standard_count_of
  g_standard_count_of : mg "standard_count_of" = some (.ref a_standard_count_of)
  a_standard_count : Addr
  d_standard_count : FuncData
  F_standard_count : FnP K "standard_count" s_standard_count a_standard_count d_standard_count
  g_standard_count : mg "standard_count" = some (.ref a_standard_count)
  a_table_count : Addr
  d_table_count : FuncData
  F_table_count : FnP K "table_count" s_table_count a_table_count d_table_count
  g_table_count : mg "table_count" = some (.ref a_table_count)
  a_rows_of_shape : Addr
  d_rows_of_shape : FuncData
  F_rows_of_shape : FnP K "rows_of_shape" s_rows_of_shape a_rows_of_shape d_rows_of_shape
  g_rows_of_shape : mg "rows_of_shape" = some (.ref a_rows_of_shape)
  a_rows_led : Addr
  d_rows_led : FuncData
  F_rows_led : FnP K "rows_led" s_rows_led a_rows_led d_rows_led
  g_rows_led : mg "rows_led" = some (.ref a_rows_led)
  a__law_pot : Addr
  d__law_pot : FuncData
  F__law_pot : FnP K "_law_pot" s__law_pot a__law_pot d__law_pot
  g__law_pot : mg "_law_pot" = some (.ref a__law_pot)
  a__law_take : Addr
  d__law_take : FuncData
  F__law_take : FnP K "_law_take" s__law_take a__law_take d__law_take
  g__law_take : mg "_law_take" = some (.ref a__law_take)
  a__law_of : Addr
  d__law_of : FuncData
  F__law_of : FnP K "_law_of" s__law_of a__law_of d__law_of
  g__law_of : mg "_law_of" = some (.ref a__law_of)
  a__law_cells : Addr
  d__law_cells : FuncData
  F__law_cells : FnP K "_law_cells" s__law_cells a__law_cells d__law_cells
  g__law_cells : mg "_law_cells" = some (.ref a__law_cells)
  a__law_choose : Addr
  d__law_choose : FuncData
  F__law_choose : FnP K "_law_choose" s__law_choose a__law_choose d__law_choose
  g__law_choose : mg "_law_choose" = some (.ref a__law_choose)
  a__law_product : Addr
  d__law_product : FuncData
  F__law_product : FnP K "_law_product" s__law_product a__law_product d__law_product
  g__law_product : mg "_law_product" = some (.ref a__law_product)
  a__law_power : Addr
  d__law_power : FuncData
  F__law_power : FnP K "_law_power" s__law_power a__law_power d__law_power
  g__law_power : mg "_law_power" = some (.ref a__law_power)
  a__law_columns : Addr
  d__law_columns : FuncData
  F__law_columns : FnP K "_law_columns" s__law_columns a__law_columns d__law_columns
  g__law_columns : mg "_law_columns" = some (.ref a__law_columns)
  a__law_all_shapes : Addr
  d__law_all_shapes : FuncData
  F__law_all_shapes : FnP K "_law_all_shapes" s__law_all_shapes a__law_all_shapes d__law_all_shapes
  g__law_all_shapes : mg "_law_all_shapes" = some (.ref a__law_all_shapes)
  a__law_even : Addr
  d__law_even : FuncData
  F__law_even : FnP K "_law_even" s__law_even a__law_even d__law_even
  g__law_even : mg "_law_even" = some (.ref a__law_even)
  a__law_heaps : Addr
  d__law_heaps : FuncData
  F__law_heaps : FnP K "_law_heaps" s__law_heaps a__law_heaps d__law_heaps
  g__law_heaps : mg "_law_heaps" = some (.ref a__law_heaps)
  a__law_are_tables_right : Addr
  d__law_are_tables_right : FuncData
  F__law_are_tables_right : FnP K "_law_are_tables_right" s__law_are_tables_right a__law_are_tables_right d__law_are_tables_right
  g__law_are_tables_right : mg "_law_are_tables_right" = some (.ref a__law_are_tables_right)
  a__law_are_rows_right : Addr
  d__law_are_rows_right : FuncData
  F__law_are_rows_right : FnP K "_law_are_rows_right" s__law_are_rows_right a__law_are_rows_right d__law_are_rows_right
  g__law_are_rows_right : mg "_law_are_rows_right" = some (.ref a__law_are_rows_right)
  a__law_are_steps_right : Addr
  d__law_are_steps_right : FuncData
  F__law_are_steps_right : FnP K "_law_are_steps_right" s__law_are_steps_right a__law_are_steps_right d__law_are_steps_right
  g__law_are_steps_right : mg "_law_are_steps_right" = some (.ref a__law_are_steps_right)
  a__law_right : Addr
  d__law_right : FuncData
  F__law_right : FnP K "_law_right" s__law_right a__law_right d__law_right
  g__law_right : mg "_law_right" = some (.ref a__law_right)
  a_law : Addr
  d_law : FuncData
  F_law : FnP K "law" s_law a_law d_law
  g_law : mg "law" = some (.ref a_law)
  t_MOST_CARS : Tok
  c_MOST_CARS : mg "MOST_CARS" = some (.int 30 t_MOST_CARS)
  t_MOST_NUMBER : Tok
  c_MOST_NUMBER : mg "MOST_NUMBER" = some (.int 99 t_MOST_NUMBER)
  f_abs : mg "abs" = none
  f_all : mg "all" = none
  f_any : mg "any" = none
  f_bool : mg "bool" = none
  f_enumerate : mg "enumerate" = none
  f_int : mg "int" = none
  f_isinstance : mg "isinstance" = none
  f_len : mg "len" = none
  f_list : mg "list" = none
  f_max : mg "max" = none
  f_min : mg "min" = none
  f_range : mg "range" = none
  f_sorted : mg "sorted" = none
  f_sum : mg "sum" = none
  f_tuple : mg "tuple" = none
  f_zip : mg "zip" = none
/-! ### what each def reckons -/
def N_is_integer : List Str := ["value"]
noncomputable def m_is_integer : MT :=
  (mRet (mAnd (mIsi isInt (mVar 0)) (mNot (mIsi isBool (mVar 0)))))
noncomputable def ms_is_integer : MT :=
  (mRet (mAnd (mIsi isInt (mVarX 0)) (mNot (mIsi isBool (mVarX 0)))))
theorem me_is_integer : m_is_integer = ms_is_integer := by
  unfold m_is_integer ms_is_integer
  first | rfl | simp only [mC_s, mUn_s, mSl_s, mFl_s, mRng_s, mEnum_s, mRg1_s, mRg2_s, mStar_s, mSeq_s, mFor_s, whileGo_s, mExt_s, mPut_s, mPeek_s, mDput_s, mVar_x, mBin_x, mCons_x, mFn_x, mTst_x, mIfS_x, mIfE_x, mLc_x, mGet_x, mApp_x, gSet_x, mSet_x]
noncomputable def g_is_integer (ds : List Dt) : Option Dt := nfE (env0 1 ds) fun e => ansP (ms_is_integer e)
def N_is_between : List Str := ["value", "low", "high"]
noncomputable def m_is_between : MT :=
  (mRet (mAnd (mFn g_is_integer (mCons (mVar 0) mNil)) (mChn gLe gLe (mVar 1) (mVar 0) (mVar 2))))
noncomputable def ms_is_between : MT :=
  (mRet (mAnd (mFnX g_is_integer (mConsX (mVarX 0) mNil)) (mChn gLe gLe (mVarX 1) (mVarX 0) (mVarX 2))))
theorem me_is_between : m_is_between = ms_is_between := by
  unfold m_is_between ms_is_between
  first | rfl | simp only [mC_s, mUn_s, mSl_s, mFl_s, mRng_s, mEnum_s, mRg1_s, mRg2_s, mStar_s, mSeq_s, mFor_s, whileGo_s, mExt_s, mPut_s, mPeek_s, mDput_s, mVar_x, mBin_x, mCons_x, mFn_x, mTst_x, mIfS_x, mIfE_x, mLc_x, mGet_x, mApp_x, gSet_x, mSet_x]
noncomputable def g_is_between (ds : List Dt) : Option Dt := nfE (env0 3 ds) fun e => ansP (ms_is_between e)
def N_is_shape : List Str := ["value", "one", "later"]
noncomputable def m_is_shape : MT :=
  (mSeq (mIfS (mOrB (mNotB (mTst (mIsi isTuple (mVar 0)))) (mNotB (mTst (mFn fAll (mCons (mVal (mLc (mItems (mVar 0)) [1] (gSet 1) mYes (mAnd (mFn g_is_integer (mCons (mVar 1) mNil)) (mBin gGe (mVar 1) (mC (.int 1)))))) mNil))))) (mRet (mC (.bool false))) mNext) (mRet (mAnd (mBin gLe (mFn fSum (mCons (mVar 0) mNil)) (mC (.int 30))) (mFn fAll (mCons (mVal (mLc (mRng fZip (mCons (mVar 0) (mCons (mSl (mVar 0) (mO1 (mC (.int 1))) mO0) mNil))) [1, 2] (gTupY 2 (gCons' (gSet 1) (gCons' (gSet 2) gNil'))) mYes (mBin gGe (mVar 1) (mVar 2)))) mNil)))))
noncomputable def ms_is_shape : MT :=
  (mSeqS (mIfSX (mOrB (mNotB (mTstX (mIsi isTuple (mVarX 0)))) (mNotB (mTstX (mFnX fAll (mConsX (mVal (mLcX (mItems (mVarX 0)) [1] (gSetX 1) mYes (mAnd (mFnX g_is_integer (mConsX (mVarX 1) mNil)) (mBinX gGe (mVarX 1) (mCS (.int 1)))))) mNil))))) (mRet (mCS (.bool false))) mNext) (mRet (mAnd (mBinX gLe (mFnX fSum (mConsX (mVarX 0) mNil)) (mCS (.int 30))) (mFnX fAll (mConsX (mVal (mLcX (mRngS fZip (mConsX (mVarX 0) (mConsX (mSlS (mVarX 0) (mO1 (mCS (.int 1))) mO0) mNil))) [1, 2] (gTupY 2 (gCons' (gSetX 1) (gCons' (gSetX 2) gNil'))) mYes (mBinX gGe (mVarX 1) (mVarX 2)))) mNil)))))
theorem me_is_shape : m_is_shape = ms_is_shape := by
  unfold m_is_shape ms_is_shape
  first | rfl | simp only [mC_s, mUn_s, mSl_s, mFl_s, mRng_s, mEnum_s, mRg1_s, mRg2_s, mStar_s, mSeq_s, mFor_s, whileGo_s, mExt_s, mPut_s, mPeek_s, mDput_s, mVar_x, mBin_x, mCons_x, mFn_x, mTst_x, mIfS_x, mIfE_x, mLc_x, mGet_x, mApp_x, gSet_x, mSet_x]
noncomputable def g_is_shape (ds : List Dt) : Option Dt := nfE (env0 3 ds) fun e => ansP (ms_is_shape e)
def N_check_shape : List Str := ["value"]
noncomputable def m_check_shape : MT :=
  (mIfS (mNotB (mTst (mFn g_is_shape (mCons (mVar 0) mNil)))) mNever mNext)
noncomputable def ms_check_shape : MT :=
  (mIfSX (mNotB (mTstX (mFnX g_is_shape (mConsX (mVarX 0) mNil)))) mNever mNext)
theorem me_check_shape : m_check_shape = ms_check_shape := by
  unfold m_check_shape ms_check_shape
  first | rfl | simp only [mC_s, mUn_s, mSl_s, mFl_s, mRng_s, mEnum_s, mRg1_s, mRg2_s, mStar_s, mSeq_s, mFor_s, whileGo_s, mExt_s, mPut_s, mPeek_s, mDput_s, mVar_x, mBin_x, mCons_x, mFn_x, mTst_x, mIfS_x, mIfE_x, mLc_x, mGet_x, mApp_x, gSet_x, mSet_x]
noncomputable def g_check_shape : List Dt → Option Dt := gU 14 fun s => .none
def N_check_upto : List Str := ["value", "most"]
noncomputable def m_check_upto : MT :=
  (mIfS (mNotB (mTst (mFn g_is_between (mCons (mVar 0) (mCons (mC (.int 0)) (mCons (mVar 1) mNil)))))) mNever mNext)
noncomputable def ms_check_upto : MT :=
  (mIfSX (mNotB (mTstX (mFnX g_is_between (mConsX (mVarX 0) (mConsX (mCS (.int 0)) (mConsX (mVarX 1) mNil)))))) mNever mNext)
theorem me_check_upto : m_check_upto = ms_check_upto := by
  unfold m_check_upto ms_check_upto
  first | rfl | simp only [mC_s, mUn_s, mSl_s, mFl_s, mRng_s, mEnum_s, mRg1_s, mRg2_s, mStar_s, mSeq_s, mFor_s, whileGo_s, mExt_s, mPut_s, mPeek_s, mDput_s, mVar_x, mBin_x, mCons_x, mFn_x, mTst_x, mIfS_x, mIfE_x, mLc_x, mGet_x, mApp_x, gSet_x, mSet_x]
noncomputable def g_check_upto (ds : List Dt) : Option Dt := nfE (env0 2 ds) fun e => ansP (ms_check_upto e)
def N_all_shapes : List Str := ["number", "most", "found", "first", "rest"]
noncomputable def m_all_shapes (rec : List Dt → Option Dt) : MT :=
  (mSeq (mIfS (mTst (mBin gEq (mVar 0) (mC (.int 0)))) (mRet (mVal (mShort (mCons (mTup mNil) mNil)))) mNext) (mSeq (mOwn 2 (mShort mNil)) (mSeq (mFor (mRng fRng2 (mCons (mC (.int 1)) (mCons (mBin gAdd (mFn fMin2 (mCons (mVar 0) (mCons (mVar 1) mNil))) (mC (.int 1))) mNil))) (gSet 3) (mExt 2 (mLc (mItems (mFn rec (mCons (mBin gSub (mVar 0) (mVar 3)) (mCons (mVar 3) mNil)))) [4] (gSet 4) mYes (mTup (mCons (mVar 3) (mStar (mVar 4) mNil)))))) (mRet (mVar 2)))))
noncomputable def ms_all_shapes (rec : List Dt → Option Dt) : MT :=
  (mSeqS (mIfSX (mTstX (mBinX gEq (mVarX 0) (mCS (.int 0)))) (mRet (mVal (mShort (mConsX (mTup mNil) mNil)))) mNext) (mSeqS (mOwn 2 (mShort mNil)) (mSeqS (mForS (mRngS fRng2 (mConsX (mCS (.int 1)) (mConsX (mBinX gAdd (mFnX fMin2 (mConsX (mVarX 0) (mConsX (mVarX 1) mNil))) (mCS (.int 1))) mNil))) (gSetX 3) (mExtS 2 (mLcX (mItems (mFnX rec (mConsX (mBinX gSub (mVarX 0) (mVarX 3)) (mConsX (mVarX 3) mNil)))) [4] (gSetX 4) mYes (mTup (mConsX (mVarX 3) (mStarS (mVarX 4) mNil)))))) (mRet (mVarX 2)))))
theorem me_all_shapes (rec : List Dt → Option Dt) : m_all_shapes rec = ms_all_shapes rec := by
  unfold m_all_shapes ms_all_shapes
  first | rfl | simp only [mC_s, mUn_s, mSl_s, mFl_s, mRng_s, mEnum_s, mRg1_s, mRg2_s, mStar_s, mSeq_s, mFor_s, whileGo_s, mExt_s, mPut_s, mPeek_s, mDput_s, mVar_x, mBin_x, mCons_x, mFn_x, mTst_x, mIfS_x, mIfE_x, mLc_x, mGet_x, mApp_x, gSet_x, mSet_x]
noncomputable def r_all_shapes : Nat → List Dt → Option Dt
  | 0, _ => none
  | k + 1, ds => if ds.length = 2 then nfE (env0 5 ds) fun e => ansP (ms_all_shapes (r_all_shapes k) e) else none
noncomputable def g_all_shapes : List Dt → Option Dt := r_all_shapes 15
def N_shapes : List Str := ["number"]
noncomputable def m_shapes : MT :=
  (mSeq (mDrop (mFn g_check_upto (mCons (mVar 0) (mCons (mC (.int 30)) mNil)))) (mRet (mFn fTuple (mCons (mFn g_all_shapes (mCons (mVar 0) (mCons (mVar 0) mNil))) mNil))))
noncomputable def ms_shapes : MT :=
  (mSeqS (mDrop (mFnX g_check_upto (mConsX (mVarX 0) (mConsX (mCS (.int 30)) mNil)))) (mRet (mFnX fTuple (mConsX (mFnX g_all_shapes (mConsX (mVarX 0) (mConsX (mVarX 0) mNil))) mNil))))
theorem me_shapes : m_shapes = ms_shapes := by
  unfold m_shapes ms_shapes
  first | rfl | simp only [mC_s, mUn_s, mSl_s, mFl_s, mRng_s, mEnum_s, mRg1_s, mRg2_s, mStar_s, mSeq_s, mFor_s, whileGo_s, mExt_s, mPut_s, mPeek_s, mDput_s, mVar_x, mBin_x, mCons_x, mFn_x, mTst_x, mIfS_x, mIfE_x, mLc_x, mGet_x, mApp_x, gSet_x, mSet_x]
noncomputable def g_shapes (ds : List Dt) : Option Dt := nfE (env0 1 ds) fun e => ansP (ms_shapes e)
def N_more_by : List Str := ["shape", "found", "at", "one"]
noncomputable def m_more_by : MT :=
  (mSeq (mSet 1 (mVal (mLc (mEnum (mVar 0)) [2, 3] (gTupY 2 (gCons' (gSet 2) (gCons' (gSet 3) gNil'))) mYes (mTup (mCons (mBin gAdd (mBin gAdd (mSl (mVar 0) mO0 (mO1 (mVar 2))) (mTup (mCons (mBin gAdd (mVar 3) (mC (.int 1))) mNil))) (mSl (mVar 0) (mO1 (mBin gAdd (mVar 2) (mC (.int 1)))) mO0)) (mCons (mVar 2) mNil)))))) (mSeq (mSet 1 (mVal (mLc (mItems (mVar 1)) [3, 2] (gTupY 2 (gCons' (gSet 3) (gCons' (gSet 2) gNil'))) (mOrB (mTst (mBin gEq (mVar 2) (mC (.int 0)))) (mTst (mBin gGt (mBin gIx (mVar 0) (mBin gSub (mVar 2) (mC (.int 1)))) (mBin gIx (mVar 0) (mVar 2))))) (mTup (mCons (mVar 3) (mCons (mVar 2) mNil)))))) (mRet (mVal (mShort (mStar (mVar 1) (mCons (mTup (mCons (mTup (mStar (mVar 0) (mCons (mC (.int 1)) mNil))) (mCons (mFn fLen (mCons (mVar 0) mNil)) mNil))) mNil)))))))
noncomputable def ms_more_by : MT :=
  (mSeqS (mSetX 1 (mVal (mLcX (mEnumS (mVarX 0)) [2, 3] (gTupY 2 (gCons' (gSetX 2) (gCons' (gSetX 3) gNil'))) mYes (mTup (mConsX (mBinX gAdd (mBinX gAdd (mSlS (mVarX 0) mO0 (mO1 (mVarX 2))) (mTup (mConsX (mBinX gAdd (mVarX 3) (mCS (.int 1))) mNil))) (mSlS (mVarX 0) (mO1 (mBinX gAdd (mVarX 2) (mCS (.int 1)))) mO0)) (mConsX (mVarX 2) mNil)))))) (mSeqS (mSetX 1 (mVal (mLcX (mItems (mVarX 1)) [3, 2] (gTupY 2 (gCons' (gSetX 3) (gCons' (gSetX 2) gNil'))) (mOrB (mTstX (mBinX gEq (mVarX 2) (mCS (.int 0)))) (mTstX (mBinX gGt (mBinX gIx (mVarX 0) (mBinX gSub (mVarX 2) (mCS (.int 1)))) (mBinX gIx (mVarX 0) (mVarX 2))))) (mTup (mConsX (mVarX 3) (mConsX (mVarX 2) mNil)))))) (mRet (mVal (mShort (mStarS (mVarX 1) (mConsX (mTup (mConsX (mTup (mStarS (mVarX 0) (mConsX (mCS (.int 1)) mNil))) (mConsX (mFnX fLen (mConsX (mVarX 0) mNil)) mNil))) mNil)))))))
theorem me_more_by : m_more_by = ms_more_by := by
  unfold m_more_by ms_more_by
  first | rfl | simp only [mC_s, mUn_s, mSl_s, mFl_s, mRng_s, mEnum_s, mRg1_s, mRg2_s, mStar_s, mSeq_s, mFor_s, whileGo_s, mExt_s, mPut_s, mPeek_s, mDput_s, mVar_x, mBin_x, mCons_x, mFn_x, mTst_x, mIfS_x, mIfE_x, mLc_x, mGet_x, mApp_x, gSet_x, mSet_x]
noncomputable def g_more_by (ds : List Dt) : Option Dt := nfE (env0 4 ds) fun e => ansP (ms_more_by e)
def N_less_by : List Str := ["shape", "found", "at", "one"]
noncomputable def m_less_by : MT :=
  (mSeq (mOwn 1 (mShort mNil)) (mSeq (mFor (mEnum (mVar 0)) (gTupY 2 (gCons' (gSet 2) (gCons' (gSet 3) gNil'))) (mIfS (mOrB (mTst (mBin gEq (mBin gAdd (mVar 2) (mC (.int 1))) (mFn fLen (mCons (mVar 0) mNil)))) (mTst (mBin gLt (mBin gIx (mVar 0) (mBin gAdd (mVar 2) (mC (.int 1)))) (mVar 3)))) (mApp 1 (mTup (mCons (mBin gAdd (mBin gAdd (mSl (mVar 0) mO0 (mO1 (mVar 2))) (mIfE (mTst (mBin gGt (mVar 3) (mC (.int 1)))) (mTup (mCons (mBin gSub (mVar 3) (mC (.int 1))) mNil)) (mTup mNil))) (mSl (mVar 0) (mO1 (mBin gAdd (mVar 2) (mC (.int 1)))) mO0)) (mCons (mVar 2) mNil)))) mNext)) (mRet (mVar 1))))
noncomputable def ms_less_by : MT :=
  (mSeqS (mOwn 1 (mShort mNil)) (mSeqS (mForS (mEnumS (mVarX 0)) (gTupY 2 (gCons' (gSetX 2) (gCons' (gSetX 3) gNil'))) (mIfSX (mOrB (mTstX (mBinX gEq (mBinX gAdd (mVarX 2) (mCS (.int 1))) (mFnX fLen (mConsX (mVarX 0) mNil)))) (mTstX (mBinX gLt (mBinX gIx (mVarX 0) (mBinX gAdd (mVarX 2) (mCS (.int 1)))) (mVarX 3)))) (mAppX 1 (mTup (mConsX (mBinX gAdd (mBinX gAdd (mSlS (mVarX 0) mO0 (mO1 (mVarX 2))) (mIfEX (mTstX (mBinX gGt (mVarX 3) (mCS (.int 1)))) (mTup (mConsX (mBinX gSub (mVarX 3) (mCS (.int 1))) mNil)) (mTup mNil))) (mSlS (mVarX 0) (mO1 (mBinX gAdd (mVarX 2) (mCS (.int 1)))) mO0)) (mConsX (mVarX 2) mNil)))) mNext)) (mRet (mVarX 1))))
theorem me_less_by : m_less_by = ms_less_by := by
  unfold m_less_by ms_less_by
  first | rfl | simp only [mC_s, mUn_s, mSl_s, mFl_s, mRng_s, mEnum_s, mRg1_s, mRg2_s, mStar_s, mSeq_s, mFor_s, whileGo_s, mExt_s, mPut_s, mPeek_s, mDput_s, mVar_x, mBin_x, mCons_x, mFn_x, mTst_x, mIfS_x, mIfE_x, mLc_x, mGet_x, mApp_x, gSet_x, mSet_x]
noncomputable def g_less_by (ds : List Dt) : Option Dt := nfE (env0 4 ds) fun e => ansP (ms_less_by e)
def N_grown : List Str := ["shape", "one", "at"]
noncomputable def m_grown : MT :=
  (mSeq (mDrop (mFn g_check_shape (mCons (mVar 0) mNil))) (mRet (mFn fTuple (mCons (mVal (mFl fSort (mCons (mVal (mLc (mItems (mFn g_more_by (mCons (mVar 0) mNil))) [1, 2] (gTupY 2 (gCons' (gSet 1) (gCons' (gSet 2) gNil'))) mYes (mVar 1))) mNil))) mNil))))
noncomputable def ms_grown : MT :=
  (mSeqS (mDrop (mFnX g_check_shape (mConsX (mVarX 0) mNil))) (mRet (mFnX fTuple (mConsX (mVal (mFlS fSort (mConsX (mVal (mLcX (mItems (mFnX g_more_by (mConsX (mVarX 0) mNil))) [1, 2] (gTupY 2 (gCons' (gSetX 1) (gCons' (gSetX 2) gNil'))) mYes (mVarX 1))) mNil))) mNil))))
theorem me_grown : m_grown = ms_grown := by
  unfold m_grown ms_grown
  first | rfl | simp only [mC_s, mUn_s, mSl_s, mFl_s, mRng_s, mEnum_s, mRg1_s, mRg2_s, mStar_s, mSeq_s, mFor_s, whileGo_s, mExt_s, mPut_s, mPeek_s, mDput_s, mVar_x, mBin_x, mCons_x, mFn_x, mTst_x, mIfS_x, mIfE_x, mLc_x, mGet_x, mApp_x, gSet_x, mSet_x]
noncomputable def g_grown : List Dt → Option Dt := gU 13 fun s => .tuple ((upsN 100 s).map encN)
def N_shrunk : List Str := ["shape", "one", "at"]
noncomputable def m_shrunk : MT :=
  (mSeq (mDrop (mFn g_check_shape (mCons (mVar 0) mNil))) (mRet (mFn fTuple (mCons (mVal (mFl fSort (mCons (mVal (mLc (mItems (mFn g_less_by (mCons (mVar 0) mNil))) [1, 2] (gTupY 2 (gCons' (gSet 1) (gCons' (gSet 2) gNil'))) mYes (mVar 1))) mNil))) mNil))))
noncomputable def ms_shrunk : MT :=
  (mSeqS (mDrop (mFnX g_check_shape (mConsX (mVarX 0) mNil))) (mRet (mFnX fTuple (mConsX (mVal (mFlS fSort (mConsX (mVal (mLcX (mItems (mFnX g_less_by (mConsX (mVarX 0) mNil))) [1, 2] (gTupY 2 (gCons' (gSetX 1) (gCons' (gSetX 2) gNil'))) mYes (mVarX 1))) mNil))) mNil))))
theorem me_shrunk : m_shrunk = ms_shrunk := by
  unfold m_shrunk ms_shrunk
  first | rfl | simp only [mC_s, mUn_s, mSl_s, mFl_s, mRng_s, mEnum_s, mRg1_s, mRg2_s, mStar_s, mSeq_s, mFor_s, whileGo_s, mExt_s, mPut_s, mPeek_s, mDput_s, mVar_x, mBin_x, mCons_x, mFn_x, mTst_x, mIfS_x, mIfE_x, mLc_x, mGet_x, mApp_x, gSet_x, mSet_x]
noncomputable def g_shrunk : List Dt → Option Dt := gU 14 fun s => .tuple ((downsN s).map encN)
def N_hooks_of : List Str := ["shape", "found", "at", "wide", "below", "spot", "one"]
noncomputable def m_hooks_of : MT :=
  (mSeq (mOwn 1 (mShort mNil)) (mSeq (mFor (mEnum (mVar 0)) (gTupY 2 (gCons' (gSet 2) (gCons' (gSet 3) gNil'))) (mSeq (mSet 4 (mVal (mLc (mRng fRng1 (mCons (mVar 3) mNil)) [5] (gSet 5) mYes (mFn fLen (mCons (mVal (mLc (mItems (mSl (mVar 0) (mO1 (mBin gAdd (mVar 2) (mC (.int 1)))) mO0)) [6] (gSet 6) (mTst (mBin gGt (mVar 6) (mVar 5))) (mVar 6))) mNil))))) (mApp 1 (mFn fTuple (mCons (mVal (mLc (mRng fRng1 (mCons (mVar 3) mNil)) [5] (gSet 5) mYes (mBin gAdd (mBin gSub (mVar 3) (mVar 5)) (mBin gIx (mVar 4) (mVar 5))))) mNil))))) (mRet (mFn fTuple (mCons (mVar 1) mNil)))))
noncomputable def ms_hooks_of : MT :=
  (mSeqS (mOwn 1 (mShort mNil)) (mSeqS (mForS (mEnumS (mVarX 0)) (gTupY 2 (gCons' (gSetX 2) (gCons' (gSetX 3) gNil'))) (mSeqS (mSetX 4 (mVal (mLcX (mRngS fRng1 (mConsX (mVarX 3) mNil)) [5] (gSetX 5) mYes (mFnX fLen (mConsX (mVal (mLcX (mItems (mSlS (mVarX 0) (mO1 (mBinX gAdd (mVarX 2) (mCS (.int 1)))) mO0)) [6] (gSetX 6) (mTstX (mBinX gGt (mVarX 6) (mVarX 5))) (mVarX 6))) mNil))))) (mAppX 1 (mFnX fTuple (mConsX (mVal (mLcX (mRngS fRng1 (mConsX (mVarX 3) mNil)) [5] (gSetX 5) mYes (mBinX gAdd (mBinX gSub (mVarX 3) (mVarX 5)) (mBinX gIx (mVarX 4) (mVarX 5))))) mNil))))) (mRet (mFnX fTuple (mConsX (mVarX 1) mNil)))))
theorem me_hooks_of : m_hooks_of = ms_hooks_of := by
  unfold m_hooks_of ms_hooks_of
  first | rfl | simp only [mC_s, mUn_s, mSl_s, mFl_s, mRng_s, mEnum_s, mRg1_s, mRg2_s, mStar_s, mSeq_s, mFor_s, whileGo_s, mExt_s, mPut_s, mPeek_s, mDput_s, mVar_x, mBin_x, mCons_x, mFn_x, mTst_x, mIfS_x, mIfE_x, mLc_x, mGet_x, mApp_x, gSet_x, mSet_x]
noncomputable def g_hooks_of (ds : List Dt) : Option Dt := nfE (env0 7 ds) fun e => ansP (ms_hooks_of e)
def N_product : List Str := ["numbers", "found", "number"]
noncomputable def m_product : MT :=
  (mSeq (mSet 1 (mC (.int 1))) (mSeq (mFor (mItems (mVar 0)) (gSet 2) (mSet 1 (mBin gMul (mVar 1) (mVar 2)))) (mRet (mVar 1))))
noncomputable def ms_product : MT :=
  (mSeqS (mSetX 1 (mCS (.int 1))) (mSeqS (mForS (mItems (mVarX 0)) (gSetX 2) (mSetX 1 (mBinX gMul (mVarX 1) (mVarX 2)))) (mRet (mVarX 1))))
theorem me_product : m_product = ms_product := by
  unfold m_product ms_product
  first | rfl | simp only [mC_s, mUn_s, mSl_s, mFl_s, mRng_s, mEnum_s, mRg1_s, mRg2_s, mStar_s, mSeq_s, mFor_s, whileGo_s, mExt_s, mPut_s, mPeek_s, mDput_s, mVar_x, mBin_x, mCons_x, mFn_x, mTst_x, mIfS_x, mIfE_x, mLc_x, mGet_x, mApp_x, gSet_x, mSet_x]
noncomputable def g_product (ds : List Dt) : Option Dt := nfE (env0 3 ds) fun e => ansP (ms_product e)
def N_all_hooks : List Str := ["shape", "line"]
noncomputable def m_all_hooks : MT :=
  (mRet (mFn g_product (mCons (mVal (mLc (mItems (mFn g_hooks_of (mCons (mVar 0) mNil))) [1] (gSet 1) mYes (mFn g_product (mCons (mVar 1) mNil)))) mNil)))
noncomputable def ms_all_hooks : MT :=
  (mRet (mFnX g_product (mConsX (mVal (mLcX (mItems (mFnX g_hooks_of (mConsX (mVarX 0) mNil))) [1] (gSetX 1) mYes (mFnX g_product (mConsX (mVarX 1) mNil)))) mNil)))
theorem me_all_hooks : m_all_hooks = ms_all_hooks := by
  unfold m_all_hooks ms_all_hooks
  first | rfl | simp only [mC_s, mUn_s, mSl_s, mFl_s, mRng_s, mEnum_s, mRg1_s, mRg2_s, mStar_s, mSeq_s, mFor_s, whileGo_s, mExt_s, mPut_s, mPeek_s, mDput_s, mVar_x, mBin_x, mCons_x, mFn_x, mTst_x, mIfS_x, mIfE_x, mLc_x, mGet_x, mApp_x, gSet_x, mSet_x]
noncomputable def g_all_hooks : List Dt → Option Dt := gU 14 fun s => nD (hookN s)
def N_standard_count_of : List Str := ["shape"]
noncomputable def m_standard_count_of : MT :=
  (mRet (mBin gDiv (mFn g_product (mCons (mVal (mRg2 (mC (.int 1)) (mBin gAdd (mFn fSum (mCons (mVar 0) mNil)) (mC (.int 1))))) mNil)) (mFn g_all_hooks (mCons (mVar 0) mNil))))
noncomputable def ms_standard_count_of : MT :=
  (mRet (mBinX gDiv (mFnX g_product (mConsX (mVal (mRg2S (mCS (.int 1)) (mBinX gAdd (mFnX fSum (mConsX (mVarX 0) mNil)) (mCS (.int 1))))) mNil)) (mFnX g_all_hooks (mConsX (mVarX 0) mNil))))
theorem me_standard_count_of : m_standard_count_of = ms_standard_count_of := by
  unfold m_standard_count_of ms_standard_count_of
  first | rfl | simp only [mC_s, mUn_s, mSl_s, mFl_s, mRng_s, mEnum_s, mRg1_s, mRg2_s, mStar_s, mSeq_s, mFor_s, whileGo_s, mExt_s, mPut_s, mPeek_s, mDput_s, mVar_x, mBin_x, mCons_x, mFn_x, mTst_x, mIfS_x, mIfE_x, mLc_x, mGet_x, mApp_x, gSet_x, mSet_x]
noncomputable def g_standard_count_of : List Dt → Option Dt := gU 14 fun s => nD (scN s)
def N_standard_count : List Str := ["shape"]
noncomputable def m_standard_count : MT :=
  (mSeq (mDrop (mFn g_check_shape (mCons (mVar 0) mNil))) (mRet (mFn g_standard_count_of (mCons (mVar 0) mNil))))
noncomputable def ms_standard_count : MT :=
  (mSeqS (mDrop (mFnX g_check_shape (mConsX (mVarX 0) mNil))) (mRet (mFnX g_standard_count_of (mConsX (mVarX 0) mNil))))
theorem me_standard_count : m_standard_count = ms_standard_count := by
  unfold m_standard_count ms_standard_count
  first | rfl | simp only [mC_s, mUn_s, mSl_s, mFl_s, mRng_s, mEnum_s, mRg1_s, mRg2_s, mStar_s, mSeq_s, mFor_s, whileGo_s, mExt_s, mPut_s, mPeek_s, mDput_s, mVar_x, mBin_x, mCons_x, mFn_x, mTst_x, mIfS_x, mIfE_x, mLc_x, mGet_x, mApp_x, gSet_x, mSet_x]
noncomputable def g_standard_count : List Dt → Option Dt := gU 14 fun s => nD (scN s)
def N_table_count : List Str := ["shape", "most", "ways", "at", "wide", "spot"]
noncomputable def m_table_count : MT :=
  (mSeq (mDrop (mFn g_check_shape (mCons (mVar 0) mNil))) (mSeq (mDrop (mFn g_check_upto (mCons (mVar 1) (mCons (mC (.int 99)) mNil)))) (mSeq (mSet 2 (mVal (mLc (mEnum (mVar 0)) [3, 4] (gTupY 2 (gCons' (gSet 3) (gCons' (gSet 4) gNil'))) mYes (mFn g_product (mCons (mVal (mLc (mRng fRng1 (mCons (mVar 4) mNil)) [5] (gSet 5) mYes (mBin gSub (mBin gAdd (mVar 1) (mVar 5)) (mVar 3)))) mNil))))) (mRet (mBin gDiv (mFn g_product (mCons (mVar 2) mNil)) (mFn g_all_hooks (mCons (mVar 0) mNil)))))))
noncomputable def ms_table_count : MT :=
  (mSeqS (mDrop (mFnX g_check_shape (mConsX (mVarX 0) mNil))) (mSeqS (mDrop (mFnX g_check_upto (mConsX (mVarX 1) (mConsX (mCS (.int 99)) mNil)))) (mSeqS (mSetX 2 (mVal (mLcX (mEnumS (mVarX 0)) [3, 4] (gTupY 2 (gCons' (gSetX 3) (gCons' (gSetX 4) gNil'))) mYes (mFnX g_product (mConsX (mVal (mLcX (mRngS fRng1 (mConsX (mVarX 4) mNil)) [5] (gSetX 5) mYes (mBinX gSub (mBinX gAdd (mVarX 1) (mVarX 5)) (mVarX 3)))) mNil))))) (mRet (mBinX gDiv (mFnX g_product (mConsX (mVarX 2) mNil)) (mFnX g_all_hooks (mConsX (mVarX 0) mNil)))))))
theorem me_table_count : m_table_count = ms_table_count := by
  unfold m_table_count ms_table_count
  first | rfl | simp only [mC_s, mUn_s, mSl_s, mFl_s, mRng_s, mEnum_s, mRg1_s, mRg2_s, mStar_s, mSeq_s, mFor_s, whileGo_s, mExt_s, mPut_s, mPeek_s, mDput_s, mVar_x, mBin_x, mCons_x, mFn_x, mTst_x, mIfS_x, mIfE_x, mLc_x, mGet_x, mApp_x, gSet_x, mSet_x]
noncomputable def g_table_count : List Dt → Option Dt := gK 13 9 fun s k => nD (tcN s k)
def N_rows_of_shape : List Str := ["shape"]
noncomputable def m_rows_of_shape : MT :=
  (mSeq (mDrop (mFn g_check_shape (mCons (mVar 0) mNil))) (mRet (mBin gPow (mFn g_standard_count_of (mCons (mVar 0) mNil)) (mC (.int 2)))))
noncomputable def ms_rows_of_shape : MT :=
  (mSeqS (mDrop (mFnX g_check_shape (mConsX (mVarX 0) mNil))) (mRet (mBinX gPow (mFnX g_standard_count_of (mConsX (mVarX 0) mNil)) (mCS (.int 2)))))
theorem me_rows_of_shape : m_rows_of_shape = ms_rows_of_shape := by
  unfold m_rows_of_shape ms_rows_of_shape
  first | rfl | simp only [mC_s, mUn_s, mSl_s, mFl_s, mRng_s, mEnum_s, mRg1_s, mRg2_s, mStar_s, mSeq_s, mFor_s, whileGo_s, mExt_s, mPut_s, mPeek_s, mDput_s, mVar_x, mBin_x, mCons_x, mFn_x, mTst_x, mIfS_x, mIfE_x, mLc_x, mGet_x, mApp_x, gSet_x, mSet_x]
noncomputable def g_rows_of_shape : List Dt → Option Dt := gU 13 fun s => nD (scN s ^ 2)
def N_rows_led : List Str := ["number", "many", "shape"]
noncomputable def m_rows_led : MT :=
  (mSeq (mDrop (mFn g_check_upto (mCons (mVar 0) (mCons (mC (.int 30)) mNil)))) (mSeq (mDrop (mFn g_check_upto (mCons (mVar 1) (mCons (mC (.int 30)) mNil)))) (mRet (mFn fSum (mCons (mVal (mLc (mItems (mFn g_all_shapes (mCons (mVar 0) (mCons (mVar 0) mNil)))) [2] (gSet 2) (mTst (mBin gLe (mFn fLen (mCons (mVar 2) mNil)) (mVar 1))) (mBin gPow (mFn g_standard_count_of (mCons (mVar 2) mNil)) (mC (.int 2))))) mNil)))))
noncomputable def ms_rows_led : MT :=
  (mSeqS (mDrop (mFnX g_check_upto (mConsX (mVarX 0) (mConsX (mCS (.int 30)) mNil)))) (mSeqS (mDrop (mFnX g_check_upto (mConsX (mVarX 1) (mConsX (mCS (.int 30)) mNil)))) (mRet (mFnX fSum (mConsX (mVal (mLcX (mItems (mFnX g_all_shapes (mConsX (mVarX 0) (mConsX (mVarX 0) mNil)))) [2] (gSetX 2) (mTstX (mBinX gLe (mFnX fLen (mConsX (mVarX 2) mNil)) (mVarX 1))) (mBinX gPow (mFnX g_standard_count_of (mConsX (mVarX 2) mNil)) (mCS (.int 2))))) mNil)))))
theorem me_rows_led : m_rows_led = ms_rows_led := by
  unfold m_rows_led ms_rows_led
  first | rfl | simp only [mC_s, mUn_s, mSl_s, mFl_s, mRng_s, mEnum_s, mRg1_s, mRg2_s, mStar_s, mSeq_s, mFor_s, whileGo_s, mExt_s, mPut_s, mPeek_s, mDput_s, mVar_x, mBin_x, mCons_x, mFn_x, mTst_x, mIfS_x, mIfE_x, mLc_x, mGet_x, mApp_x, gSet_x, mSet_x]
noncomputable def g_rows_led (ds : List Dt) : Option Dt := nfE (env0 3 ds) fun e => ansP (ms_rows_led e)
def N__law_pot : List Str := ["script", "place", "cell", "own", "small"]
noncomputable def m__law_pot : MT :=
  (mSeq (mSet 2 (mIfE (mTst (mBin gLt (mVar 1) (mFn fLen (mCons (mVar 0) mNil)))) (mBin gIx (mVar 0) (mVar 1)) (mBin gAdd (mBin gAdd (mBin gMod (mFn fInt (mCons (mFn fSum (mCons (mSl (mVar 0) mO0 (mO1 (mC (.int 1)))) mNil)) mNil)) (mC (.int 1000211))) (mBin gMul (mC (.int 4639)) (mVar 1))) (mC (.int 3163))))) (mSeq (mSet 3 (mBin gMul (mBin gMod (mFn fInt (mCons (mFn fAbs (mCons (mVar 2) mNil)) mNil)) (mBin gPow (mBin gPow (mC (.int 10)) (mC (.int 60))) (mC (.int 5)))) (mFn fInt (mCons (mBin gGe (mFn fAbs (mCons (mVar 2) mNil)) (mBin gPow (mC (.int 10)) (mC (.int 18)))) mNil)))) (mSeq (mSet 4 (mBin gMod (mFn fInt (mCons (mVar 2) mNil)) (mC (.int 2305843009213693951)))) (mRetN (mShort (mCons (mVar 3) (mCons (mBin gMod (mFn fInt (mCons (mBin gAdd (mBin gAdd (mBin gMul (mVar 4) (mC (.int 72161))) (mBin gMul (mBin gMul (mC (.int 10853)) (mVar 1)) (mVar 1))) (mC (.int 2843))) mNil)) (mC (.int 2305843009213693921))) (mCons (mC (.int 0)) mNil))))))))
noncomputable def ms__law_pot : MT :=
  (mSeqS (mSetX 2 (mIfEX (mTstX (mBinX gLt (mVarX 1) (mFnX fLen (mConsX (mVarX 0) mNil)))) (mBinX gIx (mVarX 0) (mVarX 1)) (mBinX gAdd (mBinX gAdd (mBinX gMod (mFnX fInt (mConsX (mFnX fSum (mConsX (mSlS (mVarX 0) mO0 (mO1 (mCS (.int 1)))) mNil)) mNil)) (mCS (.int 1000211))) (mBinX gMul (mCS (.int 4639)) (mVarX 1))) (mCS (.int 3163))))) (mSeqS (mSetX 3 (mBinX gMul (mBinX gMod (mFnX fInt (mConsX (mFnX fAbs (mConsX (mVarX 2) mNil)) mNil)) (mBinX gPow (mBinX gPow (mCS (.int 10)) (mCS (.int 60))) (mCS (.int 5)))) (mFnX fInt (mConsX (mBinX gGe (mFnX fAbs (mConsX (mVarX 2) mNil)) (mBinX gPow (mCS (.int 10)) (mCS (.int 18)))) mNil)))) (mSeqS (mSetX 4 (mBinX gMod (mFnX fInt (mConsX (mVarX 2) mNil)) (mCS (.int 2305843009213693951)))) (mRetN (mShort (mConsX (mVarX 3) (mConsX (mBinX gMod (mFnX fInt (mConsX (mBinX gAdd (mBinX gAdd (mBinX gMul (mVarX 4) (mCS (.int 72161))) (mBinX gMul (mBinX gMul (mCS (.int 10853)) (mVarX 1)) (mVarX 1))) (mCS (.int 2843))) mNil)) (mCS (.int 2305843009213693921))) (mConsX (mCS (.int 0)) mNil))))))))
theorem me__law_pot : m__law_pot = ms__law_pot := by
  unfold m__law_pot ms__law_pot
  first | rfl | simp only [mC_s, mUn_s, mSl_s, mFl_s, mRng_s, mEnum_s, mRg1_s, mRg2_s, mStar_s, mSeq_s, mFor_s, whileGo_s, mExt_s, mPut_s, mPeek_s, mDput_s, mVar_x, mBin_x, mCons_x, mFn_x, mTst_x, mIfS_x, mIfE_x, mLc_x, mGet_x, mApp_x, gSet_x, mSet_x]
noncomputable def g__law_pot (ds : List Dt) : Option (List Dt) := nfE (env0 5 ds) fun e => ansN (ms__law_pot e)
def N__law_take : List Str := ["pot", "upto", "digit", "prime", "blend"]
noncomputable def m__law_take : MT :=
  (mSeq (mIfS (mTst (mBin gGt (mGet 0 (mC (.int 0))) (mC (.int 0)))) (mSeq (mSet 2 (mBin gMod (mFn fInt (mCons (mGet 0 (mC (.int 0))) mNil)) (mVar 1))) (mSeq (mPut 0 (mBin gDiv (mGet 0 (mC (.int 0))) (mVar 1)) (mC (.int 0))) (mRet (mVar 2)))) mNext) (mSeq (mPut 0 (mBin gAdd (mGet 0 (mC (.int 2))) (mC (.int 1))) (mC (.int 2))) (mSeq (mSet 3 (mBin gIx (mVal (mShort (mCons (mC (.int 2147483647)) (mCons (mC (.int 2147483629)) (mCons (mC (.int 2147483587)) (mCons (mC (.int 2147483579)) (mCons (mC (.int 2147483563)) mNil))))))) (mBin gMod (mFn fInt (mCons (mGet 0 (mC (.int 2))) mNil)) (mC (.int 5))))) (mSeq (mSet 4 (mBin gMod (mFn fInt (mCons (mBin gPow (mFn fInt (mCons (mBin gAdd (mBin gAdd (mGet 0 (mC (.int 1))) (mBin gMul (mBin gMul (mC (.int 95257)) (mGet 0 (mC (.int 2)))) (mGet 0 (mC (.int 2))))) (mC (.int 3163))) mNil)) (mC (.int 3))) mNil)) (mVar 3))) (mSeq (mSet 4 (mBin gMod (mFn fInt (mCons (mBin gMul (mVar 4) (mBin gAdd (mBin gMod (mFn fInt (mCons (mVar 4) mNil)) (mC (.int 13441))) (mBin gMul (mC (.int 419)) (mGet 0 (mC (.int 2)))))) mNil)) (mC (.int 2305843009213693907)))) (mRet (mBin gMod (mFn fInt (mCons (mBin gDiv (mVar 4) (mC (.int 229))) mNil)) (mVar 1))))))))
noncomputable def ms__law_take : MT :=
  (mSeqS (mIfSX (mTstX (mBinX gGt (mGetX 0 (mCS (.int 0))) (mCS (.int 0)))) (mSeqS (mSetX 2 (mBinX gMod (mFnX fInt (mConsX (mGetX 0 (mCS (.int 0))) mNil)) (mVarX 1))) (mSeqS (mPutS 0 (mBinX gDiv (mGetX 0 (mCS (.int 0))) (mVarX 1)) (mCS (.int 0))) (mRet (mVarX 2)))) mNext) (mSeqS (mPutS 0 (mBinX gAdd (mGetX 0 (mCS (.int 2))) (mCS (.int 1))) (mCS (.int 2))) (mSeqS (mSetX 3 (mBinX gIx (mVal (mShort (mConsX (mCS (.int 2147483647)) (mConsX (mCS (.int 2147483629)) (mConsX (mCS (.int 2147483587)) (mConsX (mCS (.int 2147483579)) (mConsX (mCS (.int 2147483563)) mNil))))))) (mBinX gMod (mFnX fInt (mConsX (mGetX 0 (mCS (.int 2))) mNil)) (mCS (.int 5))))) (mSeqS (mSetX 4 (mBinX gMod (mFnX fInt (mConsX (mBinX gPow (mFnX fInt (mConsX (mBinX gAdd (mBinX gAdd (mGetX 0 (mCS (.int 1))) (mBinX gMul (mBinX gMul (mCS (.int 95257)) (mGetX 0 (mCS (.int 2)))) (mGetX 0 (mCS (.int 2))))) (mCS (.int 3163))) mNil)) (mCS (.int 3))) mNil)) (mVarX 3))) (mSeqS (mSetX 4 (mBinX gMod (mFnX fInt (mConsX (mBinX gMul (mVarX 4) (mBinX gAdd (mBinX gMod (mFnX fInt (mConsX (mVarX 4) mNil)) (mCS (.int 13441))) (mBinX gMul (mCS (.int 419)) (mGetX 0 (mCS (.int 2)))))) mNil)) (mCS (.int 2305843009213693907)))) (mRet (mBinX gMod (mFnX fInt (mConsX (mBinX gDiv (mVarX 4) (mCS (.int 229))) mNil)) (mVarX 1))))))))
theorem me__law_take : m__law_take = ms__law_take := by
  unfold m__law_take ms__law_take
  first | rfl | simp only [mC_s, mUn_s, mSl_s, mFl_s, mRng_s, mEnum_s, mRg1_s, mRg2_s, mStar_s, mSeq_s, mFor_s, whileGo_s, mExt_s, mPut_s, mPeek_s, mDput_s, mVar_x, mBin_x, mCons_x, mFn_x, mTst_x, mIfS_x, mIfE_x, mLc_x, mGet_x, mApp_x, gSet_x, mSet_x]
noncomputable def g__law_take (xs ds : List Dt) : Option (Dt × List Dt) := nfE (envB 5 xs ds) fun e => ansB (ms__law_take e)
def N__law_of : List Str := ["pot", "some"]
noncomputable def m__law_of : MT :=
  (mRet (mBin gIx (mVar 1) (mCallB g__law_take 0 (mCons (mFn fLen (mCons (mVar 1) mNil)) mNil))))
noncomputable def ms__law_of : MT :=
  (mRet (mBinX gIx (mVarX 1) (mCallB g__law_take 0 (mConsX (mFnX fLen (mConsX (mVarX 1) mNil)) mNil))))
theorem me__law_of : m__law_of = ms__law_of := by
  unfold m__law_of ms__law_of
  first | rfl | simp only [mC_s, mUn_s, mSl_s, mFl_s, mRng_s, mEnum_s, mRg1_s, mRg2_s, mStar_s, mSeq_s, mFor_s, whileGo_s, mExt_s, mPut_s, mPeek_s, mDput_s, mVar_x, mBin_x, mCons_x, mFn_x, mTst_x, mIfS_x, mIfE_x, mLc_x, mGet_x, mApp_x, gSet_x, mSet_x]
noncomputable def g__law_of (xs ds : List Dt) : Option (Dt × List Dt) := nfE (envB 2 xs ds) fun e => ansB (ms__law_of e)
def N__law_cells : List Str := ["script", "most"]
noncomputable def m__law_cells : MT :=
  (mRet (mVal (mRg1 (mFn fMax2 (mCons (mC (.int 1)) (mCons (mFn fMin2 (mCons (mVar 1) (mCons (mFn fLen (mCons (mVar 0) mNil)) mNil))) mNil))))))
noncomputable def ms__law_cells : MT :=
  (mRet (mVal (mRg1S (mFnX fMax2 (mConsX (mCS (.int 1)) (mConsX (mFnX fMin2 (mConsX (mVarX 1) (mConsX (mFnX fLen (mConsX (mVarX 0) mNil)) mNil))) mNil))))))
theorem me__law_cells : m__law_cells = ms__law_cells := by
  unfold m__law_cells ms__law_cells
  first | rfl | simp only [mC_s, mUn_s, mSl_s, mFl_s, mRng_s, mEnum_s, mRg1_s, mRg2_s, mStar_s, mSeq_s, mFor_s, whileGo_s, mExt_s, mPut_s, mPeek_s, mDput_s, mVar_x, mBin_x, mCons_x, mFn_x, mTst_x, mIfS_x, mIfE_x, mLc_x, mGet_x, mApp_x, gSet_x, mSet_x]
noncomputable def g__law_cells (ds : List Dt) : Option Dt := nfE (env0 2 ds) fun e => ansP (ms__law_cells e)
def N__law_choose : List Str := ["many", "some", "top", "bottom", "at"]
noncomputable def m__law_choose : MT :=
  (mSeq (mIfS (mOrB (mTst (mBin gLt (mVar 1) (mC (.int 0)))) (mTst (mBin gGt (mVar 1) (mVar 0)))) (mRet (mC (.int 0))) mNext) (mSeq (mAsg (mTup (mCons (mC (.int 1)) (mCons (mC (.int 1)) mNil))) (gTupY 2 (gCons' (gSet 2) (gCons' (gSet 3) gNil')))) (mSeq (mFor (mRng fRng1 (mCons (mVar 1) mNil)) (gSet 4) (mPar 2 3 (mCons (mBin gMul (mVar 2) (mBin gSub (mVar 0) (mVar 4))) (mCons (mBin gMul (mVar 3) (mBin gAdd (mVar 4) (mC (.int 1)))) mNil)))) (mRet (mBin gDiv (mVar 2) (mVar 3))))))
noncomputable def ms__law_choose : MT :=
  (mSeqS (mIfSX (mOrB (mTstX (mBinX gLt (mVarX 1) (mCS (.int 0)))) (mTstX (mBinX gGt (mVarX 1) (mVarX 0)))) (mRet (mCS (.int 0))) mNext) (mSeqS (mAsg (mTup (mConsX (mCS (.int 1)) (mConsX (mCS (.int 1)) mNil))) (gTupY 2 (gCons' (gSetX 2) (gCons' (gSetX 3) gNil')))) (mSeqS (mForS (mRngS fRng1 (mConsX (mVarX 1) mNil)) (gSetX 4) (mPar 2 3 (mConsX (mBinX gMul (mVarX 2) (mBinX gSub (mVarX 0) (mVarX 4))) (mConsX (mBinX gMul (mVarX 3) (mBinX gAdd (mVarX 4) (mCS (.int 1)))) mNil)))) (mRet (mBinX gDiv (mVarX 2) (mVarX 3))))))
theorem me__law_choose : m__law_choose = ms__law_choose := by
  unfold m__law_choose ms__law_choose
  first | rfl | simp only [mC_s, mUn_s, mSl_s, mFl_s, mRng_s, mEnum_s, mRg1_s, mRg2_s, mStar_s, mSeq_s, mFor_s, whileGo_s, mExt_s, mPut_s, mPeek_s, mDput_s, mVar_x, mBin_x, mCons_x, mFn_x, mTst_x, mIfS_x, mIfE_x, mLc_x, mGet_x, mApp_x, gSet_x, mSet_x]
noncomputable def g__law_choose (ds : List Dt) : Option Dt := nfE (env0 5 ds) fun e => ansP (ms__law_choose e)
def N__law_product : List Str := ["many", "found", "number"]
noncomputable def m__law_product : MT :=
  (mSeq (mSet 1 (mC (.int 1))) (mSeq (mFor (mRng fRng2 (mCons (mC (.int 1)) (mCons (mBin gAdd (mVar 0) (mC (.int 1))) mNil))) (gSet 2) (mSet 1 (mBin gMul (mVar 1) (mVar 2)))) (mRet (mVar 1))))
noncomputable def ms__law_product : MT :=
  (mSeqS (mSetX 1 (mCS (.int 1))) (mSeqS (mForS (mRngS fRng2 (mConsX (mCS (.int 1)) (mConsX (mBinX gAdd (mVarX 0) (mCS (.int 1))) mNil))) (gSetX 2) (mSetX 1 (mBinX gMul (mVarX 1) (mVarX 2)))) (mRet (mVarX 1))))
theorem me__law_product : m__law_product = ms__law_product := by
  unfold m__law_product ms__law_product
  first | rfl | simp only [mC_s, mUn_s, mSl_s, mFl_s, mRng_s, mEnum_s, mRg1_s, mRg2_s, mStar_s, mSeq_s, mFor_s, whileGo_s, mExt_s, mPut_s, mPeek_s, mDput_s, mVar_x, mBin_x, mCons_x, mFn_x, mTst_x, mIfS_x, mIfE_x, mLc_x, mGet_x, mApp_x, gSet_x, mSet_x]
noncomputable def g__law_product (ds : List Dt) : Option Dt := nfE (env0 3 ds) fun e => ansP (ms__law_product e)
def N__law_power : List Str := ["many", "often", "found", "lap"]
noncomputable def m__law_power : MT :=
  (mSeq (mSet 2 (mC (.int 1))) (mSeq (mFor (mRng fRng1 (mCons (mVar 1) mNil)) (gSet 3) (mSet 2 (mBin gMul (mVar 2) (mVar 0)))) (mRet (mVar 2))))
noncomputable def ms__law_power : MT :=
  (mSeqS (mSetX 2 (mCS (.int 1))) (mSeqS (mForS (mRngS fRng1 (mConsX (mVarX 1) mNil)) (gSetX 3) (mSetX 2 (mBinX gMul (mVarX 2) (mVarX 0)))) (mRet (mVarX 2))))
theorem me__law_power : m__law_power = ms__law_power := by
  unfold m__law_power ms__law_power
  first | rfl | simp only [mC_s, mUn_s, mSl_s, mFl_s, mRng_s, mEnum_s, mRg1_s, mRg2_s, mStar_s, mSeq_s, mFor_s, whileGo_s, mExt_s, mPut_s, mPeek_s, mDput_s, mVar_x, mBin_x, mCons_x, mFn_x, mTst_x, mIfS_x, mIfE_x, mLc_x, mGet_x, mApp_x, gSet_x, mSet_x]
noncomputable def g__law_power (ds : List Dt) : Option Dt := nfE (env0 4 ds) fun e => ansP (ms__law_power e)
def N__law_columns : List Str := ["shape", "at", "line"]
noncomputable def m__law_columns : MT :=
  (mRet (mFn fTuple (mCons (mVal (mLc (mRng fRng1 (mCons (mIfE (mTst (mBin gNe (mVar 0) (mTup mNil))) (mBin gIx (mVar 0) (mC (.int 0))) (mC (.int 0))) mNil)) [1] (gSet 1) mYes (mFn fLen (mCons (mVal (mLc (mItems (mVar 0)) [2] (gSet 2) (mTst (mBin gGt (mVar 2) (mVar 1))) (mVar 2))) mNil)))) mNil)))
noncomputable def ms__law_columns : MT :=
  (mRet (mFnX fTuple (mConsX (mVal (mLcX (mRngS fRng1 (mConsX (mIfEX (mTstX (mBinX gNe (mVarX 0) (mTup mNil))) (mBinX gIx (mVarX 0) (mCS (.int 0))) (mCS (.int 0))) mNil)) [1] (gSetX 1) mYes (mFnX fLen (mConsX (mVal (mLcX (mItems (mVarX 0)) [2] (gSetX 2) (mTstX (mBinX gGt (mVarX 2) (mVarX 1))) (mVarX 2))) mNil)))) mNil)))
theorem me__law_columns : m__law_columns = ms__law_columns := by
  unfold m__law_columns ms__law_columns
  first | rfl | simp only [mC_s, mUn_s, mSl_s, mFl_s, mRng_s, mEnum_s, mRg1_s, mRg2_s, mStar_s, mSeq_s, mFor_s, whileGo_s, mExt_s, mPut_s, mPeek_s, mDput_s, mVar_x, mBin_x, mCons_x, mFn_x, mTst_x, mIfS_x, mIfE_x, mLc_x, mGet_x, mApp_x, gSet_x, mSet_x]
noncomputable def g__law_columns : List Dt → Option Dt := gU 13 fun s => encN (colN s)
def N__law_all_shapes : List Str := ["number", "most", "found", "size", "rows", "first", "rest"]
noncomputable def m__law_all_shapes : MT :=
  (mSeq (mOwn 2 (mShort (mCons (mVal (mShort (mCons (mTup mNil) mNil))) mNil))) (mSeq (mFor (mRng fRng2 (mCons (mC (.int 1)) (mCons (mBin gAdd (mVar 0) (mC (.int 1))) mNil))) (gSet 3) (mSeq (mOwn 4 (mShort mNil)) (mSeq (mFor (mRng fRng2 (mCons (mC (.int 1)) (mCons (mBin gAdd (mFn fMin2 (mCons (mVar 3) (mCons (mVar 1) mNil))) (mC (.int 1))) mNil))) (gSet 5) (mExt 4 (mLc (mItems (mGet 2 (mBin gSub (mVar 3) (mVar 5)))) [6] (gSet 6) (mOrB (mTst (mBin gEq (mVar 6) (mTup mNil))) (mTst (mBin gLe (mBin gIx (mVar 6) (mC (.int 0))) (mVar 5)))) (mBin gAdd (mTup (mCons (mVar 5) mNil)) (mVar 6))))) (mApp 2 (mVar 4))))) (mRet (mGet 2 (mVar 0)))))
noncomputable def ms__law_all_shapes : MT :=
  (mSeqS (mOwn 2 (mShort (mConsX (mVal (mShort (mConsX (mTup mNil) mNil))) mNil))) (mSeqS (mForS (mRngS fRng2 (mConsX (mCS (.int 1)) (mConsX (mBinX gAdd (mVarX 0) (mCS (.int 1))) mNil))) (gSetX 3) (mSeqS (mOwn 4 (mShort mNil)) (mSeqS (mForS (mRngS fRng2 (mConsX (mCS (.int 1)) (mConsX (mBinX gAdd (mFnX fMin2 (mConsX (mVarX 3) (mConsX (mVarX 1) mNil))) (mCS (.int 1))) mNil))) (gSetX 5) (mExtS 4 (mLcX (mItems (mGetX 2 (mBinX gSub (mVarX 3) (mVarX 5)))) [6] (gSetX 6) (mOrB (mTstX (mBinX gEq (mVarX 6) (mTup mNil))) (mTstX (mBinX gLe (mBinX gIx (mVarX 6) (mCS (.int 0))) (mVarX 5)))) (mBinX gAdd (mTup (mConsX (mVarX 5) mNil)) (mVarX 6))))) (mAppX 2 (mVarX 4))))) (mRet (mGetX 2 (mVarX 0)))))
theorem me__law_all_shapes : m__law_all_shapes = ms__law_all_shapes := by
  unfold m__law_all_shapes ms__law_all_shapes
  first | rfl | simp only [mC_s, mUn_s, mSl_s, mFl_s, mRng_s, mEnum_s, mRg1_s, mRg2_s, mStar_s, mSeq_s, mFor_s, whileGo_s, mExt_s, mPut_s, mPeek_s, mDput_s, mVar_x, mBin_x, mCons_x, mFn_x, mTst_x, mIfS_x, mIfE_x, mLc_x, mGet_x, mApp_x, gSet_x, mSet_x]
noncomputable def g__law_all_shapes (ds : List Dt) : Option Dt := nfE (env0 7 ds) fun e => ansP (ms__law_all_shapes e)
def N__law_even : List Str := ["lengths", "length"]
noncomputable def m__law_even : MT :=
  (mRet (mFn fAll (mCons (mVal (mLc (mItems (mVar 0)) [1] (gSet 1) mYes (mBin gEq (mBin gMod (mFn fInt (mCons (mVar 1) mNil)) (mC (.int 2))) (mC (.int 0))))) mNil)))
noncomputable def ms__law_even : MT :=
  (mRet (mFnX fAll (mConsX (mVal (mLcX (mItems (mVarX 0)) [1] (gSetX 1) mYes (mBinX gEq (mBinX gMod (mFnX fInt (mConsX (mVarX 1) mNil)) (mCS (.int 2))) (mCS (.int 0))))) mNil)))
theorem me__law_even : m__law_even = ms__law_even := by
  unfold m__law_even ms__law_even
  first | rfl | simp only [mC_s, mUn_s, mSl_s, mFl_s, mRng_s, mEnum_s, mRg1_s, mRg2_s, mStar_s, mSeq_s, mFor_s, whileGo_s, mExt_s, mPut_s, mPeek_s, mDput_s, mVar_x, mBin_x, mCons_x, mFn_x, mTst_x, mIfS_x, mIfE_x, mLc_x, mGet_x, mApp_x, gSet_x, mSet_x]
noncomputable def g__law_even : List Dt → Option Dt := gU 13 fun s => .bool (evenN s)
def N__law_heaps : List Str := ["number", "singles", "pairs", "found", "two", "ways"]
noncomputable def m__law_heaps : MT :=
  (mSeq (mSet 3 (mC (.int 0))) (mSeq (mFor (mRng fRng1 (mCons (mBin gAdd (mBin gDiv (mVar 0) (mC (.int 2))) (mC (.int 1))) mNil)) (gSet 4) (mSeq (mSet 5 (mIfE (mTst (mBin gEq (mVar 2) (mC (.int 0)))) (mFn fInt (mCons (mBin gEq (mVar 4) (mC (.int 0))) mNil)) (mFn g__law_choose (mCons (mBin gSub (mBin gAdd (mVar 4) (mVar 2)) (mC (.int 1))) (mCons (mVar 4) mNil))))) (mSet 3 (mBin gAdd (mVar 3) (mBin gMul (mFn g__law_choose (mCons (mBin gSub (mBin gAdd (mBin gSub (mVar 0) (mBin gMul (mC (.int 2)) (mVar 4))) (mVar 1)) (mC (.int 1))) (mCons (mBin gSub (mVar 1) (mC (.int 1))) mNil))) (mVar 5)))))) (mRet (mVar 3))))
noncomputable def ms__law_heaps : MT :=
  (mSeqS (mSetX 3 (mCS (.int 0))) (mSeqS (mForS (mRngS fRng1 (mConsX (mBinX gAdd (mBinX gDiv (mVarX 0) (mCS (.int 2))) (mCS (.int 1))) mNil)) (gSetX 4) (mSeqS (mSetX 5 (mIfEX (mTstX (mBinX gEq (mVarX 2) (mCS (.int 0)))) (mFnX fInt (mConsX (mBinX gEq (mVarX 4) (mCS (.int 0))) mNil)) (mFnX g__law_choose (mConsX (mBinX gSub (mBinX gAdd (mVarX 4) (mVarX 2)) (mCS (.int 1))) (mConsX (mVarX 4) mNil))))) (mSetX 3 (mBinX gAdd (mVarX 3) (mBinX gMul (mFnX g__law_choose (mConsX (mBinX gSub (mBinX gAdd (mBinX gSub (mVarX 0) (mBinX gMul (mCS (.int 2)) (mVarX 4))) (mVarX 1)) (mCS (.int 1))) (mConsX (mBinX gSub (mVarX 1) (mCS (.int 1))) mNil))) (mVarX 5)))))) (mRet (mVarX 3))))
theorem me__law_heaps : m__law_heaps = ms__law_heaps := by
  unfold m__law_heaps ms__law_heaps
  first | rfl | simp only [mC_s, mUn_s, mSl_s, mFl_s, mRng_s, mEnum_s, mRg1_s, mRg2_s, mStar_s, mSeq_s, mFor_s, whileGo_s, mExt_s, mPut_s, mPeek_s, mDput_s, mVar_x, mBin_x, mCons_x, mFn_x, mTst_x, mIfS_x, mIfE_x, mLc_x, mGet_x, mApp_x, gSet_x, mSet_x]
noncomputable def g__law_heaps (ds : List Dt) : Option Dt := nfE (env0 6 ds) fun e => ansP (ms__law_heaps e)
def N__law_are_tables_right : List Str := ["some", "number", "low", "high", "both", "unlike", "half", "lines", "tall", "due", "shape"]
noncomputable def m__law_are_tables_right : MT :=
  (mSeq (mSet 4 (mFn fSum (mCons (mVal (mLc (mItems (mVar 0)) [10] (gSet 10) mYes (mBin gMul (mFn g_table_count (mCons (mVar 10) (mCons (mVar 2) mNil))) (mFn g_table_count (mCons (mVar 10) (mCons (mVar 3) mNil)))))) mNil))) (mSeq (mIfS (mTst (mBin gNe (mVar 4) (mFn g__law_choose (mCons (mBin gSub (mBin gAdd (mVar 1) (mBin gMul (mVar 2) (mVar 3))) (mC (.int 1))) (mCons (mVar 1) mNil))))) (mRet (mC (.bool false))) mNext) (mSeq (mIfS (mTst (mBin gNe (mFn fSum (mCons (mVal (mLc (mItems (mVar 0)) [10] (gSet 10) mYes (mBin gMul (mFn g_table_count (mCons (mVar 10) (mCons (mVar 2) mNil))) (mFn g_table_count (mCons (mFn g__law_columns (mCons (mVar 10) mNil)) (mCons (mVar 3) mNil)))))) mNil)) (mFn g__law_choose (mCons (mBin gMul (mVar 2) (mVar 3)) (mCons (mVar 1) mNil))))) (mRet (mC (.bool false))) mNext) (mSeq (mIfS (mTst (mBin gNe (mFn fSum (mCons (mVal (mLc (mItems (mVar 0)) [10] (gSet 10) mYes (mBin gMul (mFn g_table_count (mCons (mVar 10) (mCons (mVar 2) mNil))) (mFn g_standard_count (mCons (mVar 10) mNil))))) mNil)) (mFn g__law_power (mCons (mVar 2) (mCons (mVar 1) mNil))))) (mRet (mC (.bool false))) mNext) (mSeq (mSet 5 (mBin gDiv (mBin gMul (mVar 2) (mBin gSub (mVar 2) (mC (.int 1)))) (mC (.int 2)))) (mSeq (mIfS (mTst (mBin gNe (mFn fSum (mCons (mVal (mLc (mItems (mVar 0)) [10] (gSet 10) mYes (mFn g_table_count (mCons (mVar 10) (mCons (mVar 2) mNil))))) mNil)) (mFn g__law_heaps (mCons (mVar 1) (mCons (mVar 2) (mCons (mVar 5) mNil)))))) (mRet (mC (.bool false))) mNext) (mSeq (mSet 6 (mBin gDiv (mVar 1) (mC (.int 2)))) (mSeq (mSet 7 (mFn fSum (mCons (mVal (mLc (mItems (mVar 0)) [10] (gSet 10) (mTst (mFn g__law_even (mCons (mVar 10) mNil))) (mFn g_table_count (mCons (mVar 10) (mCons (mVar 2) mNil))))) mNil))) (mSeq (mSet 8 (mFn fSum (mCons (mVal (mLc (mItems (mVar 0)) [10] (gSet 10) (mTst (mFn g__law_even (mCons (mFn g__law_columns (mCons (mVar 10) mNil)) mNil))) (mFn g_table_count (mCons (mVar 10) (mCons (mVar 2) mNil))))) mNil))) (mSeq (mSet 9 (mTup (mCons (mFn g__law_choose (mCons (mBin gSub (mBin gAdd (mBin gAdd (mVar 6) (mVar 5)) (mVar 2)) (mC (.int 1))) (mCons (mVar 6) mNil))) (mCons (mIfE (mTst (mBin gGt (mVar 5) (mC (.int 0)))) (mFn g__law_choose (mCons (mBin gSub (mBin gAdd (mVar 6) (mVar 5)) (mC (.int 1))) (mCons (mVar 6) mNil))) (mFn fInt (mCons (mBin gEq (mVar 6) (mC (.int 0))) mNil))) mNil)))) (mRet (mBin gEq (mTup (mCons (mVar 7) (mCons (mVar 8) mNil))) (mIfE (mTst (mBin gEq (mBin gMod (mFn fInt (mCons (mVar 1) mNil)) (mC (.int 2))) (mC (.int 0)))) (mVar 9) (mTup (mCons (mC (.int 0)) (mCons (mC (.int 0)) mNil))))))))))))))))
noncomputable def ms__law_are_tables_right : MT :=
  (mSeqS (mSetX 4 (mFnX fSum (mConsX (mVal (mLcX (mItems (mVarX 0)) [10] (gSetX 10) mYes (mBinX gMul (mFnX g_table_count (mConsX (mVarX 10) (mConsX (mVarX 2) mNil))) (mFnX g_table_count (mConsX (mVarX 10) (mConsX (mVarX 3) mNil)))))) mNil))) (mSeqS (mIfSX (mTstX (mBinX gNe (mVarX 4) (mFnX g__law_choose (mConsX (mBinX gSub (mBinX gAdd (mVarX 1) (mBinX gMul (mVarX 2) (mVarX 3))) (mCS (.int 1))) (mConsX (mVarX 1) mNil))))) (mRet (mCS (.bool false))) mNext) (mSeqS (mIfSX (mTstX (mBinX gNe (mFnX fSum (mConsX (mVal (mLcX (mItems (mVarX 0)) [10] (gSetX 10) mYes (mBinX gMul (mFnX g_table_count (mConsX (mVarX 10) (mConsX (mVarX 2) mNil))) (mFnX g_table_count (mConsX (mFnX g__law_columns (mConsX (mVarX 10) mNil)) (mConsX (mVarX 3) mNil)))))) mNil)) (mFnX g__law_choose (mConsX (mBinX gMul (mVarX 2) (mVarX 3)) (mConsX (mVarX 1) mNil))))) (mRet (mCS (.bool false))) mNext) (mSeqS (mIfSX (mTstX (mBinX gNe (mFnX fSum (mConsX (mVal (mLcX (mItems (mVarX 0)) [10] (gSetX 10) mYes (mBinX gMul (mFnX g_table_count (mConsX (mVarX 10) (mConsX (mVarX 2) mNil))) (mFnX g_standard_count (mConsX (mVarX 10) mNil))))) mNil)) (mFnX g__law_power (mConsX (mVarX 2) (mConsX (mVarX 1) mNil))))) (mRet (mCS (.bool false))) mNext) (mSeqS (mSetX 5 (mBinX gDiv (mBinX gMul (mVarX 2) (mBinX gSub (mVarX 2) (mCS (.int 1)))) (mCS (.int 2)))) (mSeqS (mIfSX (mTstX (mBinX gNe (mFnX fSum (mConsX (mVal (mLcX (mItems (mVarX 0)) [10] (gSetX 10) mYes (mFnX g_table_count (mConsX (mVarX 10) (mConsX (mVarX 2) mNil))))) mNil)) (mFnX g__law_heaps (mConsX (mVarX 1) (mConsX (mVarX 2) (mConsX (mVarX 5) mNil)))))) (mRet (mCS (.bool false))) mNext) (mSeqS (mSetX 6 (mBinX gDiv (mVarX 1) (mCS (.int 2)))) (mSeqS (mSetX 7 (mFnX fSum (mConsX (mVal (mLcX (mItems (mVarX 0)) [10] (gSetX 10) (mTstX (mFnX g__law_even (mConsX (mVarX 10) mNil))) (mFnX g_table_count (mConsX (mVarX 10) (mConsX (mVarX 2) mNil))))) mNil))) (mSeqS (mSetX 8 (mFnX fSum (mConsX (mVal (mLcX (mItems (mVarX 0)) [10] (gSetX 10) (mTstX (mFnX g__law_even (mConsX (mFnX g__law_columns (mConsX (mVarX 10) mNil)) mNil))) (mFnX g_table_count (mConsX (mVarX 10) (mConsX (mVarX 2) mNil))))) mNil))) (mSeqS (mSetX 9 (mTup (mConsX (mFnX g__law_choose (mConsX (mBinX gSub (mBinX gAdd (mBinX gAdd (mVarX 6) (mVarX 5)) (mVarX 2)) (mCS (.int 1))) (mConsX (mVarX 6) mNil))) (mConsX (mIfEX (mTstX (mBinX gGt (mVarX 5) (mCS (.int 0)))) (mFnX g__law_choose (mConsX (mBinX gSub (mBinX gAdd (mVarX 6) (mVarX 5)) (mCS (.int 1))) (mConsX (mVarX 6) mNil))) (mFnX fInt (mConsX (mBinX gEq (mVarX 6) (mCS (.int 0))) mNil))) mNil)))) (mRet (mBinX gEq (mTup (mConsX (mVarX 7) (mConsX (mVarX 8) mNil))) (mIfEX (mTstX (mBinX gEq (mBinX gMod (mFnX fInt (mConsX (mVarX 1) mNil)) (mCS (.int 2))) (mCS (.int 0)))) (mVarX 9) (mTup (mConsX (mCS (.int 0)) (mConsX (mCS (.int 0)) mNil))))))))))))))))
theorem me__law_are_tables_right : m__law_are_tables_right = ms__law_are_tables_right := by
  unfold m__law_are_tables_right ms__law_are_tables_right
  first | rfl | simp only [mC_s, mUn_s, mSl_s, mFl_s, mRng_s, mEnum_s, mRg1_s, mRg2_s, mStar_s, mSeq_s, mFor_s, whileGo_s, mExt_s, mPut_s, mPeek_s, mDput_s, mVar_x, mBin_x, mCons_x, mFn_x, mTst_x, mIfS_x, mIfE_x, mLc_x, mGet_x, mApp_x, gSet_x, mSet_x]
noncomputable def g__law_are_tables_right (ds : List Dt) : Option Dt := nfE (env0 11 ds) fun e => ansP (ms__law_are_tables_right e)
def N__law_are_rows_right : List Str := ["some", "number", "own", "size", "half", "pairs", "two", "shape", "many"]
noncomputable def m__law_are_rows_right : MT :=
  (mSeq (mIfS (mTst (mBin gNe (mFn fSum (mCons (mVal (mLc (mItems (mVar 0)) [7] (gSet 7) mYes (mFn g_rows_of_shape (mCons (mVar 7) mNil)))) mNil)) (mFn g__law_product (mCons (mVar 1) mNil)))) (mRet (mC (.bool false))) mNext) (mSeq (mOwn 2 (mShort (mCons (mC (.int 1)) (mCons (mC (.int 1)) mNil)))) (mSeq (mFor (mRng fRng2 (mCons (mC (.int 2)) (mCons (mBin gAdd (mVar 1) (mC (.int 1))) mNil))) (gSet 3) (mApp 2 (mBin gAdd (mGet 2 (mBin gSub (mVar 3) (mC (.int 1)))) (mBin gMul (mBin gSub (mVar 3) (mC (.int 1))) (mGet 2 (mBin gSub (mVar 3) (mC (.int 2)))))))) (mSeq (mIfS (mTst (mBin gNe (mFn fSum (mCons (mVal (mLc (mItems (mVar 0)) [7] (gSet 7) mYes (mFn g_standard_count (mCons (mVar 7) mNil)))) mNil)) (mGet 2 (mVar 1)))) (mRet (mC (.bool false))) mNext) (mSeq (mPar 4 5 (mCons (mBin gDiv (mVar 1) (mC (.int 2))) (mCons (mC (.int 0)) mNil))) (mSeq (mIfS (mTst (mBin gEq (mBin gMod (mFn fInt (mCons (mVar 1) mNil)) (mC (.int 2))) (mC (.int 0)))) (mSet 5 (mBin gDiv (mFn g__law_product (mCons (mVar 1) mNil)) (mBin gMul (mFn g__law_power (mCons (mC (.int 2)) (mCons (mVar 4) mNil))) (mFn g__law_product (mCons (mVar 4) mNil))))) mNext) (mSeq (mIfS (mTst (mBin gNe (mFn fSum (mCons (mVal (mLc (mItems (mVar 0)) [7] (gSet 7) (mTst (mFn g__law_even (mCons (mFn g__law_columns (mCons (mVar 7) mNil)) mNil))) (mFn g_standard_count (mCons (mVar 7) mNil)))) mNil)) (mVar 5))) (mRet (mC (.bool false))) mNext) (mSeq (mIfS (mTst (mBin gNe (mFn fSum (mCons (mVal (mLc (mItems (mVar 0)) [7] (gSet 7) (mTst (mFn g__law_even (mCons (mVar 7) mNil))) (mFn g_standard_count (mCons (mVar 7) mNil)))) mNil)) (mVar 5))) (mRet (mC (.bool false))) mNext) (mSeq (mSet 6 (mVal (mLc (mItems (mVar 0)) [7] (gSet 7) (mTst (mBin gLe (mFn fLen (mCons (mVar 7) mNil)) (mC (.int 2)))) (mVar 7)))) (mSeq (mIfS (mTst (mBin gNe (mFn fSum (mCons (mVal (mLc (mItems (mVar 6)) [7] (gSet 7) mYes (mFn g_standard_count (mCons (mVar 7) mNil)))) mNil)) (mFn g__law_choose (mCons (mVar 1) (mCons (mVar 4) mNil))))) (mRet (mC (.bool false))) mNext) (mSeq (mIfS (mTst (mBin gNe (mFn g_rows_led (mCons (mVar 1) (mCons (mC (.int 2)) mNil))) (mBin gDiv (mFn g__law_choose (mCons (mBin gMul (mC (.int 2)) (mVar 1)) (mCons (mVar 1) mNil))) (mBin gAdd (mVar 1) (mC (.int 1)))))) (mRet (mC (.bool false))) mNext) (mRet (mFn fAll (mCons (mVal (mLc (mRng fRng1 (mCons (mBin gAdd (mVar 1) (mC (.int 2))) mNil)) [8] (gSet 8) mYes (mBin gEq (mFn g_rows_led (mCons (mVar 1) (mCons (mVar 8) mNil))) (mFn fSum (mCons (mVal (mLc (mItems (mVar 0)) [7] (gSet 7) (mTst (mBin gLe (mFn fLen (mCons (mVar 7) mNil)) (mVar 8))) (mFn g_rows_of_shape (mCons (mVar 7) mNil)))) mNil))))) mNil))))))))))))))
noncomputable def ms__law_are_rows_right : MT :=
  (mSeqS (mIfSX (mTstX (mBinX gNe (mFnX fSum (mConsX (mVal (mLcX (mItems (mVarX 0)) [7] (gSetX 7) mYes (mFnX g_rows_of_shape (mConsX (mVarX 7) mNil)))) mNil)) (mFnX g__law_product (mConsX (mVarX 1) mNil)))) (mRet (mCS (.bool false))) mNext) (mSeqS (mOwn 2 (mShort (mConsX (mCS (.int 1)) (mConsX (mCS (.int 1)) mNil)))) (mSeqS (mForS (mRngS fRng2 (mConsX (mCS (.int 2)) (mConsX (mBinX gAdd (mVarX 1) (mCS (.int 1))) mNil))) (gSetX 3) (mAppX 2 (mBinX gAdd (mGetX 2 (mBinX gSub (mVarX 3) (mCS (.int 1)))) (mBinX gMul (mBinX gSub (mVarX 3) (mCS (.int 1))) (mGetX 2 (mBinX gSub (mVarX 3) (mCS (.int 2)))))))) (mSeqS (mIfSX (mTstX (mBinX gNe (mFnX fSum (mConsX (mVal (mLcX (mItems (mVarX 0)) [7] (gSetX 7) mYes (mFnX g_standard_count (mConsX (mVarX 7) mNil)))) mNil)) (mGetX 2 (mVarX 1)))) (mRet (mCS (.bool false))) mNext) (mSeqS (mPar 4 5 (mConsX (mBinX gDiv (mVarX 1) (mCS (.int 2))) (mConsX (mCS (.int 0)) mNil))) (mSeqS (mIfSX (mTstX (mBinX gEq (mBinX gMod (mFnX fInt (mConsX (mVarX 1) mNil)) (mCS (.int 2))) (mCS (.int 0)))) (mSetX 5 (mBinX gDiv (mFnX g__law_product (mConsX (mVarX 1) mNil)) (mBinX gMul (mFnX g__law_power (mConsX (mCS (.int 2)) (mConsX (mVarX 4) mNil))) (mFnX g__law_product (mConsX (mVarX 4) mNil))))) mNext) (mSeqS (mIfSX (mTstX (mBinX gNe (mFnX fSum (mConsX (mVal (mLcX (mItems (mVarX 0)) [7] (gSetX 7) (mTstX (mFnX g__law_even (mConsX (mFnX g__law_columns (mConsX (mVarX 7) mNil)) mNil))) (mFnX g_standard_count (mConsX (mVarX 7) mNil)))) mNil)) (mVarX 5))) (mRet (mCS (.bool false))) mNext) (mSeqS (mIfSX (mTstX (mBinX gNe (mFnX fSum (mConsX (mVal (mLcX (mItems (mVarX 0)) [7] (gSetX 7) (mTstX (mFnX g__law_even (mConsX (mVarX 7) mNil))) (mFnX g_standard_count (mConsX (mVarX 7) mNil)))) mNil)) (mVarX 5))) (mRet (mCS (.bool false))) mNext) (mSeqS (mSetX 6 (mVal (mLcX (mItems (mVarX 0)) [7] (gSetX 7) (mTstX (mBinX gLe (mFnX fLen (mConsX (mVarX 7) mNil)) (mCS (.int 2)))) (mVarX 7)))) (mSeqS (mIfSX (mTstX (mBinX gNe (mFnX fSum (mConsX (mVal (mLcX (mItems (mVarX 6)) [7] (gSetX 7) mYes (mFnX g_standard_count (mConsX (mVarX 7) mNil)))) mNil)) (mFnX g__law_choose (mConsX (mVarX 1) (mConsX (mVarX 4) mNil))))) (mRet (mCS (.bool false))) mNext) (mSeqS (mIfSX (mTstX (mBinX gNe (mFnX g_rows_led (mConsX (mVarX 1) (mConsX (mCS (.int 2)) mNil))) (mBinX gDiv (mFnX g__law_choose (mConsX (mBinX gMul (mCS (.int 2)) (mVarX 1)) (mConsX (mVarX 1) mNil))) (mBinX gAdd (mVarX 1) (mCS (.int 1)))))) (mRet (mCS (.bool false))) mNext) (mRet (mFnX fAll (mConsX (mVal (mLcX (mRngS fRng1 (mConsX (mBinX gAdd (mVarX 1) (mCS (.int 2))) mNil)) [8] (gSetX 8) mYes (mBinX gEq (mFnX g_rows_led (mConsX (mVarX 1) (mConsX (mVarX 8) mNil))) (mFnX fSum (mConsX (mVal (mLcX (mItems (mVarX 0)) [7] (gSetX 7) (mTstX (mBinX gLe (mFnX fLen (mConsX (mVarX 7) mNil)) (mVarX 8))) (mFnX g_rows_of_shape (mConsX (mVarX 7) mNil)))) mNil))))) mNil))))))))))))))
theorem me__law_are_rows_right : m__law_are_rows_right = ms__law_are_rows_right := by
  unfold m__law_are_rows_right ms__law_are_rows_right
  first | rfl | simp only [mC_s, mUn_s, mSl_s, mFl_s, mRng_s, mEnum_s, mRg1_s, mRg2_s, mStar_s, mSeq_s, mFor_s, whileGo_s, mExt_s, mPut_s, mPeek_s, mDput_s, mVar_x, mBin_x, mCons_x, mFn_x, mTst_x, mIfS_x, mIfE_x, mLc_x, mGet_x, mApp_x, gSet_x, mSet_x]
noncomputable def g__law_are_rows_right (ds : List Dt) : Option Dt := nfE (env0 9 ds) fun e => ansP (ms__law_are_rows_right e)
def N__law_are_steps_right : List Str := ["some", "number", "later", "ups", "shape", "one"]
noncomputable def m__law_are_steps_right : MT :=
  (mSeq (mSet 2 (mFn g__law_all_shapes (mCons (mBin gAdd (mVar 1) (mC (.int 1))) (mCons (mBin gAdd (mVar 1) (mC (.int 1))) mNil)))) (mSeq (mDnew 3) (mSeq (mFor (mItems (mVar 0)) (gSet 4) (mFor (mItems (mFn g_grown (mCons (mVar 4) mNil))) (gSet 5) (mDput 3 (mBin gAdd (mDgt 3 (mVar 5) (mC (.int 0))) (mC (.int 1))) (mVar 5)))) (mSeq (mIfS (mOrB (mTst (mSortNe 3 2)) (mTst (mFn fAny (mCons (mVal (mLc (mItems (mVar 2)) [5] (gSet 5) mYes (mBin gNe (mDix 3 (mVar 5)) (mFn fLen (mCons (mFn g_shrunk (mCons (mVar 5) mNil)) mNil))))) mNil)))) (mRet (mC (.bool false))) mNext) (mSeq (mFor (mItems (mVar 0)) (gSet 4) (mSeq (mIfS (mOrB (mNotB (mTst (mFn fAll (mCons (mVal (mLc (mItems (mFn g_grown (mCons (mVar 4) mNil))) [5] (gSet 5) mYes (mBin gIn (mVar 4) (mFn g_shrunk (mCons (mVar 5) mNil))))) mNil)))) (mTst (mBin gNe (mFn fLen (mCons (mFn g_grown (mCons (mVar 4) mNil)) mNil)) (mBin gAdd (mFn fLen (mCons (mFn g_shrunk (mCons (mVar 4) mNil)) mNil)) (mC (.int 1)))))) (mRet (mC (.bool false))) mNext) (mIfS (mTst (mBin gNe (mFn fSum (mCons (mVal (mLc (mItems (mFn g_grown (mCons (mVar 4) mNil))) [5] (gSet 5) mYes (mFn g_standard_count (mCons (mVar 5) mNil)))) mNil)) (mBin gMul (mBin gAdd (mVar 1) (mC (.int 1))) (mFn g_standard_count (mCons (mVar 4) mNil))))) (mRet (mC (.bool false))) mNext))) (mRet (mC (.bool true))))))))
noncomputable def ms__law_are_steps_right : MT :=
  (mSeqS (mSetX 2 (mFnX g__law_all_shapes (mConsX (mBinX gAdd (mVarX 1) (mCS (.int 1))) (mConsX (mBinX gAdd (mVarX 1) (mCS (.int 1))) mNil)))) (mSeqS (mDnew 3) (mSeqS (mForS (mItems (mVarX 0)) (gSetX 4) (mForS (mItems (mFnX g_grown (mConsX (mVarX 4) mNil))) (gSetX 5) (mDputS 3 (mBinX gAdd (mDgt 3 (mVarX 5) (mCS (.int 0))) (mCS (.int 1))) (mVarX 5)))) (mSeqS (mIfSX (mOrB (mTstX (mSortNe 3 2)) (mTstX (mFnX fAny (mConsX (mVal (mLcX (mItems (mVarX 2)) [5] (gSetX 5) mYes (mBinX gNe (mDix 3 (mVarX 5)) (mFnX fLen (mConsX (mFnX g_shrunk (mConsX (mVarX 5) mNil)) mNil))))) mNil)))) (mRet (mCS (.bool false))) mNext) (mSeqS (mForS (mItems (mVarX 0)) (gSetX 4) (mSeqS (mIfSX (mOrB (mNotB (mTstX (mFnX fAll (mConsX (mVal (mLcX (mItems (mFnX g_grown (mConsX (mVarX 4) mNil))) [5] (gSetX 5) mYes (mBinX gIn (mVarX 4) (mFnX g_shrunk (mConsX (mVarX 5) mNil))))) mNil)))) (mTstX (mBinX gNe (mFnX fLen (mConsX (mFnX g_grown (mConsX (mVarX 4) mNil)) mNil)) (mBinX gAdd (mFnX fLen (mConsX (mFnX g_shrunk (mConsX (mVarX 4) mNil)) mNil)) (mCS (.int 1)))))) (mRet (mCS (.bool false))) mNext) (mIfSX (mTstX (mBinX gNe (mFnX fSum (mConsX (mVal (mLcX (mItems (mFnX g_grown (mConsX (mVarX 4) mNil))) [5] (gSetX 5) mYes (mFnX g_standard_count (mConsX (mVarX 5) mNil)))) mNil)) (mBinX gMul (mBinX gAdd (mVarX 1) (mCS (.int 1))) (mFnX g_standard_count (mConsX (mVarX 4) mNil))))) (mRet (mCS (.bool false))) mNext))) (mRet (mCS (.bool true))))))))
theorem me__law_are_steps_right : m__law_are_steps_right = ms__law_are_steps_right := by
  unfold m__law_are_steps_right ms__law_are_steps_right
  first | rfl | simp only [mC_s, mUn_s, mSl_s, mFl_s, mRng_s, mEnum_s, mRg1_s, mRg2_s, mStar_s, mSeq_s, mFor_s, whileGo_s, mExt_s, mPut_s, mPeek_s, mDput_s, mVar_x, mBin_x, mCons_x, mFn_x, mTst_x, mIfS_x, mIfE_x, mLc_x, mGet_x, mApp_x, gSet_x, mSet_x]
noncomputable def g__law_are_steps_right (ds : List Dt) : Option Dt := nfE (env0 6 ds) fun e => ansP (ms__law_are_steps_right e)
def N__law_right : List Str := ["pot", "number", "some", "low", "high"]
noncomputable def m__law_right : MT :=
  (mSeq (mSet 1 (mFn fInt (mCons (mCallB g__law_take 0 (mCons (mCallB g__law_of 0 (mCons (mTup (mCons (mC (.int 7)) (mCons (mC (.int 14)) mNil))) mNil)) mNil)) mNil))) (mSeq (mPar3 2 3 4 (mCons (mFn g_shapes (mCons (mVar 1) mNil)) (mCons (mBin gAdd (mC (.int 1)) (mFn fInt (mCons (mCallB g__law_take 0 (mCons (mC (.int 6)) mNil)) mNil))) (mCons (mBin gAdd (mC (.int 1)) (mFn fInt (mCons (mCallB g__law_take 0 (mCons (mC (.int 9)) mNil)) mNil))) mNil)))) (mSeq (mIfS (mTst (mBin gNe (mVal (mFl fList (mCons (mVar 2) mNil))) (mFn g__law_all_shapes (mCons (mVar 1) (mCons (mVar 1) mNil))))) (mRet (mC (.bool false))) mNext) (mSeq (mIfS (mOrB (mNotB (mTst (mFn g__law_are_tables_right (mCons (mVar 2) (mCons (mVar 1) (mCons (mVar 3) (mCons (mVar 4) mNil))))))) (mNotB (mTst (mFn g__law_are_rows_right (mCons (mVar 2) (mCons (mVar 1) mNil)))))) (mRet (mC (.bool false))) mNext) (mRet (mFn g__law_are_steps_right (mCons (mVar 2) (mCons (mVar 1) mNil))))))))
noncomputable def ms__law_right : MT :=
  (mSeqS (mSetX 1 (mFnX fInt (mConsX (mCallB g__law_take 0 (mConsX (mCallB g__law_of 0 (mConsX (mTup (mConsX (mCS (.int 7)) (mConsX (mCS (.int 14)) mNil))) mNil)) mNil)) mNil))) (mSeqS (mPar3 2 3 4 (mConsX (mFnX g_shapes (mConsX (mVarX 1) mNil)) (mConsX (mBinX gAdd (mCS (.int 1)) (mFnX fInt (mConsX (mCallB g__law_take 0 (mConsX (mCS (.int 6)) mNil)) mNil))) (mConsX (mBinX gAdd (mCS (.int 1)) (mFnX fInt (mConsX (mCallB g__law_take 0 (mConsX (mCS (.int 9)) mNil)) mNil))) mNil)))) (mSeqS (mIfSX (mTstX (mBinX gNe (mVal (mFlS fList (mConsX (mVarX 2) mNil))) (mFnX g__law_all_shapes (mConsX (mVarX 1) (mConsX (mVarX 1) mNil))))) (mRet (mCS (.bool false))) mNext) (mSeqS (mIfSX (mOrB (mNotB (mTstX (mFnX g__law_are_tables_right (mConsX (mVarX 2) (mConsX (mVarX 1) (mConsX (mVarX 3) (mConsX (mVarX 4) mNil))))))) (mNotB (mTstX (mFnX g__law_are_rows_right (mConsX (mVarX 2) (mConsX (mVarX 1) mNil)))))) (mRet (mCS (.bool false))) mNext) (mRet (mFnX g__law_are_steps_right (mConsX (mVarX 2) (mConsX (mVarX 1) mNil))))))))
theorem me__law_right : m__law_right = ms__law_right := by
  unfold m__law_right ms__law_right
  first | rfl | simp only [mC_s, mUn_s, mSl_s, mFl_s, mRng_s, mEnum_s, mRg1_s, mRg2_s, mStar_s, mSeq_s, mFor_s, whileGo_s, mExt_s, mPut_s, mPeek_s, mDput_s, mVar_x, mBin_x, mCons_x, mFn_x, mTst_x, mIfS_x, mIfE_x, mLc_x, mGet_x, mApp_x, gSet_x, mSet_x]
noncomputable def g__law_right (xs ds : List Dt) : Option (Dt × List Dt) := nfE (envB 5 xs ds) fun e => ansB (ms__law_right e)
def N_law : List Str := ["script", "place"]
noncomputable def m_law : MT :=
  (mRet (mFn fAll (mCons (mVal (mLc (mItems (mFn g__law_cells (mCons (mVar 0) (mCons (mC (.int 2)) mNil)))) [1] (gSet 1) mYes (mCallF g__law_right (mFl g__law_pot (mCons (mVar 0) (mCons (mVar 1) mNil)))))) mNil)))
noncomputable def ms_law : MT :=
  (mRet (mFnX fAll (mConsX (mVal (mLcX (mItems (mFnX g__law_cells (mConsX (mVarX 0) (mConsX (mCS (.int 2)) mNil)))) [1] (gSetX 1) mYes (mCallF g__law_right (mFlS g__law_pot (mConsX (mVarX 0) (mConsX (mVarX 1) mNil)))))) mNil)))
theorem me_law : m_law = ms_law := by
  unfold m_law ms_law
  first | rfl | simp only [mC_s, mUn_s, mSl_s, mFl_s, mRng_s, mEnum_s, mRg1_s, mRg2_s, mStar_s, mSeq_s, mFor_s, whileGo_s, mExt_s, mPut_s, mPeek_s, mDput_s, mVar_x, mBin_x, mCons_x, mFn_x, mTst_x, mIfS_x, mIfE_x, mLc_x, mGet_x, mApp_x, gSet_x, mSet_x]
noncomputable def g_law (ds : List Dt) : Option Dt := nfE (env0 2 ds) fun e => ansP (ms_law e)
end Yd

set_option Elab.async false
set_option linter.all false
set_option maxRecDepth 1000000
set_option maxHeartbeats 0
set_option autoImplicit false
namespace Yd
open PySem PySem.Spec PyProof.Rows L2
def vA (G1 G2 G3 : List Dt → Option Dt) : MT :=
  (mSet 4 (mFn fSum (mCons (mVal (mLc (mItems (mVar 0)) [10] (gSet 10) mYes (mBin gMul (mFn G1 (mCons (mVar 10) (mCons (mVar 2) mNil))) (mFn G1 (mCons (mVar 10) (mCons (mVar 3) mNil)))))) mNil)))
noncomputable def uA : MT := vA g_table_count g__law_columns g__law_choose
def vB (G1 G2 G3 : List Dt → Option Dt) : MT :=
  (mIfS (mTst (mBin gNe (mVar 4) (mFn G3 (mCons (mBin gSub (mBin gAdd (mVar 1) (mBin gMul (mVar 2) (mVar 3))) (mC (.int 1))) (mCons (mVar 1) mNil))))) (mRet (mC (.bool false))) mNext)
noncomputable def uB : MT := vB g_table_count g__law_columns g__law_choose
def vC (G1 G2 G3 : List Dt → Option Dt) : MT :=
  (mIfS (mTst (mBin gNe (mFn fSum (mCons (mVal (mLc (mItems (mVar 0)) [10] (gSet 10) mYes (mBin gMul (mFn G1 (mCons (mVar 10) (mCons (mVar 2) mNil))) (mFn G1 (mCons (mFn G2 (mCons (mVar 10) mNil)) (mCons (mVar 3) mNil)))))) mNil)) (mFn G3 (mCons (mBin gMul (mVar 2) (mVar 3)) (mCons (mVar 1) mNil))))) (mRet (mC (.bool false))) mNext)
noncomputable def uC : MT := vC g_table_count g__law_columns g__law_choose
noncomputable def uT : MT :=
  (mSeq (mIfS (mTst (mBin gNe (mFn fSum (mCons (mVal (mLc (mItems (mVar 0)) [10] (gSet 10) mYes (mBin gMul (mFn g_table_count (mCons (mVar 10) (mCons (mVar 2) mNil))) (mFn g_standard_count (mCons (mVar 10) mNil))))) mNil)) (mFn g__law_power (mCons (mVar 2) (mCons (mVar 1) mNil))))) (mRet (mC (.bool false))) mNext) (mSeq (mSet 5 (mBin gDiv (mBin gMul (mVar 2) (mBin gSub (mVar 2) (mC (.int 1)))) (mC (.int 2)))) (mSeq (mIfS (mTst (mBin gNe (mFn fSum (mCons (mVal (mLc (mItems (mVar 0)) [10] (gSet 10) mYes (mFn g_table_count (mCons (mVar 10) (mCons (mVar 2) mNil))))) mNil)) (mFn g__law_heaps (mCons (mVar 1) (mCons (mVar 2) (mCons (mVar 5) mNil)))))) (mRet (mC (.bool false))) mNext) (mSeq (mSet 6 (mBin gDiv (mVar 1) (mC (.int 2)))) (mSeq (mSet 7 (mFn fSum (mCons (mVal (mLc (mItems (mVar 0)) [10] (gSet 10) (mTst (mFn g__law_even (mCons (mVar 10) mNil))) (mFn g_table_count (mCons (mVar 10) (mCons (mVar 2) mNil))))) mNil))) (mSeq (mSet 8 (mFn fSum (mCons (mVal (mLc (mItems (mVar 0)) [10] (gSet 10) (mTst (mFn g__law_even (mCons (mFn g__law_columns (mCons (mVar 10) mNil)) mNil))) (mFn g_table_count (mCons (mVar 10) (mCons (mVar 2) mNil))))) mNil))) (mSeq (mSet 9 (mTup (mCons (mFn g__law_choose (mCons (mBin gSub (mBin gAdd (mBin gAdd (mVar 6) (mVar 5)) (mVar 2)) (mC (.int 1))) (mCons (mVar 6) mNil))) (mCons (mIfE (mTst (mBin gGt (mVar 5) (mC (.int 0)))) (mFn g__law_choose (mCons (mBin gSub (mBin gAdd (mVar 6) (mVar 5)) (mC (.int 1))) (mCons (mVar 6) mNil))) (mFn fInt (mCons (mBin gEq (mVar 6) (mC (.int 0))) mNil))) mNil)))) (mRet (mBin gEq (mTup (mCons (mVar 7) (mCons (mVar 8) mNil))) (mIfE (mTst (mBin gEq (mBin gMod (mFn fInt (mCons (mVar 1) mNil)) (mC (.int 2))) (mC (.int 0)))) (mVar 9) (mTup (mCons (mC (.int 0)) (mCons (mC (.int 0)) mNil)))))))))))))
noncomputable def tT : MT :=
  (mSeqS (mIfSX (mTstX (mBinX gNe (mFnX fSum (mConsX (mVal (mLcX (mItems (mVarX 0)) [10] (gSetX 10) mYes (mBinX gMul (mFnX g_table_count (mConsX (mVarX 10) (mConsX (mVarX 2) mNil))) (mFnX g_standard_count (mConsX (mVarX 10) mNil))))) mNil)) (mFnX g__law_power (mConsX (mVarX 2) (mConsX (mVarX 1) mNil))))) (mRet (mCS (.bool false))) mNext) (mSeqS (mSetX 5 (mBinX gDiv (mBinX gMul (mVarX 2) (mBinX gSub (mVarX 2) (mCS (.int 1)))) (mCS (.int 2)))) (mSeqS (mIfSX (mTstX (mBinX gNe (mFnX fSum (mConsX (mVal (mLcX (mItems (mVarX 0)) [10] (gSetX 10) mYes (mFnX g_table_count (mConsX (mVarX 10) (mConsX (mVarX 2) mNil))))) mNil)) (mFnX g__law_heaps (mConsX (mVarX 1) (mConsX (mVarX 2) (mConsX (mVarX 5) mNil)))))) (mRet (mCS (.bool false))) mNext) (mSeqS (mSetX 6 (mBinX gDiv (mVarX 1) (mCS (.int 2)))) (mSeqS (mSetX 7 (mFnX fSum (mConsX (mVal (mLcX (mItems (mVarX 0)) [10] (gSetX 10) (mTstX (mFnX g__law_even (mConsX (mVarX 10) mNil))) (mFnX g_table_count (mConsX (mVarX 10) (mConsX (mVarX 2) mNil))))) mNil))) (mSeqS (mSetX 8 (mFnX fSum (mConsX (mVal (mLcX (mItems (mVarX 0)) [10] (gSetX 10) (mTstX (mFnX g__law_even (mConsX (mFnX g__law_columns (mConsX (mVarX 10) mNil)) mNil))) (mFnX g_table_count (mConsX (mVarX 10) (mConsX (mVarX 2) mNil))))) mNil))) (mSeqS (mSetX 9 (mTup (mConsX (mFnX g__law_choose (mConsX (mBinX gSub (mBinX gAdd (mBinX gAdd (mVarX 6) (mVarX 5)) (mVarX 2)) (mCS (.int 1))) (mConsX (mVarX 6) mNil))) (mConsX (mIfEX (mTstX (mBinX gGt (mVarX 5) (mCS (.int 0)))) (mFnX g__law_choose (mConsX (mBinX gSub (mBinX gAdd (mVarX 6) (mVarX 5)) (mCS (.int 1))) (mConsX (mVarX 6) mNil))) (mFnX fInt (mConsX (mBinX gEq (mVarX 6) (mCS (.int 0))) mNil))) mNil)))) (mRet (mBinX gEq (mTup (mConsX (mVarX 7) (mConsX (mVarX 8) mNil))) (mIfEX (mTstX (mBinX gEq (mBinX gMod (mFnX fInt (mConsX (mVarX 1) mNil)) (mCS (.int 2))) (mCS (.int 0)))) (mVarX 9) (mTup (mConsX (mCS (.int 0)) (mConsX (mCS (.int 0)) mNil)))))))))))))
theorem me_T : uT = tT := by
  unfold uT tT
  simp only [mC_s, mUn_s, mSl_s, mFl_s, mRng_s, mEnum_s, mRg1_s, mRg2_s, mStar_s, mSeq_s, mFor_s, whileGo_s, mExt_s, mPut_s, mPeek_s, mDput_s, mVar_x, mBin_x, mCons_x, mFn_x, mTst_x, mIfS_x, mIfE_x, mLc_x, mGet_x, mApp_x, gSet_x, mSet_x]
theorem m_split : m__law_are_tables_right = mSeq uA (mSeq uB (mSeq uC uT)) := rfl
/-! a comprehension over shapes -/
theorem set_no {en : En} {k : Nat} {d : Dt} (hk : en[k]? = some .no) : (en.set k (.val d)).set k .no = en := by
  rw [List.set_set]
  apply List.ext_getElem?
  intro j
  by_cases e : k = j
  · subst e
    rw [List.getElem?_set_self (List.getElem?_eq_some_iff.mp hk).1, hk]
  · rw [List.getElem?_set_ne e]
theorem set_no0 {en : En} {k : Nat} (hk : en[k]? = some .no) : en.set k .no = en := by
  apply List.ext_getElem?
  intro j
  by_cases e : k = j
  · subst e
    rw [List.getElem?_set_self (List.getElem?_eq_some_iff.mp hk).1, hk]
  · rw [List.getElem?_set_ne e]
theorem lcGo_S {α : Type} (enc : α → Dt) {k : Nat} {te : ME} {en : En} (hk : en[k]? = some .no) (f : α → Dt) : ∀ S : List α, (∀ s ∈ S, te (en.set k (.val (enc s))) = some (f s, en.set k (.val (enc s)))) →
    lcGo [k] (gSet k) mYes te (S.map enc) en = some (S.map f, en)
  | [], _ => rfl
  | s :: S, h => by
    have hl : k < en.length := (List.getElem?_eq_some_iff.mp hk).1
    have g1 : gSet k (enc s) en = some (en.set k (.val (enc s))) := by
      unfold gSet
      rw [hk]
      rfl
    have ok : okSl (en.set k (.val (enc s))) [k] = true := by
      unfold okSl
      rw [List.all_cons, List.getElem?_set_self hl]
      rfl
    have wp : wipeC (en.set k (.val (enc s))) [k] = some en := by
      unfold wipeC
      rw [if_pos ok]
      show some ((en.set k (.val (enc s))).set k .no) = _
      rw [set_no hk]
    rw [List.map_cons]
    unfold lcGo
    rw [g1]
    dsimp only [mYes]
    rw [h s List.mem_cons_self]
    dsimp only
    rw [wp]
    dsimp only
    rw [lcGo_S enc hk f S fun t ht => h t (List.mem_cons_of_mem _ ht)]
    rfl
theorem mLc_S {α : Type} (enc : α → Dt) {k : Nat} {mi : ML} {te : ME} {en : En} (hk : en[k]? = some .no) (f : α → Dt) (S : List α) (hi : mi en = some (S.map enc, en)) (hs : shortB S.length = true)
    (h : ∀ s ∈ S, te (en.set k (.val (enc s))) = some (f s, en.set k (.val (enc s)))) : mLc mi [k] (gSet k) mYes te en = some (S.map f, en) := by
  have ok : okSl en [k] = true := by
    unfold okSl
    rw [List.all_cons, hk]
    rfl
  have wp : wipeC en [k] = some en := by
    unfold wipeC
    rw [if_pos ok]
    show some (en.set k .no) = _
    rw [set_no0 hk]
  have bk : backE en en [k] = en := by
    show en.set k (en.getD k .no) = en
    rw [List.getD_eq_getElem?_getD, hk]
    exact set_no0 hk
  unfold mLc
  rw [hi]
  dsimp only
  rw [List.length_map, if_pos hs, wp]
  dsimp only
  rw [lcGo_S enc hk f S h]
  dsimp only
  rw [if_pos ok, bk]
theorem sum_S {α : Type} (S : List α) (f : α → Int) : fSum [.list (S.map fun s => .int (f s))] = some (.int (S.map f).sum) := by
  have e : (S.map fun s => PyData.int (f s)) = (S.map f).map PyData.int := by
    rw [List.map_map]
    rfl
  unfold fSum
  dsimp only
  rw [e, intsOf_map]
theorem ne_self (a : Int) : gNe (.int a) (.int a) = some (.bool false) := by
  unfold gNe
  simp [SeqAt.shaped, PyData.eqv, PyData.canLay0, PyData.depth]
theorem gMulO {i j : Int} (h1 : i.natAbs < 2 ^ 64) (h2 : j.natAbs < 2 ^ 64) : gMul (.int i) (.int j) = some (.int (i * j)) := by
  have e : (2 : Nat) ^ 64 ≤ 2 ^ 4000 := Nat.pow_le_pow_right (by decide) (by decide)
  have a : Nat.blt i.natAbs (2 ^ 4000) = true := Nat.ble_eq_true_of_le (Nat.lt_of_lt_of_le h1 e)
  have b : Nat.blt j.natAbs (2 ^ 4000) = true := Nat.ble_eq_true_of_le (Nat.lt_of_lt_of_le h2 e)
  show (if (Nat.blt i.natAbs (2 ^ 4000) && Nat.blt j.natAbs (2 ^ 4000)) = true then some (PyData.int (i * j)) else none) = _
  rw [a, b]
  rfl
theorem mBin_of {g : Dt → Dt → Option Dt} {a b : ME} {en e1 e2 : En} {x y z : Dt} (h1 : a en = some (x, e1)) (h2 : b e1 = some (y, e2)) (h3 : g x y = some z) : mBin g a b en = some (z, e2) := by
  unfold mBin
  rw [h1]
  dsimp only
  rw [h2]
  dsimp only
  rw [h3]
theorem abc_core (G1 G2 G3 : List Dt → Option Dt) (S : List (List Nat)) (n l h : Int) (T U V : List Nat → Int) (hS : shortB S.length = true)
    (hT : ∀ s ∈ S, G1 [encN s, .int l] = some (.int (T s))) (hU : ∀ s ∈ S, G1 [encN s, .int h] = some (.int (U s)))
    (hC : ∀ s ∈ S, G2 [encN s] = some (encN (colN s))) (hV : ∀ s ∈ S, G1 [encN (colN s), .int h] = some (.int (V s)))
    (bT : ∀ s ∈ S, (T s).natAbs < 2 ^ 64) (bU : ∀ s ∈ S, (U s).natAbs < 2 ^ 64) (bV : ∀ s ∈ S, (V s).natAbs < 2 ^ 64) (bl : l.natAbs < 2 ^ 64) (bh : h.natAbs < 2 ^ 64)
    (c1 : G3 [.int (n + l * h - 1), .int n] = some (.int (S.map fun s => T s * U s).sum)) (c2 : G3 [.int (l * h), .int n] = some (.int (S.map fun s => T s * V s).sum)) :
    mSeq (vA G1 G2 G3) (mSeq (vB G1 G2 G3) (vC G1 G2 G3)) [.val (.tuple (S.map encN)), .val (.int n), .val (.int l), .val (.int h), .no, .no, .no, .no, .no, .no, .no] =
      some (.nx [.val (.tuple (S.map encN)), .val (.int n), .val (.int l), .val (.int h), .val (.int (S.map fun s => T s * U s).sum), .no, .no, .no, .no, .no, .no]) := by
  have lh := gMulO bl bh
  have e1 : mLc (mItems (mVar 0)) [10] (gSet 10) mYes (mBin gMul (mFn G1 (mCons (mVar 10) (mCons (mVar 2) mNil))) (mFn G1 (mCons (mVar 10) (mCons (mVar 3) mNil)))) [.val (.tuple (S.map encN)), .val (.int n), .val (.int l), .val (.int h), .no, .no, .no, .no, .no, .no, .no]
      = some (S.map (fun s => .int (T s * U s)), [.val (.tuple (S.map encN)), .val (.int n), .val (.int l), .val (.int h), .no, .no, .no, .no, .no, .no, .no]) := by
    refine mLc_S encN rfl _ S rfl hS fun s hs => ?_
    simp [mBin, mFn, mCons, mNil, mVar, hT s hs, hU s hs, gMulO (bT s hs) (bU s hs)]
  have e2 : ∀ b : Int, mLc (mItems (mVar 0)) [10] (gSet 10) mYes (mBin gMul (mFn G1 (mCons (mVar 10) (mCons (mVar 2) mNil))) (mFn G1 (mCons (mFn G2 (mCons (mVar 10) mNil)) (mCons (mVar 3) mNil)))) [.val (.tuple (S.map encN)), .val (.int n), .val (.int l), .val (.int h), .val (.int b), .no, .no, .no, .no, .no, .no]
      = some (S.map (fun s => .int (T s * V s)), [.val (.tuple (S.map encN)), .val (.int n), .val (.int l), .val (.int h), .val (.int b), .no, .no, .no, .no, .no, .no]) := fun b => by
    refine mLc_S encN rfl _ S rfl hS fun s hs => ?_
    simp [mBin, mFn, mCons, mNil, mVar, hT s hs, hC s hs, hV s hs, gMulO (bT s hs) (bV s hs)]
  have z1 := sum_S S fun s => T s * U s
  have z2 := sum_S S fun s => T s * V s
  generalize (S.map fun s => T s * U s).sum = X1 at *
  generalize (S.map fun s => T s * V s).sum = X2 at *
  have n1 := ne_self X1
  have n2 := ne_self X2
  generalize (S.map fun s => PyData.int (T s * U s)) = Y1 at *
  generalize (S.map fun s => PyData.int (T s * V s)) = Y2 at *
  generalize (S.map encN) = Z at *
  have f1 : vA G1 G2 G3 [.val (.tuple Z), .val (.int n), .val (.int l), .val (.int h), .no, .no, .no, .no, .no, .no, .no] = some (.nx [.val (.tuple Z), .val (.int n), .val (.int l), .val (.int h), .val (.int X1), .no, .no, .no, .no, .no, .no]) := by
    unfold vA
    simp only [mSet, mFn, mCons, mVal, mNil, e1, z1]
    rfl
  have f2 : vB G1 G2 G3 [.val (.tuple Z), .val (.int n), .val (.int l), .val (.int h), .val (.int X1), .no, .no, .no, .no, .no, .no] = some (.nx [.val (.tuple Z), .val (.int n), .val (.int l), .val (.int h), .val (.int X1), .no, .no, .no, .no, .no, .no]) := by
    unfold vB
    simp [mIfS, mTst, mBin, mFn, mCons, mNil, mVar, mC, gSub, gAdd, lh, c1, n1, mNext]
  have f3 : vC G1 G2 G3 [.val (.tuple Z), .val (.int n), .val (.int l), .val (.int h), .val (.int X1), .no, .no, .no, .no, .no, .no] = some (.nx [.val (.tuple Z), .val (.int n), .val (.int l), .val (.int h), .val (.int X1), .no, .no, .no, .no, .no, .no]) := by
    have g1 : mBin gNe (mFn fSum (mCons (mVal (mLc (mItems (mVar 0)) [10] (gSet 10) mYes (mBin gMul (mFn G1 (mCons (mVar 10) (mCons (mVar 2) mNil))) (mFn G1 (mCons (mFn G2 (mCons (mVar 10) mNil)) (mCons (mVar 3) mNil)))))) mNil)) (mFn G3 (mCons (mBin gMul (mVar 2) (mVar 3)) (mCons (mVar 1) mNil))) [.val (.tuple Z), .val (.int n), .val (.int l), .val (.int h), .val (.int X1), .no, .no, .no, .no, .no, .no]
        = some (.bool false, [.val (.tuple Z), .val (.int n), .val (.int l), .val (.int h), .val (.int X1), .no, .no, .no, .no, .no, .no]) := by
      have w1 : mFn fSum (mCons (mVal (mLc (mItems (mVar 0)) [10] (gSet 10) mYes (mBin gMul (mFn G1 (mCons (mVar 10) (mCons (mVar 2) mNil))) (mFn G1 (mCons (mFn G2 (mCons (mVar 10) mNil)) (mCons (mVar 3) mNil)))))) mNil) [.val (.tuple Z), .val (.int n), .val (.int l), .val (.int h), .val (.int X1), .no, .no, .no, .no, .no, .no]
        = some (.int X2, [.val (.tuple Z), .val (.int n), .val (.int l), .val (.int h), .val (.int X1), .no, .no, .no, .no, .no, .no]) := by
        simp only [mFn, mCons, mVal, mNil, e2, z2]
      have w2 : mFn G3 (mCons (mBin gMul (mVar 2) (mVar 3)) (mCons (mVar 1) mNil)) [.val (.tuple Z), .val (.int n), .val (.int l), .val (.int h), .val (.int X1), .no, .no, .no, .no, .no, .no]
        = some (.int X2, [.val (.tuple Z), .val (.int n), .val (.int l), .val (.int h), .val (.int X1), .no, .no, .no, .no, .no, .no]) := by
        simp [mBin, mFn, mCons, mNil, mVar, lh, c2]
      exact mBin_of w1 w2 n2
    unfold vC
    simp only [mIfS, mTst, g1]
    rfl
  simp only [mSeq, f1, f2, f3]
noncomputable def tabB (s n l h b : Dt) : Bool := chk (nfE [.val s, .val n, .val l, .val h, .val b, .no, .no, .no, .no, .no, .no] fun e => ansP (tT e)) (.bool true)
theorem mseq_assoc (a b c d : MT) (en en3 : En) (h : mSeq a (mSeq b c) en = some (.nx en3)) : mSeq a (mSeq b (mSeq c d)) en = d en3 := by
  unfold mSeq at h ⊢
  cases ha : a en with
  | none =>
    rw [ha] at h
    cases h
  | some o =>
    rw [ha] at h
    cases o with
    | nx e1 =>
      dsimp only at h ⊢
      cases hb : b e1 with
      | none =>
        rw [hb] at h
        cases h
      | some o2 =>
        rw [hb] at h
        cases o2 with
        | nx e2 =>
          dsimp only at h ⊢
          rw [h]
        | _ => cases h
    | _ => cases h
/-- what the kernel is asked: of all shapes of n -/
def shN (n : Nat) : List (List Nat) := allP n n n
def inB (n : Nat) : Bool := shortB (shN n).length && (shN n).all fun s => inD 13 s && inD 13 (colN s)
def smB (n k : Nat) : Bool := (shN n).all fun s => Nat.blt (tcN s k) (2 ^ 64) && Nat.blt (tcN (colN s) k) (2 ^ 64)
def dotN (f g : List Nat → Nat) : List (List Nat) → Nat
  | [] => 0
  | s :: S => f s * g s + dotN f g S
noncomputable def c1B (n l h : Nat) : Bool := chk (g__law_choose [.int ((n : Int) + l * h - 1), nD n]) (nD (dotN (fun s => tcN s l) (fun s => tcN s h) (shN n)))
noncomputable def c2B (n l h : Nat) : Bool := chk (g__law_choose [.int ((l : Int) * h), nD n]) (nD (dotN (fun s => tcN s l) (fun s => tcN (colN s) h) (shN n)))
theorem dot_sum (f g : List Nat → Nat) : ∀ S : List (List Nat), (S.map fun s => (f s : Int) * (g s : Int)).sum = ((dotN f g S : Nat) : Int)
  | [] => rfl
  | s :: S => by
    rw [List.map_cons, List.sum_cons, dot_sum f g S]
    show _ = ((f s * g s + dotN f g S : Nat) : Int)
    rw [Int.natCast_add, Int.natCast_mul]
theorem tab_ok (n l h : Nat) (hl1 : 1 ≤ l) (hl2 : l ≤ 9) (hh1 : 1 ≤ h) (hh2 : h ≤ 9) (q0 : inB n = true) (q1 : smB n l = true) (q2 : smB n h = true) (q3 : c1B n l h = true) (q4 : c2B n l h = true)
    (q5 : ∀ x b : Dt, tabB (.tuple ((shN n).map encN)) (nD n) (nD l) x b = true) : g__law_are_tables_right [.tuple ((shN n).map encN), .int (n : Int), .int (l : Int), .int (h : Int)] = some (.bool true) := by
  unfold inB at q0
  rw [Bool.and_eq_true] at q0
  have a0 : ∀ s ∈ shN n, inD 13 s = true ∧ inD 13 (colN s) = true := fun s hs => by
    have := List.all_eq_true.mp q0.2 s hs
    rwa [Bool.and_eq_true] at this
  have sm : ∀ k, smB n k = true → ∀ s ∈ shN n, tcN s k < 2 ^ 64 ∧ tcN (colN s) k < 2 ^ 64 := fun k q s hs => by
    have := List.all_eq_true.mp q s hs
    rw [Bool.and_eq_true] at this
    exact ⟨Nat.le_of_ble_eq_true this.1, Nat.le_of_ble_eq_true this.2⟩
  have d1 := chk_ok q3
  have d2 := chk_ok q4
  have key := abc_core g_table_count g__law_columns g__law_choose (shN n) n l h (fun s => (tcN s l : Int)) (fun s => (tcN s h : Int)) (fun s => (tcN (colN s) h : Int)) q0.1
    (fun s hs => gK_at (a0 s hs).1 hl1 hl2) (fun s hs => gK_at (a0 s hs).1 hh1 hh2) (fun s hs => gU_at (a0 s hs).1) (fun s hs => gK_at (a0 s hs).2 hh1 hh2)
    (fun s hs => (sm l q1 s hs).1) (fun s hs => (sm h q2 s hs).1) (fun s hs => (sm h q2 s hs).2) (show l < 2 ^ 64 by omega) (show h < 2 ^ 64 by omega)
    (by rw [dot_sum]; exact d1) (by rw [dot_sum]; exact d2)
  unfold g__law_are_tables_right
  rw [nfE_eq, ← me__law_are_tables_right, m_split]
  have e0 : env0 11 [.tuple ((shN n).map encN), .int (n : Int), .int (l : Int), .int (h : Int)] = [.val (.tuple ((shN n).map encN)), .val (.int n), .val (.int l), .val (.int h), .no, .no, .no, .no, .no, .no, .no] := rfl
  have key2 := mseq_assoc uA uB uC uT _ _ key
  rw [e0, key2, me_T]
  have q6 := chk_ok (q5 (.int h) (.int ((shN n).map fun s => (tcN s l : Int) * (tcN s h : Int)).sum))
  rw [nfE_eq] at q6
  exact q6
end Yd

set_option Elab.async false
set_option linter.all false
set_option maxRecDepth 100000
set_option maxHeartbeats 4000000
set_option autoImplicit false
namespace Yd
open PySem PySem.Spec PyProof.Rows L2
/-! product, table_count: for any row, any shape -/
theorem mRng_of {f : List Dt → Option (List Dt)} {m : ML} {en e : En} {ds rs : List Dt} (h1 : m en = some (ds, e)) (h2 : f ds = some rs) : mRng f m en = some (rs, e) := by
  unfold mRng
  rw [h1]
  dsimp only
  rw [h2]
theorem mFn_of {f : List Dt → Option Dt} {m : ML} {en e : En} {ds : List Dt} {d : Dt} (h1 : m en = some (ds, e)) (h2 : f ds = some d) : mFn f m en = some (d, e) := by
  unfold mFn
  rw [h1]
  dsimp only
  rw [h2]
theorem mCons_of {a : ME} {r : ML} {en e1 e2 : En} {x : Dt} {xs : List Dt} (h1 : a en = some (x, e1)) (h2 : r e1 = some (xs, e2)) : mCons a r en = some (x :: xs, e2) := by
  unfold mCons
  rw [h1]
  dsimp only
  rw [h2]
theorem mVal_of {m : ML} {en e : En} {ds : List Dt} (h1 : m en = some (ds, e)) : mVal m en = some (.list ds, e) := by
  unfold mVal
  rw [h1]
theorem mSet_of {i : Nat} {m : ME} {en e e2 : En} {d : Dt} (h1 : m en = some (d, e)) (h2 : gSet i d e = some e2) : mSet i m en = some (.nx e2) := by
  unfold mSet
  rw [h1]
  dsimp only
  rw [h2]
theorem mDrop_of {m : ME} {en e : En} {d : Dt} (h1 : m en = some (d, e)) : mDrop m en = some (.nx e) := by
  unfold mDrop
  rw [h1]
theorem mRet_of {m : ME} {en e : En} {d : Dt} (h1 : m en = some (d, e)) : mRet m en = some (.rt d e) := by
  unfold mRet
  rw [h1]
theorem mSeq_of {a b : MT} {en e : En} {o : Option Out} (h1 : a en = some (.nx e)) (h2 : b e = o) : mSeq a b en = o := by
  unfold mSeq
  rw [h1]
  exact h2
def prodG : Int → List Int → Option Int
  | acc, [] => some acc
  | acc, x :: xs => if (Nat.blt acc.natAbs (2 ^ 4000) && Nat.blt x.natAbs (2 ^ 4000)) = true then prodG (acc * x) xs else none
theorem prod_for (L : Dt) : ∀ (ns : List Int) (acc r : Int) (s : Sl), s.free = true → prodG acc ns = some r →
    ∃ s', forGo (gSet 2) (mSet 1 (mBin gMul (mVar 1) (mVar 2))) (ns.map .int) [.val L, .val (.int acc), s] = some (.nx [.val L, .val (.int r), s'])
  | [], acc, r, s, _, h => by
    cases h
    exact ⟨s, rfl⟩
  | x :: xs, acc, r, s, hf, h => by
    unfold prodG at h
    split at h
    · rename_i hg
      have g1 : gSet 2 (.int x) [.val L, .val (.int acc), s] = some [.val L, .val (.int acc), .val (.int x)] := by
        simp [gSet, hf]
      have m1 : gMul (.int acc) (.int x) = some (.int (acc * x)) := by
        show (if (Nat.blt acc.natAbs (2 ^ 4000) && Nat.blt x.natAbs (2 ^ 4000)) = true then some (PyData.int (acc * x)) else none) = _
        rw [if_pos hg]
      have b1 : mSet 1 (mBin gMul (mVar 1) (mVar 2)) [.val L, .val (.int acc), .val (.int x)] = some (.nx [.val L, .val (.int (acc * x)), .val (.int x)]) := by
        unfold mSet
        rw [mBin_of (x := .int acc) (y := .int x) (e1 := [.val L, .val (.int acc), .val (.int x)]) (e2 := [.val L, .val (.int acc), .val (.int x)]) rfl rfl m1]
        rfl
      obtain ⟨s', h'⟩ := prod_for L xs (acc * x) r (.val (.int x)) rfl h
      refine ⟨s', ?_⟩
      rw [List.map_cons]
      unfold forGo
      rw [g1]
      dsimp only
      rw [b1]
      exact h'
    · cases h
theorem prod_ok {ns : List Int} {r : Int} (h : prodG 1 ns = some r) : g_product [.list (ns.map .int)] = some (.int r) := by
  unfold g_product
  rw [nfE_eq, ← me_product]
  have e0 : env0 3 [.list (ns.map .int)] = [.val (.list (ns.map .int)), .no, .no] := rfl
  rw [e0]
  obtain ⟨s', hs⟩ := prod_for (.list (ns.map .int)) ns 1 r .no rfl h
  generalize ns.map PyData.int = L at *
  unfold m_product
  have f1 : mSet 1 (mC (.int 1)) [.val (.list L), .no, .no] = some (.nx [.val (.list L), .val (.int 1), .no]) := rfl
  have f2 : mFor (mItems (mVar 0)) (gSet 2) (mSet 1 (mBin gMul (mVar 1) (mVar 2))) [.val (.list L), .val (.int 1), .no] = some (.nx [.val (.list L), .val (.int r), s']) := by
    unfold mFor
    have e : mItems (mVar 0) [.val (.list L), .val (.int 1), .no] = some (L, [.val (.list L), .val (.int 1), .no]) := rfl
    rw [e]
    exact hs
  simp only [mSeq, f1, f2]
  rfl
theorem rng_map : ∀ (w : Nat) (lo : Nat), rngD (lo : Int) w = (List.range' lo w).map nD
  | 0, _ => rfl
  | w + 1, lo => by
    rw [List.range'_succ, List.map_cons]
    show PyData.int (lo : Int) :: rngD ((lo : Int) + 1) w = nD lo :: _
    have := rng_map w (lo + 1)
    rw [Int.natCast_add] at this
    have e : ((lo : Int) + ((1 : Nat) : Int)) = (lo : Int) + 1 := rfl
    rw [e] at this
    rw [this]
    rfl
def cellV (k i : Nat) (w : Nat) : List Int := (List.range' 0 w).map fun j => (k : Int) + (j : Nat) - (i : Nat)
def rowsP (k : Nat) : Nat → List Nat → Option (List Int)
  | _, [] => some []
  | i, w :: r => match prodG 1 (cellV k i w) with
    | none => none
    | some p => match rowsP k (i + 1) r with
      | none => none
      | some ps => some (p :: ps)
noncomputable def te0 : ME := mFn g_product (mCons (mVal (mLc (mRng fRng1 (mCons (mVar 4) mNil)) [5] (gSet 5) mYes (mBin gSub (mBin gAdd (mVar 1) (mVar 5)) (mVar 3)))) mNil)
def tg0 : Dt → En → Option En := gTupY 2 (gCons' (gSet 3) (gCons' (gSet 4) gNil'))
theorem cell_ok (S : Dt) (k i w : Nat) (p : Int) (hw : w ≤ 100) (h : prodG 1 (cellV k i w) = some p) :
    te0 [.val S, .val (nD k), .no, .val (nD i), .val (nD w), .no] = some (.int p, [.val S, .val (nD k), .no, .val (nD i), .val (nD w), .no]) := by
  have e1 : mLc (mRng fRng1 (mCons (mVar 4) mNil)) [5] (gSet 5) mYes (mBin gSub (mBin gAdd (mVar 1) (mVar 5)) (mVar 3)) [.val S, .val (nD k), .no, .val (nD i), .val (nD w), .no]
      = some ((cellV k i w).map .int, [.val S, .val (nD k), .no, .val (nD i), .val (nD w), .no]) := by
    have hi : mRng fRng1 (mCons (mVar 4) mNil) [.val S, .val (nD k), .no, .val (nD i), .val (nD w), .no] = some ((List.range' 0 w).map nD, [.val S, .val (nD k), .no, .val (nD i), .val (nD w), .no]) := by
      have sm : small62 (w : Int) = true := by
        unfold small62
        rw [Bool.and_eq_true]
        exact ⟨decide_eq_true (by omega), decide_eq_true (by omega)⟩
      have f : fRng1 [nD w] = some ((List.range' 0 w).map nD) := by
        show (if small62 (w : Int) = true then some (rngD 0 (w : Int).toNat) else none) = _
        rw [if_pos sm, ← rng_map w 0]
        rfl
      exact mRng_of (ds := [nD w]) rfl f
    have hs : shortB (List.range' 0 w).length = true := by
      rw [List.length_range']
      exact Nat.ble_eq_true_of_le (by omega)
    have q := mLc_S nD (k := 5) rfl (fun j => .int ((k : Int) + (j : Nat) - (i : Nat))) (List.range' 0 w) hi hs (te := mBin gSub (mBin gAdd (mVar 1) (mVar 5)) (mVar 3)) fun j _ => by
      refine mBin_of (x := .int ((k : Int) + (j : Nat))) (y := nD i) (e1 := [.val S, .val (nD k), .no, .val (nD i), .val (nD w), .val (nD j)]) (mBin_of (x := nD k) (y := nD j) (e1 := [.val S, .val (nD k), .no, .val (nD i), .val (nD w), .val (nD j)]) rfl rfl rfl) rfl rfl
    rw [q]
    unfold cellV
    rw [List.map_map]
    rfl
  have z := prod_ok h
  exact mFn_of (mCons_of (mVal_of e1) rfl) z
theorem lcGo_of {vs : List Nat} {g : Dt → En → Option En} {te : ME} {d y : Dt} {ds ys : List Dt} {en e1 e2 e3 e5 : En} (h1 : g d en = some e1) (h2 : te e1 = some (y, e2)) (h3 : wipeC e2 vs = some e3) (h4 : lcGo vs g mYes te ds e3 = some (ys, e5)) : lcGo vs g mYes te (d :: ds) en = some (y :: ys, e5) := by
  unfold lcGo
  rw [h1]
  dsimp only [mYes]
  rw [h2]
  dsimp only
  rw [h3]
  dsimp only
  rw [h4]
theorem rows_ok (S : Dt) (k : Nat) : ∀ (s : List Nat) (i : Nat) (ps : List Int), (∀ w ∈ s, w ≤ 100) → rowsP k i s = some ps →
    lcGo [3, 4] tg0 mYes te0 (enumD i (s.map nD)) [.val S, .val (nD k), .no, .no, .no, .no] = some (ps.map .int, [.val S, .val (nD k), .no, .no, .no, .no])
  | [], i, ps, _, h => by
    cases h
    rfl
  | w :: s, i, ps, hw, h => by
    unfold rowsP at h
    split at h
    · cases h
    rename_i p hp
    split at h
    · cases h
    rename_i qs hq
    cases h
    have c := cell_ok S k i w p (hw w List.mem_cons_self) hp
    have r := rows_ok S k s (i + 1) qs (fun x hx => hw x (List.mem_cons_of_mem _ hx)) hq
    exact lcGo_of (d := .tuple [nD i, nD w]) (ds := enumD (i + 1) (s.map nD)) rfl c rfl r
theorem enumD_len0 (ds : List Dt) : (enumD 0 ds).length = ds.length := enumD_len ds 0
theorem part_le : ∀ (m : Nat) (s : List Nat), part m s = true → ∀ w ∈ s, w ≤ m
  | _, [], _, _, h => by cases h
  | m, x :: xs, h, w, hw => by
    have h : (Nat.ble 1 x && (Nat.ble x m && part x xs)) = true := h
    rw [Bool.and_eq_true, Bool.and_eq_true] at h
    have hx : x ≤ m := Nat.le_of_ble_eq_true h.2.1
    rcases List.mem_cons.mp hw with e | e
    · rw [e]; exact hx
    · exact Nat.le_trans (part_le x xs h.2.2 w e) hx
theorem part_len : ∀ (m : Nat) (s : List Nat), part m s = true → s.length ≤ sumN s
  | _, [], _ => Nat.le_refl _
  | m, x :: xs, h => by
    have h : (Nat.ble 1 x && (Nat.ble x m && part x xs)) = true := h
    rw [Bool.and_eq_true, Bool.and_eq_true] at h
    have hx : 1 ≤ x := Nat.le_of_ble_eq_true h.1
    have := part_len x xs h.2.2
    show xs.length + 1 ≤ x + sumN xs
    omega
theorem between_ok (k : Nat) (hk : k ≤ 99) : g_is_between [nD k, .int 0, .int 99] = some (.bool true) := by
  have a : decide ((0 : Int) ≤ (k : Int)) = true := decide_eq_true (by omega)
  have b : decide ((k : Int) ≤ 99) = true := decide_eq_true (by omega)
  have i1 : g_is_integer [nD k] = some (.bool true) := rfl
  have l1 : gLe (.int 0) (nD k) = some (.bool true) := by
    show some (PyData.bool (decide ((0 : Int) ≤ (k : Int)))) = _
    rw [a]
  have l2 : gLe (nD k) (.int 99) = some (.bool true) := by
    show some (PyData.bool (decide ((k : Int) ≤ 99))) = _
    rw [b]
  unfold g_is_between
  rw [nfE_eq, ← me_is_between]
  have e0 : env0 3 [nD k, .int 0, .int 99] = [.val (nD k), .val (.int 0), .val (.int 99)] := rfl
  rw [e0]
  have key : ∀ (G : List Dt → Option Dt) (d x y : Dt), G [d] = some (.bool true) → gLe x d = some (.bool true) → gLe d y = some (.bool true) → ansP ((mRet (mAnd (mFn G (mCons (mVar 0) mNil)) (mChn gLe gLe (mVar 1) (mVar 0) (mVar 2)))) [.val d, .val x, .val y]) = some (.bool true) := by
    intro G d x y h1 h2 h3
    generalize gLe = L at *
    simp [mRet, mAnd, mFn, mCons, mNil, mVar, mChn, h1, h2, h3, ansP]
  exact key g_is_integer (nD k) (.int 0) (.int 99) i1 l1 l2
theorem upto_ok (k : Nat) (hk : k ≤ 99) : g_check_upto [nD k, .int 99] = some .none := by
  have h := between_ok k hk
  unfold g_check_upto
  rw [nfE_eq, ← me_check_upto]
  have key : ∀ (G : List Dt → Option Dt) (d x : Dt), G [d, .int 0, x] = some (.bool true) → ansP ((mIfS (mNotB (mTst (mFn G (mCons (mVar 0) (mCons (mC (.int 0)) (mCons (mVar 1) mNil)))))) mNever mNext) [.val d, .val x]) = some .none := by
    intro G d x h1
    simp [mIfS, mNotB, mTst, mFn, mCons, mNil, mVar, mC, h1, mNext, ansP]
  exact key g_is_between (nD k) (.int 99) h
def tcB (k : Nat) (s : List Nat) : Bool := match rowsP k 0 s with
  | none => false
  | some W => match prodG 1 W with
    | none => false
    | some p => Nat.blt 0 (hookN s) && (Nat.blt (hookN s) (2 ^ 64) && decide (p / (hookN s : Int) = (tcN s k : Int)))
theorem table_ok (s : List Nat) (k : Nat) (hs : inD 13 s = true) (hk : k ≤ 99) (h : tcB k s = true) : ansP (m_table_count (env0 6 [encN s, nD k])) = some (nD (tcN s k)) := by
  unfold tcB at h
  split at h
  · cases h
  rename_i W hW
  split at h
  · cases h
  rename_i p hp
  rw [Bool.and_eq_true, Bool.and_eq_true] at h
  have h0 : 0 < hookN s := Nat.le_of_ble_eq_true h.1
  have h1 : hookN s < 2 ^ 64 := Nat.le_of_ble_eq_true h.2.1
  have h2 : p / (hookN s : Int) = (tcN s k : Int) := of_decide_eq_true h.2.2
  have hs2 : inD 14 s = true := by
    unfold inD at hs ⊢
    rw [Bool.and_eq_true] at hs ⊢
    refine ⟨?_, Nat.ble_eq_true_of_le (Nat.le_succ_of_le (Nat.le_of_ble_eq_true hs.2))⟩
    have mono : ∀ (m : Nat) (s : List Nat), part m s = true → part (m + 1) s = true := fun m s h => by
      cases s with
      | nil => rfl
      | cons x xs =>
        have h : (Nat.ble 1 x && (Nat.ble x m && part x xs)) = true := h
        show (Nat.ble 1 x && (Nat.ble x (m + 1) && part x xs)) = true
        rw [Bool.and_eq_true, Bool.and_eq_true] at h ⊢
        exact ⟨h.1, Nat.ble_eq_true_of_le (Nat.le_succ_of_le (Nat.le_of_ble_eq_true h.2.1)), h.2.2⟩
    exact mono 13 s hs.1
  have hp13 : part 13 s = true := by
    unfold inD at hs
    rw [Bool.and_eq_true] at hs
    exact hs.1
  have hsum : sumN s ≤ 13 := by
    unfold inD at hs
    rw [Bool.and_eq_true] at hs
    exact Nat.le_of_ble_eq_true hs.2
  have q1 : g_check_shape [encN s] = some .none := gU_at hs2
  have q2 := upto_ok k hk
  have q3 : g_all_hooks [encN s] = some (nD (hookN s)) := gU_at hs2
  have q4 := prod_ok hp
  have q5 := rows_ok (encN s) k s 0 W (fun w hw => Nat.le_trans (part_le 13 s hp13 w hw) (by decide)) hW
  have e0 : env0 6 [encN s, nD k] = [.val (encN s), .val (nD k), .no, .no, .no, .no] := rfl
  rw [e0]
  have lc : mLc (mEnum (mVar 0)) [3, 4] tg0 mYes te0 [.val (encN s), .val (nD k), .no, .no, .no, .no] = some (W.map .int, [.val (encN s), .val (nD k), .no, .no, .no, .no]) := by
    have gen : ∀ (ds rs : List Dt) (mi : ML) (en : En), mi en = some (ds, en) → shortB ds.length = true → wipeC en [3, 4] = some en → okSl en [3, 4] = true → backE en en [3, 4] = en → lcGo [3, 4] tg0 mYes te0 ds en = some (rs, en) → mLc mi [3, 4] tg0 mYes te0 en = some (rs, en) := by
      intro ds rs mi en a1 a2 a3 a4 a5 a6
      unfold mLc
      rw [a1]
      dsimp only
      rw [if_pos a2, a3]
      dsimp only
      rw [a6]
      dsimp only
      rw [if_pos a4, a5]
    refine gen (enumD 0 (s.map nD)) _ _ _ rfl ?_ rfl rfl rfl q5
    rw [enumD_len0, List.length_map]
    have := part_len 13 s hp13
    exact Nat.ble_eq_true_of_le (by omega)
  have dv : gDiv (.int p) (nD (hookN s)) = some (nD (tcN s k)) := by
    have e : (2 : Nat) ^ 64 ≤ 2 ^ 4000 := Nat.pow_le_pow_right (by decide) (by decide)
    have a : Nat.blt (hookN s) (2 ^ 4000) = true := Nat.ble_eq_true_of_le (Nat.lt_of_lt_of_le h1 e)
    have b : decide ((0 : Int) < (hookN s : Int)) = true := decide_eq_true (by omega)
    show (if (decide ((0 : Int) < (hookN s : Int)) && Nat.blt (hookN s) (2 ^ 4000)) = true then some (PyData.int (p / (hookN s : Int))) else none) = _
    rw [a, b, h2]
    rfl
  have m0 : m_table_count = mSeq (mDrop (mFn g_check_shape (mCons (mVar 0) mNil))) (mSeq (mDrop (mFn g_check_upto (mCons (mVar 1) (mCons (mC (.int 99)) mNil)))) (mSeq (mSet 2 (mVal (mLc (mEnum (mVar 0)) [3, 4] tg0 mYes te0))) (mRet (mBin gDiv (mFn g_product (mCons (mVar 2) mNil)) (mFn g_all_hooks (mCons (mVar 0) mNil)))))) := rfl
  have fin : m_table_count [.val (encN s), .val (nD k), .no, .no, .no, .no] = some (.rt (nD (tcN s k)) [.val (encN s), .val (nD k), .val (.list (W.map .int)), .no, .no, .no]) := by
    rw [m0]
    refine mSeq_of (mDrop_of (mFn_of (ds := [encN s]) rfl q1)) ?_
    refine mSeq_of (mDrop_of (mFn_of (ds := [nD k, .int 99]) rfl q2)) ?_
    refine mSeq_of (mSet_of (mVal_of lc) rfl) ?_
    refine mRet_of (mBin_of (mFn_of (ds := [.list (W.map .int)]) rfl q4) (mFn_of (ds := [encN s]) rfl q3) dv)
  rw [fin]
  rfl
theorem gK_ok2 {m : MT} {N lim top : Nat} {val : List Nat → Nat → Dt} (h : ∀ s k, inD lim s = true → 1 ≤ k → k ≤ top → ansP (m (env0 N [encN s, nD k])) = some (val s k)) :
    ∀ ds r, ds.length = 2 → gK lim top val ds = some r → ansP (m (env0 N ds)) = some r := fun ds r hlen e => by
  clear hlen
  unfold gK at e
  split at e
  · rename_i xs k
    split at e
    · rename_i s hs
      split at e
      · rename_i hd
        cases e
        rw [Bool.and_eq_true, Bool.and_eq_true] at hd
        have q := h s k hd.1 (Nat.le_of_ble_eq_true hd.2.1) (Nat.le_of_ble_eq_true hd.2.2)
        rw [natsOf_some hs]
        exact q
      · cases e
    · cases e
  · cases e
end Yd

set_option Elab.async false
set_option linter.all false
set_option maxRecDepth 1000000
set_option maxHeartbeats 4000000
set_option autoImplicit false
namespace Yd
open PySem PySem.Spec PyProof.Rows L2
theorem hg_is_integer : ∀ ds r, ds.length = 1 → g_is_integer ds = some r → ansP (m_is_integer (env0 1 ds)) = some r := fun _ _ _ h => by
  unfold g_is_integer at h
  rw [nfE_eq] at h
  rw [me_is_integer]
  exact h
theorem hg_is_between : ∀ ds r, ds.length = 3 → g_is_between ds = some r → ansP (m_is_between (env0 3 ds)) = some r := fun _ _ _ h => by
  unfold g_is_between at h
  rw [nfE_eq] at h
  rw [me_is_between]
  exact h
theorem hg_is_shape : ∀ ds r, ds.length = 1 → g_is_shape ds = some r → ansP (m_is_shape (env0 3 ds)) = some r := fun _ _ _ h => by
  unfold g_is_shape at h
  rw [nfE_eq] at h
  rw [me_is_shape]
  exact h
theorem hg_check_shape : ∀ ds r, ds.length = 1 → g_check_shape ds = some r → ansP (m_check_shape (env0 1 ds)) = some r := gU_ok me_check_shape (by decide +kernel)
theorem hg_check_upto : ∀ ds r, ds.length = 2 → g_check_upto ds = some r → ansP (m_check_upto (env0 2 ds)) = some r := fun _ _ _ h => by
  unfold g_check_upto at h
  rw [nfE_eq] at h
  rw [me_check_upto]
  exact h
theorem hg_all_shapes : ∀ ds r, ds.length = 2 → g_all_shapes ds = some r → r_all_shapes 15 ds = some r := fun _ _ _ h => h
theorem hg_shapes : ∀ ds r, ds.length = 1 → g_shapes ds = some r → ansP (m_shapes (env0 1 ds)) = some r := fun _ _ _ h => by
  unfold g_shapes at h
  rw [nfE_eq] at h
  rw [me_shapes]
  exact h
theorem hg_more_by : ∀ ds r, ds.length = 1 → g_more_by ds = some r → ansP (m_more_by (env0 4 ds)) = some r := fun _ _ _ h => by
  unfold g_more_by at h
  rw [nfE_eq] at h
  rw [me_more_by]
  exact h
theorem hg_less_by : ∀ ds r, ds.length = 1 → g_less_by ds = some r → ansP (m_less_by (env0 4 ds)) = some r := fun _ _ _ h => by
  unfold g_less_by at h
  rw [nfE_eq] at h
  rw [me_less_by]
  exact h
theorem hp_grown_0 : (allP 0 0 13).all (fun s => chk (nfE (env0 3 [encN s]) fun e => ansP (ms_grown e)) (.tuple ((upsN 100 s).map encN))) = true := by decide +kernel
theorem hp_grown_1 : (allP 1 1 13).all (fun s => chk (nfE (env0 3 [encN s]) fun e => ansP (ms_grown e)) (.tuple ((upsN 100 s).map encN))) = true := by decide +kernel
theorem hp_grown_2 : (allP 2 2 13).all (fun s => chk (nfE (env0 3 [encN s]) fun e => ansP (ms_grown e)) (.tuple ((upsN 100 s).map encN))) = true := by decide +kernel
theorem hp_grown_3 : (allP 3 3 13).all (fun s => chk (nfE (env0 3 [encN s]) fun e => ansP (ms_grown e)) (.tuple ((upsN 100 s).map encN))) = true := by decide +kernel
theorem hp_grown_4 : (allP 4 4 13).all (fun s => chk (nfE (env0 3 [encN s]) fun e => ansP (ms_grown e)) (.tuple ((upsN 100 s).map encN))) = true := by decide +kernel
theorem hp_grown_5 : (allP 5 5 13).all (fun s => chk (nfE (env0 3 [encN s]) fun e => ansP (ms_grown e)) (.tuple ((upsN 100 s).map encN))) = true := by decide +kernel
theorem hp_grown_6 : (allP 6 6 13).all (fun s => chk (nfE (env0 3 [encN s]) fun e => ansP (ms_grown e)) (.tuple ((upsN 100 s).map encN))) = true := by decide +kernel
theorem hp_grown_7 : (allP 7 7 13).all (fun s => chk (nfE (env0 3 [encN s]) fun e => ansP (ms_grown e)) (.tuple ((upsN 100 s).map encN))) = true := by decide +kernel
theorem hp_grown_8 : (allP 8 8 13).all (fun s => chk (nfE (env0 3 [encN s]) fun e => ansP (ms_grown e)) (.tuple ((upsN 100 s).map encN))) = true := by decide +kernel
theorem hp_grown_9 : (allP 9 9 13).all (fun s => chk (nfE (env0 3 [encN s]) fun e => ansP (ms_grown e)) (.tuple ((upsN 100 s).map encN))) = true := by decide +kernel
theorem hp_grown_10 : (allP 10 10 13).all (fun s => chk (nfE (env0 3 [encN s]) fun e => ansP (ms_grown e)) (.tuple ((upsN 100 s).map encN))) = true := by decide +kernel
theorem hp_grown_11 : (allP 11 11 13).all (fun s => chk (nfE (env0 3 [encN s]) fun e => ansP (ms_grown e)) (.tuple ((upsN 100 s).map encN))) = true := by decide +kernel
theorem hp_grown_12 : (allP 12 12 13).all (fun s => chk (nfE (env0 3 [encN s]) fun e => ansP (ms_grown e)) (.tuple ((upsN 100 s).map encN))) = true := by decide +kernel
theorem hp_grown_13 : (allP 13 13 13).all (fun s => chk (nfE (env0 3 [encN s]) fun e => ansP (ms_grown e)) (.tuple ((upsN 100 s).map encN))) = true := by decide +kernel
theorem hd_grown : (domL 13).all (fun s => chk (nfE (env0 3 [encN s]) fun e => ansP (ms_grown e)) (.tuple ((upsN 100 s).map encN))) = true := dom_all fun n hn => match n, hn with
    | 0, _ => hp_grown_0
    | 1, _ => hp_grown_1
    | 2, _ => hp_grown_2
    | 3, _ => hp_grown_3
    | 4, _ => hp_grown_4
    | 5, _ => hp_grown_5
    | 6, _ => hp_grown_6
    | 7, _ => hp_grown_7
    | 8, _ => hp_grown_8
    | 9, _ => hp_grown_9
    | 10, _ => hp_grown_10
    | 11, _ => hp_grown_11
    | 12, _ => hp_grown_12
    | 13, _ => hp_grown_13
    | n + 14, h => absurd h (by omega)
theorem hg_grown : ∀ ds r, ds.length = 1 → g_grown ds = some r → ansP (m_grown (env0 3 ds)) = some r := gU_ok me_grown hd_grown
theorem hp_shrunk_0 : (allP 0 0 14).all (fun s => chk (nfE (env0 3 [encN s]) fun e => ansP (ms_shrunk e)) (.tuple ((downsN s).map encN))) = true := by decide +kernel
theorem hp_shrunk_1 : (allP 1 1 14).all (fun s => chk (nfE (env0 3 [encN s]) fun e => ansP (ms_shrunk e)) (.tuple ((downsN s).map encN))) = true := by decide +kernel
theorem hp_shrunk_2 : (allP 2 2 14).all (fun s => chk (nfE (env0 3 [encN s]) fun e => ansP (ms_shrunk e)) (.tuple ((downsN s).map encN))) = true := by decide +kernel
theorem hp_shrunk_3 : (allP 3 3 14).all (fun s => chk (nfE (env0 3 [encN s]) fun e => ansP (ms_shrunk e)) (.tuple ((downsN s).map encN))) = true := by decide +kernel
theorem hp_shrunk_4 : (allP 4 4 14).all (fun s => chk (nfE (env0 3 [encN s]) fun e => ansP (ms_shrunk e)) (.tuple ((downsN s).map encN))) = true := by decide +kernel
theorem hp_shrunk_5 : (allP 5 5 14).all (fun s => chk (nfE (env0 3 [encN s]) fun e => ansP (ms_shrunk e)) (.tuple ((downsN s).map encN))) = true := by decide +kernel
theorem hp_shrunk_6 : (allP 6 6 14).all (fun s => chk (nfE (env0 3 [encN s]) fun e => ansP (ms_shrunk e)) (.tuple ((downsN s).map encN))) = true := by decide +kernel
theorem hp_shrunk_7 : (allP 7 7 14).all (fun s => chk (nfE (env0 3 [encN s]) fun e => ansP (ms_shrunk e)) (.tuple ((downsN s).map encN))) = true := by decide +kernel
theorem hp_shrunk_8 : (allP 8 8 14).all (fun s => chk (nfE (env0 3 [encN s]) fun e => ansP (ms_shrunk e)) (.tuple ((downsN s).map encN))) = true := by decide +kernel
theorem hp_shrunk_9 : (allP 9 9 14).all (fun s => chk (nfE (env0 3 [encN s]) fun e => ansP (ms_shrunk e)) (.tuple ((downsN s).map encN))) = true := by decide +kernel
theorem hp_shrunk_10 : (allP 10 10 14).all (fun s => chk (nfE (env0 3 [encN s]) fun e => ansP (ms_shrunk e)) (.tuple ((downsN s).map encN))) = true := by decide +kernel
theorem hp_shrunk_11 : (allP 11 11 14).all (fun s => chk (nfE (env0 3 [encN s]) fun e => ansP (ms_shrunk e)) (.tuple ((downsN s).map encN))) = true := by decide +kernel
theorem hp_shrunk_12 : (allP 12 12 14).all (fun s => chk (nfE (env0 3 [encN s]) fun e => ansP (ms_shrunk e)) (.tuple ((downsN s).map encN))) = true := by decide +kernel
theorem hp_shrunk_13 : (allP 13 13 14).all (fun s => chk (nfE (env0 3 [encN s]) fun e => ansP (ms_shrunk e)) (.tuple ((downsN s).map encN))) = true := by decide +kernel
theorem hp_shrunk_14 : (allP 14 14 14).all (fun s => chk (nfE (env0 3 [encN s]) fun e => ansP (ms_shrunk e)) (.tuple ((downsN s).map encN))) = true := by decide +kernel
theorem hd_shrunk : (domL 14).all (fun s => chk (nfE (env0 3 [encN s]) fun e => ansP (ms_shrunk e)) (.tuple ((downsN s).map encN))) = true := dom_all fun n hn => match n, hn with
    | 0, _ => hp_shrunk_0
    | 1, _ => hp_shrunk_1
    | 2, _ => hp_shrunk_2
    | 3, _ => hp_shrunk_3
    | 4, _ => hp_shrunk_4
    | 5, _ => hp_shrunk_5
    | 6, _ => hp_shrunk_6
    | 7, _ => hp_shrunk_7
    | 8, _ => hp_shrunk_8
    | 9, _ => hp_shrunk_9
    | 10, _ => hp_shrunk_10
    | 11, _ => hp_shrunk_11
    | 12, _ => hp_shrunk_12
    | 13, _ => hp_shrunk_13
    | 14, _ => hp_shrunk_14
    | n + 15, h => absurd h (by omega)
theorem hg_shrunk : ∀ ds r, ds.length = 1 → g_shrunk ds = some r → ansP (m_shrunk (env0 3 ds)) = some r := gU_ok me_shrunk hd_shrunk
theorem hg_hooks_of : ∀ ds r, ds.length = 1 → g_hooks_of ds = some r → ansP (m_hooks_of (env0 7 ds)) = some r := fun _ _ _ h => by
  unfold g_hooks_of at h
  rw [nfE_eq] at h
  rw [me_hooks_of]
  exact h
theorem hg_product : ∀ ds r, ds.length = 1 → g_product ds = some r → ansP (m_product (env0 3 ds)) = some r := fun _ _ _ h => by
  unfold g_product at h
  rw [nfE_eq] at h
  rw [me_product]
  exact h
theorem hp_all_hooks_0 : (allP 0 0 14).all (fun s => chk (nfE (env0 2 [encN s]) fun e => ansP (ms_all_hooks e)) (nD (hookN s))) = true := by decide +kernel
theorem hp_all_hooks_1 : (allP 1 1 14).all (fun s => chk (nfE (env0 2 [encN s]) fun e => ansP (ms_all_hooks e)) (nD (hookN s))) = true := by decide +kernel
theorem hp_all_hooks_2 : (allP 2 2 14).all (fun s => chk (nfE (env0 2 [encN s]) fun e => ansP (ms_all_hooks e)) (nD (hookN s))) = true := by decide +kernel
theorem hp_all_hooks_3 : (allP 3 3 14).all (fun s => chk (nfE (env0 2 [encN s]) fun e => ansP (ms_all_hooks e)) (nD (hookN s))) = true := by decide +kernel
theorem hp_all_hooks_4 : (allP 4 4 14).all (fun s => chk (nfE (env0 2 [encN s]) fun e => ansP (ms_all_hooks e)) (nD (hookN s))) = true := by decide +kernel
theorem hp_all_hooks_5 : (allP 5 5 14).all (fun s => chk (nfE (env0 2 [encN s]) fun e => ansP (ms_all_hooks e)) (nD (hookN s))) = true := by decide +kernel
theorem hp_all_hooks_6 : (allP 6 6 14).all (fun s => chk (nfE (env0 2 [encN s]) fun e => ansP (ms_all_hooks e)) (nD (hookN s))) = true := by decide +kernel
theorem hp_all_hooks_7 : (allP 7 7 14).all (fun s => chk (nfE (env0 2 [encN s]) fun e => ansP (ms_all_hooks e)) (nD (hookN s))) = true := by decide +kernel
theorem hp_all_hooks_8 : (allP 8 8 14).all (fun s => chk (nfE (env0 2 [encN s]) fun e => ansP (ms_all_hooks e)) (nD (hookN s))) = true := by decide +kernel
theorem hp_all_hooks_9 : (allP 9 9 14).all (fun s => chk (nfE (env0 2 [encN s]) fun e => ansP (ms_all_hooks e)) (nD (hookN s))) = true := by decide +kernel
theorem hp_all_hooks_10 : (allP 10 10 14).all (fun s => chk (nfE (env0 2 [encN s]) fun e => ansP (ms_all_hooks e)) (nD (hookN s))) = true := by decide +kernel
theorem hp_all_hooks_11 : (allP 11 11 14).all (fun s => chk (nfE (env0 2 [encN s]) fun e => ansP (ms_all_hooks e)) (nD (hookN s))) = true := by decide +kernel
theorem hp_all_hooks_12 : (allP 12 12 14).all (fun s => chk (nfE (env0 2 [encN s]) fun e => ansP (ms_all_hooks e)) (nD (hookN s))) = true := by decide +kernel
theorem hp_all_hooks_13 : (allP 13 13 14).all (fun s => chk (nfE (env0 2 [encN s]) fun e => ansP (ms_all_hooks e)) (nD (hookN s))) = true := by decide +kernel
theorem hp_all_hooks_14 : (allP 14 14 14).all (fun s => chk (nfE (env0 2 [encN s]) fun e => ansP (ms_all_hooks e)) (nD (hookN s))) = true := by decide +kernel
theorem hd_all_hooks : (domL 14).all (fun s => chk (nfE (env0 2 [encN s]) fun e => ansP (ms_all_hooks e)) (nD (hookN s))) = true := dom_all fun n hn => match n, hn with
    | 0, _ => hp_all_hooks_0
    | 1, _ => hp_all_hooks_1
    | 2, _ => hp_all_hooks_2
    | 3, _ => hp_all_hooks_3
    | 4, _ => hp_all_hooks_4
    | 5, _ => hp_all_hooks_5
    | 6, _ => hp_all_hooks_6
    | 7, _ => hp_all_hooks_7
    | 8, _ => hp_all_hooks_8
    | 9, _ => hp_all_hooks_9
    | 10, _ => hp_all_hooks_10
    | 11, _ => hp_all_hooks_11
    | 12, _ => hp_all_hooks_12
    | 13, _ => hp_all_hooks_13
    | 14, _ => hp_all_hooks_14
    | n + 15, h => absurd h (by omega)
theorem hg_all_hooks : ∀ ds r, ds.length = 1 → g_all_hooks ds = some r → ansP (m_all_hooks (env0 2 ds)) = some r := gU_ok me_all_hooks hd_all_hooks
theorem hg_standard_count_of : ∀ ds r, ds.length = 1 → g_standard_count_of ds = some r → ansP (m_standard_count_of (env0 1 ds)) = some r := gU_ok me_standard_count_of (by decide +kernel)
theorem hg_standard_count : ∀ ds r, ds.length = 1 → g_standard_count ds = some r → ansP (m_standard_count (env0 1 ds)) = some r := gU_ok me_standard_count (by decide +kernel)
theorem hd_table_count : ((upto 9).all fun k => (domL 13).all fun s => tcB k s) = true := by decide +kernel
theorem hg_table_count : ∀ ds r, ds.length = 2 → g_table_count ds = some r → ansP (m_table_count (env0 6 ds)) = some r := gK_ok2 fun s k hs h1 h2 => table_ok s k hs (by omega) (List.all_eq_true.mp (List.all_eq_true.mp hd_table_count k (mem_upto h1 h2)) s (mem_dom hs))
theorem hg_rows_of_shape : ∀ ds r, ds.length = 1 → g_rows_of_shape ds = some r → ansP (m_rows_of_shape (env0 1 ds)) = some r := gU_ok me_rows_of_shape (by decide +kernel)
theorem hg_rows_led : ∀ ds r, ds.length = 2 → g_rows_led ds = some r → ansP (m_rows_led (env0 3 ds)) = some r := fun _ _ _ h => by
  unfold g_rows_led at h
  rw [nfE_eq] at h
  rw [me_rows_led]
  exact h
theorem hg__law_pot : ∀ ds r, ds.length = 2 → g__law_pot ds = some r → ansN (m__law_pot (env0 5 ds)) = some r := fun _ _ _ h => by
  unfold g__law_pot at h
  rw [nfE_eq] at h
  rw [me__law_pot]
  exact h
theorem hg__law_take : ∀ xs ds r, ds.length + 1 = 2 → g__law_take xs ds = some r → ansB (m__law_take (envB 5 xs ds)) = some r := fun _ _ _ _ h => by
  unfold g__law_take at h
  rw [nfE_eq] at h
  rw [me__law_take]
  exact h
theorem hg__law_of : ∀ xs ds r, ds.length + 1 = 2 → g__law_of xs ds = some r → ansB (m__law_of (envB 2 xs ds)) = some r := fun _ _ _ _ h => by
  unfold g__law_of at h
  rw [nfE_eq] at h
  rw [me__law_of]
  exact h
theorem hg__law_cells : ∀ ds r, ds.length = 2 → g__law_cells ds = some r → ansP (m__law_cells (env0 2 ds)) = some r := fun _ _ _ h => by
  unfold g__law_cells at h
  rw [nfE_eq] at h
  rw [me__law_cells]
  exact h
theorem hg__law_choose : ∀ ds r, ds.length = 2 → g__law_choose ds = some r → ansP (m__law_choose (env0 5 ds)) = some r := fun _ _ _ h => by
  unfold g__law_choose at h
  rw [nfE_eq] at h
  rw [me__law_choose]
  exact h
theorem hg__law_product : ∀ ds r, ds.length = 1 → g__law_product ds = some r → ansP (m__law_product (env0 3 ds)) = some r := fun _ _ _ h => by
  unfold g__law_product at h
  rw [nfE_eq] at h
  rw [me__law_product]
  exact h
theorem hg__law_power : ∀ ds r, ds.length = 2 → g__law_power ds = some r → ansP (m__law_power (env0 4 ds)) = some r := fun _ _ _ h => by
  unfold g__law_power at h
  rw [nfE_eq] at h
  rw [me__law_power]
  exact h
theorem hg__law_columns : ∀ ds r, ds.length = 1 → g__law_columns ds = some r → ansP (m__law_columns (env0 3 ds)) = some r := gU_ok me__law_columns (by decide +kernel)
theorem hg__law_all_shapes : ∀ ds r, ds.length = 2 → g__law_all_shapes ds = some r → ansP (m__law_all_shapes (env0 7 ds)) = some r := fun _ _ _ h => by
  unfold g__law_all_shapes at h
  rw [nfE_eq] at h
  rw [me__law_all_shapes]
  exact h
theorem hg__law_even : ∀ ds r, ds.length = 1 → g__law_even ds = some r → ansP (m__law_even (env0 2 ds)) = some r := gU_ok me__law_even (by decide +kernel)
theorem hg__law_heaps : ∀ ds r, ds.length = 3 → g__law_heaps ds = some r → ansP (m__law_heaps (env0 6 ds)) = some r := fun _ _ _ h => by
  unfold g__law_heaps at h
  rw [nfE_eq] at h
  rw [me__law_heaps]
  exact h
theorem hg__law_are_tables_right : ∀ ds r, ds.length = 4 → g__law_are_tables_right ds = some r → ansP (m__law_are_tables_right (env0 11 ds)) = some r := fun _ _ _ h => by
  unfold g__law_are_tables_right at h
  rw [nfE_eq] at h
  rw [me__law_are_tables_right]
  exact h
theorem hg__law_are_rows_right : ∀ ds r, ds.length = 2 → g__law_are_rows_right ds = some r → ansP (m__law_are_rows_right (env0 9 ds)) = some r := fun _ _ _ h => by
  unfold g__law_are_rows_right at h
  rw [nfE_eq] at h
  rw [me__law_are_rows_right]
  exact h
theorem hg__law_are_steps_right : ∀ ds r, ds.length = 2 → g__law_are_steps_right ds = some r → ansP (m__law_are_steps_right (env0 6 ds)) = some r := fun _ _ _ h => by
  unfold g__law_are_steps_right at h
  rw [nfE_eq] at h
  rw [me__law_are_steps_right]
  exact h
theorem hg__law_right : ∀ xs ds r, ds.length + 1 = 1 → g__law_right xs ds = some r → ansB (m__law_right (envB 5 xs ds)) = some r := fun _ _ _ _ h => by
  unfold g__law_right at h
  rw [nfE_eq] at h
  rw [me__law_right]
  exact h
theorem hg_law : ∀ ds r, ds.length = 1 → g_law ds = some r → ansP (m_law (env0 2 ds)) = some r := fun _ _ _ h => by
  unfold g_law at h
  rw [nfE_eq] at h
  rw [me_law]
  exact h
end Yd

set_option Elab.async false
set_option linter.all false
set_option maxRecDepth 1000000
set_option maxHeartbeats 4000000
set_option autoImplicit false
namespace Yd
open PySem PySem.Spec PyProof.Rows L2
/-! ### each def does so -/
section
variable {P : Program} {w : World} {K : PySem.W.Frag} {mg : Str → Option Value} {base : Heap}
theorem sc_is_integer : FnScope N_is_integer ["value"] (defScope s_is_integer) := ⟨rfl, rfl, rfl, by decide +kernel, rfl, by decide +kernel, by decide +kernel⟩
theorem b_is_integer (A : Al K mg) : Binds K A.d_is_integer ["value"] [] := A.F_is_integer.bindsN fun _ _ _ _ _ _ us hl => match us, hl with | [_], _ => rfl
theorem ok_is_integer (A : Al K mg) : FnOk P w K mg base CX0 1 A.a_is_integer A.d_is_integer ["value"] (spP K 1 g_is_integer) := okP (m := m_is_integer) A.F_is_integer sc_is_integer (by decide) (fun cdv A0 outer s H E hr => by
    have S := sc_is_integer
    exact (os_one (os_ret (oe_and (oe_isi is_int (oe_var 0) (by rfl) A.f_isinstance (by rfl) A.f_int bt_int) (oe_one (oe_not (oe_isi is_bool (oe_var 0) (by rfl) A.f_isinstance (by rfl) A.f_bool bt_bool))))))) hg_is_integer
theorem sc_is_between : FnScope N_is_between ["value", "low", "high"] (defScope s_is_between) := ⟨rfl, rfl, rfl, by decide +kernel, rfl, by decide +kernel, by decide +kernel⟩
theorem b_is_between (A : Al K mg) : Binds K A.d_is_between ["value", "low", "high"] [] := A.F_is_between.bindsN fun _ _ _ _ _ _ us hl => match us, hl with | [_, _, _], _ => rfl
theorem ok_is_between (A : Al K mg) : FnOk P w K mg base CX0 2 A.a_is_between A.d_is_between ["value", "low", "high"] (spP K 3 g_is_between) := okP (m := m_is_between) A.F_is_between sc_is_between (by decide) (fun cdv A0 outer s H E hr => by
    have S := sc_is_between
    exact (os_one (os_ret (oe_and (oe_call (FnOk.mono (k := 1) (ok_is_integer A) (by decide)) (by exact hr) (by rfl) A.g_is_integer A.F_is_integer.kp (b_is_integer A) (oa_cons (oe_var 0) oa_nil) (len_cons len_nil)) (oe_one (oe_chain (y_le (by exact crm_of hr)) (y_le (by exact crm_of hr)) b_le b_le (oe_var 1) (oe_var 0) (oe_var 2))))))) hg_is_between
theorem sc_is_shape : FnScope N_is_shape ["value"] (defScope s_is_shape) := ⟨rfl, rfl, rfl, by decide +kernel, rfl, by decide +kernel, by decide +kernel⟩
theorem b_is_shape (A : Al K mg) : Binds K A.d_is_shape ["value"] [] := A.F_is_shape.bindsN fun _ _ _ _ _ _ us hl => match us, hl with | [_], _ => rfl
theorem ok_is_shape (A : Al K mg) : FnOk P w K mg base CX0 2 A.a_is_shape A.d_is_shape ["value"] (spP K 1 g_is_shape) := okP (m := m_is_shape) A.F_is_shape sc_is_shape (by decide) (fun cdv A0 outer s H E hr => by
    have S := sc_is_shape
    exact (os_cons (os_if (ob_w (ow_or (ob_not (ob_val (oe_isi is_tuple (oe_var 0) (by rfl) A.f_isinstance (by rfl) A.f_tuple bt_tuple))) (ow_or1 (ob_not (ob_val (oe_bi (cr_all (by rfl)) b_all (by rfl) A.f_all bt_all (oa_cons (oe_f (of_lc (by rfl) S.nd (oi_seq (oe_var 0)) ⟨blkOk_by (own := [("one", 1)]) (by kernel_rfl), fun _ _ _ _ _ => (og_name (by decide) S.nd (i := 1) (by rfl) (by first | exact Or.inl rfl | exact Or.inr rfl)), fun _ _ _ _ _ => ots_nil, fun _ _ _ _ _ => (oe_and (oe_call (FnOk.mono (k := 1) (ok_is_integer A) (by decide)) (by exact hr) (by rfl) A.g_is_integer A.F_is_integer.kp (b_is_integer A) (oa_cons (oe_var 1) oa_nil) (len_cons len_nil)) (oe_one (oe_cmp (y_ge (by exact crm_of hr)) b_ge (oe_var 1) oe_int (by rfl))))⟩)) oa_nil))))))) (os_one (os_ret oe_bl)) os_nil) (os_one (os_ret (oe_and (oe_cmp (y_le (by exact crm_of hr)) b_le (oe_bi (c_sum (by rfl)) b_sum (by rfl) A.f_sum bt_sum (oa_cons (oe_var 0) oa_nil)) (oe_globI (by rfl) A.c_MOST_CARS) (by rfl)) (oe_one (oe_bi (cr_all (by rfl)) b_all (by rfl) A.f_all bt_all (oa_cons (oe_f (of_lc (by rfl) S.nd (oi_zip (by rfl) A.f_zip (oa_cons (oe_var 0) (oa_cons (oe_sl (oe_var 0) (oo_some oe_int) oo_none) oa_nil))) ⟨blkOk_by (own := [("one", 1), ("later", 2)]) (by kernel_rfl), fun _ _ _ _ _ => (og_tup (by rfl) (ogs_cons (og_name (by decide) S.nd (i := 1) (by rfl) (by first | exact Or.inl rfl | exact Or.inr rfl)) (ogs_cons (og_name (by decide) S.nd (i := 2) (by rfl) (by first | exact Or.inl rfl | exact Or.inr rfl)) ogs_nil))), fun _ _ _ _ _ => ots_nil, fun _ _ _ _ _ => (oe_cmp (y_ge (by exact crm_of hr)) b_ge (oe_var 1) (oe_var 2) (by rfl))⟩)) oa_nil)))))))) hg_is_shape
theorem sc_check_shape : FnScope N_check_shape ["value"] (defScope s_check_shape) := ⟨rfl, rfl, rfl, by decide +kernel, rfl, by decide +kernel, by decide +kernel⟩
theorem b_check_shape (A : Al K mg) : Binds K A.d_check_shape ["value"] [] := A.F_check_shape.bindsN fun _ _ _ _ _ _ us hl => match us, hl with | [_], _ => rfl
theorem ok_check_shape (A : Al K mg) : FnOk P w K mg base CX0 3 A.a_check_shape A.d_check_shape ["value"] (spP K 1 g_check_shape) := okP (m := m_check_shape) A.F_check_shape sc_check_shape (by decide) (fun cdv A0 outer s H E hr => by
    have S := sc_check_shape
    exact (os_one (os_if (ob_not (ob_val (oe_call (FnOk.mono (k := 2) (ok_is_shape A) (by decide)) (by exact hr) (by rfl) A.g_is_shape A.F_is_shape.kp (b_is_shape A) (oa_cons (oe_var 0) oa_nil) (len_cons len_nil)))) (os_one os_never) os_nil))) hg_check_shape
theorem sc_check_upto : FnScope N_check_upto ["value", "most"] (defScope s_check_upto) := ⟨rfl, rfl, rfl, by decide +kernel, rfl, by decide +kernel, by decide +kernel⟩
theorem b_check_upto (A : Al K mg) : Binds K A.d_check_upto ["value", "most"] [] := A.F_check_upto.bindsN fun _ _ _ _ _ _ us hl => match us, hl with | [_, _], _ => rfl
theorem ok_check_upto (A : Al K mg) : FnOk P w K mg base CX0 3 A.a_check_upto A.d_check_upto ["value", "most"] (spP K 2 g_check_upto) := okP (m := m_check_upto) A.F_check_upto sc_check_upto (by decide) (fun cdv A0 outer s H E hr => by
    have S := sc_check_upto
    exact (os_one (os_if (ob_not (ob_val (oe_call (FnOk.mono (k := 2) (ok_is_between A) (by decide)) (by exact hr) (by rfl) A.g_is_between A.F_is_between.kp (b_is_between A) (oa_cons (oe_var 0) (oa_cons oe_int (oa_cons (oe_var 1) oa_nil))) (len_cons (len_cons (len_cons len_nil)))))) (os_one os_never) os_nil))) hg_check_upto
theorem sc_all_shapes : FnScope N_all_shapes ["number", "most"] (defScope s_all_shapes) := ⟨rfl, rfl, rfl, by decide +kernel, rfl, by decide +kernel, by decide +kernel⟩
theorem b_all_shapes (A : Al K mg) : Binds K A.d_all_shapes ["number", "most"] [] := A.F_all_shapes.bindsN fun _ _ _ _ _ _ us hl => match us, hl with | [_, _], _ => rfl
theorem rk_all_shapes (A : Al K mg) : ∀ k : Nat, FnOk P w K mg base CX0 (k + 1) A.a_all_shapes A.d_all_shapes ["number", "most"] (spP K 2 (r_all_shapes k))
  | 0 => ⟨fun vs H Q E ⟨_, _, _, _, _, _, h, _⟩ => (by cases h), fun _ _ _ _ _ _ _ _ _ _ _ _ _ ⟨_, _, _, _, _, _, h, _⟩ => (by cases h)⟩
  | k + 1 => okP (m := m_all_shapes (r_all_shapes k)) A.F_all_shapes sc_all_shapes (by decide) (fun cdv A0 outer s H E hr => by
    have IH := rk_all_shapes A k
    have S := sc_all_shapes
    exact (os_cons (os_if (ob_cmp (y_eq (by exact crm_of hr)) b_eq (oe_var 0) oe_int (by rfl)) (os_one (os_ret (oe_f (of_lst (oa_cons (oe_tup oa_nil) oa_nil))))) os_nil) (os_cons (os_own (i := 2) S.nd (by rfl) (by first | exact Or.inl rfl | exact Or.inr rfl) (of_lst oa_nil)) (os_cons (os_for (vs := [3]) (by exact PassesOwn.never) (by rfl) (oi_rng2 (by rfl) A.f_range (oa_cons oe_int (oa_cons (oe_op y_add b_add (oe_bi (call_min2 (by rfl)) b_min2 (by rfl) A.f_min bt_min (oa_cons (oe_var 0) (oa_cons (oe_var 1) oa_nil))) oe_int) oa_nil))) (og_name (by decide) S.nd (i := 3) (by rfl) (by first | exact Or.inl rfl | exact Or.inr rfl)) (os_one (os_ext (i := 2) (by rfl) (by first | exact Or.inl rfl | exact Or.inr (Or.inl rfl) | exact Or.inr (Or.inr rfl)) (of_lc (by rfl) S.nd (oi_seq (oe_call IH (by exact hr) (by rfl) A.g_all_shapes A.F_all_shapes.kp (b_all_shapes A) (oa_cons (oe_op y_sub b_sub (oe_var 0) (oe_var 3)) (oa_cons (oe_var 3) oa_nil)) (len_cons (len_cons len_nil)))) ⟨blkOk_by (own := [("rest", 4)]) (by kernel_rfl), fun _ _ _ _ _ => (og_name (by decide) S.nd (i := 4) (by rfl) (by first | exact Or.inl rfl | exact Or.inr rfl)), fun _ _ _ _ _ => ots_nil, fun _ _ _ _ _ => (oe_tup (oa_cons (oe_var 3) (oa_star (oe_var 4) oa_nil)))⟩)))) (os_one (os_ret (oe_var 2))))))) (fun ds r hl h => by
    have hl2 : ds.length = 2 := hl
    have h : (if ds.length = 2 then nfE (env0 5 ds) fun e => ansP (ms_all_shapes (r_all_shapes k) e) else none) = some r := h
    rw [if_pos hl2, nfE_eq] at h
    rw [me_all_shapes]
    exact h)
theorem ok_all_shapes (A : Al K mg) : FnOk P w K mg base CX0 16 A.a_all_shapes A.d_all_shapes ["number", "most"] (spP K 2 g_all_shapes) := (rk_all_shapes A 15).imp fun vs H Q E ⟨C, ds, r, hl, hC, hd, hf, q⟩ => ⟨C, ds, r, hl, hC, hd, hg_all_shapes ds r (by rw [← hd.len]; exact hl) hf, q⟩
theorem sc_shapes : FnScope N_shapes ["number"] (defScope s_shapes) := ⟨rfl, rfl, rfl, by decide +kernel, rfl, by decide +kernel, by decide +kernel⟩
theorem b_shapes (A : Al K mg) : Binds K A.d_shapes ["number"] [] := A.F_shapes.bindsN fun _ _ _ _ _ _ us hl => match us, hl with | [_], _ => rfl
theorem ok_shapes (A : Al K mg) : FnOk P w K mg base CX0 17 A.a_shapes A.d_shapes ["number"] (spP K 1 g_shapes) := okP (m := m_shapes) A.F_shapes sc_shapes (by decide) (fun cdv A0 outer s H E hr => by
    have S := sc_shapes
    exact (os_cons (os_expr (oe_call (FnOk.mono (k := 16) (ok_check_upto A) (by decide)) (by exact hr) (by rfl) A.g_check_upto A.F_check_upto.kp (b_check_upto A) (oa_cons (oe_var 0) (oa_cons (oe_globI (by rfl) A.c_MOST_CARS) oa_nil)) (len_cons (len_cons len_nil)))) (os_one (os_ret (oe_ty call_tuple_of b_tuple (by rfl) A.f_tuple bt_tuple (oa_cons (oe_call (FnOk.mono (k := 16) (ok_all_shapes A) (by decide)) (by exact hr) (by rfl) A.g_all_shapes A.F_all_shapes.kp (b_all_shapes A) (oa_cons (oe_var 0) (oa_cons (oe_var 0) oa_nil)) (len_cons (len_cons len_nil))) oa_nil)))))) hg_shapes
theorem sc_more_by : FnScope N_more_by ["shape"] (defScope s_more_by) := ⟨rfl, rfl, rfl, by decide +kernel, rfl, by decide +kernel, by decide +kernel⟩
theorem b_more_by (A : Al K mg) : Binds K A.d_more_by ["shape"] [] := A.F_more_by.bindsN fun _ _ _ _ _ _ us hl => match us, hl with | [_], _ => rfl
theorem ok_more_by (A : Al K mg) : FnOk P w K mg base CX0 1 A.a_more_by A.d_more_by ["shape"] (spP K 1 g_more_by) := okP (m := m_more_by) A.F_more_by sc_more_by (by decide) (fun cdv A0 outer s H E hr => by
    have S := sc_more_by
    exact (os_cons (os_lcSet (i := 1) (by rfl) S.nd (by rfl) (by rfl) (sw_true (by rfl) (by rfl) (by rfl) (by decide +kernel)) (oi_en (by rfl) A.f_enumerate (oe_var 0)) ⟨blkOk_by (own := [("at", 2), ("one", 3)]) (by kernel_rfl), fun _ _ _ _ _ => (og_tup (by rfl) (ogs_cons (og_name (by decide) S.nd (i := 2) (by rfl) (by first | exact Or.inl rfl | exact Or.inr rfl)) (ogs_cons (og_name (by decide) S.nd (i := 3) (by rfl) (by first | exact Or.inl rfl | exact Or.inr rfl)) ogs_nil))), fun _ _ _ _ _ => ots_nil, fun _ _ _ _ _ => (oe_tup (oa_cons (oe_op y_add b_add (oe_op y_add b_add (oe_sl (oe_var 0) oo_none (oo_some (oe_var 2))) (oe_tup (oa_cons (oe_op y_add b_add (oe_var 3) oe_int) oa_nil))) (oe_sl (oe_var 0) (oo_some (oe_op y_add b_add (oe_var 2) oe_int)) oo_none)) (oa_cons (oe_var 2) oa_nil)))⟩) (os_cons (os_lcSet (i := 1) (by rfl) S.nd (by rfl) (by rfl) (sw_true (by rfl) (by rfl) (by rfl) (by decide +kernel)) (oi_seq (oe_var 1)) ⟨blkOk_by (own := [("one", 3), ("at", 2)]) (by kernel_rfl), fun _ _ _ _ _ => (og_tup (by rfl) (ogs_cons (og_name (by decide) S.nd (i := 3) (by rfl) (by first | exact Or.inl rfl | exact Or.inr rfl)) (ogs_cons (og_name (by decide) S.nd (i := 2) (by rfl) (by first | exact Or.inl rfl | exact Or.inr rfl)) ogs_nil))), fun _ _ _ _ _ => (ots_one (ob_w (ow_or (ob_cmp (y_eq (by exact crm_of hr)) b_eq (oe_var 2) oe_int (by rfl)) (ow_or1 (ob_cmp (y_gt (by exact crm_of hr)) b_gt (oe_ix (oe_var 0) (oe_op y_sub b_sub (oe_var 2) oe_int) (fun _ _ => rfl)) (oe_ix (oe_var 0) (oe_var 2) (fun _ _ => rfl)) (by rfl)))))), fun _ _ _ _ _ => (oe_tup (oa_cons (oe_var 3) (oa_cons (oe_var 2) oa_nil)))⟩) (os_one (os_ret (oe_f (of_lst (oa_star (oe_var 1) (oa_cons (oe_tup (oa_cons (oe_tup (oa_star (oe_var 0) (oa_cons oe_int oa_nil))) (oa_cons (oe_bi c_len b_len (by rfl) A.f_len bt_len (oa_cons (oe_var 0) oa_nil)) oa_nil))) oa_nil))))))))) hg_more_by
theorem sc_less_by : FnScope N_less_by ["shape"] (defScope s_less_by) := ⟨rfl, rfl, rfl, by decide +kernel, rfl, by decide +kernel, by decide +kernel⟩
theorem b_less_by (A : Al K mg) : Binds K A.d_less_by ["shape"] [] := A.F_less_by.bindsN fun _ _ _ _ _ _ us hl => match us, hl with | [_], _ => rfl
theorem ok_less_by (A : Al K mg) : FnOk P w K mg base CX0 1 A.a_less_by A.d_less_by ["shape"] (spP K 1 g_less_by) := okP (m := m_less_by) A.F_less_by sc_less_by (by decide) (fun cdv A0 outer s H E hr => by
    have S := sc_less_by
    exact (os_cons (os_own (i := 1) S.nd (by rfl) (by first | exact Or.inl rfl | exact Or.inr rfl) (of_lst oa_nil)) (os_cons (os_for (vs := [2, 3]) (by exact PassesOwn.never) (by rfl) (oi_en (by rfl) A.f_enumerate (oe_var 0)) (og_tup (by rfl) (ogs_cons (og_name (by decide) S.nd (i := 2) (by rfl) (by first | exact Or.inl rfl | exact Or.inr rfl)) (ogs_cons (og_name (by decide) S.nd (i := 3) (by rfl) (by first | exact Or.inl rfl | exact Or.inr rfl)) ogs_nil))) (os_one (os_if (ob_w (ow_or (ob_cmp (y_eq (by exact crm_of hr)) b_eq (oe_op y_add b_add (oe_var 2) oe_int) (oe_bi c_len b_len (by rfl) A.f_len bt_len (oa_cons (oe_var 0) oa_nil)) (by rfl)) (ow_or1 (ob_cmp (y_lt (by exact crm_of hr)) b_lt (oe_ix (oe_var 0) (oe_op y_add b_add (oe_var 2) oe_int) (fun _ _ => rfl)) (oe_var 3) (by rfl))))) (os_one (os_app (i := 1) (by rfl) (by first | exact Or.inl rfl | exact Or.inr (Or.inl rfl) | exact Or.inr (Or.inr rfl)) (oe_tup (oa_cons (oe_op y_add b_add (oe_op y_add b_add (oe_sl (oe_var 0) oo_none (oo_some (oe_var 2))) (oe_ifE (ob_cmp (y_gt (by exact crm_of hr)) b_gt (oe_var 3) oe_int (by rfl)) (oe_tup (oa_cons (oe_op y_sub b_sub (oe_var 3) oe_int) oa_nil)) (oe_tup oa_nil))) (oe_sl (oe_var 0) (oo_some (oe_op y_add b_add (oe_var 2) oe_int)) oo_none)) (oa_cons (oe_var 2) oa_nil))))) os_nil))) (os_one (os_ret (oe_var 1)))))) hg_less_by
theorem sc_grown : FnScope N_grown ["shape"] (defScope s_grown) := ⟨rfl, rfl, rfl, by decide +kernel, rfl, by decide +kernel, by decide +kernel⟩
theorem b_grown (A : Al K mg) : Binds K A.d_grown ["shape"] [] := A.F_grown.bindsN fun _ _ _ _ _ _ us hl => match us, hl with | [_], _ => rfl
theorem ok_grown (A : Al K mg) : FnOk P w K mg base CX0 4 A.a_grown A.d_grown ["shape"] (spP K 1 g_grown) := okP (m := m_grown) A.F_grown sc_grown (by decide) (fun cdv A0 outer s H E hr => by
    have S := sc_grown
    exact (os_cons (os_expr (oe_call (FnOk.mono (k := 3) (ok_check_shape A) (by decide)) (by exact hr) (by rfl) A.g_check_shape A.F_check_shape.kp (b_check_shape A) (oa_cons (oe_var 0) oa_nil) (len_cons len_nil))) (os_one (os_ret (oe_ty call_tuple_of b_tuple (by rfl) A.f_tuple bt_tuple (oa_cons (oe_f (of_bi (c_sort (by exact crm_of hr)) b_sort (by rfl) A.f_sorted bt_sorted (oa_cons (oe_f (of_lc (by rfl) S.nd (oi_seq (oe_call (FnOk.mono (k := 3) (ok_more_by A) (by decide)) (by exact hr) (by rfl) A.g_more_by A.F_more_by.kp (b_more_by A) (oa_cons (oe_var 0) oa_nil) (len_cons len_nil))) ⟨blkOk_by (own := [("one", 1), ("at", 2)]) (by kernel_rfl), fun _ _ _ _ _ => (og_tup (by rfl) (ogs_cons (og_name (by decide) S.nd (i := 1) (by rfl) (by first | exact Or.inl rfl | exact Or.inr rfl)) (ogs_cons (og_name (by decide) S.nd (i := 2) (by rfl) (by first | exact Or.inl rfl | exact Or.inr rfl)) ogs_nil))), fun _ _ _ _ _ => ots_nil, fun _ _ _ _ _ => (oe_var 1)⟩)) oa_nil))) oa_nil)))))) hg_grown
theorem sc_shrunk : FnScope N_shrunk ["shape"] (defScope s_shrunk) := ⟨rfl, rfl, rfl, by decide +kernel, rfl, by decide +kernel, by decide +kernel⟩
theorem b_shrunk (A : Al K mg) : Binds K A.d_shrunk ["shape"] [] := A.F_shrunk.bindsN fun _ _ _ _ _ _ us hl => match us, hl with | [_], _ => rfl
theorem ok_shrunk (A : Al K mg) : FnOk P w K mg base CX0 4 A.a_shrunk A.d_shrunk ["shape"] (spP K 1 g_shrunk) := okP (m := m_shrunk) A.F_shrunk sc_shrunk (by decide) (fun cdv A0 outer s H E hr => by
    have S := sc_shrunk
    exact (os_cons (os_expr (oe_call (FnOk.mono (k := 3) (ok_check_shape A) (by decide)) (by exact hr) (by rfl) A.g_check_shape A.F_check_shape.kp (b_check_shape A) (oa_cons (oe_var 0) oa_nil) (len_cons len_nil))) (os_one (os_ret (oe_ty call_tuple_of b_tuple (by rfl) A.f_tuple bt_tuple (oa_cons (oe_f (of_bi (c_sort (by exact crm_of hr)) b_sort (by rfl) A.f_sorted bt_sorted (oa_cons (oe_f (of_lc (by rfl) S.nd (oi_seq (oe_call (FnOk.mono (k := 3) (ok_less_by A) (by decide)) (by exact hr) (by rfl) A.g_less_by A.F_less_by.kp (b_less_by A) (oa_cons (oe_var 0) oa_nil) (len_cons len_nil))) ⟨blkOk_by (own := [("one", 1), ("at", 2)]) (by kernel_rfl), fun _ _ _ _ _ => (og_tup (by rfl) (ogs_cons (og_name (by decide) S.nd (i := 1) (by rfl) (by first | exact Or.inl rfl | exact Or.inr rfl)) (ogs_cons (og_name (by decide) S.nd (i := 2) (by rfl) (by first | exact Or.inl rfl | exact Or.inr rfl)) ogs_nil))), fun _ _ _ _ _ => ots_nil, fun _ _ _ _ _ => (oe_var 1)⟩)) oa_nil))) oa_nil)))))) hg_shrunk
theorem sc_hooks_of : FnScope N_hooks_of ["shape"] (defScope s_hooks_of) := ⟨rfl, rfl, rfl, by decide +kernel, rfl, by decide +kernel, by decide +kernel⟩
theorem b_hooks_of (A : Al K mg) : Binds K A.d_hooks_of ["shape"] [] := A.F_hooks_of.bindsN fun _ _ _ _ _ _ us hl => match us, hl with | [_], _ => rfl
theorem ok_hooks_of (A : Al K mg) : FnOk P w K mg base CX0 1 A.a_hooks_of A.d_hooks_of ["shape"] (spP K 1 g_hooks_of) := okP (m := m_hooks_of) A.F_hooks_of sc_hooks_of (by decide) (fun cdv A0 outer s H E hr => by
    have S := sc_hooks_of
    exact (os_cons (os_own (i := 1) S.nd (by rfl) (by first | exact Or.inl rfl | exact Or.inr rfl) (of_lst oa_nil)) (os_cons (os_for (vs := [2, 3]) (by exact PassesOwn.never) (by rfl) (oi_en (by rfl) A.f_enumerate (oe_var 0)) (og_tup (by rfl) (ogs_cons (og_name (by decide) S.nd (i := 2) (by rfl) (by first | exact Or.inl rfl | exact Or.inr rfl)) (ogs_cons (og_name (by decide) S.nd (i := 3) (by rfl) (by first | exact Or.inl rfl | exact Or.inr rfl)) ogs_nil))) (os_cons (os_set (i := 4) S.nd (by rfl) (by first | exact Or.inl rfl | exact Or.inr rfl) (oe_f (of_lc (by rfl) S.nd (oi_rng1 (by rfl) A.f_range (oa_cons (oe_var 3) oa_nil)) ⟨blkOk_by (own := [("spot", 5)]) (by kernel_rfl), fun _ _ _ _ _ => (og_name (by decide) S.nd (i := 5) (by rfl) (by first | exact Or.inl rfl | exact Or.inr rfl)), fun _ _ _ _ _ => ots_nil, fun _ _ _ _ _ => (oe_bi c_len b_len (by rfl) A.f_len bt_len (oa_cons (oe_f (of_lc (by rfl) S.nd (oi_seq (oe_sl (oe_var 0) (oo_some (oe_op y_add b_add (oe_var 2) oe_int)) oo_none)) ⟨blkOk_by (own := [("one", 6)]) (by kernel_rfl), fun _ _ _ _ _ => (og_name (by decide) S.nd (i := 6) (by rfl) (by first | exact Or.inl rfl | exact Or.inr rfl)), fun _ _ _ _ _ => (ots_one (ob_cmp (y_gt (by exact crm_of hr)) b_gt (oe_var 6) (oe_var 5) (by rfl))), fun _ _ _ _ _ => (oe_var 6)⟩)) oa_nil))⟩))) (os_one (os_app (i := 1) (by rfl) (by first | exact Or.inl rfl | exact Or.inr (Or.inl rfl) | exact Or.inr (Or.inr rfl)) (oe_ty call_tuple_of b_tuple (by rfl) A.f_tuple bt_tuple (oa_cons (oe_f (of_lc (by rfl) S.nd (oi_rng1 (by rfl) A.f_range (oa_cons (oe_var 3) oa_nil)) ⟨blkOk_by (own := [("spot", 5)]) (by kernel_rfl), fun _ _ _ _ _ => (og_name (by decide) S.nd (i := 5) (by rfl) (by first | exact Or.inl rfl | exact Or.inr rfl)), fun _ _ _ _ _ => ots_nil, fun _ _ _ _ _ => (oe_op y_add b_add (oe_op y_sub b_sub (oe_var 3) (oe_var 5)) (oe_ix (oe_var 4) (oe_var 5) (fun _ _ => rfl)))⟩)) oa_nil)))))) (os_one (os_ret (oe_ty call_tuple_of b_tuple (by rfl) A.f_tuple bt_tuple (oa_cons (oe_var 1) oa_nil))))))) hg_hooks_of
theorem sc_product : FnScope N_product ["numbers"] (defScope s_product) := ⟨rfl, rfl, rfl, by decide +kernel, rfl, by decide +kernel, by decide +kernel⟩
theorem b_product (A : Al K mg) : Binds K A.d_product ["numbers"] [] := A.F_product.bindsN fun _ _ _ _ _ _ us hl => match us, hl with | [_], _ => rfl
theorem ok_product (A : Al K mg) : FnOk P w K mg base CX0 1 A.a_product A.d_product ["numbers"] (spP K 1 g_product) := okP (m := m_product) A.F_product sc_product (by decide) (fun cdv A0 outer s H E hr => by
    have S := sc_product
    exact (os_cons (os_set (i := 1) S.nd (by rfl) (by first | exact Or.inl rfl | exact Or.inr rfl) oe_int) (os_cons (os_for (vs := [2]) (by exact PassesOwn.never) (by rfl) (oi_seq (oe_var 0)) (og_name (by decide) S.nd (i := 2) (by rfl) (by first | exact Or.inl rfl | exact Or.inr rfl)) (os_one (os_set (i := 1) S.nd (by rfl) (by first | exact Or.inl rfl | exact Or.inr rfl) (oe_op y_mul b_mul (oe_var 1) (oe_var 2))))) (os_one (os_ret (oe_var 1)))))) hg_product
theorem sc_all_hooks : FnScope N_all_hooks ["shape"] (defScope s_all_hooks) := ⟨rfl, rfl, rfl, by decide +kernel, rfl, by decide +kernel, by decide +kernel⟩
theorem b_all_hooks (A : Al K mg) : Binds K A.d_all_hooks ["shape"] [] := A.F_all_hooks.bindsN fun _ _ _ _ _ _ us hl => match us, hl with | [_], _ => rfl
theorem ok_all_hooks (A : Al K mg) : FnOk P w K mg base CX0 2 A.a_all_hooks A.d_all_hooks ["shape"] (spP K 1 g_all_hooks) := okP (m := m_all_hooks) A.F_all_hooks sc_all_hooks (by decide) (fun cdv A0 outer s H E hr => by
    have S := sc_all_hooks
    exact (os_one (os_ret (oe_call (FnOk.mono (k := 1) (ok_product A) (by decide)) (by exact hr) (by rfl) A.g_product A.F_product.kp (b_product A) (oa_cons (oe_f (of_lc (by rfl) S.nd (oi_seq (oe_call (FnOk.mono (k := 1) (ok_hooks_of A) (by decide)) (by exact hr) (by rfl) A.g_hooks_of A.F_hooks_of.kp (b_hooks_of A) (oa_cons (oe_var 0) oa_nil) (len_cons len_nil))) ⟨blkOk_by (own := [("line", 1)]) (by kernel_rfl), fun _ _ _ _ _ => (og_name (by decide) S.nd (i := 1) (by rfl) (by first | exact Or.inl rfl | exact Or.inr rfl)), fun _ _ _ _ _ => ots_nil, fun _ _ _ _ _ => (oe_call (FnOk.mono (k := 1) (ok_product A) (by decide)) (by exact hr) (by rfl) A.g_product A.F_product.kp (b_product A) (oa_cons (oe_var 1) oa_nil) (len_cons len_nil))⟩)) oa_nil) (len_cons len_nil))))) hg_all_hooks
theorem sc_standard_count_of : FnScope N_standard_count_of ["shape"] (defScope s_standard_count_of) := ⟨rfl, rfl, rfl, by decide +kernel, rfl, by decide +kernel, by decide +kernel⟩
theorem b_standard_count_of (A : Al K mg) : Binds K A.d_standard_count_of ["shape"] [] := A.F_standard_count_of.bindsN fun _ _ _ _ _ _ us hl => match us, hl with | [_], _ => rfl
theorem ok_standard_count_of (A : Al K mg) : FnOk P w K mg base CX0 3 A.a_standard_count_of A.d_standard_count_of ["shape"] (spP K 1 g_standard_count_of) := okP (m := m_standard_count_of) A.F_standard_count_of sc_standard_count_of (by decide) (fun cdv A0 outer s H E hr => by
    have S := sc_standard_count_of
    exact (os_one (os_ret (oe_op y_div b_div (oe_call (FnOk.mono (k := 2) (ok_product A) (by decide)) (by exact hr) (by rfl) A.g_product A.F_product.kp (b_product A) (oa_cons (oe_f (of_lrg2 (by rfl) (by rfl) A.f_list (by rfl) A.f_range oe_int (oe_op y_add b_add (oe_bi (c_sum (by rfl)) b_sum (by rfl) A.f_sum bt_sum (oa_cons (oe_var 0) oa_nil)) oe_int))) oa_nil) (len_cons len_nil)) (oe_call (FnOk.mono (k := 2) (ok_all_hooks A) (by decide)) (by exact hr) (by rfl) A.g_all_hooks A.F_all_hooks.kp (b_all_hooks A) (oa_cons (oe_var 0) oa_nil) (len_cons len_nil)))))) hg_standard_count_of
theorem sc_standard_count : FnScope N_standard_count ["shape"] (defScope s_standard_count) := ⟨rfl, rfl, rfl, by decide +kernel, rfl, by decide +kernel, by decide +kernel⟩
theorem b_standard_count (A : Al K mg) : Binds K A.d_standard_count ["shape"] [] := A.F_standard_count.bindsN fun _ _ _ _ _ _ us hl => match us, hl with | [_], _ => rfl
theorem ok_standard_count (A : Al K mg) : FnOk P w K mg base CX0 4 A.a_standard_count A.d_standard_count ["shape"] (spP K 1 g_standard_count) := okP (m := m_standard_count) A.F_standard_count sc_standard_count (by decide) (fun cdv A0 outer s H E hr => by
    have S := sc_standard_count
    exact (os_cons (os_expr (oe_call (FnOk.mono (k := 3) (ok_check_shape A) (by decide)) (by exact hr) (by rfl) A.g_check_shape A.F_check_shape.kp (b_check_shape A) (oa_cons (oe_var 0) oa_nil) (len_cons len_nil))) (os_one (os_ret (oe_call (FnOk.mono (k := 3) (ok_standard_count_of A) (by decide)) (by exact hr) (by rfl) A.g_standard_count_of A.F_standard_count_of.kp (b_standard_count_of A) (oa_cons (oe_var 0) oa_nil) (len_cons len_nil)))))) hg_standard_count
theorem sc_table_count : FnScope N_table_count ["shape", "most"] (defScope s_table_count) := ⟨rfl, rfl, rfl, by decide +kernel, rfl, by decide +kernel, by decide +kernel⟩
theorem b_table_count (A : Al K mg) : Binds K A.d_table_count ["shape", "most"] [] := A.F_table_count.bindsN fun _ _ _ _ _ _ us hl => match us, hl with | [_, _], _ => rfl
theorem ok_table_count (A : Al K mg) : FnOk P w K mg base CX0 4 A.a_table_count A.d_table_count ["shape", "most"] (spP K 2 g_table_count) := okP (m := m_table_count) A.F_table_count sc_table_count (by decide) (fun cdv A0 outer s H E hr => by
    have S := sc_table_count
    exact (os_cons (os_expr (oe_call (FnOk.mono (k := 3) (ok_check_shape A) (by decide)) (by exact hr) (by rfl) A.g_check_shape A.F_check_shape.kp (b_check_shape A) (oa_cons (oe_var 0) oa_nil) (len_cons len_nil))) (os_cons (os_expr (oe_call (FnOk.mono (k := 3) (ok_check_upto A) (by decide)) (by exact hr) (by rfl) A.g_check_upto A.F_check_upto.kp (b_check_upto A) (oa_cons (oe_var 1) (oa_cons (oe_globI (by rfl) A.c_MOST_NUMBER) oa_nil)) (len_cons (len_cons len_nil)))) (os_cons (os_lcSet (i := 2) (by rfl) S.nd (by rfl) (by rfl) (sw_true (by rfl) (by rfl) (by rfl) (by decide +kernel)) (oi_en (by rfl) A.f_enumerate (oe_var 0)) ⟨blkOk_by (own := [("at", 3), ("wide", 4)]) (by kernel_rfl), fun _ _ _ _ _ => (og_tup (by rfl) (ogs_cons (og_name (by decide) S.nd (i := 3) (by rfl) (by first | exact Or.inl rfl | exact Or.inr rfl)) (ogs_cons (og_name (by decide) S.nd (i := 4) (by rfl) (by first | exact Or.inl rfl | exact Or.inr rfl)) ogs_nil))), fun _ _ _ _ _ => ots_nil, fun _ _ _ _ _ => (oe_call (FnOk.mono (k := 3) (ok_product A) (by decide)) (by exact hr) (by rfl) A.g_product A.F_product.kp (b_product A) (oa_cons (oe_f (of_lc (by rfl) S.nd (oi_rng1 (by rfl) A.f_range (oa_cons (oe_var 4) oa_nil)) ⟨blkOk_by (own := [("spot", 5)]) (by kernel_rfl), fun _ _ _ _ _ => (og_name (by decide) S.nd (i := 5) (by rfl) (by first | exact Or.inl rfl | exact Or.inr rfl)), fun _ _ _ _ _ => ots_nil, fun _ _ _ _ _ => (oe_op y_sub b_sub (oe_op y_add b_add (oe_var 1) (oe_var 5)) (oe_var 3))⟩)) oa_nil) (len_cons len_nil))⟩) (os_one (os_ret (oe_op y_div b_div (oe_call (FnOk.mono (k := 3) (ok_product A) (by decide)) (by exact hr) (by rfl) A.g_product A.F_product.kp (b_product A) (oa_cons (oe_var 2) oa_nil) (len_cons len_nil)) (oe_call (FnOk.mono (k := 3) (ok_all_hooks A) (by decide)) (by exact hr) (by rfl) A.g_all_hooks A.F_all_hooks.kp (b_all_hooks A) (oa_cons (oe_var 0) oa_nil) (len_cons len_nil))))))))) hg_table_count
theorem sc_rows_of_shape : FnScope N_rows_of_shape ["shape"] (defScope s_rows_of_shape) := ⟨rfl, rfl, rfl, by decide +kernel, rfl, by decide +kernel, by decide +kernel⟩
theorem b_rows_of_shape (A : Al K mg) : Binds K A.d_rows_of_shape ["shape"] [] := A.F_rows_of_shape.bindsN fun _ _ _ _ _ _ us hl => match us, hl with | [_], _ => rfl
theorem ok_rows_of_shape (A : Al K mg) : FnOk P w K mg base CX0 4 A.a_rows_of_shape A.d_rows_of_shape ["shape"] (spP K 1 g_rows_of_shape) := okP (m := m_rows_of_shape) A.F_rows_of_shape sc_rows_of_shape (by decide) (fun cdv A0 outer s H E hr => by
    have S := sc_rows_of_shape
    exact (os_cons (os_expr (oe_call (FnOk.mono (k := 3) (ok_check_shape A) (by decide)) (by exact hr) (by rfl) A.g_check_shape A.F_check_shape.kp (b_check_shape A) (oa_cons (oe_var 0) oa_nil) (len_cons len_nil))) (os_one (os_ret (oe_op y_pow b_pow (oe_call (FnOk.mono (k := 3) (ok_standard_count_of A) (by decide)) (by exact hr) (by rfl) A.g_standard_count_of A.F_standard_count_of.kp (b_standard_count_of A) (oa_cons (oe_var 0) oa_nil) (len_cons len_nil)) oe_int))))) hg_rows_of_shape
theorem sc_rows_led : FnScope N_rows_led ["number", "many"] (defScope s_rows_led) := ⟨rfl, rfl, rfl, by decide +kernel, rfl, by decide +kernel, by decide +kernel⟩
theorem b_rows_led (A : Al K mg) : Binds K A.d_rows_led ["number", "many"] [] := A.F_rows_led.bindsN fun _ _ _ _ _ _ us hl => match us, hl with | [_, _], _ => rfl
theorem ok_rows_led (A : Al K mg) : FnOk P w K mg base CX0 17 A.a_rows_led A.d_rows_led ["number", "many"] (spP K 2 g_rows_led) := okP (m := m_rows_led) A.F_rows_led sc_rows_led (by decide) (fun cdv A0 outer s H E hr => by
    have S := sc_rows_led
    exact (os_cons (os_expr (oe_call (FnOk.mono (k := 16) (ok_check_upto A) (by decide)) (by exact hr) (by rfl) A.g_check_upto A.F_check_upto.kp (b_check_upto A) (oa_cons (oe_var 0) (oa_cons (oe_globI (by rfl) A.c_MOST_CARS) oa_nil)) (len_cons (len_cons len_nil)))) (os_cons (os_expr (oe_call (FnOk.mono (k := 16) (ok_check_upto A) (by decide)) (by exact hr) (by rfl) A.g_check_upto A.F_check_upto.kp (b_check_upto A) (oa_cons (oe_var 1) (oa_cons (oe_globI (by rfl) A.c_MOST_CARS) oa_nil)) (len_cons (len_cons len_nil)))) (os_one (os_ret (oe_bi (c_sum (by rfl)) b_sum (by rfl) A.f_sum bt_sum (oa_cons (oe_f (of_lc (by rfl) S.nd (oi_seq (oe_call (FnOk.mono (k := 16) (ok_all_shapes A) (by decide)) (by exact hr) (by rfl) A.g_all_shapes A.F_all_shapes.kp (b_all_shapes A) (oa_cons (oe_var 0) (oa_cons (oe_var 0) oa_nil)) (len_cons (len_cons len_nil)))) ⟨blkOk_by (own := [("shape", 2)]) (by kernel_rfl), fun _ _ _ _ _ => (og_name (by decide) S.nd (i := 2) (by rfl) (by first | exact Or.inl rfl | exact Or.inr rfl)), fun _ _ _ _ _ => (ots_one (ob_cmp (y_le (by exact crm_of hr)) b_le (oe_bi c_len b_len (by rfl) A.f_len bt_len (oa_cons (oe_var 2) oa_nil)) (oe_var 1) (by rfl))), fun _ _ _ _ _ => (oe_op y_pow b_pow (oe_call (FnOk.mono (k := 16) (ok_standard_count_of A) (by decide)) (by exact hr) (by rfl) A.g_standard_count_of A.F_standard_count_of.kp (b_standard_count_of A) (oa_cons (oe_var 2) oa_nil) (len_cons len_nil)) oe_int)⟩)) oa_nil))))))) hg_rows_led
theorem sc__law_pot : FnScope N__law_pot ["script", "place"] (defScope s__law_pot) := ⟨rfl, rfl, rfl, by decide +kernel, rfl, by decide +kernel, by decide +kernel⟩
theorem b__law_pot (A : Al K mg) : Binds K A.d__law_pot ["script", "place"] [] := A.F__law_pot.bindsN fun _ _ _ _ _ _ us hl => match us, hl with | [_, _], _ => rfl
theorem ok__law_pot (A : Al K mg) : FnOk P w K mg base CX0 1 A.a__law_pot A.d__law_pot ["script", "place"] (spN K 2 g__law_pot) := okN (m := m__law_pot) A.F__law_pot sc__law_pot (by decide) (fun cdv A0 outer s H E hr => by
    have S := sc__law_pot
    exact (os_cons (os_set (i := 2) S.nd (by rfl) (by first | exact Or.inl rfl | exact Or.inr rfl) (oe_ifE (ob_cmp (y_lt (by exact crm_of hr)) b_lt (oe_var 1) (oe_bi c_len b_len (by rfl) A.f_len bt_len (oa_cons (oe_var 0) oa_nil)) (by rfl)) (oe_ix (oe_var 0) (oe_var 1) (fun _ _ => rfl)) (oe_op y_add b_add (oe_op y_add b_add (oe_op y_mod b_mod (oe_ty call_int1 b_intc (by rfl) A.f_int bt_int (oa_cons (oe_bi (c_sum (by rfl)) b_sum (by rfl) A.f_sum bt_sum (oa_cons (oe_sl (oe_var 0) oo_none (oo_some oe_int)) oa_nil)) oa_nil)) oe_int) (oe_op y_mul b_mul oe_int (oe_var 1))) oe_int))) (os_cons (os_set (i := 3) S.nd (by rfl) (by first | exact Or.inl rfl | exact Or.inr rfl) (oe_op y_mul b_mul (oe_op y_mod b_mod (oe_ty call_int1 b_intc (by rfl) A.f_int bt_int (oa_cons (oe_bi call_abs b_abs (by rfl) A.f_abs bt_abs (oa_cons (oe_var 2) oa_nil)) oa_nil)) (oe_op y_pow b_pow (oe_op y_pow b_pow oe_int oe_int) oe_int)) (oe_ty call_int1 b_intc (by rfl) A.f_int bt_int (oa_cons (oe_cmp (y_ge (by exact crm_of hr)) b_ge (oe_bi call_abs b_abs (by rfl) A.f_abs bt_abs (oa_cons (oe_var 2) oa_nil)) (oe_op y_pow b_pow oe_int oe_int) (by rfl)) oa_nil)))) (os_cons (os_set (i := 4) S.nd (by rfl) (by first | exact Or.inl rfl | exact Or.inr rfl) (oe_op y_mod b_mod (oe_ty call_int1 b_intc (by rfl) A.f_int bt_int (oa_cons (oe_var 2) oa_nil)) oe_int)) (os_one (os_retN (of_lst (oa_cons (oe_var 3) (oa_cons (oe_op y_mod b_mod (oe_ty call_int1 b_intc (by rfl) A.f_int bt_int (oa_cons (oe_op y_add b_add (oe_op y_add b_add (oe_op y_mul b_mul (oe_var 4) oe_int) (oe_op y_mul b_mul (oe_op y_mul b_mul oe_int (oe_var 1)) (oe_var 1))) oe_int) oa_nil)) oe_int) (oa_cons oe_int oa_nil)))))))))) hg__law_pot
theorem sc__law_take : FnScope N__law_take ["pot", "upto"] (defScope s__law_take) := ⟨rfl, rfl, rfl, by decide +kernel, rfl, by decide +kernel, by decide +kernel⟩
theorem b__law_take (A : Al K mg) : Binds K A.d__law_take ["pot", "upto"] [] := A.F__law_take.bindsN fun _ _ _ _ _ _ us hl => match us, hl with | [_, _], _ => rfl
theorem ok__law_take (A : Al K mg) : FnOk P w K mg base CX0 1 A.a__law_take A.d__law_take ["pot", "upto"] (spB K 2 g__law_take) := okB (m := m__law_take) A.F__law_take sc__law_take (by decide) (fun cdv A0 outer s H E hr => by
    have S := sc__law_take
    exact (os_cons (os_if (ob_cmp (y_gt (by exact crm_of hr)) b_gt (oe_get (i := 0) (by rfl) (by first | exact Or.inl rfl | exact Or.inr (Or.inl rfl) | exact Or.inr (Or.inr rfl)) oe_int (fun _ _ => rfl)) oe_int (by rfl)) (os_cons (os_set (i := 2) S.nd (by rfl) (by first | exact Or.inl rfl | exact Or.inr rfl) (oe_op y_mod b_mod (oe_ty call_int1 b_intc (by rfl) A.f_int bt_int (oa_cons (oe_get (i := 0) (by rfl) (by first | exact Or.inl rfl | exact Or.inr (Or.inl rfl) | exact Or.inr (Or.inr rfl)) oe_int (fun _ _ => rfl)) oa_nil)) (oe_var 1))) (os_cons (os_put (i := 0) (by rfl) (by first | exact Or.inl rfl | exact Or.inr (Or.inl rfl) | exact Or.inr (Or.inr rfl)) (oe_op y_div b_div (oe_get (i := 0) (by rfl) (by first | exact Or.inl rfl | exact Or.inr (Or.inl rfl) | exact Or.inr (Or.inr rfl)) oe_int (fun _ _ => rfl)) (oe_var 1)) oe_int) (os_one (os_ret (oe_var 2))))) os_nil) (os_cons (os_put (i := 0) (by rfl) (by first | exact Or.inl rfl | exact Or.inr (Or.inl rfl) | exact Or.inr (Or.inr rfl)) (oe_op y_add b_add (oe_get (i := 0) (by rfl) (by first | exact Or.inl rfl | exact Or.inr (Or.inl rfl) | exact Or.inr (Or.inr rfl)) oe_int (fun _ _ => rfl)) oe_int) oe_int) (os_cons (os_set (i := 3) S.nd (by rfl) (by first | exact Or.inl rfl | exact Or.inr rfl) (oe_ix (oe_f (of_lst (oa_cons oe_int (oa_cons oe_int (oa_cons oe_int (oa_cons oe_int (oa_cons oe_int oa_nil))))))) (oe_op y_mod b_mod (oe_ty call_int1 b_intc (by rfl) A.f_int bt_int (oa_cons (oe_get (i := 0) (by rfl) (by first | exact Or.inl rfl | exact Or.inr (Or.inl rfl) | exact Or.inr (Or.inr rfl)) oe_int (fun _ _ => rfl)) oa_nil)) oe_int) (fun _ _ => rfl))) (os_cons (os_set (i := 4) S.nd (by rfl) (by first | exact Or.inl rfl | exact Or.inr rfl) (oe_op y_mod b_mod (oe_ty call_int1 b_intc (by rfl) A.f_int bt_int (oa_cons (oe_op y_pow b_pow (oe_ty call_int1 b_intc (by rfl) A.f_int bt_int (oa_cons (oe_op y_add b_add (oe_op y_add b_add (oe_get (i := 0) (by rfl) (by first | exact Or.inl rfl | exact Or.inr (Or.inl rfl) | exact Or.inr (Or.inr rfl)) oe_int (fun _ _ => rfl)) (oe_op y_mul b_mul (oe_op y_mul b_mul oe_int (oe_get (i := 0) (by rfl) (by first | exact Or.inl rfl | exact Or.inr (Or.inl rfl) | exact Or.inr (Or.inr rfl)) oe_int (fun _ _ => rfl))) (oe_get (i := 0) (by rfl) (by first | exact Or.inl rfl | exact Or.inr (Or.inl rfl) | exact Or.inr (Or.inr rfl)) oe_int (fun _ _ => rfl)))) oe_int) oa_nil)) oe_int) oa_nil)) (oe_var 3))) (os_cons (os_set (i := 4) S.nd (by rfl) (by first | exact Or.inl rfl | exact Or.inr rfl) (oe_op y_mod b_mod (oe_ty call_int1 b_intc (by rfl) A.f_int bt_int (oa_cons (oe_op y_mul b_mul (oe_var 4) (oe_op y_add b_add (oe_op y_mod b_mod (oe_ty call_int1 b_intc (by rfl) A.f_int bt_int (oa_cons (oe_var 4) oa_nil)) oe_int) (oe_op y_mul b_mul oe_int (oe_get (i := 0) (by rfl) (by first | exact Or.inl rfl | exact Or.inr (Or.inl rfl) | exact Or.inr (Or.inr rfl)) oe_int (fun _ _ => rfl))))) oa_nil)) oe_int)) (os_one (os_ret (oe_op y_mod b_mod (oe_ty call_int1 b_intc (by rfl) A.f_int bt_int (oa_cons (oe_op y_div b_div (oe_var 4) oe_int) oa_nil)) (oe_var 1)))))))))) hg__law_take
theorem sc__law_of : FnScope N__law_of ["pot", "some"] (defScope s__law_of) := ⟨rfl, rfl, rfl, by decide +kernel, rfl, by decide +kernel, by decide +kernel⟩
theorem b__law_of (A : Al K mg) : Binds K A.d__law_of ["pot", "some"] [] := A.F__law_of.bindsN fun _ _ _ _ _ _ us hl => match us, hl with | [_, _], _ => rfl
theorem ok__law_of (A : Al K mg) : FnOk P w K mg base CX0 2 A.a__law_of A.d__law_of ["pot", "some"] (spB K 2 g__law_of) := okB (m := m__law_of) A.F__law_of sc__law_of (by decide) (fun cdv A0 outer s H E hr => by
    have S := sc__law_of
    exact (os_one (os_ret (oe_ix (oe_var 1) (oe_callB (i := 0) (FnOk.mono (k := 1) (ok__law_take A) (by decide)) (by exact hr) (by rfl) A.g__law_take A.F__law_take.kp (b__law_take A) (by rfl) (by first | exact Or.inl rfl | exact Or.inr (Or.inl rfl) | exact Or.inr (Or.inr rfl)) (oa_cons (oe_bi c_len b_len (by rfl) A.f_len bt_len (oa_cons (oe_var 1) oa_nil)) oa_nil) (len_up (len_cons len_nil))) (fun _ _ => rfl))))) hg__law_of
theorem sc__law_cells : FnScope N__law_cells ["script", "most"] (defScope s__law_cells) := ⟨rfl, rfl, rfl, by decide +kernel, rfl, by decide +kernel, by decide +kernel⟩
theorem b__law_cells (A : Al K mg) : Binds K A.d__law_cells ["script", "most"] [] := A.F__law_cells.bindsN fun _ _ _ _ _ _ us hl => match us, hl with | [_, _], _ => rfl
theorem ok__law_cells (A : Al K mg) : FnOk P w K mg base CX0 1 A.a__law_cells A.d__law_cells ["script", "most"] (spP K 2 g__law_cells) := okP (m := m__law_cells) A.F__law_cells sc__law_cells (by decide) (fun cdv A0 outer s H E hr => by
    have S := sc__law_cells
    exact (os_one (os_ret (oe_f (of_lrg1 (by rfl) (by rfl) A.f_list (by rfl) A.f_range (oe_bi (call_max2 (by rfl)) b_max2 (by rfl) A.f_max bt_max (oa_cons oe_int (oa_cons (oe_bi (call_min2 (by rfl)) b_min2 (by rfl) A.f_min bt_min (oa_cons (oe_var 1) (oa_cons (oe_bi c_len b_len (by rfl) A.f_len bt_len (oa_cons (oe_var 0) oa_nil)) oa_nil))) oa_nil)))))))) hg__law_cells
theorem sc__law_choose : FnScope N__law_choose ["many", "some"] (defScope s__law_choose) := ⟨rfl, rfl, rfl, by decide +kernel, rfl, by decide +kernel, by decide +kernel⟩
theorem b__law_choose (A : Al K mg) : Binds K A.d__law_choose ["many", "some"] [] := A.F__law_choose.bindsN fun _ _ _ _ _ _ us hl => match us, hl with | [_, _], _ => rfl
theorem ok__law_choose (A : Al K mg) : FnOk P w K mg base CX0 1 A.a__law_choose A.d__law_choose ["many", "some"] (spP K 2 g__law_choose) := okP (m := m__law_choose) A.F__law_choose sc__law_choose (by decide) (fun cdv A0 outer s H E hr => by
    have S := sc__law_choose
    exact (os_cons (os_if (ob_w (ow_or (ob_cmp (y_lt (by exact crm_of hr)) b_lt (oe_var 1) oe_int (by rfl)) (ow_or1 (ob_cmp (y_gt (by exact crm_of hr)) b_gt (oe_var 1) (oe_var 0) (by rfl))))) (os_one (os_ret oe_int)) os_nil) (os_cons (os_asg (vs := [2, 3]) (oe_tup (oa_cons oe_int (oa_cons oe_int oa_nil))) (og_tup (by rfl) (ogs_cons (og_name (by decide) S.nd (i := 2) (by rfl) (by first | exact Or.inl rfl | exact Or.inr rfl)) (ogs_cons (og_name (by decide) S.nd (i := 3) (by rfl) (by first | exact Or.inl rfl | exact Or.inr rfl)) ogs_nil)))) (os_cons (os_for (vs := [4]) (by exact PassesOwn.never) (by rfl) (oi_rng1 (by rfl) A.f_range (oa_cons (oe_var 1) oa_nil)) (og_name (by decide) S.nd (i := 4) (by rfl) (by first | exact Or.inl rfl | exact Or.inr rfl)) (os_one (os_par (i := 2) (j := 3) (by rfl) S.nd (by rfl) (by rfl) (oa_cons (oe_op y_mul b_mul (oe_var 2) (oe_op y_sub b_sub (oe_var 0) (oe_var 4))) (oa_cons (oe_op y_mul b_mul (oe_var 3) (oe_op y_add b_add (oe_var 4) oe_int)) oa_nil))))) (os_one (os_ret (oe_op y_div b_div (oe_var 2) (oe_var 3)))))))) hg__law_choose
theorem sc__law_product : FnScope N__law_product ["many"] (defScope s__law_product) := ⟨rfl, rfl, rfl, by decide +kernel, rfl, by decide +kernel, by decide +kernel⟩
theorem b__law_product (A : Al K mg) : Binds K A.d__law_product ["many"] [] := A.F__law_product.bindsN fun _ _ _ _ _ _ us hl => match us, hl with | [_], _ => rfl
theorem ok__law_product (A : Al K mg) : FnOk P w K mg base CX0 1 A.a__law_product A.d__law_product ["many"] (spP K 1 g__law_product) := okP (m := m__law_product) A.F__law_product sc__law_product (by decide) (fun cdv A0 outer s H E hr => by
    have S := sc__law_product
    exact (os_cons (os_set (i := 1) S.nd (by rfl) (by first | exact Or.inl rfl | exact Or.inr rfl) oe_int) (os_cons (os_for (vs := [2]) (by exact PassesOwn.never) (by rfl) (oi_rng2 (by rfl) A.f_range (oa_cons oe_int (oa_cons (oe_op y_add b_add (oe_var 0) oe_int) oa_nil))) (og_name (by decide) S.nd (i := 2) (by rfl) (by first | exact Or.inl rfl | exact Or.inr rfl)) (os_one (os_set (i := 1) S.nd (by rfl) (by first | exact Or.inl rfl | exact Or.inr rfl) (oe_op y_mul b_mul (oe_var 1) (oe_var 2))))) (os_one (os_ret (oe_var 1)))))) hg__law_product
theorem sc__law_power : FnScope N__law_power ["many", "often"] (defScope s__law_power) := ⟨rfl, rfl, rfl, by decide +kernel, rfl, by decide +kernel, by decide +kernel⟩
theorem b__law_power (A : Al K mg) : Binds K A.d__law_power ["many", "often"] [] := A.F__law_power.bindsN fun _ _ _ _ _ _ us hl => match us, hl with | [_, _], _ => rfl
theorem ok__law_power (A : Al K mg) : FnOk P w K mg base CX0 1 A.a__law_power A.d__law_power ["many", "often"] (spP K 2 g__law_power) := okP (m := m__law_power) A.F__law_power sc__law_power (by decide) (fun cdv A0 outer s H E hr => by
    have S := sc__law_power
    exact (os_cons (os_set (i := 2) S.nd (by rfl) (by first | exact Or.inl rfl | exact Or.inr rfl) oe_int) (os_cons (os_for (vs := [3]) (by exact PassesOwn.never) (by rfl) (oi_rng1 (by rfl) A.f_range (oa_cons (oe_var 1) oa_nil)) (og_name (by decide) S.nd (i := 3) (by rfl) (by first | exact Or.inl rfl | exact Or.inr rfl)) (os_one (os_set (i := 2) S.nd (by rfl) (by first | exact Or.inl rfl | exact Or.inr rfl) (oe_op y_mul b_mul (oe_var 2) (oe_var 0))))) (os_one (os_ret (oe_var 2)))))) hg__law_power
theorem sc__law_columns : FnScope N__law_columns ["shape"] (defScope s__law_columns) := ⟨rfl, rfl, rfl, by decide +kernel, rfl, by decide +kernel, by decide +kernel⟩
theorem b__law_columns (A : Al K mg) : Binds K A.d__law_columns ["shape"] [] := A.F__law_columns.bindsN fun _ _ _ _ _ _ us hl => match us, hl with | [_], _ => rfl
theorem ok__law_columns (A : Al K mg) : FnOk P w K mg base CX0 1 A.a__law_columns A.d__law_columns ["shape"] (spP K 1 g__law_columns) := okP (m := m__law_columns) A.F__law_columns sc__law_columns (by decide) (fun cdv A0 outer s H E hr => by
    have S := sc__law_columns
    exact (os_one (os_ret (oe_ty call_tuple_of b_tuple (by rfl) A.f_tuple bt_tuple (oa_cons (oe_f (of_lc (by rfl) S.nd (oi_rng1 (by rfl) A.f_range (oa_cons (oe_ifE (ob_cmp (y_ne (by exact crm_of hr)) b_ne (oe_var 0) (oe_tup oa_nil) (by rfl)) (oe_ix (oe_var 0) oe_int (fun _ _ => rfl)) oe_int) oa_nil)) ⟨blkOk_by (own := [("at", 1)]) (by kernel_rfl), fun _ _ _ _ _ => (og_name (by decide) S.nd (i := 1) (by rfl) (by first | exact Or.inl rfl | exact Or.inr rfl)), fun _ _ _ _ _ => ots_nil, fun _ _ _ _ _ => (oe_bi c_len b_len (by rfl) A.f_len bt_len (oa_cons (oe_f (of_lc (by rfl) S.nd (oi_seq (oe_var 0)) ⟨blkOk_by (own := [("line", 2)]) (by kernel_rfl), fun _ _ _ _ _ => (og_name (by decide) S.nd (i := 2) (by rfl) (by first | exact Or.inl rfl | exact Or.inr rfl)), fun _ _ _ _ _ => (ots_one (ob_cmp (y_gt (by exact crm_of hr)) b_gt (oe_var 2) (oe_var 1) (by rfl))), fun _ _ _ _ _ => (oe_var 2)⟩)) oa_nil))⟩)) oa_nil))))) hg__law_columns
theorem sc__law_all_shapes : FnScope N__law_all_shapes ["number", "most"] (defScope s__law_all_shapes) := ⟨rfl, rfl, rfl, by decide +kernel, rfl, by decide +kernel, by decide +kernel⟩
theorem b__law_all_shapes (A : Al K mg) : Binds K A.d__law_all_shapes ["number", "most"] [] := A.F__law_all_shapes.bindsN fun _ _ _ _ _ _ us hl => match us, hl with | [_, _], _ => rfl
theorem ok__law_all_shapes (A : Al K mg) : FnOk P w K mg base CX0 1 A.a__law_all_shapes A.d__law_all_shapes ["number", "most"] (spP K 2 g__law_all_shapes) := okP (m := m__law_all_shapes) A.F__law_all_shapes sc__law_all_shapes (by decide) (fun cdv A0 outer s H E hr => by
    have S := sc__law_all_shapes
    exact (os_cons (os_own (i := 2) S.nd (by rfl) (by first | exact Or.inl rfl | exact Or.inr rfl) (of_lst (oa_cons (oe_f (of_lst (oa_cons (oe_tup oa_nil) oa_nil))) oa_nil))) (os_cons (os_for (vs := [3]) (by exact PassesOwn.never) (by rfl) (oi_rng2 (by rfl) A.f_range (oa_cons oe_int (oa_cons (oe_op y_add b_add (oe_var 0) oe_int) oa_nil))) (og_name (by decide) S.nd (i := 3) (by rfl) (by first | exact Or.inl rfl | exact Or.inr rfl)) (os_cons (os_own (i := 4) S.nd (by rfl) (by first | exact Or.inl rfl | exact Or.inr rfl) (of_lst oa_nil)) (os_cons (os_for (vs := [5]) (by exact PassesOwn.never) (by rfl) (oi_rng2 (by rfl) A.f_range (oa_cons oe_int (oa_cons (oe_op y_add b_add (oe_bi (call_min2 (by rfl)) b_min2 (by rfl) A.f_min bt_min (oa_cons (oe_var 3) (oa_cons (oe_var 1) oa_nil))) oe_int) oa_nil))) (og_name (by decide) S.nd (i := 5) (by rfl) (by first | exact Or.inl rfl | exact Or.inr rfl)) (os_one (os_ext (i := 4) (by rfl) (by first | exact Or.inl rfl | exact Or.inr (Or.inl rfl) | exact Or.inr (Or.inr rfl)) (of_lc (by rfl) S.nd (oi_seq (oe_get (i := 2) (by rfl) (by first | exact Or.inl rfl | exact Or.inr (Or.inl rfl) | exact Or.inr (Or.inr rfl)) (oe_op y_sub b_sub (oe_var 3) (oe_var 5)) (fun _ _ => rfl))) ⟨blkOk_by (own := [("rest", 6)]) (by kernel_rfl), fun _ _ _ _ _ => (og_name (by decide) S.nd (i := 6) (by rfl) (by first | exact Or.inl rfl | exact Or.inr rfl)), fun _ _ _ _ _ => (ots_one (ob_w (ow_or (ob_cmp (y_eq (by exact crm_of hr)) b_eq (oe_var 6) (oe_tup oa_nil) (by rfl)) (ow_or1 (ob_cmp (y_le (by exact crm_of hr)) b_le (oe_ix (oe_var 6) oe_int (fun _ _ => rfl)) (oe_var 5) (by rfl)))))), fun _ _ _ _ _ => (oe_op y_add b_add (oe_tup (oa_cons (oe_var 5) oa_nil)) (oe_var 6))⟩)))) (os_one (os_app (i := 2) (by rfl) (by first | exact Or.inl rfl | exact Or.inr (Or.inl rfl) | exact Or.inr (Or.inr rfl)) (oe_var 4)))))) (os_one (os_ret (oe_get (i := 2) (by rfl) (by first | exact Or.inl rfl | exact Or.inr (Or.inl rfl) | exact Or.inr (Or.inr rfl)) (oe_var 0) (fun _ _ => rfl))))))) hg__law_all_shapes
theorem sc__law_even : FnScope N__law_even ["lengths"] (defScope s__law_even) := ⟨rfl, rfl, rfl, by decide +kernel, rfl, by decide +kernel, by decide +kernel⟩
theorem b__law_even (A : Al K mg) : Binds K A.d__law_even ["lengths"] [] := A.F__law_even.bindsN fun _ _ _ _ _ _ us hl => match us, hl with | [_], _ => rfl
theorem ok__law_even (A : Al K mg) : FnOk P w K mg base CX0 1 A.a__law_even A.d__law_even ["lengths"] (spP K 1 g__law_even) := okP (m := m__law_even) A.F__law_even sc__law_even (by decide) (fun cdv A0 outer s H E hr => by
    have S := sc__law_even
    exact (os_one (os_ret (oe_bi (cr_all (by rfl)) b_all (by rfl) A.f_all bt_all (oa_cons (oe_f (of_lc (by rfl) S.nd (oi_seq (oe_var 0)) ⟨blkOk_by (own := [("length", 1)]) (by kernel_rfl), fun _ _ _ _ _ => (og_name (by decide) S.nd (i := 1) (by rfl) (by first | exact Or.inl rfl | exact Or.inr rfl)), fun _ _ _ _ _ => ots_nil, fun _ _ _ _ _ => (oe_cmp (y_eq (by exact crm_of hr)) b_eq (oe_op y_mod b_mod (oe_ty call_int1 b_intc (by rfl) A.f_int bt_int (oa_cons (oe_var 1) oa_nil)) oe_int) oe_int (by rfl))⟩)) oa_nil))))) hg__law_even
theorem sc__law_heaps : FnScope N__law_heaps ["number", "singles", "pairs"] (defScope s__law_heaps) := ⟨rfl, rfl, rfl, by decide +kernel, rfl, by decide +kernel, by decide +kernel⟩
theorem b__law_heaps (A : Al K mg) : Binds K A.d__law_heaps ["number", "singles", "pairs"] [] := A.F__law_heaps.bindsN fun _ _ _ _ _ _ us hl => match us, hl with | [_, _, _], _ => rfl
theorem ok__law_heaps (A : Al K mg) : FnOk P w K mg base CX0 2 A.a__law_heaps A.d__law_heaps ["number", "singles", "pairs"] (spP K 3 g__law_heaps) := okP (m := m__law_heaps) A.F__law_heaps sc__law_heaps (by decide) (fun cdv A0 outer s H E hr => by
    have S := sc__law_heaps
    exact (os_cons (os_set (i := 3) S.nd (by rfl) (by first | exact Or.inl rfl | exact Or.inr rfl) oe_int) (os_cons (os_for (vs := [4]) (by exact PassesOwn.never) (by rfl) (oi_rng1 (by rfl) A.f_range (oa_cons (oe_op y_add b_add (oe_op y_div b_div (oe_var 0) oe_int) oe_int) oa_nil)) (og_name (by decide) S.nd (i := 4) (by rfl) (by first | exact Or.inl rfl | exact Or.inr rfl)) (os_cons (os_set (i := 5) S.nd (by rfl) (by first | exact Or.inl rfl | exact Or.inr rfl) (oe_ifE (ob_cmp (y_eq (by exact crm_of hr)) b_eq (oe_var 2) oe_int (by rfl)) (oe_ty call_int1 b_intc (by rfl) A.f_int bt_int (oa_cons (oe_cmp (y_eq (by exact crm_of hr)) b_eq (oe_var 4) oe_int (by rfl)) oa_nil)) (oe_call (FnOk.mono (k := 1) (ok__law_choose A) (by decide)) (by exact hr) (by rfl) A.g__law_choose A.F__law_choose.kp (b__law_choose A) (oa_cons (oe_op y_sub b_sub (oe_op y_add b_add (oe_var 4) (oe_var 2)) oe_int) (oa_cons (oe_var 4) oa_nil)) (len_cons (len_cons len_nil))))) (os_one (os_set (i := 3) S.nd (by rfl) (by first | exact Or.inl rfl | exact Or.inr rfl) (oe_op y_add b_add (oe_var 3) (oe_op y_mul b_mul (oe_call (FnOk.mono (k := 1) (ok__law_choose A) (by decide)) (by exact hr) (by rfl) A.g__law_choose A.F__law_choose.kp (b__law_choose A) (oa_cons (oe_op y_sub b_sub (oe_op y_add b_add (oe_op y_sub b_sub (oe_var 0) (oe_op y_mul b_mul oe_int (oe_var 4))) (oe_var 1)) oe_int) (oa_cons (oe_op y_sub b_sub (oe_var 1) oe_int) oa_nil)) (len_cons (len_cons len_nil))) (oe_var 5))))))) (os_one (os_ret (oe_var 3)))))) hg__law_heaps
theorem sc__law_are_tables_right : FnScope N__law_are_tables_right ["some", "number", "low", "high"] (defScope s__law_are_tables_right) := ⟨rfl, rfl, rfl, by decide +kernel, rfl, by decide +kernel, by decide +kernel⟩
theorem b__law_are_tables_right (A : Al K mg) : Binds K A.d__law_are_tables_right ["some", "number", "low", "high"] [] := A.F__law_are_tables_right.bindsN fun _ _ _ _ _ _ us hl => match us, hl with | [_, _, _, _], _ => rfl
theorem ok__law_are_tables_right (A : Al K mg) : FnOk P w K mg base CX0 5 A.a__law_are_tables_right A.d__law_are_tables_right ["some", "number", "low", "high"] (spP K 4 g__law_are_tables_right) := okP (m := m__law_are_tables_right) A.F__law_are_tables_right sc__law_are_tables_right (by decide) (fun cdv A0 outer s H E hr => by
    have S := sc__law_are_tables_right
    exact (os_cons (os_set (i := 4) S.nd (by rfl) (by first | exact Or.inl rfl | exact Or.inr rfl) (oe_bi (c_sum (by rfl)) b_sum (by rfl) A.f_sum bt_sum (oa_cons (oe_f (of_lc (by rfl) S.nd (oi_seq (oe_var 0)) ⟨blkOk_by (own := [("shape", 10)]) (by kernel_rfl), fun _ _ _ _ _ => (og_name (by decide) S.nd (i := 10) (by rfl) (by first | exact Or.inl rfl | exact Or.inr rfl)), fun _ _ _ _ _ => ots_nil, fun _ _ _ _ _ => (oe_op y_mul b_mul (oe_call (FnOk.mono (k := 4) (ok_table_count A) (by decide)) (by exact hr) (by rfl) A.g_table_count A.F_table_count.kp (b_table_count A) (oa_cons (oe_var 10) (oa_cons (oe_var 2) oa_nil)) (len_cons (len_cons len_nil))) (oe_call (FnOk.mono (k := 4) (ok_table_count A) (by decide)) (by exact hr) (by rfl) A.g_table_count A.F_table_count.kp (b_table_count A) (oa_cons (oe_var 10) (oa_cons (oe_var 3) oa_nil)) (len_cons (len_cons len_nil))))⟩)) oa_nil))) (os_cons (os_if (ob_cmp (y_ne (by exact crm_of hr)) b_ne (oe_var 4) (oe_call (FnOk.mono (k := 4) (ok__law_choose A) (by decide)) (by exact hr) (by rfl) A.g__law_choose A.F__law_choose.kp (b__law_choose A) (oa_cons (oe_op y_sub b_sub (oe_op y_add b_add (oe_var 1) (oe_op y_mul b_mul (oe_var 2) (oe_var 3))) oe_int) (oa_cons (oe_var 1) oa_nil)) (len_cons (len_cons len_nil))) (by rfl)) (os_one (os_ret oe_bl)) os_nil) (os_cons (os_if (ob_cmp (y_ne (by exact crm_of hr)) b_ne (oe_bi (c_sum (by rfl)) b_sum (by rfl) A.f_sum bt_sum (oa_cons (oe_f (of_lc (by rfl) S.nd (oi_seq (oe_var 0)) ⟨blkOk_by (own := [("shape", 10)]) (by kernel_rfl), fun _ _ _ _ _ => (og_name (by decide) S.nd (i := 10) (by rfl) (by first | exact Or.inl rfl | exact Or.inr rfl)), fun _ _ _ _ _ => ots_nil, fun _ _ _ _ _ => (oe_op y_mul b_mul (oe_call (FnOk.mono (k := 4) (ok_table_count A) (by decide)) (by exact hr) (by rfl) A.g_table_count A.F_table_count.kp (b_table_count A) (oa_cons (oe_var 10) (oa_cons (oe_var 2) oa_nil)) (len_cons (len_cons len_nil))) (oe_call (FnOk.mono (k := 4) (ok_table_count A) (by decide)) (by exact hr) (by rfl) A.g_table_count A.F_table_count.kp (b_table_count A) (oa_cons (oe_call (FnOk.mono (k := 4) (ok__law_columns A) (by decide)) (by exact hr) (by rfl) A.g__law_columns A.F__law_columns.kp (b__law_columns A) (oa_cons (oe_var 10) oa_nil) (len_cons len_nil)) (oa_cons (oe_var 3) oa_nil)) (len_cons (len_cons len_nil))))⟩)) oa_nil)) (oe_call (FnOk.mono (k := 4) (ok__law_choose A) (by decide)) (by exact hr) (by rfl) A.g__law_choose A.F__law_choose.kp (b__law_choose A) (oa_cons (oe_op y_mul b_mul (oe_var 2) (oe_var 3)) (oa_cons (oe_var 1) oa_nil)) (len_cons (len_cons len_nil))) (by rfl)) (os_one (os_ret oe_bl)) os_nil) (os_cons (os_if (ob_cmp (y_ne (by exact crm_of hr)) b_ne (oe_bi (c_sum (by rfl)) b_sum (by rfl) A.f_sum bt_sum (oa_cons (oe_f (of_lc (by rfl) S.nd (oi_seq (oe_var 0)) ⟨blkOk_by (own := [("shape", 10)]) (by kernel_rfl), fun _ _ _ _ _ => (og_name (by decide) S.nd (i := 10) (by rfl) (by first | exact Or.inl rfl | exact Or.inr rfl)), fun _ _ _ _ _ => ots_nil, fun _ _ _ _ _ => (oe_op y_mul b_mul (oe_call (FnOk.mono (k := 4) (ok_table_count A) (by decide)) (by exact hr) (by rfl) A.g_table_count A.F_table_count.kp (b_table_count A) (oa_cons (oe_var 10) (oa_cons (oe_var 2) oa_nil)) (len_cons (len_cons len_nil))) (oe_call (FnOk.mono (k := 4) (ok_standard_count A) (by decide)) (by exact hr) (by rfl) A.g_standard_count A.F_standard_count.kp (b_standard_count A) (oa_cons (oe_var 10) oa_nil) (len_cons len_nil)))⟩)) oa_nil)) (oe_call (FnOk.mono (k := 4) (ok__law_power A) (by decide)) (by exact hr) (by rfl) A.g__law_power A.F__law_power.kp (b__law_power A) (oa_cons (oe_var 2) (oa_cons (oe_var 1) oa_nil)) (len_cons (len_cons len_nil))) (by rfl)) (os_one (os_ret oe_bl)) os_nil) (os_cons (os_set (i := 5) S.nd (by rfl) (by first | exact Or.inl rfl | exact Or.inr rfl) (oe_op y_div b_div (oe_op y_mul b_mul (oe_var 2) (oe_op y_sub b_sub (oe_var 2) oe_int)) oe_int)) (os_cons (os_if (ob_cmp (y_ne (by exact crm_of hr)) b_ne (oe_bi (c_sum (by rfl)) b_sum (by rfl) A.f_sum bt_sum (oa_cons (oe_f (of_lc (by rfl) S.nd (oi_seq (oe_var 0)) ⟨blkOk_by (own := [("shape", 10)]) (by kernel_rfl), fun _ _ _ _ _ => (og_name (by decide) S.nd (i := 10) (by rfl) (by first | exact Or.inl rfl | exact Or.inr rfl)), fun _ _ _ _ _ => ots_nil, fun _ _ _ _ _ => (oe_call (FnOk.mono (k := 4) (ok_table_count A) (by decide)) (by exact hr) (by rfl) A.g_table_count A.F_table_count.kp (b_table_count A) (oa_cons (oe_var 10) (oa_cons (oe_var 2) oa_nil)) (len_cons (len_cons len_nil)))⟩)) oa_nil)) (oe_call (FnOk.mono (k := 4) (ok__law_heaps A) (by decide)) (by exact hr) (by rfl) A.g__law_heaps A.F__law_heaps.kp (b__law_heaps A) (oa_cons (oe_var 1) (oa_cons (oe_var 2) (oa_cons (oe_var 5) oa_nil))) (len_cons (len_cons (len_cons len_nil)))) (by rfl)) (os_one (os_ret oe_bl)) os_nil) (os_cons (os_set (i := 6) S.nd (by rfl) (by first | exact Or.inl rfl | exact Or.inr rfl) (oe_op y_div b_div (oe_var 1) oe_int)) (os_cons (os_set (i := 7) S.nd (by rfl) (by first | exact Or.inl rfl | exact Or.inr rfl) (oe_bi (c_sum (by rfl)) b_sum (by rfl) A.f_sum bt_sum (oa_cons (oe_f (of_lc (by rfl) S.nd (oi_seq (oe_var 0)) ⟨blkOk_by (own := [("shape", 10)]) (by kernel_rfl), fun _ _ _ _ _ => (og_name (by decide) S.nd (i := 10) (by rfl) (by first | exact Or.inl rfl | exact Or.inr rfl)), fun _ _ _ _ _ => (ots_one (ob_val (oe_call (FnOk.mono (k := 4) (ok__law_even A) (by decide)) (by exact hr) (by rfl) A.g__law_even A.F__law_even.kp (b__law_even A) (oa_cons (oe_var 10) oa_nil) (len_cons len_nil)))), fun _ _ _ _ _ => (oe_call (FnOk.mono (k := 4) (ok_table_count A) (by decide)) (by exact hr) (by rfl) A.g_table_count A.F_table_count.kp (b_table_count A) (oa_cons (oe_var 10) (oa_cons (oe_var 2) oa_nil)) (len_cons (len_cons len_nil)))⟩)) oa_nil))) (os_cons (os_set (i := 8) S.nd (by rfl) (by first | exact Or.inl rfl | exact Or.inr rfl) (oe_bi (c_sum (by rfl)) b_sum (by rfl) A.f_sum bt_sum (oa_cons (oe_f (of_lc (by rfl) S.nd (oi_seq (oe_var 0)) ⟨blkOk_by (own := [("shape", 10)]) (by kernel_rfl), fun _ _ _ _ _ => (og_name (by decide) S.nd (i := 10) (by rfl) (by first | exact Or.inl rfl | exact Or.inr rfl)), fun _ _ _ _ _ => (ots_one (ob_val (oe_call (FnOk.mono (k := 4) (ok__law_even A) (by decide)) (by exact hr) (by rfl) A.g__law_even A.F__law_even.kp (b__law_even A) (oa_cons (oe_call (FnOk.mono (k := 4) (ok__law_columns A) (by decide)) (by exact hr) (by rfl) A.g__law_columns A.F__law_columns.kp (b__law_columns A) (oa_cons (oe_var 10) oa_nil) (len_cons len_nil)) oa_nil) (len_cons len_nil)))), fun _ _ _ _ _ => (oe_call (FnOk.mono (k := 4) (ok_table_count A) (by decide)) (by exact hr) (by rfl) A.g_table_count A.F_table_count.kp (b_table_count A) (oa_cons (oe_var 10) (oa_cons (oe_var 2) oa_nil)) (len_cons (len_cons len_nil)))⟩)) oa_nil))) (os_cons (os_set (i := 9) S.nd (by rfl) (by first | exact Or.inl rfl | exact Or.inr rfl) (oe_tup (oa_cons (oe_call (FnOk.mono (k := 4) (ok__law_choose A) (by decide)) (by exact hr) (by rfl) A.g__law_choose A.F__law_choose.kp (b__law_choose A) (oa_cons (oe_op y_sub b_sub (oe_op y_add b_add (oe_op y_add b_add (oe_var 6) (oe_var 5)) (oe_var 2)) oe_int) (oa_cons (oe_var 6) oa_nil)) (len_cons (len_cons len_nil))) (oa_cons (oe_ifE (ob_cmp (y_gt (by exact crm_of hr)) b_gt (oe_var 5) oe_int (by rfl)) (oe_call (FnOk.mono (k := 4) (ok__law_choose A) (by decide)) (by exact hr) (by rfl) A.g__law_choose A.F__law_choose.kp (b__law_choose A) (oa_cons (oe_op y_sub b_sub (oe_op y_add b_add (oe_var 6) (oe_var 5)) oe_int) (oa_cons (oe_var 6) oa_nil)) (len_cons (len_cons len_nil))) (oe_ty call_int1 b_intc (by rfl) A.f_int bt_int (oa_cons (oe_cmp (y_eq (by exact crm_of hr)) b_eq (oe_var 6) oe_int (by rfl)) oa_nil))) oa_nil)))) (os_one (os_ret (oe_cmp (y_eq (by exact crm_of hr)) b_eq (oe_tup (oa_cons (oe_var 7) (oa_cons (oe_var 8) oa_nil))) (oe_ifE (ob_cmp (y_eq (by exact crm_of hr)) b_eq (oe_op y_mod b_mod (oe_ty call_int1 b_intc (by rfl) A.f_int bt_int (oa_cons (oe_var 1) oa_nil)) oe_int) oe_int (by rfl)) (oe_var 9) (oe_tup (oa_cons oe_int (oa_cons oe_int oa_nil)))) (by rfl))))))))))))))) hg__law_are_tables_right
theorem sc__law_are_rows_right : FnScope N__law_are_rows_right ["some", "number"] (defScope s__law_are_rows_right) := ⟨rfl, rfl, rfl, by decide +kernel, rfl, by decide +kernel, by decide +kernel⟩
theorem b__law_are_rows_right (A : Al K mg) : Binds K A.d__law_are_rows_right ["some", "number"] [] := A.F__law_are_rows_right.bindsN fun _ _ _ _ _ _ us hl => match us, hl with | [_, _], _ => rfl
theorem ok__law_are_rows_right (A : Al K mg) : FnOk P w K mg base CX0 18 A.a__law_are_rows_right A.d__law_are_rows_right ["some", "number"] (spP K 2 g__law_are_rows_right) := okP (m := m__law_are_rows_right) A.F__law_are_rows_right sc__law_are_rows_right (by decide) (fun cdv A0 outer s H E hr => by
    have S := sc__law_are_rows_right
    exact (os_cons (os_if (ob_cmp (y_ne (by exact crm_of hr)) b_ne (oe_bi (c_sum (by rfl)) b_sum (by rfl) A.f_sum bt_sum (oa_cons (oe_f (of_lc (by rfl) S.nd (oi_seq (oe_var 0)) ⟨blkOk_by (own := [("shape", 7)]) (by kernel_rfl), fun _ _ _ _ _ => (og_name (by decide) S.nd (i := 7) (by rfl) (by first | exact Or.inl rfl | exact Or.inr rfl)), fun _ _ _ _ _ => ots_nil, fun _ _ _ _ _ => (oe_call (FnOk.mono (k := 17) (ok_rows_of_shape A) (by decide)) (by exact hr) (by rfl) A.g_rows_of_shape A.F_rows_of_shape.kp (b_rows_of_shape A) (oa_cons (oe_var 7) oa_nil) (len_cons len_nil))⟩)) oa_nil)) (oe_call (FnOk.mono (k := 17) (ok__law_product A) (by decide)) (by exact hr) (by rfl) A.g__law_product A.F__law_product.kp (b__law_product A) (oa_cons (oe_var 1) oa_nil) (len_cons len_nil)) (by rfl)) (os_one (os_ret oe_bl)) os_nil) (os_cons (os_own (i := 2) S.nd (by rfl) (by first | exact Or.inl rfl | exact Or.inr rfl) (of_lst (oa_cons oe_int (oa_cons oe_int oa_nil)))) (os_cons (os_for (vs := [3]) (by exact PassesOwn.never) (by rfl) (oi_rng2 (by rfl) A.f_range (oa_cons oe_int (oa_cons (oe_op y_add b_add (oe_var 1) oe_int) oa_nil))) (og_name (by decide) S.nd (i := 3) (by rfl) (by first | exact Or.inl rfl | exact Or.inr rfl)) (os_one (os_app (i := 2) (by rfl) (by first | exact Or.inl rfl | exact Or.inr (Or.inl rfl) | exact Or.inr (Or.inr rfl)) (oe_op y_add b_add (oe_get (i := 2) (by rfl) (by first | exact Or.inl rfl | exact Or.inr (Or.inl rfl) | exact Or.inr (Or.inr rfl)) (oe_op y_sub b_sub (oe_var 3) oe_int) (fun _ _ => rfl)) (oe_op y_mul b_mul (oe_op y_sub b_sub (oe_var 3) oe_int) (oe_get (i := 2) (by rfl) (by first | exact Or.inl rfl | exact Or.inr (Or.inl rfl) | exact Or.inr (Or.inr rfl)) (oe_op y_sub b_sub (oe_var 3) oe_int) (fun _ _ => rfl))))))) (os_cons (os_if (ob_cmp (y_ne (by exact crm_of hr)) b_ne (oe_bi (c_sum (by rfl)) b_sum (by rfl) A.f_sum bt_sum (oa_cons (oe_f (of_lc (by rfl) S.nd (oi_seq (oe_var 0)) ⟨blkOk_by (own := [("shape", 7)]) (by kernel_rfl), fun _ _ _ _ _ => (og_name (by decide) S.nd (i := 7) (by rfl) (by first | exact Or.inl rfl | exact Or.inr rfl)), fun _ _ _ _ _ => ots_nil, fun _ _ _ _ _ => (oe_call (FnOk.mono (k := 17) (ok_standard_count A) (by decide)) (by exact hr) (by rfl) A.g_standard_count A.F_standard_count.kp (b_standard_count A) (oa_cons (oe_var 7) oa_nil) (len_cons len_nil))⟩)) oa_nil)) (oe_get (i := 2) (by rfl) (by first | exact Or.inl rfl | exact Or.inr (Or.inl rfl) | exact Or.inr (Or.inr rfl)) (oe_var 1) (fun _ _ => rfl)) (by rfl)) (os_one (os_ret oe_bl)) os_nil) (os_cons (os_par (i := 4) (j := 5) (by rfl) S.nd (by rfl) (by rfl) (oa_cons (oe_op y_div b_div (oe_var 1) oe_int) (oa_cons oe_int oa_nil))) (os_cons (os_if (ob_cmp (y_eq (by exact crm_of hr)) b_eq (oe_op y_mod b_mod (oe_ty call_int1 b_intc (by rfl) A.f_int bt_int (oa_cons (oe_var 1) oa_nil)) oe_int) oe_int (by rfl)) (os_one (os_set (i := 5) S.nd (by rfl) (by first | exact Or.inl rfl | exact Or.inr rfl) (oe_op y_div b_div (oe_call (FnOk.mono (k := 17) (ok__law_product A) (by decide)) (by exact hr) (by rfl) A.g__law_product A.F__law_product.kp (b__law_product A) (oa_cons (oe_var 1) oa_nil) (len_cons len_nil)) (oe_op y_mul b_mul (oe_call (FnOk.mono (k := 17) (ok__law_power A) (by decide)) (by exact hr) (by rfl) A.g__law_power A.F__law_power.kp (b__law_power A) (oa_cons oe_int (oa_cons (oe_var 4) oa_nil)) (len_cons (len_cons len_nil))) (oe_call (FnOk.mono (k := 17) (ok__law_product A) (by decide)) (by exact hr) (by rfl) A.g__law_product A.F__law_product.kp (b__law_product A) (oa_cons (oe_var 4) oa_nil) (len_cons len_nil)))))) os_nil) (os_cons (os_if (ob_cmp (y_ne (by exact crm_of hr)) b_ne (oe_bi (c_sum (by rfl)) b_sum (by rfl) A.f_sum bt_sum (oa_cons (oe_f (of_lc (by rfl) S.nd (oi_seq (oe_var 0)) ⟨blkOk_by (own := [("shape", 7)]) (by kernel_rfl), fun _ _ _ _ _ => (og_name (by decide) S.nd (i := 7) (by rfl) (by first | exact Or.inl rfl | exact Or.inr rfl)), fun _ _ _ _ _ => (ots_one (ob_val (oe_call (FnOk.mono (k := 17) (ok__law_even A) (by decide)) (by exact hr) (by rfl) A.g__law_even A.F__law_even.kp (b__law_even A) (oa_cons (oe_call (FnOk.mono (k := 17) (ok__law_columns A) (by decide)) (by exact hr) (by rfl) A.g__law_columns A.F__law_columns.kp (b__law_columns A) (oa_cons (oe_var 7) oa_nil) (len_cons len_nil)) oa_nil) (len_cons len_nil)))), fun _ _ _ _ _ => (oe_call (FnOk.mono (k := 17) (ok_standard_count A) (by decide)) (by exact hr) (by rfl) A.g_standard_count A.F_standard_count.kp (b_standard_count A) (oa_cons (oe_var 7) oa_nil) (len_cons len_nil))⟩)) oa_nil)) (oe_var 5) (by rfl)) (os_one (os_ret oe_bl)) os_nil) (os_cons (os_if (ob_cmp (y_ne (by exact crm_of hr)) b_ne (oe_bi (c_sum (by rfl)) b_sum (by rfl) A.f_sum bt_sum (oa_cons (oe_f (of_lc (by rfl) S.nd (oi_seq (oe_var 0)) ⟨blkOk_by (own := [("shape", 7)]) (by kernel_rfl), fun _ _ _ _ _ => (og_name (by decide) S.nd (i := 7) (by rfl) (by first | exact Or.inl rfl | exact Or.inr rfl)), fun _ _ _ _ _ => (ots_one (ob_val (oe_call (FnOk.mono (k := 17) (ok__law_even A) (by decide)) (by exact hr) (by rfl) A.g__law_even A.F__law_even.kp (b__law_even A) (oa_cons (oe_var 7) oa_nil) (len_cons len_nil)))), fun _ _ _ _ _ => (oe_call (FnOk.mono (k := 17) (ok_standard_count A) (by decide)) (by exact hr) (by rfl) A.g_standard_count A.F_standard_count.kp (b_standard_count A) (oa_cons (oe_var 7) oa_nil) (len_cons len_nil))⟩)) oa_nil)) (oe_var 5) (by rfl)) (os_one (os_ret oe_bl)) os_nil) (os_cons (os_lcSet (i := 6) (by rfl) S.nd (by rfl) (by rfl) (sw_true (by rfl) (by rfl) (by rfl) (by decide +kernel)) (oi_seq (oe_var 0)) ⟨blkOk_by (own := [("shape", 7)]) (by kernel_rfl), fun _ _ _ _ _ => (og_name (by decide) S.nd (i := 7) (by rfl) (by first | exact Or.inl rfl | exact Or.inr rfl)), fun _ _ _ _ _ => (ots_one (ob_cmp (y_le (by exact crm_of hr)) b_le (oe_bi c_len b_len (by rfl) A.f_len bt_len (oa_cons (oe_var 7) oa_nil)) oe_int (by rfl))), fun _ _ _ _ _ => (oe_var 7)⟩) (os_cons (os_if (ob_cmp (y_ne (by exact crm_of hr)) b_ne (oe_bi (c_sum (by rfl)) b_sum (by rfl) A.f_sum bt_sum (oa_cons (oe_f (of_lc (by rfl) S.nd (oi_seq (oe_var 6)) ⟨blkOk_by (own := [("shape", 7)]) (by kernel_rfl), fun _ _ _ _ _ => (og_name (by decide) S.nd (i := 7) (by rfl) (by first | exact Or.inl rfl | exact Or.inr rfl)), fun _ _ _ _ _ => ots_nil, fun _ _ _ _ _ => (oe_call (FnOk.mono (k := 17) (ok_standard_count A) (by decide)) (by exact hr) (by rfl) A.g_standard_count A.F_standard_count.kp (b_standard_count A) (oa_cons (oe_var 7) oa_nil) (len_cons len_nil))⟩)) oa_nil)) (oe_call (FnOk.mono (k := 17) (ok__law_choose A) (by decide)) (by exact hr) (by rfl) A.g__law_choose A.F__law_choose.kp (b__law_choose A) (oa_cons (oe_var 1) (oa_cons (oe_var 4) oa_nil)) (len_cons (len_cons len_nil))) (by rfl)) (os_one (os_ret oe_bl)) os_nil) (os_cons (os_if (ob_cmp (y_ne (by exact crm_of hr)) b_ne (oe_call (FnOk.mono (k := 17) (ok_rows_led A) (by decide)) (by exact hr) (by rfl) A.g_rows_led A.F_rows_led.kp (b_rows_led A) (oa_cons (oe_var 1) (oa_cons oe_int oa_nil)) (len_cons (len_cons len_nil))) (oe_op y_div b_div (oe_call (FnOk.mono (k := 17) (ok__law_choose A) (by decide)) (by exact hr) (by rfl) A.g__law_choose A.F__law_choose.kp (b__law_choose A) (oa_cons (oe_op y_mul b_mul oe_int (oe_var 1)) (oa_cons (oe_var 1) oa_nil)) (len_cons (len_cons len_nil))) (oe_op y_add b_add (oe_var 1) oe_int)) (by rfl)) (os_one (os_ret oe_bl)) os_nil) (os_one (os_ret (oe_bi (cr_all (by rfl)) b_all (by rfl) A.f_all bt_all (oa_cons (oe_f (of_lc (by rfl) S.nd (oi_rng1 (by rfl) A.f_range (oa_cons (oe_op y_add b_add (oe_var 1) oe_int) oa_nil)) ⟨blkOk_by (own := [("many", 8)]) (by kernel_rfl), fun _ _ _ _ _ => (og_name (by decide) S.nd (i := 8) (by rfl) (by first | exact Or.inl rfl | exact Or.inr rfl)), fun _ _ _ _ _ => ots_nil, fun _ _ _ _ _ => (oe_cmp (y_eq (by exact crm_of hr)) b_eq (oe_call (FnOk.mono (k := 17) (ok_rows_led A) (by decide)) (by exact hr) (by rfl) A.g_rows_led A.F_rows_led.kp (b_rows_led A) (oa_cons (oe_var 1) (oa_cons (oe_var 8) oa_nil)) (len_cons (len_cons len_nil))) (oe_bi (c_sum (by rfl)) b_sum (by rfl) A.f_sum bt_sum (oa_cons (oe_f (of_lc (by rfl) S.nd (oi_seq (oe_var 0)) ⟨blkOk_by (own := [("shape", 7)]) (by kernel_rfl), fun _ _ _ _ _ => (og_name (by decide) S.nd (i := 7) (by rfl) (by first | exact Or.inl rfl | exact Or.inr rfl)), fun _ _ _ _ _ => (ots_one (ob_cmp (y_le (by exact crm_of hr)) b_le (oe_bi c_len b_len (by rfl) A.f_len bt_len (oa_cons (oe_var 7) oa_nil)) (oe_var 8) (by rfl))), fun _ _ _ _ _ => (oe_call (FnOk.mono (k := 17) (ok_rows_of_shape A) (by decide)) (by exact hr) (by rfl) A.g_rows_of_shape A.F_rows_of_shape.kp (b_rows_of_shape A) (oa_cons (oe_var 7) oa_nil) (len_cons len_nil))⟩)) oa_nil)) (by rfl))⟩)) oa_nil)))))))))))))))) hg__law_are_rows_right
theorem sc__law_are_steps_right : FnScope N__law_are_steps_right ["some", "number"] (defScope s__law_are_steps_right) := ⟨rfl, rfl, rfl, by decide +kernel, rfl, by decide +kernel, by decide +kernel⟩
theorem b__law_are_steps_right (A : Al K mg) : Binds K A.d__law_are_steps_right ["some", "number"] [] := A.F__law_are_steps_right.bindsN fun _ _ _ _ _ _ us hl => match us, hl with | [_, _], _ => rfl
theorem ok__law_are_steps_right (A : Al K mg) : FnOk P w K mg base CX0 5 A.a__law_are_steps_right A.d__law_are_steps_right ["some", "number"] (spP K 2 g__law_are_steps_right) := okP (m := m__law_are_steps_right) A.F__law_are_steps_right sc__law_are_steps_right (by decide) (fun cdv A0 outer s H E hr => by
    have S := sc__law_are_steps_right
    exact (os_cons (os_set (i := 2) S.nd (by rfl) (by first | exact Or.inl rfl | exact Or.inr rfl) (oe_call (FnOk.mono (k := 4) (ok__law_all_shapes A) (by decide)) (by exact hr) (by rfl) A.g__law_all_shapes A.F__law_all_shapes.kp (b__law_all_shapes A) (oa_cons (oe_op y_add b_add (oe_var 1) oe_int) (oa_cons (oe_op y_add b_add (oe_var 1) oe_int) oa_nil)) (len_cons (len_cons len_nil)))) (os_cons (os_dnew (i := 3) S.nd (by first | exact Or.inl rfl | exact Or.inr rfl)) (os_cons (os_for (vs := [4]) (by exact PassesOwn.never) (by rfl) (oi_seq (oe_var 0)) (og_name (by decide) S.nd (i := 4) (by rfl) (by first | exact Or.inl rfl | exact Or.inr rfl)) (os_one (os_for (vs := [5]) (by exact PassesOwn.never) (by rfl) (oi_seq (oe_call (FnOk.mono (k := 4) (ok_grown A) (by decide)) (by exact hr) (by rfl) A.g_grown A.F_grown.kp (b_grown A) (oa_cons (oe_var 4) oa_nil) (len_cons len_nil))) (og_name (by decide) S.nd (i := 5) (by rfl) (by first | exact Or.inl rfl | exact Or.inr rfl)) (os_one (os_dput (i := 3) (by exact crm_of hr) (oe_op y_add b_add (oe_dgt (i := 3) (by exact crm_of hr) (oe_var 5) oe_int ⟨(by rfl), (by rfl), (by rfl), (by rfl)⟩) oe_int) (oe_var 5)))))) (os_cons (os_if (ob_w (ow_or (ob_sortNe (i := 3) (j := 2) (by rfl) (by exact crm_of hr) (by rfl) A.f_sorted bt_sorted) (ow_or1 (ob_val (oe_bi (cr_any (by rfl)) b_any (by rfl) A.f_any bt_any (oa_cons (oe_f (of_lc (by rfl) S.nd (oi_seq (oe_var 2)) ⟨blkOk_by (own := [("one", 5)]) (by kernel_rfl), fun _ _ _ _ _ => (og_name (by decide) S.nd (i := 5) (by rfl) (by first | exact Or.inl rfl | exact Or.inr rfl)), fun _ _ _ _ _ => ots_nil, fun _ _ _ _ _ => (oe_cmp (y_ne (by exact crm_of hr)) b_ne (oe_dix (i := 3) (by exact crm_of hr) (oe_var 5) (fun _ _ => rfl)) (oe_bi c_len b_len (by rfl) A.f_len bt_len (oa_cons (oe_call (FnOk.mono (k := 4) (ok_shrunk A) (by decide)) (by exact hr) (by rfl) A.g_shrunk A.F_shrunk.kp (b_shrunk A) (oa_cons (oe_var 5) oa_nil) (len_cons len_nil)) oa_nil)) (by rfl))⟩)) oa_nil)))))) (os_one (os_ret oe_bl)) os_nil) (os_cons (os_for (vs := [4]) (by exact PassesOwn.never) (by rfl) (oi_seq (oe_var 0)) (og_name (by decide) S.nd (i := 4) (by rfl) (by first | exact Or.inl rfl | exact Or.inr rfl)) (os_cons (os_if (ob_w (ow_or (ob_not (ob_val (oe_bi (cr_all (by rfl)) b_all (by rfl) A.f_all bt_all (oa_cons (oe_f (of_lc (by rfl) S.nd (oi_seq (oe_call (FnOk.mono (k := 4) (ok_grown A) (by decide)) (by exact hr) (by rfl) A.g_grown A.F_grown.kp (b_grown A) (oa_cons (oe_var 4) oa_nil) (len_cons len_nil))) ⟨blkOk_by (own := [("one", 5)]) (by kernel_rfl), fun _ _ _ _ _ => (og_name (by decide) S.nd (i := 5) (by rfl) (by first | exact Or.inl rfl | exact Or.inr rfl)), fun _ _ _ _ _ => ots_nil, fun _ _ _ _ _ => (oe_cmp (y_in (by exact crm_of hr)) b_in (oe_var 4) (oe_call (FnOk.mono (k := 4) (ok_shrunk A) (by decide)) (by exact hr) (by rfl) A.g_shrunk A.F_shrunk.kp (b_shrunk A) (oa_cons (oe_var 5) oa_nil) (len_cons len_nil)) (by rfl))⟩)) oa_nil)))) (ow_or1 (ob_cmp (y_ne (by exact crm_of hr)) b_ne (oe_bi c_len b_len (by rfl) A.f_len bt_len (oa_cons (oe_call (FnOk.mono (k := 4) (ok_grown A) (by decide)) (by exact hr) (by rfl) A.g_grown A.F_grown.kp (b_grown A) (oa_cons (oe_var 4) oa_nil) (len_cons len_nil)) oa_nil)) (oe_op y_add b_add (oe_bi c_len b_len (by rfl) A.f_len bt_len (oa_cons (oe_call (FnOk.mono (k := 4) (ok_shrunk A) (by decide)) (by exact hr) (by rfl) A.g_shrunk A.F_shrunk.kp (b_shrunk A) (oa_cons (oe_var 4) oa_nil) (len_cons len_nil)) oa_nil)) oe_int) (by rfl))))) (os_one (os_ret oe_bl)) os_nil) (os_one (os_if (ob_cmp (y_ne (by exact crm_of hr)) b_ne (oe_bi (c_sum (by rfl)) b_sum (by rfl) A.f_sum bt_sum (oa_cons (oe_f (of_lc (by rfl) S.nd (oi_seq (oe_call (FnOk.mono (k := 4) (ok_grown A) (by decide)) (by exact hr) (by rfl) A.g_grown A.F_grown.kp (b_grown A) (oa_cons (oe_var 4) oa_nil) (len_cons len_nil))) ⟨blkOk_by (own := [("one", 5)]) (by kernel_rfl), fun _ _ _ _ _ => (og_name (by decide) S.nd (i := 5) (by rfl) (by first | exact Or.inl rfl | exact Or.inr rfl)), fun _ _ _ _ _ => ots_nil, fun _ _ _ _ _ => (oe_call (FnOk.mono (k := 4) (ok_standard_count A) (by decide)) (by exact hr) (by rfl) A.g_standard_count A.F_standard_count.kp (b_standard_count A) (oa_cons (oe_var 5) oa_nil) (len_cons len_nil))⟩)) oa_nil)) (oe_op y_mul b_mul (oe_op y_add b_add (oe_var 1) oe_int) (oe_call (FnOk.mono (k := 4) (ok_standard_count A) (by decide)) (by exact hr) (by rfl) A.g_standard_count A.F_standard_count.kp (b_standard_count A) (oa_cons (oe_var 4) oa_nil) (len_cons len_nil))) (by rfl)) (os_one (os_ret oe_bl)) os_nil)))) (os_one (os_ret oe_bl)))))))) hg__law_are_steps_right
theorem sc__law_right : FnScope N__law_right ["pot"] (defScope s__law_right) := ⟨rfl, rfl, rfl, by decide +kernel, rfl, by decide +kernel, by decide +kernel⟩
theorem b__law_right (A : Al K mg) : Binds K A.d__law_right ["pot"] [] := A.F__law_right.bindsN fun _ _ _ _ _ _ us hl => match us, hl with | [_], _ => rfl
theorem ok__law_right (A : Al K mg) : FnOk P w K mg base CX0 19 A.a__law_right A.d__law_right ["pot"] (spB K 1 g__law_right) := okB (m := m__law_right) A.F__law_right sc__law_right (by decide) (fun cdv A0 outer s H E hr => by
    have S := sc__law_right
    exact (os_cons (os_set (i := 1) S.nd (by rfl) (by first | exact Or.inl rfl | exact Or.inr rfl) (oe_ty call_int1 b_intc (by rfl) A.f_int bt_int (oa_cons (oe_callB (i := 0) (FnOk.mono (k := 18) (ok__law_take A) (by decide)) (by exact hr) (by rfl) A.g__law_take A.F__law_take.kp (b__law_take A) (by rfl) (by first | exact Or.inl rfl | exact Or.inr (Or.inl rfl) | exact Or.inr (Or.inr rfl)) (oa_cons (oe_callB (i := 0) (FnOk.mono (k := 18) (ok__law_of A) (by decide)) (by exact hr) (by rfl) A.g__law_of A.F__law_of.kp (b__law_of A) (by rfl) (by first | exact Or.inl rfl | exact Or.inr (Or.inl rfl) | exact Or.inr (Or.inr rfl)) (oa_cons (oe_tup (oa_cons oe_int (oa_cons oe_int oa_nil))) oa_nil) (len_up (len_cons len_nil))) oa_nil) (len_up (len_cons len_nil))) oa_nil))) (os_cons (os_par3 (i := 2) (j := 3) (l := 4) (by rfl) S.nd (by rfl) (by rfl) (by rfl) (oa_cons (oe_call (FnOk.mono (k := 18) (ok_shapes A) (by decide)) (by exact hr) (by rfl) A.g_shapes A.F_shapes.kp (b_shapes A) (oa_cons (oe_var 1) oa_nil) (len_cons len_nil)) (oa_cons (oe_op y_add b_add oe_int (oe_ty call_int1 b_intc (by rfl) A.f_int bt_int (oa_cons (oe_callB (i := 0) (FnOk.mono (k := 18) (ok__law_take A) (by decide)) (by exact hr) (by rfl) A.g__law_take A.F__law_take.kp (b__law_take A) (by rfl) (by first | exact Or.inl rfl | exact Or.inr (Or.inl rfl) | exact Or.inr (Or.inr rfl)) (oa_cons oe_int oa_nil) (len_up (len_cons len_nil))) oa_nil))) (oa_cons (oe_op y_add b_add oe_int (oe_ty call_int1 b_intc (by rfl) A.f_int bt_int (oa_cons (oe_callB (i := 0) (FnOk.mono (k := 18) (ok__law_take A) (by decide)) (by exact hr) (by rfl) A.g__law_take A.F__law_take.kp (b__law_take A) (by rfl) (by first | exact Or.inl rfl | exact Or.inr (Or.inl rfl) | exact Or.inr (Or.inr rfl)) (oa_cons oe_int oa_nil) (len_up (len_cons len_nil))) oa_nil))) oa_nil)))) (os_cons (os_if (ob_cmp (y_ne (by exact crm_of hr)) b_ne (oe_f (of_ty call_list_of b_list (by rfl) A.f_list bt_list (oa_cons (oe_var 2) oa_nil))) (oe_call (FnOk.mono (k := 18) (ok__law_all_shapes A) (by decide)) (by exact hr) (by rfl) A.g__law_all_shapes A.F__law_all_shapes.kp (b__law_all_shapes A) (oa_cons (oe_var 1) (oa_cons (oe_var 1) oa_nil)) (len_cons (len_cons len_nil))) (by rfl)) (os_one (os_ret oe_bl)) os_nil) (os_cons (os_if (ob_w (ow_or (ob_not (ob_val (oe_call (FnOk.mono (k := 18) (ok__law_are_tables_right A) (by decide)) (by exact hr) (by rfl) A.g__law_are_tables_right A.F__law_are_tables_right.kp (b__law_are_tables_right A) (oa_cons (oe_var 2) (oa_cons (oe_var 1) (oa_cons (oe_var 3) (oa_cons (oe_var 4) oa_nil)))) (len_cons (len_cons (len_cons (len_cons len_nil))))))) (ow_or1 (ob_not (ob_val (oe_call (FnOk.mono (k := 18) (ok__law_are_rows_right A) (by decide)) (by exact hr) (by rfl) A.g__law_are_rows_right A.F__law_are_rows_right.kp (b__law_are_rows_right A) (oa_cons (oe_var 2) (oa_cons (oe_var 1) oa_nil)) (len_cons (len_cons len_nil)))))))) (os_one (os_ret oe_bl)) os_nil) (os_one (os_ret (oe_call (FnOk.mono (k := 18) (ok__law_are_steps_right A) (by decide)) (by exact hr) (by rfl) A.g__law_are_steps_right A.F__law_are_steps_right.kp (b__law_are_steps_right A) (oa_cons (oe_var 2) (oa_cons (oe_var 1) oa_nil)) (len_cons (len_cons len_nil)))))))))) hg__law_right
theorem sc_law : FnScope N_law ["script"] (defScope s_law) := ⟨rfl, rfl, rfl, by decide +kernel, rfl, by decide +kernel, by decide +kernel⟩
theorem b_law (A : Al K mg) : Binds K A.d_law ["script"] [] := A.F_law.bindsN fun _ _ _ _ _ _ us hl => match us, hl with | [_], _ => rfl
theorem ok_law (A : Al K mg) : FnOk P w K mg base CX0 20 A.a_law A.d_law ["script"] (spP K 1 g_law) := okP (m := m_law) A.F_law sc_law (by decide) (fun cdv A0 outer s H E hr => by
    have S := sc_law
    exact (os_one (os_ret (oe_bi (cr_all (by rfl)) b_all (by rfl) A.f_all bt_all (oa_cons (oe_f (of_lc (by rfl) S.nd (oi_seq (oe_call (FnOk.mono (k := 19) (ok__law_cells A) (by decide)) (by exact hr) (by rfl) A.g__law_cells A.F__law_cells.kp (b__law_cells A) (oa_cons (oe_var 0) (oa_cons oe_int oa_nil)) (len_cons (len_cons len_nil)))) ⟨blkOk_by (own := [("place", 1)]) (by kernel_rfl), fun _ _ _ _ _ => (og_name (by decide) S.nd (i := 1) (by rfl) (by first | exact Or.inl rfl | exact Or.inr rfl)), fun _ _ _ _ _ => ots_nil, fun _ _ _ _ _ => (oe_callBF (FnOk.mono (k := 19) (ok__law_right A) (by decide)) (by exact hr) (by rfl) A.g__law_right A.F__law_right.kp (b__law_right A) (of_callN (FnOk.mono (k := 19) (ok__law_pot A) (by decide)) (by exact hr) (by rfl) A.g__law_pot A.F__law_pot.kp (b__law_pot A) (oa_cons (oe_var 0) (oa_cons (oe_var 1) oa_nil)) (len_cons (len_cons len_nil))))⟩)) oa_nil))))) hg_law
end
end Yd

set_option Elab.async false
set_option linter.all false
set_option maxRecDepth 1000000
set_option maxHeartbeats 0
set_option autoImplicit false
namespace Yd
open PySem PySem.Spec PyProof.Rows L2
theorem q_sh_0 : chk (g_shapes [nD 0]) (.tuple ((allP 0 0 0).map encN)) = true := by decide +kernel
theorem q_sh_1 : chk (g_shapes [nD 1]) (.tuple ((allP 1 1 1).map encN)) = true := by decide +kernel
theorem q_sh_2 : chk (g_shapes [nD 2]) (.tuple ((allP 2 2 2).map encN)) = true := by decide +kernel
theorem q_sh_3 : chk (g_shapes [nD 3]) (.tuple ((allP 3 3 3).map encN)) = true := by decide +kernel
theorem q_sh_4 : chk (g_shapes [nD 4]) (.tuple ((allP 4 4 4).map encN)) = true := by decide +kernel
theorem q_sh_5 : chk (g_shapes [nD 5]) (.tuple ((allP 5 5 5).map encN)) = true := by decide +kernel
theorem q_sh_6 : chk (g_shapes [nD 6]) (.tuple ((allP 6 6 6).map encN)) = true := by decide +kernel
theorem q_sh_7 : chk (g_shapes [nD 7]) (.tuple ((allP 7 7 7).map encN)) = true := by decide +kernel
theorem q_sh_8 : chk (g_shapes [nD 8]) (.tuple ((allP 8 8 8).map encN)) = true := by decide +kernel
theorem q_sh_9 : chk (g_shapes [nD 9]) (.tuple ((allP 9 9 9).map encN)) = true := by decide +kernel
theorem q_sh_10 : chk (g_shapes [nD 10]) (.tuple ((allP 10 10 10).map encN)) = true := by decide +kernel
theorem q_sh_11 : chk (g_shapes [nD 11]) (.tuple ((allP 11 11 11).map encN)) = true := by decide +kernel
theorem q_sh_12 : chk (g_shapes [nD 12]) (.tuple ((allP 12 12 12).map encN)) = true := by decide +kernel
theorem q_sh_13 : chk (g_shapes [nD 13]) (.tuple ((allP 13 13 13).map encN)) = true := by decide +kernel
theorem q_sh : ∀ n : Nat, n ≤ 13 → chk (g_shapes [nD n]) (.tuple ((allP n n n).map encN)) = true
  | 0, _ => q_sh_0
  | 1, _ => q_sh_1
  | 2, _ => q_sh_2
  | 3, _ => q_sh_3
  | 4, _ => q_sh_4
  | 5, _ => q_sh_5
  | 6, _ => q_sh_6
  | 7, _ => q_sh_7
  | 8, _ => q_sh_8
  | 9, _ => q_sh_9
  | 10, _ => q_sh_10
  | 11, _ => q_sh_11
  | 12, _ => q_sh_12
  | 13, _ => q_sh_13
  | n + 14, h => absurd h (by omega)
theorem q_ls_0 : chk (g__law_all_shapes [nD 0, nD 0]) (.list ((allP 0 0 0).map encN)) = true := by decide +kernel
theorem q_ls_1 : chk (g__law_all_shapes [nD 1, nD 1]) (.list ((allP 1 1 1).map encN)) = true := by decide +kernel
theorem q_ls_2 : chk (g__law_all_shapes [nD 2, nD 2]) (.list ((allP 2 2 2).map encN)) = true := by decide +kernel
theorem q_ls_3 : chk (g__law_all_shapes [nD 3, nD 3]) (.list ((allP 3 3 3).map encN)) = true := by decide +kernel
theorem q_ls_4 : chk (g__law_all_shapes [nD 4, nD 4]) (.list ((allP 4 4 4).map encN)) = true := by decide +kernel
theorem q_ls_5 : chk (g__law_all_shapes [nD 5, nD 5]) (.list ((allP 5 5 5).map encN)) = true := by decide +kernel
theorem q_ls_6 : chk (g__law_all_shapes [nD 6, nD 6]) (.list ((allP 6 6 6).map encN)) = true := by decide +kernel
theorem q_ls_7 : chk (g__law_all_shapes [nD 7, nD 7]) (.list ((allP 7 7 7).map encN)) = true := by decide +kernel
theorem q_ls_8 : chk (g__law_all_shapes [nD 8, nD 8]) (.list ((allP 8 8 8).map encN)) = true := by decide +kernel
theorem q_ls_9 : chk (g__law_all_shapes [nD 9, nD 9]) (.list ((allP 9 9 9).map encN)) = true := by decide +kernel
theorem q_ls_10 : chk (g__law_all_shapes [nD 10, nD 10]) (.list ((allP 10 10 10).map encN)) = true := by decide +kernel
theorem q_ls_11 : chk (g__law_all_shapes [nD 11, nD 11]) (.list ((allP 11 11 11).map encN)) = true := by decide +kernel
theorem q_ls_12 : chk (g__law_all_shapes [nD 12, nD 12]) (.list ((allP 12 12 12).map encN)) = true := by decide +kernel
theorem q_ls_13 : chk (g__law_all_shapes [nD 13, nD 13]) (.list ((allP 13 13 13).map encN)) = true := by decide +kernel
theorem q_ls : ∀ n : Nat, n ≤ 13 → chk (g__law_all_shapes [nD n, nD n]) (.list ((allP n n n).map encN)) = true
  | 0, _ => q_ls_0
  | 1, _ => q_ls_1
  | 2, _ => q_ls_2
  | 3, _ => q_ls_3
  | 4, _ => q_ls_4
  | 5, _ => q_ls_5
  | 6, _ => q_ls_6
  | 7, _ => q_ls_7
  | 8, _ => q_ls_8
  | 9, _ => q_ls_9
  | 10, _ => q_ls_10
  | 11, _ => q_ls_11
  | 12, _ => q_ls_12
  | 13, _ => q_ls_13
  | n + 14, h => absurd h (by omega)
theorem q_ne_0 : chk (gNe (.list ((allP 0 0 0).map encN)) (.list ((allP 0 0 0).map encN))) (.bool false) = true := by decide +kernel
theorem q_ne_1 : chk (gNe (.list ((allP 1 1 1).map encN)) (.list ((allP 1 1 1).map encN))) (.bool false) = true := by decide +kernel
theorem q_ne_2 : chk (gNe (.list ((allP 2 2 2).map encN)) (.list ((allP 2 2 2).map encN))) (.bool false) = true := by decide +kernel
theorem q_ne_3 : chk (gNe (.list ((allP 3 3 3).map encN)) (.list ((allP 3 3 3).map encN))) (.bool false) = true := by decide +kernel
theorem q_ne_4 : chk (gNe (.list ((allP 4 4 4).map encN)) (.list ((allP 4 4 4).map encN))) (.bool false) = true := by decide +kernel
theorem q_ne_5 : chk (gNe (.list ((allP 5 5 5).map encN)) (.list ((allP 5 5 5).map encN))) (.bool false) = true := by decide +kernel
theorem q_ne_6 : chk (gNe (.list ((allP 6 6 6).map encN)) (.list ((allP 6 6 6).map encN))) (.bool false) = true := by decide +kernel
theorem q_ne_7 : chk (gNe (.list ((allP 7 7 7).map encN)) (.list ((allP 7 7 7).map encN))) (.bool false) = true := by decide +kernel
theorem q_ne_8 : chk (gNe (.list ((allP 8 8 8).map encN)) (.list ((allP 8 8 8).map encN))) (.bool false) = true := by decide +kernel
theorem q_ne_9 : chk (gNe (.list ((allP 9 9 9).map encN)) (.list ((allP 9 9 9).map encN))) (.bool false) = true := by decide +kernel
theorem q_ne_10 : chk (gNe (.list ((allP 10 10 10).map encN)) (.list ((allP 10 10 10).map encN))) (.bool false) = true := by decide +kernel
theorem q_ne_11 : chk (gNe (.list ((allP 11 11 11).map encN)) (.list ((allP 11 11 11).map encN))) (.bool false) = true := by decide +kernel
theorem q_ne_12 : chk (gNe (.list ((allP 12 12 12).map encN)) (.list ((allP 12 12 12).map encN))) (.bool false) = true := by decide +kernel
theorem q_ne_13 : chk (gNe (.list ((allP 13 13 13).map encN)) (.list ((allP 13 13 13).map encN))) (.bool false) = true := by decide +kernel
theorem q_ne : ∀ n : Nat, n ≤ 13 → chk (gNe (.list ((allP n n n).map encN)) (.list ((allP n n n).map encN))) (.bool false) = true
  | 0, _ => q_ne_0
  | 1, _ => q_ne_1
  | 2, _ => q_ne_2
  | 3, _ => q_ne_3
  | 4, _ => q_ne_4
  | 5, _ => q_ne_5
  | 6, _ => q_ne_6
  | 7, _ => q_ne_7
  | 8, _ => q_ne_8
  | 9, _ => q_ne_9
  | 10, _ => q_ne_10
  | 11, _ => q_ne_11
  | 12, _ => q_ne_12
  | 13, _ => q_ne_13
  | n + 14, h => absurd h (by omega)
theorem q_rr_0 : chk (g__law_are_rows_right [.tuple ((allP 0 0 0).map encN), nD 0]) (.bool true) = true := by decide +kernel
theorem q_rr_1 : chk (g__law_are_rows_right [.tuple ((allP 1 1 1).map encN), nD 1]) (.bool true) = true := by decide +kernel
theorem q_rr_2 : chk (g__law_are_rows_right [.tuple ((allP 2 2 2).map encN), nD 2]) (.bool true) = true := by decide +kernel
theorem q_rr_3 : chk (g__law_are_rows_right [.tuple ((allP 3 3 3).map encN), nD 3]) (.bool true) = true := by decide +kernel
theorem q_rr_4 : chk (g__law_are_rows_right [.tuple ((allP 4 4 4).map encN), nD 4]) (.bool true) = true := by decide +kernel
theorem q_rr_5 : chk (g__law_are_rows_right [.tuple ((allP 5 5 5).map encN), nD 5]) (.bool true) = true := by decide +kernel
theorem q_rr_6 : chk (g__law_are_rows_right [.tuple ((allP 6 6 6).map encN), nD 6]) (.bool true) = true := by decide +kernel
theorem q_rr_7 : chk (g__law_are_rows_right [.tuple ((allP 7 7 7).map encN), nD 7]) (.bool true) = true := by decide +kernel
theorem q_rr_8 : chk (g__law_are_rows_right [.tuple ((allP 8 8 8).map encN), nD 8]) (.bool true) = true := by decide +kernel
theorem q_rr_9 : chk (g__law_are_rows_right [.tuple ((allP 9 9 9).map encN), nD 9]) (.bool true) = true := by decide +kernel
theorem q_rr_10 : chk (g__law_are_rows_right [.tuple ((allP 10 10 10).map encN), nD 10]) (.bool true) = true := by decide +kernel
theorem q_rr_11 : chk (g__law_are_rows_right [.tuple ((allP 11 11 11).map encN), nD 11]) (.bool true) = true := by decide +kernel
theorem q_rr_12 : chk (g__law_are_rows_right [.tuple ((allP 12 12 12).map encN), nD 12]) (.bool true) = true := by decide +kernel
theorem q_rr_13 : chk (g__law_are_rows_right [.tuple ((allP 13 13 13).map encN), nD 13]) (.bool true) = true := by decide +kernel
theorem q_rr : ∀ n : Nat, n ≤ 13 → chk (g__law_are_rows_right [.tuple ((allP n n n).map encN), nD n]) (.bool true) = true
  | 0, _ => q_rr_0
  | 1, _ => q_rr_1
  | 2, _ => q_rr_2
  | 3, _ => q_rr_3
  | 4, _ => q_rr_4
  | 5, _ => q_rr_5
  | 6, _ => q_rr_6
  | 7, _ => q_rr_7
  | 8, _ => q_rr_8
  | 9, _ => q_rr_9
  | 10, _ => q_rr_10
  | 11, _ => q_rr_11
  | 12, _ => q_rr_12
  | 13, _ => q_rr_13
  | n + 14, h => absurd h (by omega)
end Yd

set_option Elab.async false
set_option linter.all false
set_option maxRecDepth 1000000
set_option maxHeartbeats 0
set_option autoImplicit false
namespace Yd
open PySem PySem.Spec PyProof.Rows L2
theorem q_st_0 : chk (g__law_are_steps_right [.tuple ((allP 0 0 0).map encN), nD 0]) (.bool true) = true := by decide +kernel
theorem q_st_1 : chk (g__law_are_steps_right [.tuple ((allP 1 1 1).map encN), nD 1]) (.bool true) = true := by decide +kernel
theorem q_st_2 : chk (g__law_are_steps_right [.tuple ((allP 2 2 2).map encN), nD 2]) (.bool true) = true := by decide +kernel
theorem q_st_3 : chk (g__law_are_steps_right [.tuple ((allP 3 3 3).map encN), nD 3]) (.bool true) = true := by decide +kernel
theorem q_st_4 : chk (g__law_are_steps_right [.tuple ((allP 4 4 4).map encN), nD 4]) (.bool true) = true := by decide +kernel
theorem q_st_5 : chk (g__law_are_steps_right [.tuple ((allP 5 5 5).map encN), nD 5]) (.bool true) = true := by decide +kernel
theorem q_st_6 : chk (g__law_are_steps_right [.tuple ((allP 6 6 6).map encN), nD 6]) (.bool true) = true := by decide +kernel
theorem q_st_7 : chk (g__law_are_steps_right [.tuple ((allP 7 7 7).map encN), nD 7]) (.bool true) = true := by decide +kernel
theorem q_st_8 : chk (g__law_are_steps_right [.tuple ((allP 8 8 8).map encN), nD 8]) (.bool true) = true := by decide +kernel
theorem q_st_9 : chk (g__law_are_steps_right [.tuple ((allP 9 9 9).map encN), nD 9]) (.bool true) = true := by decide +kernel
theorem q_st_10 : chk (g__law_are_steps_right [.tuple ((allP 10 10 10).map encN), nD 10]) (.bool true) = true := by decide +kernel
theorem q_st_11 : chk (g__law_are_steps_right [.tuple ((allP 11 11 11).map encN), nD 11]) (.bool true) = true := by decide +kernel
theorem q_st_12 : chk (g__law_are_steps_right [.tuple ((allP 12 12 12).map encN), nD 12]) (.bool true) = true := by decide +kernel
theorem q_st_13 : chk (g__law_are_steps_right [.tuple ((allP 13 13 13).map encN), nD 13]) (.bool true) = true := by decide +kernel
theorem q_st : ∀ n : Nat, n ≤ 13 → chk (g__law_are_steps_right [.tuple ((allP n n n).map encN), nD n]) (.bool true) = true
  | 0, _ => q_st_0
  | 1, _ => q_st_1
  | 2, _ => q_st_2
  | 3, _ => q_st_3
  | 4, _ => q_st_4
  | 5, _ => q_st_5
  | 6, _ => q_st_6
  | 7, _ => q_st_7
  | 8, _ => q_st_8
  | 9, _ => q_st_9
  | 10, _ => q_st_10
  | 11, _ => q_st_11
  | 12, _ => q_st_12
  | 13, _ => q_st_13
  | n + 14, h => absurd h (by omega)
end Yd

set_option Elab.async false
set_option linter.all false
set_option maxRecDepth 1000000
set_option maxHeartbeats 0
set_option autoImplicit false
namespace Yd
open PySem PySem.Spec PyProof.Rows L2
theorem q_in_0 : inB 0 = true := by decide +kernel
theorem q_in_1 : inB 1 = true := by decide +kernel
theorem q_in_2 : inB 2 = true := by decide +kernel
theorem q_in_3 : inB 3 = true := by decide +kernel
theorem q_in_4 : inB 4 = true := by decide +kernel
theorem q_in_5 : inB 5 = true := by decide +kernel
theorem q_in_6 : inB 6 = true := by decide +kernel
theorem q_in_7 : inB 7 = true := by decide +kernel
theorem q_in_8 : inB 8 = true := by decide +kernel
theorem q_in_9 : inB 9 = true := by decide +kernel
theorem q_in_10 : inB 10 = true := by decide +kernel
theorem q_in_11 : inB 11 = true := by decide +kernel
theorem q_in_12 : inB 12 = true := by decide +kernel
theorem q_in_13 : inB 13 = true := by decide +kernel
theorem q_in : ∀ n : Nat, n ≤ 13 → (inB n = true)
  | 0, _ => q_in_0
  | 1, _ => q_in_1
  | 2, _ => q_in_2
  | 3, _ => q_in_3
  | 4, _ => q_in_4
  | 5, _ => q_in_5
  | 6, _ => q_in_6
  | 7, _ => q_in_7
  | 8, _ => q_in_8
  | 9, _ => q_in_9
  | 10, _ => q_in_10
  | 11, _ => q_in_11
  | 12, _ => q_in_12
  | 13, _ => q_in_13
  | n + 14, h => absurd h (by omega)
theorem q_sm_0 : ((upto 9).all fun k => smB 0 k) = true := by decide +kernel
theorem q_sm_1 : ((upto 9).all fun k => smB 1 k) = true := by decide +kernel
theorem q_sm_2 : ((upto 9).all fun k => smB 2 k) = true := by decide +kernel
theorem q_sm_3 : ((upto 9).all fun k => smB 3 k) = true := by decide +kernel
theorem q_sm_4 : ((upto 9).all fun k => smB 4 k) = true := by decide +kernel
theorem q_sm_5 : ((upto 9).all fun k => smB 5 k) = true := by decide +kernel
theorem q_sm_6 : ((upto 9).all fun k => smB 6 k) = true := by decide +kernel
theorem q_sm_7 : ((upto 9).all fun k => smB 7 k) = true := by decide +kernel
theorem q_sm_8 : ((upto 9).all fun k => smB 8 k) = true := by decide +kernel
theorem q_sm_9 : ((upto 9).all fun k => smB 9 k) = true := by decide +kernel
theorem q_sm_10 : ((upto 9).all fun k => smB 10 k) = true := by decide +kernel
theorem q_sm_11 : ((upto 9).all fun k => smB 11 k) = true := by decide +kernel
theorem q_sm_12 : ((upto 9).all fun k => smB 12 k) = true := by decide +kernel
theorem q_sm_13 : ((upto 9).all fun k => smB 13 k) = true := by decide +kernel
theorem q_sm : ∀ n : Nat, n ≤ 13 → (((upto 9).all fun k => smB n k) = true)
  | 0, _ => q_sm_0
  | 1, _ => q_sm_1
  | 2, _ => q_sm_2
  | 3, _ => q_sm_3
  | 4, _ => q_sm_4
  | 5, _ => q_sm_5
  | 6, _ => q_sm_6
  | 7, _ => q_sm_7
  | 8, _ => q_sm_8
  | 9, _ => q_sm_9
  | 10, _ => q_sm_10
  | 11, _ => q_sm_11
  | 12, _ => q_sm_12
  | 13, _ => q_sm_13
  | n + 14, h => absurd h (by omega)
theorem q_c_0 : ((upto 6).all fun l => (upto 9).all fun h => c1B 0 l h && c2B 0 l h) = true := by decide +kernel
theorem q_c_1 : ((upto 6).all fun l => (upto 9).all fun h => c1B 1 l h && c2B 1 l h) = true := by decide +kernel
theorem q_c_2 : ((upto 6).all fun l => (upto 9).all fun h => c1B 2 l h && c2B 2 l h) = true := by decide +kernel
theorem q_c_3 : ((upto 6).all fun l => (upto 9).all fun h => c1B 3 l h && c2B 3 l h) = true := by decide +kernel
theorem q_c_4 : ((upto 6).all fun l => (upto 9).all fun h => c1B 4 l h && c2B 4 l h) = true := by decide +kernel
theorem q_c_5 : ((upto 6).all fun l => (upto 9).all fun h => c1B 5 l h && c2B 5 l h) = true := by decide +kernel
theorem q_c_6 : ((upto 6).all fun l => (upto 9).all fun h => c1B 6 l h && c2B 6 l h) = true := by decide +kernel
theorem q_c_7 : ((upto 6).all fun l => (upto 9).all fun h => c1B 7 l h && c2B 7 l h) = true := by decide +kernel
theorem q_c_8 : ((upto 6).all fun l => (upto 9).all fun h => c1B 8 l h && c2B 8 l h) = true := by decide +kernel
theorem q_c_9 : ((upto 6).all fun l => (upto 9).all fun h => c1B 9 l h && c2B 9 l h) = true := by decide +kernel
theorem q_c_10 : ((upto 6).all fun l => (upto 9).all fun h => c1B 10 l h && c2B 10 l h) = true := by decide +kernel
theorem q_c_11 : ((upto 6).all fun l => (upto 9).all fun h => c1B 11 l h && c2B 11 l h) = true := by decide +kernel
theorem q_c_12 : ((upto 6).all fun l => (upto 9).all fun h => c1B 12 l h && c2B 12 l h) = true := by decide +kernel
theorem q_c_13 : ((upto 6).all fun l => (upto 9).all fun h => c1B 13 l h && c2B 13 l h) = true := by decide +kernel
theorem q_c : ∀ n : Nat, n ≤ 13 → (((upto 6).all fun l => (upto 9).all fun h => c1B n l h && c2B n l h) = true)
  | 0, _ => q_c_0
  | 1, _ => q_c_1
  | 2, _ => q_c_2
  | 3, _ => q_c_3
  | 4, _ => q_c_4
  | 5, _ => q_c_5
  | 6, _ => q_c_6
  | 7, _ => q_c_7
  | 8, _ => q_c_8
  | 9, _ => q_c_9
  | 10, _ => q_c_10
  | 11, _ => q_c_11
  | 12, _ => q_c_12
  | 13, _ => q_c_13
  | n + 14, h => absurd h (by omega)
theorem q_tc1_0 : ∀ x b : Dt, tabB (.tuple ((shN 0).map encN)) (nD 0) (nD 1) x b = true := fun x b => by kernel_rfl
theorem q_tc1_1 : ∀ x b : Dt, tabB (.tuple ((shN 1).map encN)) (nD 1) (nD 1) x b = true := fun x b => by kernel_rfl
theorem q_tc1_2 : ∀ x b : Dt, tabB (.tuple ((shN 2).map encN)) (nD 2) (nD 1) x b = true := fun x b => by kernel_rfl
theorem q_tc1_3 : ∀ x b : Dt, tabB (.tuple ((shN 3).map encN)) (nD 3) (nD 1) x b = true := fun x b => by kernel_rfl
theorem q_tc1_4 : ∀ x b : Dt, tabB (.tuple ((shN 4).map encN)) (nD 4) (nD 1) x b = true := fun x b => by kernel_rfl
theorem q_tc1_5 : ∀ x b : Dt, tabB (.tuple ((shN 5).map encN)) (nD 5) (nD 1) x b = true := fun x b => by kernel_rfl
theorem q_tc1_6 : ∀ x b : Dt, tabB (.tuple ((shN 6).map encN)) (nD 6) (nD 1) x b = true := fun x b => by kernel_rfl
theorem q_tc1_7 : ∀ x b : Dt, tabB (.tuple ((shN 7).map encN)) (nD 7) (nD 1) x b = true := fun x b => by kernel_rfl
theorem q_tc1_8 : ∀ x b : Dt, tabB (.tuple ((shN 8).map encN)) (nD 8) (nD 1) x b = true := fun x b => by kernel_rfl
theorem q_tc1_9 : ∀ x b : Dt, tabB (.tuple ((shN 9).map encN)) (nD 9) (nD 1) x b = true := fun x b => by kernel_rfl
theorem q_tc1_10 : ∀ x b : Dt, tabB (.tuple ((shN 10).map encN)) (nD 10) (nD 1) x b = true := fun x b => by kernel_rfl
theorem q_tc1_11 : ∀ x b : Dt, tabB (.tuple ((shN 11).map encN)) (nD 11) (nD 1) x b = true := fun x b => by kernel_rfl
theorem q_tc1_12 : ∀ x b : Dt, tabB (.tuple ((shN 12).map encN)) (nD 12) (nD 1) x b = true := fun x b => by kernel_rfl
theorem q_tc1_13 : ∀ x b : Dt, tabB (.tuple ((shN 13).map encN)) (nD 13) (nD 1) x b = true := fun x b => by kernel_rfl
theorem q_tc1 : ∀ n : Nat, n ≤ 13 → (∀ x b : Dt, tabB (.tuple ((shN n).map encN)) (nD n) (nD 1) x b = true)
  | 0, _ => q_tc1_0
  | 1, _ => q_tc1_1
  | 2, _ => q_tc1_2
  | 3, _ => q_tc1_3
  | 4, _ => q_tc1_4
  | 5, _ => q_tc1_5
  | 6, _ => q_tc1_6
  | 7, _ => q_tc1_7
  | 8, _ => q_tc1_8
  | 9, _ => q_tc1_9
  | 10, _ => q_tc1_10
  | 11, _ => q_tc1_11
  | 12, _ => q_tc1_12
  | 13, _ => q_tc1_13
  | n + 14, h => absurd h (by omega)
theorem q_tc2_0 : ∀ x b : Dt, tabB (.tuple ((shN 0).map encN)) (nD 0) (nD 2) x b = true := fun x b => by kernel_rfl
theorem q_tc2_1 : ∀ x b : Dt, tabB (.tuple ((shN 1).map encN)) (nD 1) (nD 2) x b = true := fun x b => by kernel_rfl
theorem q_tc2_2 : ∀ x b : Dt, tabB (.tuple ((shN 2).map encN)) (nD 2) (nD 2) x b = true := fun x b => by kernel_rfl
theorem q_tc2_3 : ∀ x b : Dt, tabB (.tuple ((shN 3).map encN)) (nD 3) (nD 2) x b = true := fun x b => by kernel_rfl
theorem q_tc2_4 : ∀ x b : Dt, tabB (.tuple ((shN 4).map encN)) (nD 4) (nD 2) x b = true := fun x b => by kernel_rfl
theorem q_tc2_5 : ∀ x b : Dt, tabB (.tuple ((shN 5).map encN)) (nD 5) (nD 2) x b = true := fun x b => by kernel_rfl
theorem q_tc2_6 : ∀ x b : Dt, tabB (.tuple ((shN 6).map encN)) (nD 6) (nD 2) x b = true := fun x b => by kernel_rfl
theorem q_tc2_7 : ∀ x b : Dt, tabB (.tuple ((shN 7).map encN)) (nD 7) (nD 2) x b = true := fun x b => by kernel_rfl
theorem q_tc2_8 : ∀ x b : Dt, tabB (.tuple ((shN 8).map encN)) (nD 8) (nD 2) x b = true := fun x b => by kernel_rfl
theorem q_tc2_9 : ∀ x b : Dt, tabB (.tuple ((shN 9).map encN)) (nD 9) (nD 2) x b = true := fun x b => by kernel_rfl
theorem q_tc2_10 : ∀ x b : Dt, tabB (.tuple ((shN 10).map encN)) (nD 10) (nD 2) x b = true := fun x b => by kernel_rfl
theorem q_tc2_11 : ∀ x b : Dt, tabB (.tuple ((shN 11).map encN)) (nD 11) (nD 2) x b = true := fun x b => by kernel_rfl
theorem q_tc2_12 : ∀ x b : Dt, tabB (.tuple ((shN 12).map encN)) (nD 12) (nD 2) x b = true := fun x b => by kernel_rfl
theorem q_tc2_13 : ∀ x b : Dt, tabB (.tuple ((shN 13).map encN)) (nD 13) (nD 2) x b = true := fun x b => by kernel_rfl
theorem q_tc2 : ∀ n : Nat, n ≤ 13 → (∀ x b : Dt, tabB (.tuple ((shN n).map encN)) (nD n) (nD 2) x b = true)
  | 0, _ => q_tc2_0
  | 1, _ => q_tc2_1
  | 2, _ => q_tc2_2
  | 3, _ => q_tc2_3
  | 4, _ => q_tc2_4
  | 5, _ => q_tc2_5
  | 6, _ => q_tc2_6
  | 7, _ => q_tc2_7
  | 8, _ => q_tc2_8
  | 9, _ => q_tc2_9
  | 10, _ => q_tc2_10
  | 11, _ => q_tc2_11
  | 12, _ => q_tc2_12
  | 13, _ => q_tc2_13
  | n + 14, h => absurd h (by omega)
theorem q_tc3_0 : ∀ x b : Dt, tabB (.tuple ((shN 0).map encN)) (nD 0) (nD 3) x b = true := fun x b => by kernel_rfl
theorem q_tc3_1 : ∀ x b : Dt, tabB (.tuple ((shN 1).map encN)) (nD 1) (nD 3) x b = true := fun x b => by kernel_rfl
theorem q_tc3_2 : ∀ x b : Dt, tabB (.tuple ((shN 2).map encN)) (nD 2) (nD 3) x b = true := fun x b => by kernel_rfl
theorem q_tc3_3 : ∀ x b : Dt, tabB (.tuple ((shN 3).map encN)) (nD 3) (nD 3) x b = true := fun x b => by kernel_rfl
theorem q_tc3_4 : ∀ x b : Dt, tabB (.tuple ((shN 4).map encN)) (nD 4) (nD 3) x b = true := fun x b => by kernel_rfl
theorem q_tc3_5 : ∀ x b : Dt, tabB (.tuple ((shN 5).map encN)) (nD 5) (nD 3) x b = true := fun x b => by kernel_rfl
theorem q_tc3_6 : ∀ x b : Dt, tabB (.tuple ((shN 6).map encN)) (nD 6) (nD 3) x b = true := fun x b => by kernel_rfl
theorem q_tc3_7 : ∀ x b : Dt, tabB (.tuple ((shN 7).map encN)) (nD 7) (nD 3) x b = true := fun x b => by kernel_rfl
theorem q_tc3_8 : ∀ x b : Dt, tabB (.tuple ((shN 8).map encN)) (nD 8) (nD 3) x b = true := fun x b => by kernel_rfl
theorem q_tc3_9 : ∀ x b : Dt, tabB (.tuple ((shN 9).map encN)) (nD 9) (nD 3) x b = true := fun x b => by kernel_rfl
theorem q_tc3_10 : ∀ x b : Dt, tabB (.tuple ((shN 10).map encN)) (nD 10) (nD 3) x b = true := fun x b => by kernel_rfl
theorem q_tc3_11 : ∀ x b : Dt, tabB (.tuple ((shN 11).map encN)) (nD 11) (nD 3) x b = true := fun x b => by kernel_rfl
theorem q_tc3_12 : ∀ x b : Dt, tabB (.tuple ((shN 12).map encN)) (nD 12) (nD 3) x b = true := fun x b => by kernel_rfl
theorem q_tc3_13 : ∀ x b : Dt, tabB (.tuple ((shN 13).map encN)) (nD 13) (nD 3) x b = true := fun x b => by kernel_rfl
theorem q_tc3 : ∀ n : Nat, n ≤ 13 → (∀ x b : Dt, tabB (.tuple ((shN n).map encN)) (nD n) (nD 3) x b = true)
  | 0, _ => q_tc3_0
  | 1, _ => q_tc3_1
  | 2, _ => q_tc3_2
  | 3, _ => q_tc3_3
  | 4, _ => q_tc3_4
  | 5, _ => q_tc3_5
  | 6, _ => q_tc3_6
  | 7, _ => q_tc3_7
  | 8, _ => q_tc3_8
  | 9, _ => q_tc3_9
  | 10, _ => q_tc3_10
  | 11, _ => q_tc3_11
  | 12, _ => q_tc3_12
  | 13, _ => q_tc3_13
  | n + 14, h => absurd h (by omega)
theorem q_tc4_0 : ∀ x b : Dt, tabB (.tuple ((shN 0).map encN)) (nD 0) (nD 4) x b = true := fun x b => by kernel_rfl
theorem q_tc4_1 : ∀ x b : Dt, tabB (.tuple ((shN 1).map encN)) (nD 1) (nD 4) x b = true := fun x b => by kernel_rfl
theorem q_tc4_2 : ∀ x b : Dt, tabB (.tuple ((shN 2).map encN)) (nD 2) (nD 4) x b = true := fun x b => by kernel_rfl
theorem q_tc4_3 : ∀ x b : Dt, tabB (.tuple ((shN 3).map encN)) (nD 3) (nD 4) x b = true := fun x b => by kernel_rfl
theorem q_tc4_4 : ∀ x b : Dt, tabB (.tuple ((shN 4).map encN)) (nD 4) (nD 4) x b = true := fun x b => by kernel_rfl
theorem q_tc4_5 : ∀ x b : Dt, tabB (.tuple ((shN 5).map encN)) (nD 5) (nD 4) x b = true := fun x b => by kernel_rfl
theorem q_tc4_6 : ∀ x b : Dt, tabB (.tuple ((shN 6).map encN)) (nD 6) (nD 4) x b = true := fun x b => by kernel_rfl
theorem q_tc4_7 : ∀ x b : Dt, tabB (.tuple ((shN 7).map encN)) (nD 7) (nD 4) x b = true := fun x b => by kernel_rfl
theorem q_tc4_8 : ∀ x b : Dt, tabB (.tuple ((shN 8).map encN)) (nD 8) (nD 4) x b = true := fun x b => by kernel_rfl
theorem q_tc4_9 : ∀ x b : Dt, tabB (.tuple ((shN 9).map encN)) (nD 9) (nD 4) x b = true := fun x b => by kernel_rfl
theorem q_tc4_10 : ∀ x b : Dt, tabB (.tuple ((shN 10).map encN)) (nD 10) (nD 4) x b = true := fun x b => by kernel_rfl
theorem q_tc4_11 : ∀ x b : Dt, tabB (.tuple ((shN 11).map encN)) (nD 11) (nD 4) x b = true := fun x b => by kernel_rfl
theorem q_tc4_12 : ∀ x b : Dt, tabB (.tuple ((shN 12).map encN)) (nD 12) (nD 4) x b = true := fun x b => by kernel_rfl
theorem q_tc4_13 : ∀ x b : Dt, tabB (.tuple ((shN 13).map encN)) (nD 13) (nD 4) x b = true := fun x b => by kernel_rfl
theorem q_tc4 : ∀ n : Nat, n ≤ 13 → (∀ x b : Dt, tabB (.tuple ((shN n).map encN)) (nD n) (nD 4) x b = true)
  | 0, _ => q_tc4_0
  | 1, _ => q_tc4_1
  | 2, _ => q_tc4_2
  | 3, _ => q_tc4_3
  | 4, _ => q_tc4_4
  | 5, _ => q_tc4_5
  | 6, _ => q_tc4_6
  | 7, _ => q_tc4_7
  | 8, _ => q_tc4_8
  | 9, _ => q_tc4_9
  | 10, _ => q_tc4_10
  | 11, _ => q_tc4_11
  | 12, _ => q_tc4_12
  | 13, _ => q_tc4_13
  | n + 14, h => absurd h (by omega)
theorem q_tc5_0 : ∀ x b : Dt, tabB (.tuple ((shN 0).map encN)) (nD 0) (nD 5) x b = true := fun x b => by kernel_rfl
theorem q_tc5_1 : ∀ x b : Dt, tabB (.tuple ((shN 1).map encN)) (nD 1) (nD 5) x b = true := fun x b => by kernel_rfl
theorem q_tc5_2 : ∀ x b : Dt, tabB (.tuple ((shN 2).map encN)) (nD 2) (nD 5) x b = true := fun x b => by kernel_rfl
theorem q_tc5_3 : ∀ x b : Dt, tabB (.tuple ((shN 3).map encN)) (nD 3) (nD 5) x b = true := fun x b => by kernel_rfl
theorem q_tc5_4 : ∀ x b : Dt, tabB (.tuple ((shN 4).map encN)) (nD 4) (nD 5) x b = true := fun x b => by kernel_rfl
theorem q_tc5_5 : ∀ x b : Dt, tabB (.tuple ((shN 5).map encN)) (nD 5) (nD 5) x b = true := fun x b => by kernel_rfl
theorem q_tc5_6 : ∀ x b : Dt, tabB (.tuple ((shN 6).map encN)) (nD 6) (nD 5) x b = true := fun x b => by kernel_rfl
theorem q_tc5_7 : ∀ x b : Dt, tabB (.tuple ((shN 7).map encN)) (nD 7) (nD 5) x b = true := fun x b => by kernel_rfl
theorem q_tc5_8 : ∀ x b : Dt, tabB (.tuple ((shN 8).map encN)) (nD 8) (nD 5) x b = true := fun x b => by kernel_rfl
theorem q_tc5_9 : ∀ x b : Dt, tabB (.tuple ((shN 9).map encN)) (nD 9) (nD 5) x b = true := fun x b => by kernel_rfl
theorem q_tc5_10 : ∀ x b : Dt, tabB (.tuple ((shN 10).map encN)) (nD 10) (nD 5) x b = true := fun x b => by kernel_rfl
theorem q_tc5_11 : ∀ x b : Dt, tabB (.tuple ((shN 11).map encN)) (nD 11) (nD 5) x b = true := fun x b => by kernel_rfl
theorem q_tc5_12 : ∀ x b : Dt, tabB (.tuple ((shN 12).map encN)) (nD 12) (nD 5) x b = true := fun x b => by kernel_rfl
theorem q_tc5_13 : ∀ x b : Dt, tabB (.tuple ((shN 13).map encN)) (nD 13) (nD 5) x b = true := fun x b => by kernel_rfl
theorem q_tc5 : ∀ n : Nat, n ≤ 13 → (∀ x b : Dt, tabB (.tuple ((shN n).map encN)) (nD n) (nD 5) x b = true)
  | 0, _ => q_tc5_0
  | 1, _ => q_tc5_1
  | 2, _ => q_tc5_2
  | 3, _ => q_tc5_3
  | 4, _ => q_tc5_4
  | 5, _ => q_tc5_5
  | 6, _ => q_tc5_6
  | 7, _ => q_tc5_7
  | 8, _ => q_tc5_8
  | 9, _ => q_tc5_9
  | 10, _ => q_tc5_10
  | 11, _ => q_tc5_11
  | 12, _ => q_tc5_12
  | 13, _ => q_tc5_13
  | n + 14, h => absurd h (by omega)
theorem q_tc6_0 : ∀ x b : Dt, tabB (.tuple ((shN 0).map encN)) (nD 0) (nD 6) x b = true := fun x b => by kernel_rfl
theorem q_tc6_1 : ∀ x b : Dt, tabB (.tuple ((shN 1).map encN)) (nD 1) (nD 6) x b = true := fun x b => by kernel_rfl
theorem q_tc6_2 : ∀ x b : Dt, tabB (.tuple ((shN 2).map encN)) (nD 2) (nD 6) x b = true := fun x b => by kernel_rfl
theorem q_tc6_3 : ∀ x b : Dt, tabB (.tuple ((shN 3).map encN)) (nD 3) (nD 6) x b = true := fun x b => by kernel_rfl
theorem q_tc6_4 : ∀ x b : Dt, tabB (.tuple ((shN 4).map encN)) (nD 4) (nD 6) x b = true := fun x b => by kernel_rfl
theorem q_tc6_5 : ∀ x b : Dt, tabB (.tuple ((shN 5).map encN)) (nD 5) (nD 6) x b = true := fun x b => by kernel_rfl
theorem q_tc6_6 : ∀ x b : Dt, tabB (.tuple ((shN 6).map encN)) (nD 6) (nD 6) x b = true := fun x b => by kernel_rfl
theorem q_tc6_7 : ∀ x b : Dt, tabB (.tuple ((shN 7).map encN)) (nD 7) (nD 6) x b = true := fun x b => by kernel_rfl
theorem q_tc6_8 : ∀ x b : Dt, tabB (.tuple ((shN 8).map encN)) (nD 8) (nD 6) x b = true := fun x b => by kernel_rfl
theorem q_tc6_9 : ∀ x b : Dt, tabB (.tuple ((shN 9).map encN)) (nD 9) (nD 6) x b = true := fun x b => by kernel_rfl
theorem q_tc6_10 : ∀ x b : Dt, tabB (.tuple ((shN 10).map encN)) (nD 10) (nD 6) x b = true := fun x b => by kernel_rfl
theorem q_tc6_11 : ∀ x b : Dt, tabB (.tuple ((shN 11).map encN)) (nD 11) (nD 6) x b = true := fun x b => by kernel_rfl
theorem q_tc6_12 : ∀ x b : Dt, tabB (.tuple ((shN 12).map encN)) (nD 12) (nD 6) x b = true := fun x b => by kernel_rfl
theorem q_tc6_13 : ∀ x b : Dt, tabB (.tuple ((shN 13).map encN)) (nD 13) (nD 6) x b = true := fun x b => by kernel_rfl
theorem q_tc6 : ∀ n : Nat, n ≤ 13 → (∀ x b : Dt, tabB (.tuple ((shN n).map encN)) (nD n) (nD 6) x b = true)
  | 0, _ => q_tc6_0
  | 1, _ => q_tc6_1
  | 2, _ => q_tc6_2
  | 3, _ => q_tc6_3
  | 4, _ => q_tc6_4
  | 5, _ => q_tc6_5
  | 6, _ => q_tc6_6
  | 7, _ => q_tc6_7
  | 8, _ => q_tc6_8
  | 9, _ => q_tc6_9
  | 10, _ => q_tc6_10
  | 11, _ => q_tc6_11
  | 12, _ => q_tc6_12
  | 13, _ => q_tc6_13
  | n + 14, h => absurd h (by omega)
end Yd

set_option linter.all false
set_option maxRecDepth 100000
set_option maxHeartbeats 4000000
set_option autoImplicit false
namespace Yd
open PySem PySem.Spec PyProof.Rows L2
theorem gMul_ok {i j : Int} (h1 : i.natAbs < 2 ^ 4000) (h2 : j.natAbs < 2 ^ 4000) : gMul (.int i) (.int j) = some (.int (i * j)) := by
  have a : Nat.blt i.natAbs (2 ^ 4000) = true := Nat.ble_eq_true_of_le h1
  have b : Nat.blt j.natAbs (2 ^ 4000) = true := Nat.ble_eq_true_of_le h2
  show (if (Nat.blt i.natAbs (2 ^ 4000) && Nat.blt j.natAbs (2 ^ 4000)) = true then some (PyData.int (i * j)) else none) = _
  rw [a, b]
  rfl
theorem gDiv_ok {i j : Int} (h1 : 0 < j) (h2 : j.natAbs < 2 ^ 4000) : gDiv (.int i) (.int j) = some (.int (i / j)) := by
  have a : Nat.blt j.natAbs (2 ^ 4000) = true := Nat.ble_eq_true_of_le h2
  show (if (decide (0 < j) && Nat.blt j.natAbs (2 ^ 4000)) = true then some (PyData.int (i / j)) else none) = _
  rw [a, decide_eq_true h1]
  rfl
theorem gMod_ok {i j : Int} (h1 : 0 < j) : gMod (.int i) (.int j) = some (.int (i % j)) := by
  show (if decide (0 < j) = true then some (PyData.int (i % j)) else none) = _
  rw [decide_eq_true h1]
  rfl
theorem gPow_ok {i j : Int} (h1 : 0 ≤ j) (h2 : j ≤ 1000) (h3 : i.natAbs < 2 ^ 1000) : gPow (.int i) (.int j) = some (.int (i ^ j.toNat)) := by
  have a : Nat.blt i.natAbs (2 ^ 1000) = true := Nat.ble_eq_true_of_le h3
  show (if (decide (0 ≤ j) && (decide (j ≤ 1000) && Nat.blt i.natAbs (2 ^ 1000))) = true then some (PyData.int (i ^ j.toNat)) else none) = _
  rw [a, decide_eq_true h1, decide_eq_true h2]
  rfl
theorem lt4000 {n : Nat} (h : n < 2 ^ 64) : n < 2 ^ 4000 := Nat.lt_of_lt_of_le h (Nat.pow_le_pow_right (by decide) (by decide))
theorem lt1000 {n : Nat} (h : n < 2 ^ 64) : n < 2 ^ 1000 := Nat.lt_of_lt_of_le h (Nat.pow_le_pow_right (by decide) (by decide))
set_option pp.maxSteps 100000 in
theorem take_ok (a b c u : Int) (ha : 0 ≤ a) (hb : 0 ≤ b) (hb2 : b < 2 ^ 61) (hc : 0 ≤ c) (hc2 : c ≤ 1000) (hu : 0 < u) (hu2 : u ≤ 1000) :
    ∃ r a' c', ansB (m__law_take (envB 5 [.int a, .int b, .int c] [.int u])) = some (.int r, [.int a', .int b, .int c']) ∧ 0 ≤ r ∧ r < u ∧ 0 ≤ a' ∧ 0 ≤ c' ∧ c' ≤ c + 1 := by
  have e0 : envB 5 [.int a, .int b, .int c] [.int u] = [.brw [.int a, .int b, .int c], .val (.int u), .no, .no, .no] := rfl
  rw [e0]
  by_cases h : 0 < a
  · refine ⟨a % u, a / u, c, ?_, Int.emod_nonneg _ (by omega), Int.emod_lt_of_pos _ hu, Int.ediv_nonneg ha (by omega), hc, by omega⟩
    have hd : u.natAbs < 2 ^ 4000 := lt4000 (by omega)
    simp [m__law_take, mSeq, mIfS, mTst, mBin, mGet, mC, ownAt, setOwn, L2.atI, ixN, gGt, gCm, h, mSet, mFn, mCons, mNil, fInt, mVar, gSet, Sl.free, mPut, mRet, gMod_ok hu, gDiv_ok hu hd, ansB]
  · have ea : a = 0 := by omega
    obtain ⟨P, hP, hP0, hP1⟩ : ∃ P : Int, gIx (.list [.int 2147483647, .int 2147483629, .int 2147483587, .int 2147483579, .int 2147483563]) (.int ((c + 1) % 5)) = some (.int P) ∧ 0 < P ∧ P ≤ 2147483647 := by
      have hq : (c + 1) % 5 = 0 ∨ (c + 1) % 5 = 1 ∨ (c + 1) % 5 = 2 ∨ (c + 1) % 5 = 3 ∨ (c + 1) % 5 = 4 := by omega
      rcases hq with hq | hq | hq | hq | hq <;> rw [hq] <;> exact ⟨_, rfl, by decide, by decide⟩
    have x0 : 0 ≤ 95257 * (c + 1) := by omega
    have x1 : 95257 * (c + 1) ≤ 95352257 := by omega
    have y0 : 0 ≤ 95257 * (c + 1) * (c + 1) := Int.mul_nonneg x0 (by omega)
    have y1 : 95257 * (c + 1) * (c + 1) ≤ 95352257 * 1001 := Int.mul_le_mul x1 (by omega) (by omega) (by decide)
    have m1 : gMul (.int 95257) (.int (c + 1)) = some (.int (95257 * (c + 1))) := gMul_ok (lt4000 (by decide)) (lt4000 (by omega))
    have m2 : gMul (.int (95257 * (c + 1))) (.int (c + 1)) = some (.int (95257 * (c + 1) * (c + 1))) := gMul_ok (lt4000 (by omega)) (lt4000 (by omega))
    have m3 : gMul (.int 419) (.int (c + 1)) = some (.int (419 * (c + 1))) := gMul_ok (lt4000 (by decide)) (lt4000 (by omega))
    generalize hT : b + 95257 * (c + 1) * (c + 1) + 3163 = t
    have t1 : t.natAbs < 2 ^ 64 := by omega
    have m4 : gPow (.int t) (.int 3) = some (.int (t ^ 3)) := gPow_ok (by decide) (by decide) (lt1000 t1)
    have e0 : 0 ≤ t ^ 3 % P := Int.emod_nonneg _ (by omega)
    have e1 : t ^ 3 % P < P := Int.emod_lt_of_pos _ hP0
    have m5 : gMod (.int (t ^ 3)) (.int P) = some (.int (t ^ 3 % P)) := gMod_ok hP0
    generalize hE : t ^ 3 % P = e at *
    have f0 : 0 ≤ e % 13441 + 419 * (c + 1) := by omega
    have f1 : e % 13441 + 419 * (c + 1) < 1000000 := by omega
    have m6 : gMul (.int e) (.int (e % 13441 + 419 * (c + 1))) = some (.int (e * (e % 13441 + 419 * (c + 1)))) := gMul_ok (lt4000 (by omega)) (lt4000 (by omega))
    have md : ∀ i : Int, gMod (.int i) (.int 5) = some (.int (i % 5)) := fun i => gMod_ok (by decide)
    have md2 : ∀ i : Int, gMod (.int i) (.int 13441) = some (.int (i % 13441)) := fun i => gMod_ok (by decide)
    have md3 : ∀ i : Int, gMod (.int i) (.int 2305843009213693907) = some (.int (i % 2305843009213693907)) := fun i => gMod_ok (by decide)
    have md4 : ∀ i : Int, gMod (.int i) (.int u) = some (.int (i % u)) := fun i => gMod_ok hu
    have dv : ∀ i : Int, gDiv (.int i) (.int 229) = some (.int (i / 229)) := fun i => gDiv_ok (by decide) (lt4000 (by decide))
    refine ⟨_, a, c + 1, ?_, Int.emod_nonneg (e * (e % 13441 + 419 * (c + 1)) % 2305843009213693907 / 229) (show u ≠ 0 by omega), Int.emod_lt_of_pos _ hu, ha, by omega, Int.le_refl _⟩
    have hT' : b + (95257 * (c + 1) * (c + 1)) + 3163 = t := hT
    simp [m__law_take, mSeq, mIfS, mTst, mBin, mGet, mC, ownAt, setOwn, L2.atI, ixN, gGt, gCm, h, mSet, mFn, mCons, mNil, fInt, mVar, gSet, Sl.free, mPut, mRet, ansB, mNext, mVal, mShort, shortB, gAdd, m1, m2, m3, hT', m4, m5, m6, md, md2, md3, md4, dv, hP]
theorem envB_eq (xs : List Dt) (d : Dt) (N : Nat) : envB (N + 2) xs [d] = .brw xs :: .val d :: List.replicate N .no := rfl
theorem take_g (a b c u : Int) (ha : 0 ≤ a) (hb : 0 ≤ b) (hb2 : b < 2 ^ 61) (hc : 0 ≤ c) (hc2 : c ≤ 1000) (hu : 0 < u) (hu2 : u ≤ 1000) :
    ∃ r a' c', g__law_take [.int a, .int b, .int c] [.int u] = some (.int r, [.int a', .int b, .int c']) ∧ 0 ≤ r ∧ r < u ∧ 0 ≤ a' ∧ 0 ≤ c' ∧ c' ≤ c + 1 := by
  unfold g__law_take
  rw [nfE_eq, ← me__law_take]
  exact take_ok a b c u ha hb hb2 hc hc2 hu hu2
theorem of_g (a b c : Int) (ha : 0 ≤ a) (hb : 0 ≤ b) (hb2 : b < 2 ^ 61) (hc : 0 ≤ c) (hc2 : c ≤ 1000) :
    ∃ v a' c', g__law_of [.int a, .int b, .int c] [.tuple [.int 7, .int 14]] = some (.int v, [.int a', .int b, .int c']) ∧ (v = 7 ∨ v = 14) ∧ 0 ≤ a' ∧ 0 ≤ c' ∧ c' ≤ c + 1 := by
  obtain ⟨r, a', c', h, r0, r1, a0, c0, c1⟩ := take_g a b c 2 ha hb hb2 hc hc2 (by decide) (by decide)
  have hr : r = 0 ∨ r = 1 := by omega
  refine ⟨if r = 0 then 7 else 14, a', c', ?_, by rcases hr with rfl | rfl <;> simp, a0, c0, c1⟩
  unfold g__law_of
  rw [nfE_eq, ← me__law_of]
  have e0 : envB 2 [.int a, .int b, .int c] [.tuple [.int 7, .int 14]] = [.brw [.int a, .int b, .int c], .val (.tuple [.int 7, .int 14])] := rfl
  rw [e0]
  rcases hr with rfl | rfl <;> simp [m__law_of, mRet, mBin, mVar, mCallB, ownAt, setOwn, mCons, mNil, mFn, fLen, h, gIx, L2.atI, ixN, ansB]
theorem pot_tail (s : Dt) (p cell : Int) (hp : 0 ≤ p) (hp2 : p ≤ 1) (t : MT → MT) : True := True.intro
theorem big_pow : (((10 : Int) ^ 60) ^ 5).natAbs < 2 ^ 1000 := by decide +kernel
theorem pot_ok (ns : List Int) (p : Int) (hp : p = 0 ∨ p = 1) :
    ∃ a b, ansN (m__law_pot (env0 5 [.dict [(.none, .list (ns.map .int))], .int p])) = some [.int a, .int b, .int 0] ∧ 0 ≤ a ∧ 0 ≤ b ∧ b < 2 ^ 61 := by
  have e0 : env0 5 [.dict [(.none, .list (ns.map .int))], .int p] = [.val (.dict [(.none, .list (ns.map .int))]), .val (.int p), .no, .no, .no] := rfl
  rw [e0]
  -- the cell
  let mc : ME := (mIfE (mTst (mBin gLt (mVar 1) (mFn fLen (mCons (mVar 0) mNil)))) (mBin gIx (mVar 0) (mVar 1)) (mBin gAdd (mBin gAdd (mBin gMod (mFn fInt (mCons (mFn fSum (mCons (mSl (mVar 0) mO0 (mO1 (mC (.int 1)))) mNil)) mNil)) (mC (.int 1000211))) (mBin gMul (mC (.int 4639)) (mVar 1))) (mC (.int 3163))))
  have hcell : ∃ cell : Int, mc [.val (.dict [(.none, .list (ns.map .int))]), .val (.int p), .no, .no, .no] = some (.int cell, [.val (.dict [(.none, .list (ns.map .int))]), .val (.int p), .no, .no, .no]) := by
    have m0 : gMul (.int 4639) (.int 0) = some (.int 0) := gMul_ok (lt4000 (by decide)) (lt4000 (by decide))
    have m1 : gMul (.int 4639) (.int 1) = some (.int 4639) := gMul_ok (lt4000 (by decide)) (lt4000 (by decide))
    have md : ∀ i : Int, gMod (.int i) (.int 1000211) = some (.int (i % 1000211)) := fun i => gMod_ok (by decide)
    match ns, hp with
    | [], .inl hp =>
      subst hp
      exact ⟨_, by simp [mc, mIfE, mTst, mBin, mVar, mFn, mCons, mNil, fLen, gLt, gCm, mSl, mO0, mO1, mC, gSl, cutD, fSum, intsOf, fInt, md, m0, gAdd]; rfl⟩
    | [], .inr hp =>
      subst hp
      exact ⟨_, by simp [mc, mIfE, mTst, mBin, mVar, mFn, mCons, mNil, fLen, gLt, gCm, mSl, mO0, mO1, mC, gSl, cutD, fSum, intsOf, fInt, md, m1, gAdd]; rfl⟩
    | x :: r, .inl hp =>
      subst hp
      have hl : (0 : Int) < (r.length : Int) + 1 := by omega
      exact ⟨x, by simp [mc, mIfE, mTst, mBin, mVar, mFn, mCons, mNil, fLen, gLt, gCm, gIx, L2.atI, ixN, hl]⟩
    | [x], .inr hp =>
      subst hp
      exact ⟨_, by simp [mc, mIfE, mTst, mBin, mVar, mFn, mCons, mNil, fLen, gLt, gCm, mSl, mO0, mO1, mC, gSl, cutD, HT.sIx, fSum, intsOf, fInt, md, m1, gAdd]; rfl⟩
    | x :: y :: r, .inr hp =>
      subst hp
      have hl : (1 : Int) < (r.length : Int) + 1 + 1 := by omega
      exact ⟨y, by simp [mc, mIfE, mTst, mBin, mVar, mFn, mCons, mNil, fLen, gLt, gCm, gIx, L2.atI, ixN, hl]⟩
  obtain ⟨cell, hcell⟩ := hcell
  have hm : m__law_pot = mSeq (mSet 2 mc) (mSeq (mSet 3 (mBin gMul (mBin gMod (mFn fInt (mCons (mFn fAbs (mCons (mVar 2) mNil)) mNil)) (mBin gPow (mBin gPow (mC (.int 10)) (mC (.int 60))) (mC (.int 5)))) (mFn fInt (mCons (mBin gGe (mFn fAbs (mCons (mVar 2) mNil)) (mBin gPow (mC (.int 10)) (mC (.int 18)))) mNil)))) (mSeq (mSet 4 (mBin gMod (mFn fInt (mCons (mVar 2) mNil)) (mC (.int 2305843009213693951)))) (mRetN (mShort (mCons (mVar 3) (mCons (mBin gMod (mFn fInt (mCons (mBin gAdd (mBin gAdd (mBin gMul (mVar 4) (mC (.int 72161))) (mBin gMul (mBin gMul (mC (.int 10853)) (mVar 1)) (mVar 1))) (mC (.int 2843))) mNil)) (mC (.int 2305843009213693921))) (mCons (mC (.int 0)) mNil))))))) := rfl
  rw [hm]
  generalize hA : (if cell < 0 then -cell else cell) = A
  have hS0 : 0 ≤ cell % 2305843009213693951 := Int.emod_nonneg _ (by decide)
  have hS1 : cell % 2305843009213693951 < 2305843009213693951 := Int.emod_lt_of_pos _ (by decide)
  have p1 : gPow (.int 10) (.int 60) = some (.int (10 ^ 60)) := gPow_ok (by decide) (by decide) (lt1000 (by decide))
  have p2 : gPow (.int (10 ^ 60)) (.int 5) = some (.int ((10 ^ 60) ^ 5)) := gPow_ok (by decide) (by decide) (by decide +kernel)
  have p3 : gPow (.int 10) (.int 18) = some (.int (10 ^ 18)) := gPow_ok (by decide) (by decide) (lt1000 (by decide))
  generalize hM : ((10 : Int) ^ 60) ^ 5 = M at p2
  have hM0 : 0 < M := by rw [← hM]; decide +kernel
  have hM1 : M.natAbs < 2 ^ 1000 := by rw [← hM]; exact big_pow
  generalize ((10 : Int) ^ 60) = T60 at p1 p2
  generalize ((10 : Int) ^ 18) = T18 at p3
  have d1 : gMod (.int A) (.int M) = some (.int (A % M)) := gMod_ok hM0
  have q0 : 0 ≤ A % M := Int.emod_nonneg _ (by omega)
  have q1 : A % M < M := Int.emod_lt_of_pos _ hM0
  have q2 : (A % M).natAbs < 2 ^ 4000 := Nat.lt_of_le_of_lt (show (A % M).natAbs ≤ M.natAbs by omega) (Nat.lt_of_lt_of_le hM1 (Nat.pow_le_pow_right (by decide) (by decide)))
  have m2 : gMul (.int (cell % 2305843009213693951)) (.int 72161) = some (.int (cell % 2305843009213693951 * 72161)) := gMul_ok (lt4000 (by omega)) (lt4000 (by decide))
  have m3 : gMul (.int 10853) (.int p) = some (.int (10853 * p)) := gMul_ok (lt4000 (by decide)) (lt4000 (by omega))
  have m4 : gMul (.int (10853 * p)) (.int p) = some (.int (10853 * p * p)) := gMul_ok (lt4000 (by omega)) (lt4000 (by omega))
  have md : ∀ i : Int, gMod (.int i) (.int 2305843009213693951) = some (.int (i % 2305843009213693951)) := fun i => gMod_ok (by decide)
  have md2 : ∀ i : Int, gMod (.int i) (.int 2305843009213693921) = some (.int (i % 2305843009213693921)) := fun i => gMod_ok (by decide)
  refine ⟨A % M * (if T18 ≤ A then 1 else 0), (cell % 2305843009213693951 * 72161 + 10853 * p * p + 2843) % 2305843009213693921, ?_, Int.mul_nonneg q0 (by split <;> decide), Int.emod_nonneg _ (by decide), Int.lt_trans (Int.emod_lt_of_pos _ (by decide)) (by decide)⟩
  have s1 : mSet 2 mc [.val (.dict [(.none, .list (ns.map .int))]), .val (.int p), .no, .no, .no] = some (.nx [.val (.dict [(.none, .list (ns.map .int))]), .val (.int p), .val (.int cell), .no, .no]) := by
    unfold mSet
    rw [hcell]
    rfl
  have m1' : gMul (.int (A % M)) (.int (if T18 ≤ A then 1 else 0)) = some (.int (A % M * (if T18 ≤ A then 1 else 0))) := gMul_ok q2 (lt4000 (by split <;> decide))
  simp only [mSeq, s1]
  simp [mSet, mBin, mFn, mCons, mNil, mVar, mC, fAbs, fInt, hA, p1, p2, p3, d1, gGe, gCm, m1', gSet, Sl.free, md, mRetN, mShort, shortB, m2, m3, m4, gAdd, md2, ansN]
theorem pot_g (ns : List Int) (p : Int) (hp : p = 0 ∨ p = 1) : ∃ a b, g__law_pot [.dict [(.none, .list (ns.map .int))], .int p] = some [.int a, .int b, .int 0] ∧ 0 ≤ a ∧ 0 ≤ b ∧ b < 2 ^ 61 := by
  unfold g__law_pot
  rw [nfE_eq, ← me__law_pot]
  exact pot_ok ns p hp
theorem cells_g (ns : List Int) (h : ns.length ≤ 63) : g__law_cells [.dict [(.none, .list (ns.map .int))], .int 2] = some (.list [.int 0]) ∨ g__law_cells [.dict [(.none, .list (ns.map .int))], .int 2] = some (.list [.int 0, .int 1]) := by
  unfold g__law_cells
  rw [nfE_eq, ← me__law_cells]
  have e0 : env0 2 [.dict [(.none, .list (ns.map .int))], .int 2] = [.val (.dict [(.none, .list (ns.map .int))]), .val (.int 2)] := rfl
  rw [e0]
  by_cases h2 : 2 ≤ ns.length
  · refine .inr ?_
    have a1 : ¬ (ns.length : Int) < 2 := by omega
    simp [m__law_cells, mRet, mVal, mRg1, mFn, mCons, mNil, mC, mVar, fMin2, fMax2, fLen, a1, rgB, small62, shortB, ansP, rngD]
  · refine .inl ?_
    have a2 : (if (ns.length : Int) < 2 then (ns.length : Int) else 2) ≤ 1 := by split <;> omega
    have a3 : ¬ 1 < (if (ns.length : Int) < 2 then (ns.length : Int) else 2) := by omega
    simp [m__law_cells, mRet, mVal, mRg1, mFn, mCons, mNil, mC, mVar, fMin2, fMax2, fLen, a3, rgB, small62, shortB, ansP, rngD]
def LN (n : Nat) : List Dt := (allP n n n).map encN
def TD : Dt := .bool true
structure QF : Prop where
  sh : ∀ n : Nat, n ≤ 13 → g_shapes [.int (n : Int)] = some (.tuple (LN n))
  ls : ∀ n : Nat, n ≤ 13 → g__law_all_shapes [.int (n : Int), .int (n : Int)] = some (.list (LN n))
  ne : ∀ n : Nat, n ≤ 13 → gNe (.list (LN n)) (.list (LN n)) = some (.bool false)
  rr : ∀ n : Nat, n ≤ 13 → g__law_are_rows_right [.tuple (LN n), .int (n : Int)] = some (.bool true)
  st : ∀ n : Nat, n ≤ 13 → g__law_are_steps_right [.tuple (LN n), .int (n : Int)] = some (.bool true)
  tb : ∀ n l h : Nat, n ≤ 13 → 1 ≤ l → l ≤ 6 → 1 ≤ h → h ≤ 9 → g__law_are_tables_right [.tuple (LN n), .int (n : Int), .int (l : Int), .int (h : Int)] = some (.bool true)
def mRight (G1 G2 G3 G4 G5 : List Dt → Option Dt) (G6 G7 : List Dt → List Dt → Option (Dt × List Dt)) : MT :=
  (mSeq (mSet 1 (mFn fInt (mCons (mCallB G7 0 (mCons (mCallB G6 0 (mCons (mTup (mCons (mC (.int 7)) (mCons (mC (.int 14)) mNil))) mNil)) mNil)) mNil))) (mSeq (mPar3 2 3 4 (mCons (mFn G1 (mCons (mVar 1) mNil)) (mCons (mBin gAdd (mC (.int 1)) (mFn fInt (mCons (mCallB G7 0 (mCons (mC (.int 6)) mNil)) mNil))) (mCons (mBin gAdd (mC (.int 1)) (mFn fInt (mCons (mCallB G7 0 (mCons (mC (.int 9)) mNil)) mNil))) mNil)))) (mSeq (mIfS (mTst (mBin gNe (mVal (mFl fList (mCons (mVar 2) mNil))) (mFn G2 (mCons (mVar 1) (mCons (mVar 1) mNil))))) (mRet (mC (.bool false))) mNext) (mSeq (mIfS (mOrB (mNotB (mTst (mFn G5 (mCons (mVar 2) (mCons (mVar 1) (mCons (mVar 3) (mCons (mVar 4) mNil))))))) (mNotB (mTst (mFn G3 (mCons (mVar 2) (mCons (mVar 1) mNil)))))) (mRet (mC (.bool false))) mNext) (mRet (mFn G4 (mCons (mVar 2) (mCons (mVar 1) mNil))))))))
theorem right_core (G1 G2 G3 G4 G5 : List Dt → Option Dt) (G6 G7 : List Dt → List Dt → Option (Dt × List Dt)) (a a1 a2 a3 a4 b c1 c2 c3 c4 v N l t : Int) (L : List Dt)
    (h1 : G6 [.int a, .int b, .int 0] [.tuple [.int 7, .int 14]] = some (.int v, [.int a1, .int b, .int c1])) (h2 : G7 [.int a1, .int b, .int c1] [.int v] = some (.int N, [.int a2, .int b, .int c2]))
    (h3 : G7 [.int a2, .int b, .int c2] [.int 6] = some (.int l, [.int a3, .int b, .int c3])) (h4 : G7 [.int a3, .int b, .int c3] [.int 9] = some (.int t, [.int a4, .int b, .int c4]))
    (q1 : G1 [.int N] = some (.tuple L)) (q2 : G2 [.int N, .int N] = some (.list L)) (q3 : gNe (.list L) (.list L) = some (.bool false)) (q4 : G3 [.tuple L, .int N] = some (.bool true)) (q5 : G4 [.tuple L, .int N] = some (.bool true))
    (q6 : G5 [.tuple L, .int N, .int (1 + l), .int (1 + t)] = some (.bool true)) : ansB (mRight G1 G2 G3 G4 G5 G6 G7 [.brw [.int a, .int b, .int 0], .no, .no, .no, .no]) = some (.bool true, [.int a4, .int b, .int c4]) := by
  have s1 : mSet 1 (mFn fInt (mCons (mCallB G7 0 (mCons (mCallB G6 0 (mCons (mTup (mCons (mC (.int 7)) (mCons (mC (.int 14)) mNil))) mNil)) mNil)) mNil)) [.brw [.int a, .int b, .int 0], .no, .no, .no, .no] = some (.nx [.brw [.int a2, .int b, .int c2], .val (.int N), .no, .no, .no]) := by
    simp [mSet, mFn, mCons, mNil, mCallB, ownAt, setOwn, mTup, mC, shortB, h1, h2, fInt, gSet, Sl.free]
  have s2 : mPar3 2 3 4 (mCons (mFn G1 (mCons (mVar 1) mNil)) (mCons (mBin gAdd (mC (.int 1)) (mFn fInt (mCons (mCallB G7 0 (mCons (mC (.int 6)) mNil)) mNil))) (mCons (mBin gAdd (mC (.int 1)) (mFn fInt (mCons (mCallB G7 0 (mCons (mC (.int 9)) mNil)) mNil))) mNil))) [.brw [.int a2, .int b, .int c2], .val (.int N), .no, .no, .no] = some (.nx [.brw [.int a4, .int b, .int c4], .val (.int N), .val (.tuple L), .val (.int (1 + l)), .val (.int (1 + t))]) := by
    simp [mFn, mCons, mNil, mCallB, ownAt, setOwn, mC, fInt, gSet, Sl.free, mPar3, mVar, mBin, q1, gAdd, h3, h4]
  have s3 : mIfS (mTst (mBin gNe (mVal (mFl fList (mCons (mVar 2) mNil))) (mFn G2 (mCons (mVar 1) (mCons (mVar 1) mNil))))) (mRet (mC (.bool false))) mNext [.brw [.int a4, .int b, .int c4], .val (.int N), .val (.tuple L), .val (.int (1 + l)), .val (.int (1 + t))] = some (.nx [.brw [.int a4, .int b, .int c4], .val (.int N), .val (.tuple L), .val (.int (1 + l)), .val (.int (1 + t))]) := by
    simp [mIfS, mTst, mBin, mVal, mFl, fList, mFn, mCons, mNil, mVar, q2, q3, mNext]
  have s4 : mIfS (mOrB (mNotB (mTst (mFn G5 (mCons (mVar 2) (mCons (mVar 1) (mCons (mVar 3) (mCons (mVar 4) mNil))))))) (mNotB (mTst (mFn G3 (mCons (mVar 2) (mCons (mVar 1) mNil)))))) (mRet (mC (.bool false))) mNext [.brw [.int a4, .int b, .int c4], .val (.int N), .val (.tuple L), .val (.int (1 + l)), .val (.int (1 + t))] = some (.nx [.brw [.int a4, .int b, .int c4], .val (.int N), .val (.tuple L), .val (.int (1 + l)), .val (.int (1 + t))]) := by
    simp [mIfS, mOrB, mNotB, mTst, mFn, mCons, mNil, mVar, q6, q4, mNext]
  have s5 : mRet (mFn G4 (mCons (mVar 2) (mCons (mVar 1) mNil))) [.brw [.int a4, .int b, .int c4], .val (.int N), .val (.tuple L), .val (.int (1 + l)), .val (.int (1 + t))] = some (.rt (.bool true) [.brw [.int a4, .int b, .int c4], .val (.int N), .val (.tuple L), .val (.int (1 + l)), .val (.int (1 + t))]) := by
    simp [mRet, mFn, mCons, mNil, mVar, q5]
  unfold mRight
  simp only [mSeq, s1, s2, s3, s4, s5, ansB]
  rfl
theorem right_m : m__law_right = mRight g_shapes g__law_all_shapes g__law_are_rows_right g__law_are_steps_right g__law_are_tables_right g__law_of g__law_take := rfl
theorem right_g (Q : QF) (a b : Int) (ha : 0 ≤ a) (hb : 0 ≤ b) (hb2 : b < 2 ^ 61) : ∃ ys, g__law_right [.int a, .int b, .int 0] [] = some (.bool true, ys) := by
  obtain ⟨v, a1, c1, h1, hv, a10, c10, c11⟩ := of_g a b 0 ha hb hb2 (by decide) (by decide)
  obtain ⟨r, a2, c2, h2, r0, r1, a20, c20, c21⟩ := take_g a1 b c1 v a10 hb hb2 c10 (by omega) (by omega) (by omega)
  obtain ⟨l, a3, c3, h3, l0, l1, a30, c30, c31⟩ := take_g a2 b c2 6 a20 hb hb2 c20 (by omega) (by omega) (by omega)
  obtain ⟨t, a4, c4, h4, t0, t1, a40, c40, c41⟩ := take_g a3 b c3 9 a30 hb hb2 c30 (by omega) (by omega) (by omega)
  obtain ⟨n, rfl⟩ := Int.eq_ofNat_of_zero_le r0
  obtain ⟨l', el⟩ := Int.eq_ofNat_of_zero_le (show 0 ≤ 1 + l by omega)
  obtain ⟨t', et⟩ := Int.eq_ofNat_of_zero_le (show 0 ≤ 1 + t by omega)
  have hn : n ≤ 13 := by omega
  have q1 := Q.sh n hn
  have q2 := Q.ls n hn
  have q3 := Q.ne n hn
  have q4 := Q.rr n hn
  have q5 := Q.st n hn
  have q6 := Q.tb n l' t' hn (by omega) (by omega) (by omega) (by omega)
  rw [← el, ← et] at q6
  refine ⟨[.int a4, .int b, .int c4], ?_⟩
  unfold g__law_right
  rw [nfE_eq, ← me__law_right, right_m]
  exact right_core g_shapes g__law_all_shapes g__law_are_rows_right g__law_are_steps_right g__law_are_tables_right g__law_of g__law_take a a1 a2 a3 a4 b c1 c2 c3 c4 v n l t (LN n) h1 h2 h3 h4 q1 q2 q3 q4 q5 q6
theorem plain_of (Q : QF) (ns : List Int) (h : ns.length ≤ 63) : g_law [.dict [(.none, .list (ns.map .int))]] = some (.bool true) := by
  obtain ⟨a0, b0, p0, x0, y0, z0⟩ := pot_g ns 0 (.inl rfl)
  obtain ⟨a1, b1, p1, x1, y1, z1⟩ := pot_g ns 1 (.inr rfl)
  obtain ⟨u0, r0⟩ := right_g Q a0 b0 x0 y0 z0
  obtain ⟨u1, r1⟩ := right_g Q a1 b1 x1 y1 z1
  unfold g_law
  rw [nfE_eq, ← me_law]
  have e0 : env0 2 [.dict [(.none, .list (ns.map .int))]] = [.val (.dict [(.none, .list (ns.map .int))]), .no] := rfl
  rw [e0]
  rcases cells_g ns h with hc | hc
  · simp [m_law, mRet, mFn, mCons, mNil, mVal, mLc, mItems, mC, mVar, hc, seqOf, shortB, wipeC, okSl, Sl.plain, wipeE, lcGo, gSet, Sl.free, mYes, mCallF, mFl, p0, r0, backE, fAll, boolsOf, ansP]
  · simp [m_law, mRet, mFn, mCons, mNil, mVal, mLc, mItems, mC, mVar, hc, seqOf, shortB, wipeC, okSl, Sl.plain, wipeE, lcGo, gSet, Sl.free, mYes, mCallF, mFl, p0, r0, p1, r1, backE, fAll, boolsOf, ansP]
end Yd

set_option linter.all false
set_option autoImplicit false
namespace Yd
open PySem PySem.Spec PyProof.Rows L2
theorem qf : QF where
  sh n h := chk_ok (q_sh n h)
  ls n h := chk_ok (q_ls n h)
  ne n h := chk_ok (q_ne n h)
  rr n h := chk_ok (q_rr n h)
  st n h := chk_ok (q_st n h)
  tb n l t hn h1 h2 h3 h4 := by
    have c := List.all_eq_true.mp (List.all_eq_true.mp (q_c n hn) l (mem_upto h1 h2)) t (mem_upto h3 h4)
    rw [Bool.and_eq_true] at c
    refine tab_ok n l t h1 (by omega) h3 h4 (q_in n hn) (List.all_eq_true.mp (q_sm n hn) l (mem_upto h1 (by omega))) (List.all_eq_true.mp (q_sm n hn) t (mem_upto h3 h4)) c.1 c.2 ?_
    have hl : l = 1 ∨ l = 2 ∨ l = 3 ∨ l = 4 ∨ l = 5 ∨ l = 6 := by omega
    rcases hl with rfl | rfl | rfl | rfl | rfl | rfl
    · exact q_tc1 n hn
    · exact q_tc2 n hn
    · exact q_tc3 n hn
    · exact q_tc4 n hn
    · exact q_tc5 n hn
    · exact q_tc6 n hn
theorem plain_law (ns : List Int) (h : ns.length ≤ 63) : g_law [.dict [(.none, .list (ns.map .int))]] = some (.bool true) := plain_of qf ns h
end Yd

set_option Elab.async false
set_option linter.all false
set_option maxRecDepth 100000
set_option maxHeartbeats 0
set_option autoImplicit false
namespace Yd
open PySem PySem.Spec PyProof.Rows L2
def D_is_integer : He.DefD := ⟨("is_integer", none), "is_integer", "is_integer", defArgs s_is_integer, defBody s_is_integer, defScope s_is_integer, [], []⟩
def D_is_between : He.DefD := ⟨("is_between", none), "is_between", "is_between", defArgs s_is_between, defBody s_is_between, defScope s_is_between, [], []⟩
def D_is_shape : He.DefD := ⟨("is_shape", none), "is_shape", "is_shape", defArgs s_is_shape, defBody s_is_shape, defScope s_is_shape, [], []⟩
def D_check_shape : He.DefD := ⟨("check_shape", none), "check_shape", "check_shape", defArgs s_check_shape, defBody s_check_shape, defScope s_check_shape, [], []⟩
def D_check_upto : He.DefD := ⟨("check_upto", none), "check_upto", "check_upto", defArgs s_check_upto, defBody s_check_upto, defScope s_check_upto, [], []⟩
def D_all_shapes : He.DefD := ⟨("all_shapes", none), "all_shapes", "all_shapes", defArgs s_all_shapes, defBody s_all_shapes, defScope s_all_shapes, [], []⟩
def D_shapes : He.DefD := ⟨("shapes", none), "shapes", "shapes", defArgs s_shapes, defBody s_shapes, defScope s_shapes, [], []⟩
def D_more_by : He.DefD := ⟨("more_by", none), "more_by", "more_by", defArgs s_more_by, defBody s_more_by, defScope s_more_by, [], []⟩
def D_less_by : He.DefD := ⟨("less_by", none), "less_by", "less_by", defArgs s_less_by, defBody s_less_by, defScope s_less_by, [], []⟩
def D_grown : He.DefD := ⟨("grown", none), "grown", "grown", defArgs s_grown, defBody s_grown, defScope s_grown, [], []⟩
def D_shrunk : He.DefD := ⟨("shrunk", none), "shrunk", "shrunk", defArgs s_shrunk, defBody s_shrunk, defScope s_shrunk, [], []⟩
def D_hooks_of : He.DefD := ⟨("hooks_of", none), "hooks_of", "hooks_of", defArgs s_hooks_of, defBody s_hooks_of, defScope s_hooks_of, [], []⟩
def D_product : He.DefD := ⟨("product", none), "product", "product", defArgs s_product, defBody s_product, defScope s_product, [], []⟩
def D_all_hooks : He.DefD := ⟨("all_hooks", none), "all_hooks", "all_hooks", defArgs s_all_hooks, defBody s_all_hooks, defScope s_all_hooks, [], []⟩
def D_standard_count_of : He.DefD := ⟨("standard_count_of", none), "standard_count_of", "standard_count_of", defArgs s_standard_count_of, defBody s_standard_count_of, defScope s_standard_count_of, [], []⟩
def D_standard_count : He.DefD := ⟨("standard_count", none), "standard_count", "standard_count", defArgs s_standard_count, defBody s_standard_count, defScope s_standard_count, [], []⟩
def D_table_count : He.DefD := ⟨("table_count", none), "table_count", "table_count", defArgs s_table_count, defBody s_table_count, defScope s_table_count, [], []⟩
def D_rows_of_shape : He.DefD := ⟨("rows_of_shape", none), "rows_of_shape", "rows_of_shape", defArgs s_rows_of_shape, defBody s_rows_of_shape, defScope s_rows_of_shape, [], []⟩
def D_rows_led : He.DefD := ⟨("rows_led", none), "rows_led", "rows_led", defArgs s_rows_led, defBody s_rows_led, defScope s_rows_led, [], []⟩
def D__law_pot : He.DefD := ⟨("_law_pot", none), "_law_pot", "_law_pot", defArgs s__law_pot, defBody s__law_pot, defScope s__law_pot, [], []⟩
def D__law_take : He.DefD := ⟨("_law_take", none), "_law_take", "_law_take", defArgs s__law_take, defBody s__law_take, defScope s__law_take, [], []⟩
def D__law_of : He.DefD := ⟨("_law_of", none), "_law_of", "_law_of", defArgs s__law_of, defBody s__law_of, defScope s__law_of, [], []⟩
def D__law_cells : He.DefD := ⟨("_law_cells", none), "_law_cells", "_law_cells", defArgs s__law_cells, defBody s__law_cells, defScope s__law_cells, [], []⟩
def D__law_choose : He.DefD := ⟨("_law_choose", none), "_law_choose", "_law_choose", defArgs s__law_choose, defBody s__law_choose, defScope s__law_choose, [], []⟩
def D__law_product : He.DefD := ⟨("_law_product", none), "_law_product", "_law_product", defArgs s__law_product, defBody s__law_product, defScope s__law_product, [], []⟩
def D__law_power : He.DefD := ⟨("_law_power", none), "_law_power", "_law_power", defArgs s__law_power, defBody s__law_power, defScope s__law_power, [], []⟩
def D__law_columns : He.DefD := ⟨("_law_columns", none), "_law_columns", "_law_columns", defArgs s__law_columns, defBody s__law_columns, defScope s__law_columns, [], []⟩
def D__law_all_shapes : He.DefD := ⟨("_law_all_shapes", none), "_law_all_shapes", "_law_all_shapes", defArgs s__law_all_shapes, defBody s__law_all_shapes, defScope s__law_all_shapes, [], []⟩
def D__law_even : He.DefD := ⟨("_law_even", none), "_law_even", "_law_even", defArgs s__law_even, defBody s__law_even, defScope s__law_even, [], []⟩
def D__law_heaps : He.DefD := ⟨("_law_heaps", none), "_law_heaps", "_law_heaps", defArgs s__law_heaps, defBody s__law_heaps, defScope s__law_heaps, [], []⟩
def D__law_are_tables_right : He.DefD := ⟨("_law_are_tables_right", none), "_law_are_tables_right", "_law_are_tables_right", defArgs s__law_are_tables_right, defBody s__law_are_tables_right, defScope s__law_are_tables_right, [], []⟩
def D__law_are_rows_right : He.DefD := ⟨("_law_are_rows_right", none), "_law_are_rows_right", "_law_are_rows_right", defArgs s__law_are_rows_right, defBody s__law_are_rows_right, defScope s__law_are_rows_right, [], []⟩
def D__law_are_steps_right : He.DefD := ⟨("_law_are_steps_right", none), "_law_are_steps_right", "_law_are_steps_right", defArgs s__law_are_steps_right, defBody s__law_are_steps_right, defScope s__law_are_steps_right, [], []⟩
def D__law_right : He.DefD := ⟨("_law_right", none), "_law_right", "_law_right", defArgs s__law_right, defBody s__law_right, defScope s__law_right, [], []⟩
def D_law : He.DefD := ⟨("law", none), "law", "law", defArgs s_law, defBody s_law, defScope s_law, [], []⟩
def hfn_0 : List He.DefD := [D_is_integer, D_is_between, D_is_shape, D_check_shape, D_check_upto, D_all_shapes, D_shapes, D_more_by, D_less_by, D_grown, D_shrunk, D_hooks_of, D_product, D_all_hooks, D_standard_count_of, D_standard_count, D_table_count, D_rows_of_shape, D_rows_led, D__law_pot, D__law_take, D__law_of, D__law_cells, D__law_choose, D__law_product, D__law_power, D__law_columns, D__law_all_shapes, D__law_even, D__law_heaps]
def hfn_1 : List He.DefD := [D__law_are_tables_right, D__law_are_rows_right, D__law_are_steps_right, D__law_right, D_law]
def hfn : List He.DefD := hfn_0 ++ hfn_1
def hfa_0 : List He.Fa := [.glo "is_integer", .glo "is_between", .glo "is_shape", .glo "check_shape", .glo "check_upto", .glo "all_shapes", .glo "shapes", .glo "more_by", .glo "less_by", .glo "grown", .glo "shrunk", .glo "hooks_of", .glo "product", .glo "all_hooks", .glo "standard_count_of", .glo "standard_count", .glo "table_count", .glo "rows_of_shape", .glo "rows_led", .glo "_law_pot", .glo "_law_take", .glo "_law_of", .glo "_law_cells", .glo "_law_choose", .glo "_law_product", .glo "_law_power", .glo "_law_columns", .glo "_law_all_shapes", .glo "_law_even", .glo "_law_heaps"]
def hfa_1 : List He.Fa := [.glo "_law_are_tables_right", .glo "_law_are_rows_right", .glo "_law_are_steps_right", .glo "_law_right", .glo "law", .int "MOST_CARS" 30, .int "MOST_NUMBER" 99, .free "abs", .free "all", .free "any", .free "bool", .free "enumerate", .free "int", .free "isinstance", .free "len", .free "list", .free "max", .free "min", .free "range", .free "sorted", .free "sum", .free "tuple", .free "zip"]
def hfa : List He.Fa := hfa_0 ++ hfa_1
def hloose_0 : List Str := ["TrackError", "BadNumber", "BadShape", "is_integer", "is_between", "MOST_CARS", "MOST_NUMBER", "is_shape", "check_shape", "check_upto", "all_shapes", "shapes", "more_by", "less_by", "grown", "shrunk", "hooks_of", "product", "all_hooks", "standard_count_of", "standard_count", "table_count", "rows_of_shape", "rows_led", "_law_pot", "_law_take", "_law_of", "_law_cells", "_law_choose", "_law_product"]
def hloose_1 : List Str := ["_law_power", "_law_columns", "_law_all_shapes", "_law_even", "_law_heaps", "_law_are_tables_right", "_law_are_rows_right", "_law_are_steps_right", "_law_right"]
def hloose : List Str := hloose_0 ++ hloose_1
abbrev HR : PySem.W.OpenRow := PySem.W.OpenLaw.row PySem.Challenge.rw_tracksenough_k09_whole_sums_over_all_sha
abbrev hhk : PySem.W.Hook := He.hookD 4 hfa hfn
def hob (s : PySem.W.SharedT) : He.AlD := He.obsDG 4 hfa hfn (HandSHeadRun.getT s)
theorem hob_eq (s : PySem.W.SharedT) : hob s = hhk.obs s.abs := He.obsDG_eq (HandSHeadRun.getT_eq s)
theorem hrun (w : World) : HandSHeadRun.RunEq HR (PySem.W.view HR.prog [43]) hhk hob 3000 hloose w := by
  intro os
  kernel_rfl
theorem hfacts {P : Program} {w : World} {K : PySem.W.Frag} {h : Heap} {mg : Str → Option Value} {f : Addr} (X : K.In h) (G : h.Ns mainGlobals mg) (hfa0 : mg ("law" : Str) = some (.ref f)) (c : He.SaysD hfa hfn K) :
    ∃ fd : FuncData, (∀ (s : Shared) (v : Value), BindsTo s fd ⟨[v], []⟩ [("script", v)]) ∧ ∀ base : Heap, K.In base → base.Ns mainGlobals mg → FnOk P w K mg base CX0 20 f fd ["script"] (spP K 1 g_law) := by
  obtain ⟨d_is_integer, F_is_integer⟩ := c.def_ 0 (d := D_is_integer) rfl
  obtain ⟨d_is_between, F_is_between⟩ := c.def_ 1 (d := D_is_between) rfl
  obtain ⟨d_is_shape, F_is_shape⟩ := c.def_ 2 (d := D_is_shape) rfl
  obtain ⟨d_check_shape, F_check_shape⟩ := c.def_ 3 (d := D_check_shape) rfl
  obtain ⟨d_check_upto, F_check_upto⟩ := c.def_ 4 (d := D_check_upto) rfl
  obtain ⟨d_all_shapes, F_all_shapes⟩ := c.def_ 5 (d := D_all_shapes) rfl
  obtain ⟨d_shapes, F_shapes⟩ := c.def_ 6 (d := D_shapes) rfl
  obtain ⟨d_more_by, F_more_by⟩ := c.def_ 7 (d := D_more_by) rfl
  obtain ⟨d_less_by, F_less_by⟩ := c.def_ 8 (d := D_less_by) rfl
  obtain ⟨d_grown, F_grown⟩ := c.def_ 9 (d := D_grown) rfl
  obtain ⟨d_shrunk, F_shrunk⟩ := c.def_ 10 (d := D_shrunk) rfl
  obtain ⟨d_hooks_of, F_hooks_of⟩ := c.def_ 11 (d := D_hooks_of) rfl
  obtain ⟨d_product, F_product⟩ := c.def_ 12 (d := D_product) rfl
  obtain ⟨d_all_hooks, F_all_hooks⟩ := c.def_ 13 (d := D_all_hooks) rfl
  obtain ⟨d_standard_count_of, F_standard_count_of⟩ := c.def_ 14 (d := D_standard_count_of) rfl
  obtain ⟨d_standard_count, F_standard_count⟩ := c.def_ 15 (d := D_standard_count) rfl
  obtain ⟨d_table_count, F_table_count⟩ := c.def_ 16 (d := D_table_count) rfl
  obtain ⟨d_rows_of_shape, F_rows_of_shape⟩ := c.def_ 17 (d := D_rows_of_shape) rfl
  obtain ⟨d_rows_led, F_rows_led⟩ := c.def_ 18 (d := D_rows_led) rfl
  obtain ⟨d__law_pot, F__law_pot⟩ := c.def_ 19 (d := D__law_pot) rfl
  obtain ⟨d__law_take, F__law_take⟩ := c.def_ 20 (d := D__law_take) rfl
  obtain ⟨d__law_of, F__law_of⟩ := c.def_ 21 (d := D__law_of) rfl
  obtain ⟨d__law_cells, F__law_cells⟩ := c.def_ 22 (d := D__law_cells) rfl
  obtain ⟨d__law_choose, F__law_choose⟩ := c.def_ 23 (d := D__law_choose) rfl
  obtain ⟨d__law_product, F__law_product⟩ := c.def_ 24 (d := D__law_product) rfl
  obtain ⟨d__law_power, F__law_power⟩ := c.def_ 25 (d := D__law_power) rfl
  obtain ⟨d__law_columns, F__law_columns⟩ := c.def_ 26 (d := D__law_columns) rfl
  obtain ⟨d__law_all_shapes, F__law_all_shapes⟩ := c.def_ 27 (d := D__law_all_shapes) rfl
  obtain ⟨d__law_even, F__law_even⟩ := c.def_ 28 (d := D__law_even) rfl
  obtain ⟨d__law_heaps, F__law_heaps⟩ := c.def_ 29 (d := D__law_heaps) rfl
  obtain ⟨d__law_are_tables_right, F__law_are_tables_right⟩ := c.def_ 30 (d := D__law_are_tables_right) rfl
  obtain ⟨d__law_are_rows_right, F__law_are_rows_right⟩ := c.def_ 31 (d := D__law_are_rows_right) rfl
  obtain ⟨d__law_are_steps_right, F__law_are_steps_right⟩ := c.def_ 32 (d := D__law_are_steps_right) rfl
  obtain ⟨d__law_right, F__law_right⟩ := c.def_ 33 (d := D__law_right) rfl
  obtain ⟨d_law, F_law⟩ := c.def_ 34 (d := D_law) rfl
  obtain ⟨t_MOST_CARS, c_MOST_CARS⟩ := He.int_ok X G (c.fact 35 (f := .int "MOST_CARS" 30) rfl)
  obtain ⟨t_MOST_NUMBER, c_MOST_NUMBER⟩ := He.int_ok X G (c.fact 36 (f := .int "MOST_NUMBER" 99) rfl)
  have e := hfa0.symm.trans (He.glo_ok X G (c.fact 34 (f := .glo "law") rfl))
  cases e
  let A : Al K mg := {
    a_is_integer := He.ga K "is_integer", d_is_integer := d_is_integer, F_is_integer := F_is_integer, g_is_integer := He.glo_ok X G (c.fact 0 (f := .glo "is_integer") rfl),
    a_is_between := He.ga K "is_between", d_is_between := d_is_between, F_is_between := F_is_between, g_is_between := He.glo_ok X G (c.fact 1 (f := .glo "is_between") rfl),
    a_is_shape := He.ga K "is_shape", d_is_shape := d_is_shape, F_is_shape := F_is_shape, g_is_shape := He.glo_ok X G (c.fact 2 (f := .glo "is_shape") rfl),
    a_check_shape := He.ga K "check_shape", d_check_shape := d_check_shape, F_check_shape := F_check_shape, g_check_shape := He.glo_ok X G (c.fact 3 (f := .glo "check_shape") rfl),
    a_check_upto := He.ga K "check_upto", d_check_upto := d_check_upto, F_check_upto := F_check_upto, g_check_upto := He.glo_ok X G (c.fact 4 (f := .glo "check_upto") rfl),
    a_all_shapes := He.ga K "all_shapes", d_all_shapes := d_all_shapes, F_all_shapes := F_all_shapes, g_all_shapes := He.glo_ok X G (c.fact 5 (f := .glo "all_shapes") rfl),
    a_shapes := He.ga K "shapes", d_shapes := d_shapes, F_shapes := F_shapes, g_shapes := He.glo_ok X G (c.fact 6 (f := .glo "shapes") rfl),
    a_more_by := He.ga K "more_by", d_more_by := d_more_by, F_more_by := F_more_by, g_more_by := He.glo_ok X G (c.fact 7 (f := .glo "more_by") rfl),
    a_less_by := He.ga K "less_by", d_less_by := d_less_by, F_less_by := F_less_by, g_less_by := He.glo_ok X G (c.fact 8 (f := .glo "less_by") rfl),
    a_grown := He.ga K "grown", d_grown := d_grown, F_grown := F_grown, g_grown := He.glo_ok X G (c.fact 9 (f := .glo "grown") rfl),
    a_shrunk := He.ga K "shrunk", d_shrunk := d_shrunk, F_shrunk := F_shrunk, g_shrunk := He.glo_ok X G (c.fact 10 (f := .glo "shrunk") rfl),
    a_hooks_of := He.ga K "hooks_of", d_hooks_of := d_hooks_of, F_hooks_of := F_hooks_of, g_hooks_of := He.glo_ok X G (c.fact 11 (f := .glo "hooks_of") rfl),
    a_product := He.ga K "product", d_product := d_product, F_product := F_product, g_product := He.glo_ok X G (c.fact 12 (f := .glo "product") rfl),
    a_all_hooks := He.ga K "all_hooks", d_all_hooks := d_all_hooks, F_all_hooks := F_all_hooks, g_all_hooks := He.glo_ok X G (c.fact 13 (f := .glo "all_hooks") rfl),
    a_standard_count_of := He.ga K "standard_count_of", d_standard_count_of := d_standard_count_of, F_standard_count_of := F_standard_count_of, g_standard_count_of := He.glo_ok X G (c.fact 14 (f := .glo "standard_count_of") rfl),
    a_standard_count := He.ga K "standard_count", d_standard_count := d_standard_count, F_standard_count := F_standard_count, g_standard_count := He.glo_ok X G (c.fact 15 (f := .glo "standard_count") rfl),
    a_table_count := He.ga K "table_count", d_table_count := d_table_count, F_table_count := F_table_count, g_table_count := He.glo_ok X G (c.fact 16 (f := .glo "table_count") rfl),
    a_rows_of_shape := He.ga K "rows_of_shape", d_rows_of_shape := d_rows_of_shape, F_rows_of_shape := F_rows_of_shape, g_rows_of_shape := He.glo_ok X G (c.fact 17 (f := .glo "rows_of_shape") rfl),
    a_rows_led := He.ga K "rows_led", d_rows_led := d_rows_led, F_rows_led := F_rows_led, g_rows_led := He.glo_ok X G (c.fact 18 (f := .glo "rows_led") rfl),
    a__law_pot := He.ga K "_law_pot", d__law_pot := d__law_pot, F__law_pot := F__law_pot, g__law_pot := He.glo_ok X G (c.fact 19 (f := .glo "_law_pot") rfl),
    a__law_take := He.ga K "_law_take", d__law_take := d__law_take, F__law_take := F__law_take, g__law_take := He.glo_ok X G (c.fact 20 (f := .glo "_law_take") rfl),
    a__law_of := He.ga K "_law_of", d__law_of := d__law_of, F__law_of := F__law_of, g__law_of := He.glo_ok X G (c.fact 21 (f := .glo "_law_of") rfl),
    a__law_cells := He.ga K "_law_cells", d__law_cells := d__law_cells, F__law_cells := F__law_cells, g__law_cells := He.glo_ok X G (c.fact 22 (f := .glo "_law_cells") rfl),
    a__law_choose := He.ga K "_law_choose", d__law_choose := d__law_choose, F__law_choose := F__law_choose, g__law_choose := He.glo_ok X G (c.fact 23 (f := .glo "_law_choose") rfl),
    a__law_product := He.ga K "_law_product", d__law_product := d__law_product, F__law_product := F__law_product, g__law_product := He.glo_ok X G (c.fact 24 (f := .glo "_law_product") rfl),
    a__law_power := He.ga K "_law_power", d__law_power := d__law_power, F__law_power := F__law_power, g__law_power := He.glo_ok X G (c.fact 25 (f := .glo "_law_power") rfl),
    a__law_columns := He.ga K "_law_columns", d__law_columns := d__law_columns, F__law_columns := F__law_columns, g__law_columns := He.glo_ok X G (c.fact 26 (f := .glo "_law_columns") rfl),
    a__law_all_shapes := He.ga K "_law_all_shapes", d__law_all_shapes := d__law_all_shapes, F__law_all_shapes := F__law_all_shapes, g__law_all_shapes := He.glo_ok X G (c.fact 27 (f := .glo "_law_all_shapes") rfl),
    a__law_even := He.ga K "_law_even", d__law_even := d__law_even, F__law_even := F__law_even, g__law_even := He.glo_ok X G (c.fact 28 (f := .glo "_law_even") rfl),
    a__law_heaps := He.ga K "_law_heaps", d__law_heaps := d__law_heaps, F__law_heaps := F__law_heaps, g__law_heaps := He.glo_ok X G (c.fact 29 (f := .glo "_law_heaps") rfl),
    a__law_are_tables_right := He.ga K "_law_are_tables_right", d__law_are_tables_right := d__law_are_tables_right, F__law_are_tables_right := F__law_are_tables_right, g__law_are_tables_right := He.glo_ok X G (c.fact 30 (f := .glo "_law_are_tables_right") rfl),
    a__law_are_rows_right := He.ga K "_law_are_rows_right", d__law_are_rows_right := d__law_are_rows_right, F__law_are_rows_right := F__law_are_rows_right, g__law_are_rows_right := He.glo_ok X G (c.fact 31 (f := .glo "_law_are_rows_right") rfl),
    a__law_are_steps_right := He.ga K "_law_are_steps_right", d__law_are_steps_right := d__law_are_steps_right, F__law_are_steps_right := F__law_are_steps_right, g__law_are_steps_right := He.glo_ok X G (c.fact 32 (f := .glo "_law_are_steps_right") rfl),
    a__law_right := He.ga K "_law_right", d__law_right := d__law_right, F__law_right := F__law_right, g__law_right := He.glo_ok X G (c.fact 33 (f := .glo "_law_right") rfl),
    a_law := He.ga K "law", d_law := d_law, F_law := F_law, g_law := He.glo_ok X G (c.fact 34 (f := .glo "law") rfl),
    t_MOST_CARS := t_MOST_CARS, c_MOST_CARS := c_MOST_CARS,
    t_MOST_NUMBER := t_MOST_NUMBER, c_MOST_NUMBER := c_MOST_NUMBER,
    f_abs := He.free_ok X G (c.fact 37 (f := .free "abs") rfl),
    f_all := He.free_ok X G (c.fact 38 (f := .free "all") rfl),
    f_any := He.free_ok X G (c.fact 39 (f := .free "any") rfl),
    f_bool := He.free_ok X G (c.fact 40 (f := .free "bool") rfl),
    f_enumerate := He.free_ok X G (c.fact 41 (f := .free "enumerate") rfl),
    f_int := He.free_ok X G (c.fact 42 (f := .free "int") rfl),
    f_isinstance := He.free_ok X G (c.fact 43 (f := .free "isinstance") rfl),
    f_len := He.free_ok X G (c.fact 44 (f := .free "len") rfl),
    f_list := He.free_ok X G (c.fact 45 (f := .free "list") rfl),
    f_max := He.free_ok X G (c.fact 46 (f := .free "max") rfl),
    f_min := He.free_ok X G (c.fact 47 (f := .free "min") rfl),
    f_range := He.free_ok X G (c.fact 48 (f := .free "range") rfl),
    f_sorted := He.free_ok X G (c.fact 49 (f := .free "sorted") rfl),
    f_sum := He.free_ok X G (c.fact 50 (f := .free "sum") rfl),
    f_tuple := He.free_ok X G (c.fact 51 (f := .free "tuple") rfl),
    f_zip := He.free_ok X G (c.fact 52 (f := .free "zip") rfl) }
  have b := FunD.bindsA (ps := ["script"]) F_law fun _ _ _ _ _ _ us hl => match us, hl with | [_], _ => rfl
  exact ⟨d_law, fun s v => b s [v] rfl, fun base _ _ => ok_law A⟩
end Yd
open PySem PySem.W PySem.Calls PyProof.Rows
theorem PySem.Challenge.cw_tracksenough_k09_whole_sums_over_all_sha_holds : PySem.Challenge.rw_tracksenough_k09_whole_sums_over_all_sha.Holds := by
  w_on; o_law
  refine HandSHeadRun.head_any (r := OpenLaw.row PySem.Challenge.rw_tracksenough_k09_whole_sums_over_all_sha) (q := view (OpenLaw.row PySem.Challenge.rw_tracksenough_k09_whole_sums_over_all_sha).prog [43]) (H := Yd.hhk) (ob := Yd.hob) (M := 3000) (loose := Yd.hloose) (d := HandSHeadRun.topDef (OpenLaw.row PySem.Challenge.rw_tracksenough_k09_whole_sums_over_all_sha).prog 43) (kwd := []) Yd.hob_eq
    (by kernel_rfl) (fun s => by kernel_rfl) Yd.hrun (by kernel_rfl) (by kernel_rfl) (by kernel_rfl) (by rfl) (by first | assumption | decide +kernel) (by decide +kernel) ⟨rfl, rfl, rfl, rfl, rfl, by decide +kernel⟩ ?hw ?hc
  case hw => w_witness2
  case hc =>
    refine L2.walk_ofE (l := PySem.Challenge.rw_tracksenough_k09_whole_sums_over_all_sha) (n := 63) (k := 20) (x := "script") (CX := L2.CX0) rfl (by decide) (by kernel_rfl) ⟨rfl, by decide, by decide⟩ ?F (fun _ _ _ _ z => z)
    intro w mg fa h Y G hmg0
    obtain ⟨K, KX, c⟩ := Y
    have hmg : mg ("law" : PySem.Str) = some (.ref fa) := by
      have e : (HandSHeadRun.topDef (OpenLaw.row PySem.Challenge.rw_tracksenough_k09_whole_sums_over_all_sha).prog 43).name = ("law" : PySem.Str) := by kernel_rfl
      rw [← e]
      exact hmg0
    obtain ⟨fd, hb, hF⟩ := Yd.hfacts (P := (PySem.Challenge.rw_tracksenough_k09_whole_sums_over_all_sha).prog) (w := w) KX G hmg c
    refine ⟨K, fd, Yd.spP K 1 Yd.g_law, KX, hb, fun H a ns hl _ hS => ?_, hF⟩
    exact Yd.script_ok hS (Yd.plain_law ns hl)

