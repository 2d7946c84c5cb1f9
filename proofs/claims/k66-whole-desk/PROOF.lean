import PyProof.Rows.All
import Wide.All
import OpenK.AllK
import Wide.FinOn
import KE.KStateDown
import Lean
import HandS.ForMost
import HandS.Exc
import HandS.TryOnly
import HandS.ExcOwn
import HandS.WordsExc
import HandS.Deep
import HandS.Style
import HandS.TupAny
import HandS.Wide
import HandS.IsInst
import HandS.HeadHook1
import HandS.Conv
import HandS.RaiseMore
import HandS.Zip
import HandS.SortInts
import HandS.Defaults
import HandS.HeadEnd
import HandS.ExcIs
import HandS.Head0
import HandS.Head1
import HandS.Head2
import HandS.HeadHook2
import HandS.HeadHook3
import HandS.HeadHook4
import HandS.SetFor
import HandS.Strs
import HandS.Text
import HandS.More
import PyProof.CollectStr
import KE.DataMinMax
import KE.SortData
import HandS.SlotsOwn
import KE.Datum
import PySem.Challenge.RW_proxybids_k66_whole_desk
set_option Elab.async false
set_option linter.all false
set_option maxRecDepth 100000
set_option maxHeartbeats 4000000
/-! A data layer over the hand layer: mirrors as pure functions over PyData, one soundness rule a construct. -/
namespace PD
open PySem PySem.Spec PyProof.Rows L2

/-! ### results -/
/-- what a piece comes to: a value, an exception of a class of the text (by name), or not told -/
inductive R (α : Type) where
  | ok (a : α)
  | ex (c : Str)
  | no
def R.bind {α β : Type} : R α → (α → R β) → R β
  | .ok a, f => f a
  | .ex c, _ => .ex c
  | .no, _ => .no
@[simp] theorem R.bind_ok {α β : Type} (a : α) (f : α → R β) : (R.ok a).bind f = f a := rfl
@[simp] theorem R.bind_ex {α β : Type} (c : Str) (f : α → R β) : (R.ex c : R α).bind f = .ex c := rfl
@[simp] theorem R.bind_no {α β : Type} (f : α → R β) : (R.no : R α).bind f = .no := rfl

/-- a slot: nothing known, a value that is shared, a list of the slot's own (it may be changed) -/
inductive Sl where
  | no
  | v (d : PyData)
  | own (ds : List PyData)
  | ad (a : Addr)
abbrev Gam := List Sl
abbrev M := Gam → R PyData
def gat : Gam → Nat → Sl
  | [], _ => .no
  | s :: _, 0 => s
  | _ :: r, n + 1 => gat r n
@[simp] theorem gat_nil (n : Nat) : gat [] n = .no := rfl
@[simp] theorem gat_zero (s : Sl) (r : Gam) : gat (s :: r) 0 = s := rfl
@[simp] theorem gat_succ (s : Sl) (r : Gam) (n : Nat) : gat (s :: r) (n + 1) = gat r n := rfl
theorem gat_set : ∀ (Γ : Gam) (i j : Nat) (s : Sl), gat (Γ.set i s) j = if j = i ∧ i < Γ.length then s else gat Γ j
  | [], i, j, s => by simp
  | a :: r, 0, 0, s => by simp
  | a :: r, 0, j + 1, s => by simp
  | a :: r, i + 1, 0, s => by simp
  | a :: r, i + 1, j + 1, s => by
    simp only [List.set_cons_succ, gat_succ, gat_set r i j s, List.length_cons, Nat.add_lt_add_iff_right, Nat.add_right_cancel_iff]
theorem gat_ge : ∀ {Γ : Gam} {i : Nat}, Γ.length ≤ i → gat Γ i = .no
  | [], _, _ => rfl
  | a :: r, 0, h => by simp at h
  | a :: r, i + 1, h => gat_ge (Γ := r) (by simpa using h)
theorem gat_lt {Γ : Gam} {i : Nat} (h : gat Γ i ≠ .no) : i < Γ.length := Nat.lt_of_not_le fun z => h (gat_ge z)

/-! ### heaps: G, what is shared, within H -/
abbrev Le (G H : Hp) : Prop := ∀ a o, G a = some o → H a = some o
structure Gr (G H G' H' : Hp) : Prop where
  g : Le G G'
  h : Le H H'
  s : Le G' H'
  fr : ∀ a, H a ≠ none → G a = none → G' a = none
theorem Gr.refl {G H : Hp} (s : Le G H) : Gr G H G H := ⟨fun _ _ e => e, fun _ _ e => e, s, fun _ _ e => e⟩
theorem Gr.trans {G H G1 H1 G2 H2 : Hp} (a : Gr G H G1 H1) (b : Gr G1 H1 G2 H2) : Gr G H G2 H2 where
  g := fun x o e => b.g x o (a.g x o e)
  h := fun x o e => b.h x o (a.h x o e)
  s := b.s
  fr := fun x hx hg => b.fr x (fun z => hx (by
    cases q : H x with
    | none => rfl
    | some o => rw [a.h x o q] at z; cases z)) (a.fr x hx hg)
/-- H alone grows -/
theorem Gr.grow {G H H' : Hp} (s : Le G H) (h : Le H H') : Gr G H G H' := ⟨fun _ _ e => e, h, fun a o e => h a o (s a o e), fun _ _ e => e⟩
theorem le_upd {H : Hp} {p : Addr} {o : HO} (h : H p = none) : Le H (upd H p o) := fun a u e => by
  rw [upd_ne (ne_of_none e h)]
  exact e
theorem le_none {H H' : Hp} (l : Le H H') {p : Addr} (h : H' p = none) : H p = none := by
  cases q : H p with
  | none => rfl
  | some o => rw [l p o q] at h; cases h
theorem le_trans {G H K : Hp} (a : Le G H) (b : Le H K) : Le G K := fun x o e => b x o (a x o e)
/-- a new object that is shared at once -/
theorem Gr.new {G H : Hp} {p : Addr} {o : HO} (s : Le G H) (h : H p = none) : Gr G H (upd G p o) (upd H p o) where
  g := le_upd (le_none s h)
  h := le_upd h
  s := fun a u e => by
    by_cases q : a = p
    · subst q; rw [upd_same] at e ⊢; exact e
    · rw [upd_ne q] at e ⊢; exact s a u e
  fr := fun a ha hg => by
    have q : a ≠ p := fun z => by subst z; exact ha h
    rw [upd_ne q]; exact hg
/-- an own object of H is shared from here on -/
theorem Le.share {G H : Hp} {p : Addr} {o : HO} (s : Le G H) (h : H p = some o) : Le (upd G p o) H := fun a u e => by
  by_cases q : a = p
  · subst q; rw [upd_same] at e; rw [h]; exact e
  · rw [upd_ne q] at e; exact s a u e

theorem rd_le {G H : Hp} {a : Addr} {u : HO} (e : Le G H) (h : Rd G a u) : Rd H a u := by
  rcases h with h | ⟨o, h⟩
  · exact Or.inl (e a _ h)
  · exact Or.inr ⟨o, e a _ h⟩
/-- the class Desk, as the head tells of it -/
abbrev dkC (K : PySem.W.Frag) : Addr := He.ga K "Desk"
structure DskC (K : PySem.W.Frag) : Prop where
  cl : Cls K (dkC K)
  n1 : NoAttr K (dkC K) "present"
  n2 : NoAttr K (dkC K) "done"
  n3 : NoAttr K (dkC K) "undone"
  ha : PySem.W.findIn K (.ref (dkC K)) "__class__" = some (some (.builtin "object.__class__"))
  hn : PySem.W.specialIn K (.builtin "object.__class__") "__get__" = some (some (.builtin "getset_descriptor.__get__"))
  htk : PySem.W.takesIn K (.builtin "object.__class__") = some true
  hm : PySem.W.mroIn K (dkC K) (.type "object") = some true
  kit : ∀ n ∈ ["int", "bool", "str", "tuple", "list"], PySem.W.kitOne K (.ref (dkC K)) (.type n) = some false
  kD : PySem.W.kitOne K (.ref (dkC K)) (.ref (dkC K)) = some true
  kT : PySem.W.kitOne K (.type "tuple") (.ref (dkC K)) = some false
  ne : PySem.W.findIn K (.ref (dkC K)) "__ne__" = some (some (.builtin "object.__ne__"))
  sT : PySem.W.subIn K (.type "tuple") (.ref (dkC K)) = some false
def fsD (tp : V) (l1 l2 : Addr) : List (Str × V) := [(PySem.Str.ofString "present", tp), (PySem.Str.ofString "done", .ref l1), (PySem.Str.ofString "undone", .ref l2)]
mutual
/-- a value is the datum d: lists tracked, tuples tracked or of the written part; the law's script (a list of ints that is only read) is a dict from its ints to None -/
inductive Dq (K : PySem.W.Frag) (H : Hp) : V → PyData → Prop
  | non : Dq K H .non .none
  | bl (b : Bool) : Dq K H (.bl b) (.bool b)
  | int (i : Int) : Dq K H (.int i) (.int i)
  | str (x : Str) : Dq K H (.str x) (.str x)
  | lst {a : Addr} {xs : List V} {ds : List PyData} : H a = some (.lst xs) → DqAll K H xs ds → Dq K H (.ref a) (.list ds)
  | tup {a : Addr} {xs : List V} {ds : List PyData} : SqT K H a xs → DqAll K H xs ds → Dq K H (.ref a) (.tuple ds)
  | scr {a : Addr} {ns : List Int} : SqL K H a (ns.map V.int) → Dq K H (.ref a) (.dict (ns.map fun n => (.int n, .none)))
  | dct {a : Addr} {o : Obj} {kvs : List (Str × Int)} : H a = some (.frz o (.dK (kvs.map fun p => ((Sum.inr p.1 : Key), V.int p.2)))) → Dq K H (.ref a) (.dict ((.none, .none) :: kvs.map fun p => (.str p.1, .int p.2)))
  | dsk {a dx l1 l2 : Addr} {tp : V} {ds : List PyData} : DskC K → H a = some (.ins (dkC K) dx (fsD tp l1 l2)) → H dx = some (.own a) → DqAll K H [tp, .ref l1, .ref l2] ds → Dq K H (.ref a) (.dict [(.bool true, .list ds)])
  | dsl {a dx l1 l2 : Addr} {tp : V} {p : PyData} : DskC K → H a = some (.ins (dkC K) dx (fsD tp l1 l2)) → H dx = some (.own a) → Dq K H tp p → Dq K H (.ref a) (.dict [(.bool false, p)])
inductive DqAll (K : PySem.W.Frag) (H : Hp) : List V → List PyData → Prop
  | nil : DqAll K H [] []
  | cons {v : V} {vs : List V} {d : PyData} {ds : List PyData} : Dq K H v d → DqAll K H vs ds → DqAll K H (v :: vs) (d :: ds)
end
section
variable {K : PySem.W.Frag} {G H : Hp} {a : Addr} {xs : List V}
theorem shp {ds : List PyData} (h : SeqAt.shaped (.list ds) = true) : ∀ d ∈ ds, SeqAt.shaped d = true := by
  have h0 : PyData.canLayAll0 ds = true ∧ PyData.depthAll ds + 1 ≤ 64 := by
    unfold SeqAt.shaped at h
    simpa [PyData.canLay0, PyData.depth] using h
  obtain ⟨h1, h2⟩ := h0
  suffices hs : ∀ d ∈ ds, d.canLay0 = true ∧ d.depth ≤ 64 by
    intro d hd
    unfold SeqAt.shaped
    simp [hs d hd]
  have go : ∀ (ds : List PyData), PyData.canLayAll0 ds = true → PyData.depthAll ds ≤ 64 → ∀ d ∈ ds, d.canLay0 = true ∧ d.depth ≤ 64 := by
    intro ds
    induction ds with
    | nil => intro _ _ d h; simp at h
    | cons e es ih =>
      intro a b d hd
      simp only [PyData.canLayAll0, PyData.depthAll, Bool.and_eq_true] at a b
      rcases List.mem_cons.mp hd with rfl | hd
      · exact ⟨a.1, by omega⟩
      · exact ih a.2 (by omega) d hd
  exact go ds h1 (by omega)
theorem shp' {ds : List PyData} (h : SeqAt.shaped (.tuple ds) = true) : ∀ d ∈ ds, SeqAt.shaped d = true := shp (by
  unfold SeqAt.shaped at h ⊢
  simpa [PyData.canLay0, PyData.depth] using h)
/-- the script as a datum: its list -/
def unS : PyData → PyData
  | .dict ((.none, x) :: r) => .dict ((.none, x) :: r)
  | .dict ((.bool b, x) :: r) => .dict ((.bool b, x) :: r)
  | .dict kvs => .list (kvs.map (·.1))
  | d => d
theorem sql_le (e : Le G H) (h : SqL K G a xs) : SqL K H a xs := by
  rcases h with h | h
  · exact Or.inl (rd_le e h)
  · exact Or.inr h
theorem sqt_le (e : Le G H) (h : SqT K G a xs) : SqT K H a xs := by
  rcases h with h | h
  · exact Or.inl (rd_le e h)
  · exact Or.inr h
mutual
theorem dp_le (e : Le G H) : ∀ {d : PyData} {v : V}, Dq K G v d → Dq K H v d
  | _, _, .non => .non
  | _, _, .bl b => .bl b
  | _, _, .int i => .int i
  | _, _, .str x => .str x
  | _, _, .lst h a => .lst (e _ _ h) (dpa_le e a)
  | _, _, .tup h a => .tup (sqt_le e h) (dpa_le e a)
  | _, _, .scr h => .scr (sql_le e h)
  | _, _, .dct h => .dct (e _ _ h)
  | _, _, .dsk c h1 h2 a => .dsk c (e _ _ h1) (e _ _ h2) (dpa_le e a)
  | _, _, .dsl c h1 h2 a => .dsl c (e _ _ h1) (e _ _ h2) (dp_le e a)
theorem dpa_le (e : Le G H) : ∀ {ds : List PyData} {vs : List V}, DqAll K G vs ds → DqAll K H vs ds
  | _, _, .nil => .nil
  | _, _, .cons h1 h2 => .cons (dp_le e h1) (dpa_le e h2)
end
theorem sq1 (l : Le G H) (h : G a = some (.lst xs)) : SqL K H a xs := .inl (.inl (l _ _ h))
mutual
theorem dq_dp0 : ∀ {d : PyData} {v : V}, Dq K G v d → SeqAt.shaped d = true → Dp K G v d
  | .none, _, h, _ => by cases h; exact .non
  | .bool b, _, h, _ => by cases h; exact .bl b
  | .int i, _, h, _ => by cases h; exact .int i
  | .str x, _, h, _ => by cases h; exact .str x
  | .list ds, _, h, s => by
    cases h with
    | lst hs ha => exact .lst (.inl (.inl hs)) (dqa_dpa ha (shp s))
  | .tuple ds, _, h, s => by
    cases h with
    | tup hs ha => exact .tup hs (dqa_dpa ha (shp' s))
  | .dict _, _, h, s => by simp [SeqAt.shaped, PyData.canLay0] at s
theorem dqa_dpa : ∀ {ds : List PyData} {vs : List V}, DqAll K G vs ds → (∀ d ∈ ds, SeqAt.shaped d = true) → DpAll K G vs ds
  | [], _, h, _ => by cases h; exact .nil
  | d :: ds, _, h, s => by
    cases h with
    | cons h1 h2 => exact .cons (dq_dp0 h1 (s d (by simp))) (dqa_dpa h2 fun x hx => s x (by simp [hx]))
end
theorem dqs_dp (ns : List Int) : DpAll K G (ns.map V.int) (ns.map PyData.int) := by
  induction ns with
  | nil => exact .nil
  | cons n ns ih => exact .cons (.int n) ih
theorem dq_dp {d : PyData} {v : V} (h : Dq K G v d) (s : SeqAt.shaped (unS d) = true) : Dp K G v (unS d) := by
  cases h with
  | scr hs =>
    rename_i a ns
    have e : unS (.dict (ns.map fun n => (PyData.int n, PyData.none))) = .list (ns.map PyData.int) := by cases ns <;> simp [unS, List.map_map, Function.comp_def]
    rw [e]
    exact .lst hs (dqs_dp ns)
  | dct hs => simp [unS, SeqAt.shaped, PyData.canLay0] at s
  | dsk _ _ _ _ => simp [unS, SeqAt.shaped, PyData.canLay0] at s
  | dsl _ _ _ _ => simp [unS, SeqAt.shaped, PyData.canLay0] at s
  | non => exact .non
  | bl b => exact .bl b
  | int i => exact .int i
  | str x => exact .str x
  | lst h1 a1 => exact dq_dp0 (.lst h1 a1) s
  | tup h1 a1 => exact dq_dp0 (.tup h1 a1) s
theorem dpa_len : ∀ {vs : List V} {ds : List PyData}, DqAll K G vs ds → vs.length = ds.length
  | [], _, h => by cases h; rfl
  | v :: vs, _, h => by
    cases h with
    | cons h1 h2 => simp [dpa_len h2]
theorem dpa_get : ∀ {vs : List V} {ds : List PyData} {i : Nat} {d : PyData}, DqAll K G vs ds → ds[i]? = some d → ∃ v, vs[i]? = some v ∧ Dq K G v d
  | [], _, i, d, h, e => by cases h; simp at e
  | v :: vs, _, 0, d, h, e => by
    cases h with
    | cons h1 h2 => simp at e; subst e; exact ⟨v, rfl, h1⟩
  | v :: vs, _, i + 1, d, h, e => by
    cases h with
    | cons h1 h2 =>
      obtain ⟨x, q, r⟩ := dpa_get h2 (i := i) (by simpa using e)
      exact ⟨x, by simpa using q, r⟩
theorem dpa_get' {vs : List V} {ds : List PyData} {i : Nat} {v : V} (h : DqAll K G vs ds) (e : vs[i]? = some v) : ∃ d, ds[i]? = some d ∧ Dq K G v d := by
  have hl := dpa_len h
  have hi : i < vs.length := (List.getElem?_eq_some_iff.mp e).1
  obtain ⟨v', q, r⟩ := dpa_get h (i := i) (d := ds[i]'(by omega)) (by simp [← hl, hi])
  rw [e] at q; cases q
  exact ⟨_, by simp [← hl, hi], r⟩
theorem dpa_append : ∀ {vs ws : List V} {ds es : List PyData}, DqAll K G vs ds → DqAll K G ws es → DqAll K G (vs ++ ws) (ds ++ es)
  | [], _, _, _, h, h' => by cases h; exact h'
  | v :: vs, ws, _, es, h, h' => by
    cases h with
    | cons h1 h2 => exact .cons h1 (dpa_append h2 h')
theorem dpa_drop : ∀ {vs : List V} {ds : List PyData} (n : Nat), DqAll K G vs ds → DqAll K G (vs.drop n) (ds.drop n)
  | _, _, 0, h => h
  | [], _, n + 1, h => by cases h; exact .nil
  | v :: vs, _, n + 1, h => by
    cases h with
    | cons h1 h2 => exact dpa_drop n h2
theorem dpa_take : ∀ {vs : List V} {ds : List PyData} (n : Nat), DqAll K G vs ds → DqAll K G (vs.take n) (ds.take n)
  | _, _, 0, h => .nil
  | [], _, n + 1, h => by cases h; exact .nil
  | v :: vs, _, n + 1, h => by
    cases h with
    | cons h1 h2 => exact .cons h1 (dpa_take n h2)
theorem dpa_one {v : V} {d : PyData} (h : Dq K G v d) : DqAll K G [v] [d] := .cons h .nil
theorem dpa_rev : ∀ {vs : List V} {ds : List PyData}, DqAll K G vs ds → DqAll K G vs.reverse ds.reverse
  | [], _, h => by cases h; exact .nil
  | v :: vs, _, h => by
    cases h with
    | cons h1 h2 =>
      rw [List.reverse_cons, List.reverse_cons]
      exact dpa_append (dpa_rev h2) (dpa_one h1)
theorem dpa_rep {v : V} {d : PyData} (h : Dq K G v d) : ∀ n : Nat, DqAll K G (List.replicate n v) (List.replicate n d)
  | 0 => .nil
  | n + 1 => .cons h (dpa_rep h n)
/-- lists of ints -/
theorem dpa_ints : ∀ {vs : List V} {ns : List Int}, DqAll K G vs (ns.map PyData.int) → vs = ns.map V.int
  | _, [], h => by cases h; rfl
  | _, n :: ns, h => by
    cases h with
    | cons h1 h2 => cases h1; rw [dpa_ints h2]; rfl
theorem dpa_ofInts : ∀ (ns : List Int), DqAll K G (ns.map V.int) (ns.map PyData.int)
  | [] => .nil
  | n :: ns => .cons (.int n) (dpa_ofInts ns)
theorem dpa_strs : ∀ {vs : List V} {ns : List Str}, DqAll K G vs (ns.map PyData.str) → vs = ns.map V.str
  | _, [], h => by cases h; rfl
  | _, n :: ns, h => by
    cases h with
    | cons h1 h2 => cases h1; rw [dpa_strs h2]; rfl
theorem dpa_ofStrs : ∀ (ns : List Str), DqAll K G (ns.map V.str) (ns.map PyData.str)
  | [] => .nil
  | n :: ns => .cons (.str n) (dpa_ofStrs ns)
theorem dpa_bls : ∀ {vs : List V} {ns : List Bool}, DqAll K G vs (ns.map PyData.bool) → vs = ns.map V.bl
  | _, [], h => by cases h; rfl
  | _, n :: ns, h => by
    cases h with
    | cons h1 h2 => cases h1; rw [dpa_bls h2]; rfl
theorem dpa_ofBls : ∀ (ns : List Bool), DqAll K G (ns.map V.bl) (ns.map PyData.bool)
  | [] => .nil
  | n :: ns => .cons (.bl n) (dpa_ofBls ns)
end

/-! ### the state -/
structure SR (K : PySem.W.Frag) (B G H : Hp) (σ : L2.St) (Γ : Gam) : Prop where
  sub : Le G H
  len : σ.length = Γ.length
  val : ∀ i d, gat Γ i = .v d → ∃ x, σ[i]? = some (some x) ∧ Dq K G x d
  own : ∀ i ds, gat Γ i = .own ds → ∃ p xs, σ[i]? = some (some (.ref p)) ∧ H p = some (.lst xs) ∧ G p = none ∧ DqAll K G xs ds
  inj : ∀ i j ds es p, gat Γ i = .own ds → gat Γ j = .own es → σ[i]? = some (some (.ref p)) → σ[j]? = some (some (.ref p)) → i = j
  nw : ∀ i ds p, gat Γ i = .own ds → σ[i]? = some (some (.ref p)) → B p = none
  adr : ∀ i a, gat Γ i = .ad a → σ[i]? = some (some (.ref a))
section
variable {K : PySem.W.Frag} {B G H G' H' : Hp} {σ : L2.St} {Γ : Gam}
theorem SR.gr (s : SR K B G H σ Γ) (g : Gr G H G' H') : SR K B G' H' σ Γ where
  sub := g.s
  len := s.len
  val := fun i d e => let ⟨x, a, b⟩ := s.val i d e; ⟨x, a, dp_le g.g b⟩
  own := fun i ds e => let ⟨p, xs, a, b, c, d⟩ := s.own i ds e; ⟨p, xs, a, g.h _ _ b, g.fr p (by rw [b]; simp) c, dpa_le g.g d⟩
  inj := s.inj
  nw := s.nw
  adr := s.adr
/-- a value is stored -/
theorem SR.setV (s : SR K B G H σ Γ) {i : Nat} {x : V} {d : PyData} (h : Dq K G x d) : SR K B G H (σ.set i (some x)) (Γ.set i (.v d)) where
  sub := s.sub
  len := by simp [s.len]
  val := fun j e q => by
    rw [gat_set] at q
    split at q
    · rename_i z
      obtain ⟨z1, z2⟩ := z
      subst z1
      cases q
      exact ⟨x, by rw [List.getElem?_set_self (by rw [s.len]; exact z2)], h⟩
    · rename_i z
      obtain ⟨y, a, b⟩ := s.val j e q
      refine ⟨y, ?_, b⟩
      have hj := gat_lt (Γ := Γ) (i := j) (by rw [q]; simp)
      by_cases ji : j = i
      · subst ji; exact absurd ⟨rfl, hj⟩ z
      · rw [List.getElem?_set_ne (Ne.symm ji)]; exact a
  own := fun j ds q => by
    rw [gat_set] at q
    split at q
    · cases q
    · rename_i z
      obtain ⟨p, xs, a, b⟩ := s.own j ds q
      refine ⟨p, xs, ?_, b⟩
      have hj := gat_lt (Γ := Γ) (i := j) (by rw [q]; simp)
      by_cases ji : j = i
      · subst ji; exact absurd ⟨rfl, hj⟩ z
      · rw [List.getElem?_set_ne (Ne.symm ji)]; exact a
  inj := fun j l ds es p q1 q2 a1 a2 => by
    rw [gat_set] at q1 q2
    split at q1
    · cases q1
    split at q2
    · cases q2
    rename_i z1 z2
    have hj := gat_lt (Γ := Γ) (i := j) (by rw [q1]; simp)
    have hl := gat_lt (Γ := Γ) (i := l) (by rw [q2]; simp)
    have ji : j ≠ i := fun e => by subst e; exact z1 ⟨rfl, hj⟩
    have li : l ≠ i := fun e => by subst e; exact z2 ⟨rfl, hl⟩
    rw [List.getElem?_set_ne (Ne.symm ji)] at a1
    rw [List.getElem?_set_ne (Ne.symm li)] at a2
    exact s.inj j l ds es p q1 q2 a1 a2
  nw := fun j ds p q1 a1 => by
    rw [gat_set] at q1
    split at q1
    · cases q1
    rename_i z1
    have hj := gat_lt (Γ := Γ) (i := j) (by rw [q1]; simp)
    have ji : j ≠ i := fun e => by subst e; exact z1 ⟨rfl, hj⟩
    rw [List.getElem?_set_ne (Ne.symm ji)] at a1
    exact s.nw j ds p q1 a1
  adr := fun j u q => by
    rw [gat_set] at q
    split at q
    · cases q
    · rename_i z
      have hj := gat_lt (Γ := Γ) (i := j) (by rw [q]; simp)
      have ji : j ≠ i := fun e => by subst e; exact z ⟨rfl, hj⟩
      rw [List.getElem?_set_ne (Ne.symm ji)]
      exact s.adr j u q
/-- a list that is new, or whose slot is this one, is stored as the slot's own -/
theorem SR.setO (s : SR K B G H σ Γ) {i : Nat} {p : Addr} {xs : List V} {ds : List PyData} (hp : H p = some (.lst xs)) (hg : G p = none) (hb : B p = none) (h : DqAll K G xs ds)
    (ne : ∀ j es, j ≠ i → gat Γ j = .own es → σ[j]? ≠ some (some (.ref p))) : SR K B G H (σ.set i (some (.ref p))) (Γ.set i (.own ds)) where
  sub := s.sub
  len := by simp [s.len]
  val := fun j e q => by
    rw [gat_set] at q
    split at q
    · cases q
    · rename_i z
      obtain ⟨y, a, b⟩ := s.val j e q
      refine ⟨y, ?_, b⟩
      have hj := gat_lt (Γ := Γ) (i := j) (by rw [q]; simp)
      by_cases ji : j = i
      · subst ji; exact absurd ⟨rfl, hj⟩ z
      · rw [List.getElem?_set_ne (Ne.symm ji)]; exact a
  own := fun j es q => by
    rw [gat_set] at q
    split at q
    · rename_i z
      obtain ⟨z1, z2⟩ := z
      subst z1
      cases q
      exact ⟨p, xs, by rw [List.getElem?_set_self (by rw [s.len]; exact z2)], hp, hg, h⟩
    · rename_i z
      obtain ⟨p', xs', a, b⟩ := s.own j es q
      refine ⟨p', xs', ?_, b⟩
      have hj := gat_lt (Γ := Γ) (i := j) (by rw [q]; simp)
      by_cases ji : j = i
      · subst ji; exact absurd ⟨rfl, hj⟩ z
      · rw [List.getElem?_set_ne (Ne.symm ji)]; exact a
  inj := fun j l es fs q q1 q2 a1 a2 => by
    rw [gat_set] at q1 q2
    by_cases ji : j = i
    · by_cases li : l = i
      · rw [ji, li]
      · rw [if_neg (fun z => li z.1)] at q2
        rw [List.getElem?_set_ne (Ne.symm li)] at a2
        by_cases hi : i < Γ.length
        · subst ji
          rw [List.getElem?_set_self (by rw [s.len]; exact hi)] at a1
          cases a1
          exact absurd a2 (ne l fs li q2)
        · subst ji
          rw [if_neg (fun z => hi z.2)] at q1
          exact absurd (gat_lt (Γ := Γ) (i := j) (by rw [q1]; simp)) hi
    · rw [if_neg (fun z => ji z.1)] at q1
      rw [List.getElem?_set_ne (Ne.symm ji)] at a1
      by_cases li : l = i
      · by_cases hi : i < Γ.length
        · subst li
          rw [List.getElem?_set_self (by rw [s.len]; exact hi)] at a2
          cases a2
          exact absurd a1 (ne j es ji q1)
        · subst li
          rw [if_neg (fun z => hi z.2)] at q2
          exact absurd (gat_lt (Γ := Γ) (i := l) (by rw [q2]; simp)) hi
      · rw [if_neg (fun z => li z.1)] at q2
        rw [List.getElem?_set_ne (Ne.symm li)] at a2
        exact s.inj j l es fs q q1 q2 a1 a2
  nw := fun j es q q1 a1 => by
    rw [gat_set] at q1
    by_cases ji : j = i
    · by_cases hi : i < Γ.length
      · subst ji
        rw [List.getElem?_set_self (by rw [s.len]; exact hi)] at a1
        cases a1
        exact hb
      · subst ji
        rw [if_neg (fun z => hi z.2)] at q1
        exact absurd (gat_lt (Γ := Γ) (i := j) (by rw [q1]; simp)) hi
    · rw [if_neg (fun z => ji z.1)] at q1
      rw [List.getElem?_set_ne (Ne.symm ji)] at a1
      exact s.nw j es q q1 a1
  adr := fun j u q => by
    rw [gat_set] at q
    split at q
    · cases q
    · rename_i z
      have hj := gat_lt (Γ := Γ) (i := j) (by rw [q]; simp)
      have ji : j ≠ i := fun e => by subst e; exact z ⟨rfl, hj⟩
      rw [List.getElem?_set_ne (Ne.symm ji)]
      exact s.adr j u q
/-- an own list is shared from here on -/
def fz1 (i : Nat) (Γ : Gam) : Gam := match gat Γ i with
  | .own ds => Γ.set i (.v (.list ds))
  | _ => Γ
theorem SR.fz1 (s : SR K B G H σ Γ) (i : Nat) : ∃ G', Le G G' ∧ SR K B G' H σ (PD.fz1 i Γ) ∧ ∀ a, G' a ≠ none → G a ≠ none ∨ ∃ ds, gat Γ i = .own ds ∧ σ[i]? = some (some (.ref a)) := by
  unfold PD.fz1
  split
  · rename_i ds q
    obtain ⟨p, xs, a, b, c, d⟩ := s.own i ds q
    have hi := gat_lt (Γ := Γ) (i := i) (by rw [q]; simp)
    have lg : Le G (upd G p (.lst xs)) := le_upd c
    refine ⟨upd G p (.lst xs), lg, ⟨s.sub.share b, by simp [s.len], fun j e z => ?_, fun j es z => ?_, fun j l es fs u z1 z2 => ?_, fun j es u z1 a1 => ?_, fun j u z => ?_⟩, fun u hu => ?_⟩
    · rw [gat_set] at z
      split at z
      · rename_i z0
        obtain ⟨z1, z2⟩ := z0
        subst z1
        cases z
        exact ⟨_, a, .lst upd_same (dpa_le lg d)⟩
      · obtain ⟨y, a', b'⟩ := s.val j e z
        exact ⟨y, a', dp_le lg b'⟩
    · rw [gat_set] at z
      split at z
      · cases z
      · rename_i z0
        obtain ⟨p', xs', a', b', c', d'⟩ := s.own j es z
        refine ⟨p', xs', a', b', ?_, dpa_le lg d'⟩
        have ne : p' ≠ p := fun e => by
          subst e
          exact z0 ⟨s.inj j i es ds p' z q a' a, hi⟩
        rw [upd_ne ne]; exact c'
    · rw [gat_set] at z1 z2
      split at z1
      · cases z1
      split at z2
      · cases z2
      exact s.inj j l es fs u z1 z2
    · rw [gat_set] at z1
      split at z1
      · cases z1
      exact s.nw j es u z1 a1
    · rw [gat_set] at z
      split at z
      · cases z
      exact s.adr j u z
    · by_cases e : u = p
      · subst e; exact .inr ⟨ds, q, a⟩
      · rw [upd_ne e] at hu; exact .inl hu
  · exact ⟨G, fun _ _ e => e, s, fun _ h => .inl h⟩
def fz : List Nat → Gam → Gam
  | [], Γ => Γ
  | i :: r, Γ => fz r (PD.fz1 i Γ)
theorem SR.fzs : ∀ (l : List Nat) {G : Hp} {Γ : Gam}, SR K B G H σ Γ → Gr G H G H → ∃ G', Le G G' ∧ SR K B G' H σ (fz l Γ) ∧ ∀ a, B a ≠ none → G a = none → G' a = none
  | [], G, Γ, s, _ => ⟨G, fun _ _ e => e, s, fun _ _ e => e⟩
  | i :: r, G, Γ, s, g => by
    obtain ⟨G1, l1, s1, f1⟩ := s.fz1 i
    obtain ⟨G2, l2, s2, f2⟩ := SR.fzs r s1 (Gr.refl s1.sub)
    refine ⟨G2, le_trans l1 l2, s2, fun a ha hg => f2 a ha ?_⟩
    cases q : G1 a with
    | none => rfl
    | some o =>
      rcases f1 a (by rw [q]; simp) with z | ⟨ds, z1, z2⟩
      · exact absurd hg z
      · exact absurd (s.nw i ds a z1 z2) ha
@[simp] theorem fz_nil (Γ : Gam) : fz [] Γ = Γ := rfl
@[simp] theorem fz_cons (i : Nat) (r : List Nat) (Γ : Gam) : fz (i :: r) Γ = fz r (PD.fz1 i Γ) := rfl
end
end PD

/-! The data layer: expressions. -/
namespace PD
open PySem PySem.Spec PyProof.Rows L2

/-- the class that a name stands for -/
def cV (mg : Str → Option Value) (c : Str) : Value := (mg c).getD .none
section
variable {α β γ : Type}
/-- what is wanted behind a piece: of its value (Rl: how it lies), of an exception -/
def Po (Rl : Hp → α → β → Prop) (mg : Str → Option Value) (E : XK) (G H : Hp) (Q : α → Hp → Prop) : R β → Prop
  | .ok d => ∀ x G' H', Gr G H G' H' → Rl G' x d → Q x H'
  | .ex c => ∀ H', Le H H' → E (cV mg c) none H'
  | .no => False
def tX (K : PySem.W.Frag) (Rl : Hp → α → β → Prop) (mg : Str → Option Value) (E : XK) (m : Gam → R β) : L2.St → Hp → (α → Hp → Prop) → Prop :=
  fun σ H Q => ∃ B Γ G, SR K B G H σ Γ ∧ Po Rl mg E G H Q (m Γ)
variable {Rl : Hp → α → β → Prop} {Rk : Hp → γ → δ → Prop} {mg : Str → Option Value} {E : XK} {G H G' H' : Hp}
theorem Po.gr {Q : α → Hp → Prop} {r : R β} (h : Po Rl mg E G H Q r) (g : Gr G H G' H') : Po Rl mg E G' H' Q r := by
  cases r with
  | ok d => exact fun x G2 H2 g2 r => h x G2 H2 (g.trans g2) r
  | ex c => exact fun H2 l => h H2 (le_trans g.h l)
  | no => exact h
theorem Po.bind {δ : Type} {Rk : Hp → γ → δ → Prop} {Q : γ → Hp → Prop} {Q' : α → Hp → Prop} {r : R β} {f : β → R δ} (h : Po Rk mg E G H Q (r.bind f))
    (k : ∀ d x G' H', r = .ok d → Gr G H G' H' → Rl G' x d → Po Rk mg E G' H' Q (f d) → Q' x H') : Po Rl mg E G H Q' r := by
  cases r with
  | ok d => exact fun x G' H' g dx => k d x G' H' rfl g dx (Po.gr (r := f d) h g)
  | ex c => exact h
  | no => exact h
theorem Po.ok {Q : α → Hp → Prop} {d : β} {x : α} (h : Po Rl mg E G H Q (.ok d)) (s : Le G H) (r : Rl G x d) : Q x H := h x G H (Gr.refl s) r
end
/-- a value, a list of values, a truth value, an int of a slice -/
abbrev DT (K : PySem.W.Frag) (mg : Str → Option Value) (E : XK) (m : M) : TE := tX K (Dq K) mg E m
abbrev RB : Hp → Bool → Bool → Prop := fun _ b c => b = c
abbrev SE (X : Cx) (E : XK) (e : Expr) (m : M) : Prop := PE X e (tX X.K (Dq X.K) X.mg E m)
abbrev ST (X : Cx) (E : XK) (e : Expr) (m : Gam → R Bool) : Prop := PT X e (tX X.K RB X.mg E m)
structure SA (X : Cx) (E : XK) (es : List Expr) (m : Gam → R (List PyData)) : Prop where
  pa : PA X es (tX X.K (DqAll X.K) X.mg E m)
  ln : ∀ Γ ds, m Γ = .ok ds → ds.length = es.length

theorem pe_of {X : Cx} {e : Expr} {t t' : TE} (h : PE X e t) (i : ∀ σ H Q, t' σ H Q → t σ H Q) : PE X e t' := ⟨fun pins s σ H Q I q => h.run pins s σ H Q I (i σ H Q q)⟩
theorem pt_of {X : Cx} {e : Expr} {t t' : TT} (h : PT X e t) (i : ∀ σ H Q, t' σ H Q → t σ H Q) : PT X e t' := ⟨fun pins s σ H Q I q => h.run pins s σ H Q I (i σ H Q q)⟩
theorem pa_of {X : Cx} {e : List Expr} {t t' : TA} (h : PA X e t) (i : ∀ σ H Q, t' σ H Q → t σ H Q) : PA X e t' := ⟨fun pos pins s σ H Q I q => h.run pos pins s σ H Q I (i σ H Q q)⟩
/-- sizes, as the machine keeps them -/
def Siz (K : PySem.W.Frag) (H : Hp) : Prop := ∀ a xs, (SqL K H a xs ∨ SqT K H a xs) → xs.length ≤ sizeLine
theorem siz_of {X : Cx} {pins σ H s} (I : Inv X pins σ H s) : Siz X.K H := fun a xs h => by
  rcases h with h | h
  · obtain ⟨_, _, _, z⟩ := I.list h; exact z
  · obtain ⟨_, _, _, z⟩ := I.tuple h; exact z

section
variable {X : Cx} {E : XK} {a b e : Expr} {es : List Expr} {ma mb : M} {pos : Pos}

/-! ### names, constants -/
def mC (d : PyData) : M := fun _ => .ok d
def mVar (i : Nat) : M := fun Γ => match gat Γ i with
  | .v d => .ok d
  | _ => .no
theorem se_var (i : Nat) {x : Str} (hN : X.N[i]? = some x := by rfl) (hv : Vis X.env.scope x := by first | exact Or.inl rfl | exact Or.inr (Or.inl rfl) | exact Or.inr (Or.inr rfl)) (hd : (x == ("__debug__" : Str)) = false := by decide)
    (hcd : (x == ("__classdict__" : Str)) = false := by decide) : SE X E (.Name x pos) (mVar i) := pe_of (pe_var hN hv hd hcd) fun σ H Q ⟨B0, Γ, G, sr, po⟩ => by
  unfold mVar at po
  split at po
  · rename_i d q
    obtain ⟨x, hx, dx⟩ := sr.val i d q
    exact ⟨x, hx, po.ok sr.sub dx⟩
  · exact po.elim
theorem se_c {d : PyData} {v : V} (h : PE X e (tC v)) (hd : ∀ G, Dq X.K G v d) : SE X E e (mC d) := pe_of h fun σ H Q ⟨B0, Γ, G, sr, po⟩ => Po.ok (d := d) po sr.sub (hd G)
theorem se_int {i j} : SE X E (.Constant (.int i) j pos) (mC (.int i)) := se_c pe_int fun G => .int i
theorem se_bl {b j} : SE X E (.Constant (.bool b) j pos) (mC (.bool b)) := se_c pe_bl fun G => .bl b
theorem se_non {j} : SE X E (.Constant .none j pos) (mC .none) := se_c pe_non fun G => .non
theorem se_str {x j} : SE X E (.Constant (.str x) j pos) (mC (.str x)) := se_c pe_str fun G => .str x
/-- a constant of the module's -/
structure Glo (K : PySem.W.Frag) (mg : Str → Option Value) (x : Str) (d : PyData) : Prop where
  ex : ∃ u v, mg x = some u ∧ RelV v u ∧ ∀ G, Dq K G v d
theorem se_glob {x : Str} {d : PyData} (h : Glo X.K X.mg x d) (hg : Gl X x := by exact rfl) (hd : (x == ("__debug__" : Str)) = false := by decide) : SE X E (.Name x pos) (mC d) := by
  obtain ⟨u, v, hm, r, q⟩ := h.ex
  exact se_c (pe_glob hg hm r hd) q

/-! ### operators -/
def mOp (g : PyData → PyData → R PyData) (ma mb : M) : M := fun Γ => (ma Γ).bind fun x => (mb Γ).bind fun y => g x y
def rD (K : PySem.W.Frag) (mg : Str → Option Value) (E : XK) (g : PyData → PyData → R PyData) : R2 := fun x y H Q => ∃ G d e, Le G H ∧ Dq K G x d ∧ Dq K G y e ∧ Po (Dq K) mg E G H Q (g d e)
abbrev OD (X : Cx) (E : XK) (f : Value → Value → Sem Value) (g : PyData → PyData → R PyData) : Prop := OpR X f (rD X.K X.mg E g)
theorem od_of {f : Value → Value → Sem Value} {g : PyData → PyData → R PyData} {r : R2} (h : OpR X f r)
    (i : ∀ G H x y d e Q, Siz X.K H → Le G H → Dq X.K G x d → Dq X.K G y e → Po (Dq X.K) X.mg E G H Q (g d e) → r x y H Q) : OD X E f g := by
  intro pins s σ H x y v u Q I rx ry q
  obtain ⟨G, d, e, l, dx, dy, po⟩ := q
  exact h pins s σ H x y v u Q I rx ry (i G H x y d e Q (siz_of I) l dx dy po)
theorem tOp_of {r : R2} {g : PyData → PyData → R PyData} {σ H Q} (hr : r = rD X.K X.mg E g) (h : DT X.K X.mg E (mOp g ma mb) σ H Q) : tOp r (DT X.K X.mg E ma) (DT X.K X.mg E mb) σ H Q := by
  subst hr
  obtain ⟨B0, Γ, G, sr, po⟩ := h
  exact ⟨B0, Γ, G, sr, Po.bind po fun d x G1 H1 _ g1 dx po1 => ⟨B0, Γ, G1, sr.gr g1, Po.bind po1 fun e y G2 H2 _ g2 dy po2 => ⟨G2, d, e, g2.s, dp_le g2.g dx, dy, po2⟩⟩⟩
theorem se_op {op : Operator} {g : PyData → PyData → R PyData} (ho : OD X E (binaryOp op) g) (ha : SE X E a ma) (hb : SE X E b mb) : SE X E (.BinOp a op b pos) (mOp g ma mb) :=
  pe_of (pe_op ho ha hb) fun σ H Q h => tOp_of rfl h
theorem se_cmp {op : CmpOp} {g : PyData → PyData → R PyData} (ho : OD X E (compareOp op) g) (ha : SE X E a ma) (hb : SE X E b mb) (hm : behindInMarks op b = false := by first | exact nomark _ | rfl) : SE X E (.Compare a [op] [b] pos) (mOp g ma mb) :=
  pe_of (pe_cmpR ho ha hb hm) fun σ H Q h => tOp_of rfl h
/-- a value that is a bool -/
def asB : PyData → R Bool
  | .bool b => .ok b
  | _ => .no
@[simp] theorem asB_bool (b : Bool) : asB (.bool b) = .ok b := rfl
def mB (m : M) : Gam → R Bool := fun Γ => (m Γ).bind asB
theorem tTest_of {m : M} {σ H Q} (h : tX X.K RB X.mg E (mB m) σ H Q) : DT X.K X.mg E m σ H fun x H1 => ∃ k, x = .bl k ∧ Q k H1 := by
  obtain ⟨B0, Γ, G, sr, po⟩ := h
  refine ⟨B0, Γ, G, sr, Po.bind po fun d x G1 H1 _ g1 dx po1 => ?_⟩
  cases dx with
  | bl b => exact ⟨b, rfl, po1.ok g1.s rfl⟩
  | _ => exact po1.elim
theorem st_cmp {op : CmpOp} {g : PyData → PyData → R PyData} (ho : OD X E (compareOp op) g) (ha : SE X E a ma) (hb : SE X E b mb) (hm : behindInMarks op b = false := by first | exact nomark _ | rfl) : ST X E (.Compare a [op] [b] pos) (mB (mOp g ma mb)) :=
  pt_of (pt_cmpR ho ha hb hm) fun σ H Q h => by
    have h1 := tTest_of (m := mOp g ma mb) h
    exact tOp_of rfl h1
theorem st_val {m : M} (h : SE X E e m) (he : ∀ whole, isTrue e X.env whole = (do let v ← whole; standAt e.pos; holding [v] (truthy v)) := by intro _; rfl) : ST X E e (mB m) :=
  pt_of (pt_val h he) fun σ H Q h => tTest_of h
/-! and, or, not, as tests -/
def mAnd (a b : Gam → R Bool) : Gam → R Bool := fun Γ => (a Γ).bind fun c => if c = true then b Γ else .ok false
def mOr (a b : Gam → R Bool) : Gam → R Bool := fun Γ => (a Γ).bind fun c => if c = true then .ok true else b Γ
def mNot (a : Gam → R Bool) : Gam → R Bool := fun Γ => (a Γ).bind fun c => .ok (!c)
abbrev SW (X : Cx) (E : XK) (e : Expr) (m : Gam → R Bool) : Prop := PW X e (tX X.K RB X.mg E m)
theorem pw_of {X : Cx} {e : Expr} {t t' : TT} (h : PW X e t) (i : ∀ σ H Q, t' σ H Q → t σ H Q) : PW X e t' := ⟨fun wh pins s σ H Q I q => h.run wh pins s σ H Q I (i σ H Q q)⟩
variable {ta tb : Gam → R Bool} {rest : List Expr}
theorem sw_and1 (ha : ST X E a ta) : SW X E (.BoolOp .And [a] pos) ta := pw_and1 ha
theorem sw_or1 (ha : ST X E a ta) : SW X E (.BoolOp .Or [a] pos) ta := pw_or1 ha
theorem sw_and (ha : ST X E a ta) (hb : SW X E (.BoolOp .And (b :: rest) pos) tb) : SW X E (.BoolOp .And (a :: b :: rest) pos) (mAnd ta tb) :=
  pw_of (pw_and ha hb) fun σ H Q ⟨B0, Γ, G, sr, po⟩ => ⟨B0, Γ, G, sr, Po.bind po fun c x G1 H1 _ g1 dx po1 => by
    cases dx
    cases c with
    | true => exact ⟨B0, Γ, G1, sr.gr g1, po1⟩
    | false => exact po1.ok g1.s rfl⟩
theorem sw_or (ha : ST X E a ta) (hb : SW X E (.BoolOp .Or (b :: rest) pos) tb) : SW X E (.BoolOp .Or (a :: b :: rest) pos) (mOr ta tb) :=
  pw_of (pw_or ha hb) fun σ H Q ⟨B0, Γ, G, sr, po⟩ => ⟨B0, Γ, G, sr, Po.bind po fun c x G1 H1 _ g1 dx po1 => by
    cases dx
    cases c with
    | false => exact ⟨B0, Γ, G1, sr.gr g1, po1⟩
    | true => exact po1.ok g1.s rfl⟩
theorem st_w {m : Gam → R Bool} (h : SW X E e m) : ST X E e m := h.pt
theorem st_not (ha : ST X E a ta) : ST X E (.UnaryOp .Not a pos) (mNot ta) :=
  pt_of (pt_not ha) fun σ H Q ⟨B0, Γ, G, sr, po⟩ => ⟨B0, Γ, G, sr, Po.bind po fun c x G1 H1 _ g1 dx po1 => by
    cases dx
    exact po1.ok g1.s rfl⟩
/-! .. as values -/
def mAndV (a b : M) : M := fun Γ => (a Γ).bind fun d => (asB d).bind fun c => if c = true then b Γ else .ok (.bool false)
def mOrV (a b : M) : M := fun Γ => (a Γ).bind fun d => (asB d).bind fun c => if c = true then .ok (.bool true) else b Γ
def mNotV (a : M) : M := fun Γ => (a Γ).bind fun d => (asB d).bind fun c => .ok (.bool (!c))
theorem se_one {op : BoolOp} (h : SE X E a ma) : SE X E (.BoolOp op [a] pos) ma := pe_one h
theorem se_and (ha : SE X E a ma) (hb : SE X E (.BoolOp .And (b :: rest) pos) mb) : SE X E (.BoolOp .And (a :: b :: rest) pos) (mAndV ma mb) :=
  pe_of (pe_and ha hb) fun σ H Q ⟨B0, Γ, G, sr, po⟩ => ⟨B0, Γ, G, sr, Po.bind po fun d x G1 H1 _ g1 dx po1 => by
    cases dx with
    | bl c =>
      refine ⟨c, rfl, ?_⟩
      cases c with
      | true => exact ⟨B0, Γ, G1, sr.gr g1, po1⟩
      | false => exact Po.ok (d := PyData.bool false) po1 g1.s (.bl _)
    | _ => exact po1.elim⟩
theorem se_or (ha : SE X E a ma) (hb : SE X E (.BoolOp .Or (b :: rest) pos) mb) : SE X E (.BoolOp .Or (a :: b :: rest) pos) (mOrV ma mb) :=
  pe_of (pe_or ha hb) fun σ H Q ⟨B0, Γ, G, sr, po⟩ => ⟨B0, Γ, G, sr, Po.bind po fun d x G1 H1 _ g1 dx po1 => by
    cases dx with
    | bl c =>
      refine ⟨c, rfl, ?_⟩
      cases c with
      | false => exact ⟨B0, Γ, G1, sr.gr g1, po1⟩
      | true => exact Po.ok (d := PyData.bool true) po1 g1.s (.bl _)
    | _ => exact po1.elim⟩
theorem se_not (ha : SE X E a ma) : SE X E (.UnaryOp .Not a pos) (mNotV ma) :=
  pe_of (pe_not ha) fun σ H Q ⟨B0, Γ, G, sr, po⟩ => ⟨B0, Γ, G, sr, Po.bind po fun d x G1 H1 _ g1 dx po1 => by
    cases dx with
    | bl c => exact ⟨c, rfl, Po.ok (d := PyData.bool (!c)) po1 g1.s (.bl _)⟩
    | _ => exact po1.elim⟩
/-- a if t else b -/
def mIf (t : Gam → R Bool) (a b : M) : M := fun Γ => (t Γ).bind fun c => if c = true then a Γ else b Γ
theorem se_if {c : Expr} (hc : ST X E c ta) (ha : SE X E a ma) (hb : SE X E b mb) : SE X E (.IfExp c a b pos) (mIf ta ma mb) :=
  pe_of (pe_ifExp hc ha hb) fun σ H Q ⟨B0, Γ, G, sr, po⟩ => ⟨B0, Γ, G, sr, Po.bind po fun c x G1 H1 _ g1 dx po1 => by
    cases dx
    cases c with
    | true => exact ⟨B0, Γ, G1, sr.gr g1, po1⟩
    | false => exact ⟨B0, Γ, G1, sr.gr g1, po1⟩⟩
/-- a < b < c -/
def mChain (g g' : PyData → PyData → R PyData) (ma mb mc : M) : M := fun Γ => (ma Γ).bind fun x => (mb Γ).bind fun y => (g x y).bind fun k => (asB k).bind fun c => if c = true then (mc Γ).bind fun z => g' y z else .ok (.bool false)
theorem tChain_of {r r' : R2} {g g' : PyData → PyData → R PyData} {mc : M} {σ H Q} (hr : r = rD X.K X.mg E g) (hr' : r' = rD X.K X.mg E g') (h : DT X.K X.mg E (mChain g g' ma mb mc) σ H Q) : tChain r r' (DT X.K X.mg E ma) (DT X.K X.mg E mb) (DT X.K X.mg E mc) σ H Q := by
  subst hr hr'
  obtain ⟨B0, Γ, G, sr, po⟩ := h
  refine ⟨B0, Γ, G, sr, Po.bind po fun d x G1 H1 _ g1 dx po1 => ⟨B0, Γ, G1, sr.gr g1, Po.bind po1 fun e y G2 H2 _ g2 dy po2 => ⟨G2, d, e, g2.s, dp_le g2.g dx, dy, Po.bind po2 fun k z G3 H3 _ g3 dz po3 => ?_⟩⟩⟩
  cases dz with
  | bl c =>
    refine ⟨c, rfl, ?_⟩
    cases c with
    | true =>
      rw [if_pos rfl]
      exact ⟨B0, Γ, G3, ((sr.gr g1).gr g2).gr g3, Po.bind po3 fun l w G4 H4 _ g4 dw po4 => ⟨G4, e, l, g4.s, dp_le g4.g (dp_le g3.g dy), dw, po4⟩⟩
    | false =>
      rw [if_neg Bool.false_ne_true]
      exact Po.ok (d := PyData.bool false) po3 g3.s (.bl _)
  | _ => exact po3.elim
theorem se_chain {c : Expr} {mc : M} {op op' : CmpOp} {g g' : PyData → PyData → R PyData} (ho : OD X E (compareOp op) g) (ho' : OD X E (compareOp op') g') (ha : SE X E a ma) (hb : SE X E b mb) (hc : SE X E c mc) (hm : lastMarks [op, op'] [b, c] = false := by with_unfolding_all rfl) :
    SE X E (.Compare a [op, op'] [b, c] pos) (mChain g g' ma mb mc) := pe_of (pe_chain ho ho' ha hb hc (hm := hm)) fun σ H Q h => tChain_of rfl rfl h
theorem st_chain {c : Expr} {mc : M} {op op' : CmpOp} {g g' : PyData → PyData → R PyData} (ho : OD X E (compareOp op) g) (ho' : OD X E (compareOp op') g') (ha : SE X E a ma) (hb : SE X E b mb) (hc : SE X E c mc) (hm : lastMarks [op, op'] [b, c] = false := by with_unfolding_all rfl) :
    ST X E (.Compare a [op, op'] [b, c] pos) (mB (mChain g g' ma mb mc)) := pt_of (pt_chain ho ho' ha hb hc (hm := hm)) fun σ H Q h => tChain_of rfl rfl (tTest_of h)

/-! ### argument lists, displays -/
def mNil : Gam → R (List PyData) := fun _ => .ok []
def mCons (m : M) (r : Gam → R (List PyData)) : Gam → R (List PyData) := fun Γ => (m Γ).bind fun d => (r Γ).bind fun ds => .ok (d :: ds)
theorem sa_nil : SA X E [] mNil := ⟨pa_of pa_nil fun σ H Q ⟨B0, Γ, G, sr, po⟩ => Po.ok (d := ([] : List PyData)) po sr.sub .nil, fun Γ ds h => by cases h; rfl⟩
theorem sa_cons {m : M} {r : Gam → R (List PyData)} (ha : SE X E e m) (hr : SA X E es r) (hs : starEach (e :: es) X.env = (false, eval e X.env) :: starEach es X.env := by rfl) : SA X E (e :: es) (mCons m r) where
  pa := pa_of (pa_cons ha hr.pa hs) fun σ H Q ⟨B0, Γ, G, sr, po⟩ => ⟨B0, Γ, G, sr, Po.bind po fun d x G1 H1 _ g1 dx po1 => ⟨B0, Γ, G1, sr.gr g1, Po.bind po1 fun ds xs G2 H2 _ g2 dxs po2 => Po.ok (d := d :: ds) po2 g2.s (.cons (dp_le g2.g dx) dxs)⟩⟩
  ln := fun Γ ds h => by
    unfold mCons at h
    cases h1 : m Γ with
    | ok d =>
      rw [h1] at h
      cases h2 : r Γ with
      | ok ds' => rw [R.bind_ok, h2] at h; cases h; simp [hr.ln Γ _ h2]
      | ex c => rw [R.bind_ok, h2] at h; cases h
      | no => rw [R.bind_ok, h2] at h; cases h
    | ex c => rw [h1] at h; cases h
    | no => rw [h1] at h; cases h
def mTup (m : Gam → R (List PyData)) : M := fun Γ => (m Γ).bind fun ds => .ok (.tuple ds)
theorem sz_of {n : Nat} (h : n ≤ 100000) : n ≤ sizeLine := Nat.le_trans h (by decide)
theorem se_tup {k} {m : Gam → R (List PyData)} (h : SA X E es m) (hz : es.length ≤ 100000 := by decide) : SE X E (.Tuple es k pos) (mTup m) :=
  pe_of (pe_tup h.pa) fun σ H Q ⟨B0, Γ, G, sr, po⟩ => ⟨B0, Γ, G, sr, Po.bind po fun ds xs G1 H1 q g1 dx po1 => ⟨sz_of (by rw [dpa_len dx, h.ln Γ ds q]; exact hz), fun p hp => by
    exact po1 (.ref p) _ _ (Gr.new g1.s hp) (.tup (.inl (.inl upd_same)) (dpa_le (le_upd (le_none g1.s hp)) dx))⟩⟩

/-! ### a new list -/
/-- what is wanted behind a piece that makes a new list: it lies at p, not shared -/
def PoL (K : PySem.W.Frag) (mg : Str → Option Value) (E : XK) (G H : Hp) (Q : VK) : R (List PyData) → Prop
  | .ok ds => ∀ p xs G' H', Gr G H G' H' → H p = none → H' p = some (.lst xs) → G' p = none → DqAll K G' xs ds → Q (.ref p) H'
  | .ex c => ∀ H', Le H H' → E (cV mg c) none H'
  | .no => False
def tL (K : PySem.W.Frag) (mg : Str → Option Value) (E : XK) (m : Gam → R (List PyData)) : TE := fun σ H Q => ∃ B Γ G, SR K B G H σ Γ ∧ PoL K mg E G H Q (m Γ)
abbrev SL (X : Cx) (E : XK) (e : Expr) (m : Gam → R (List PyData)) : Prop := PE X e (tL X.K X.mg E m)
def mL (m : Gam → R (List PyData)) : M := fun Γ => (m Γ).bind fun ds => .ok (.list ds)
/-- it is shared at once -/
theorem pol_share {K : PySem.W.Frag} {mg : Str → Option Value} {G H : Hp} {Q : VK} {r : R (List PyData)} (po : Po (Dq K) mg E G H Q (r.bind fun ds => .ok (.list ds))) : PoL K mg E G H Q r := by
  cases r with
  | ok ds =>
    intro p xs G' H' g hp hp' hg dx
    have l : Le G' (upd G' p (.lst xs)) := le_upd hg
    refine po (.ref p) (upd G' p (.lst xs)) H' ⟨le_trans g.g l, g.h, g.s.share hp', fun a ha hga => ?_⟩ (.lst upd_same (dpa_le l dx))
    have ne : a ≠ p := fun z => by subst z; exact ha hp
    rw [upd_ne ne]
    exact g.fr a ha hga
  | ex c => exact po
  | no => exact po
theorem se_l {m : Gam → R (List PyData)} (h : SL X E e m) : SE X E e (mL m) := pe_of h fun σ H Q ⟨B0, Γ, G, sr, po⟩ => ⟨B0, Γ, G, sr, pol_share po⟩
theorem sl_lst {m : Gam → R (List PyData)} (h : SA X E es m) (hz : es.length ≤ 100000 := by decide) : SL X E (.List es pos) m :=
  pe_of (pe_lst h.pa) fun σ H Q ⟨B0, Γ, G, sr, po⟩ => ⟨B0, Γ, G, sr, by
    cases q : m Γ with
    | ok ds =>
      rw [q] at po
      intro xs G1 H1 g1 dx
      refine ⟨sz_of (by rw [dpa_len dx, h.ln Γ ds q]; exact hz), fun p hp => ?_⟩
      exact po p xs G1 _ ⟨g1.g, le_trans g1.h (le_upd hp), le_trans g1.s (le_upd hp), g1.fr⟩ (le_none g1.h hp) upd_same (le_none g1.s hp) dx
    | ex c => rw [q] at po; exact po
    | no => rw [q] at po; exact po⟩

/-! ### calls -/
def mCall (g : List PyData → R PyData) (m : Gam → R (List PyData)) : M := fun Γ => (m Γ).bind g
/-- the promise of a def by its mirror -/
def spD (K : PySem.W.Frag) (mg : Str → Option Value) (n : Nat) (g : List PyData → R PyData) : Sp := fun vs H Q E => ∃ G ds, Le G H ∧ DqAll K G vs ds ∧ ds.length = n ∧ Po (Dq K) mg E G H Q (g ds)
theorem spD_len {K : PySem.W.Frag} {mg : Str → Option Value} {n : Nat} {g : List PyData → R PyData} {vs H Q E} (h : spD K mg n g vs H Q E) : vs.length = n := by
  obtain ⟨G, ds, _, d, e, _⟩ := h
  rw [dpa_len d, e]
/-- a def of the module, as callers have it -/
structure Dn (P : Program) (w : World) (K : PySem.W.Frag) (mg : Str → Option Value) (base : Heap) (k : Nat) (x : Str) (n : Nat) (g : List PyData → R PyData) : Prop where
  ex : ∃ f fd ps, mg x = some (.ref f) ∧ ps.length = n ∧ FnOk P w K mg base (L2.CX P w) k f fd ps (spD K mg n g) ∧ PySem.W.keepIn K (.ref f) = true ∧ Binds K fd ps []
theorem Dn.mono {P w K mg base} {j k : Nat} {x n g} (h : Dn P w K mg base j x n g) (l : j ≤ k) : Dn P w K mg base k x n g := by
  obtain ⟨f, fd, ps, a, b, c, d⟩ := h.ex
  exact ⟨f, fd, ps, a, b, c.mono l, d⟩
theorem se_call {x : Str} {p : Pos} {k n : Nat} {g : List PyData → R PyData} {m : Gam → R (List PyData)} (D : Dn X.prog X.w X.K X.mg X.base k x n g) (hr : Room k X.A) (hx : Passes (L2.CX X.prog X.w) X E) (ha : SA X E (e :: es) m)
    (hn : (e :: es).length = n := by rfl) (hg : Gl X x := by exact rfl)
    (he : starEach (e :: es) X.env = (false, eval e X.env) :: starEach es X.env := by rfl) (hpl : (backTo pos (starEach es X.env)).any (·.1) = false := by rfl) (hd : (x == ("__debug__" : Str)) = false := by decide) :
    SE X E (.Call (.Name x p) (e :: es) [] pos) (mCall g m) := by
  obtain ⟨f, fd, ps, hm, hl, F, kp, hb⟩ := D.ex
  refine pe_of (pe_call F hr hg hm kp hb .nil hx ha.pa (hdb := hd) (he := he) (hpl := hpl)) fun σ H Q ⟨B0, Γ, G, sr, po⟩ => ⟨B0, Γ, G, sr, Po.bind po fun ds xs G1 H1 q g1 dx po1 => ?_⟩
  rw [List.append_nil]
  exact ⟨G1, ds, g1.s, dx, by rw [ha.ln Γ ds q]; exact hn, po1⟩
theorem se_call0 {x : Str} {p : Pos} {k : Nat} {g : List PyData → R PyData} (D : Dn X.prog X.w X.K X.mg X.base k x 0 g) (hr : Room k X.A) (hx : Passes (L2.CX X.prog X.w) X E) (hg : Gl X x := by exact rfl) (hd : (x == ("__debug__" : Str)) = false := by decide) :
    SE X E (.Call (.Name x p) [] [] pos) (mCall g mNil) := by
  obtain ⟨f, fd, ps, hm, hl, F, kp, hb⟩ := D.ex
  exact pe_of (pe_call0 F hr hg hm kp hb .nil hx (hdb := hd)) fun σ H Q ⟨B0, Γ, G, sr, po⟩ => ⟨G, [], sr.sub, .nil, rfl, po⟩
/-- a built-in function, by values -/
def rC (K : PySem.W.Frag) (mg : Str → Option Value) (E : XK) (g : List PyData → R PyData) : List V → Hp → VK → Prop := fun vs H Q => ∃ G ds, Le G H ∧ DqAll K G vs ds ∧ Po (Dq K) mg E G H Q (g ds)
abbrev CD (X : Cx) (E : XK) (f : Value) (g : List PyData → R PyData) : Prop := CallR X f (rC X.K X.mg E g)
theorem cd_of {f : Value} {g : List PyData → R PyData} {r : List V → Hp → VK → Prop} (h : CallR X f r)
    (i : ∀ G H vs ds Q, Siz X.K H → Le G H → DqAll X.K G vs ds → Po (Dq X.K) X.mg E G H Q (g ds) → r vs H Q) : CD X E f g := by
  intro pins s σ H vs us Q I r q
  obtain ⟨G, ds, l, dx, po⟩ := q
  exact h pins s σ H vs us Q I r (i G H vs ds Q (siz_of I) l dx po)
theorem se_bi {id : String} {x : Str} {p : Pos} {g : List PyData → R PyData} {m : Gam → R (List PyData)} (hc : CD X E (.builtin id) g) (hm : X.mg x = none) (ha : SA X E (e :: es) m) (hv : bootBuiltins x = some (.builtin id) := by decide +kernel) (hg : Gl X x := by exact rfl)
    (hn : x ≠ "__name__" := by decide) (hd : (x == ("__debug__" : Str)) = false := by decide)
    (he : starEach (e :: es) X.env = (false, eval e X.env) :: starEach es X.env := by rfl) (hpl : (backTo pos (starEach es X.env)).any (·.1) = false := by rfl) : SE X E (.Call (.Name x p) (e :: es) [] pos) (mCall g m) :=
  pe_of (pe_callB hc hg hm hv ha.pa hn hd he hpl) fun σ H Q ⟨B0, Γ, G, sr, po⟩ => ⟨B0, Γ, G, sr, Po.bind po fun ds xs G1 H1 q g1 dx po1 => ⟨G1, ds, g1.s, dx, po1⟩⟩
theorem se_bt {T : String} {x : Str} {p : Pos} {g : List PyData → R PyData} {m : Gam → R (List PyData)} (hc : CD X E (.type T) g) (hm : X.mg x = none) (ha : SA X E (e :: es) m) (hv : bootBuiltins x = some (.type T) := by decide +kernel) (hg : Gl X x := by exact rfl)
    (hn : x ≠ "__name__" := by decide) (hd : (x == ("__debug__" : Str)) = false := by decide)
    (he : starEach (e :: es) X.env = (false, eval e X.env) :: starEach es X.env := by rfl) (hpl : (backTo pos (starEach es X.env)).any (·.1) = false := by rfl) : SE X E (.Call (.Name x p) (e :: es) [] pos) (mCall g m) :=
  pe_of (pe_callTy hc hg hm hv ha.pa hn hd he hpl) fun σ H Q ⟨B0, Γ, G, sr, po⟩ => ⟨B0, Γ, G, sr, Po.bind po fun ds xs G1 H1 q g1 dx po1 => ⟨G1, ds, g1.s, dx, po1⟩⟩
end
end PD

/-! The data layer: operators, subscripts, slices, methods. -/
namespace PD
open PySem PySem.Spec PyProof.Rows L2

section
variable {X : Cx} {E : XK}
/-- a new list, a new tuple, shared at once -/
theorem po_lst {K : PySem.W.Frag} {mg} {G H : Hp} {Q : VK} {xs : List V} {ds : List PyData} {p : Addr} (po : Po (Dq K) mg E G H Q (.ok (.list ds))) (l : Le G H) (hp : H p = none) (h : DqAll K G xs ds) : Q (.ref p) (upd H p (.lst xs)) :=
  po (.ref p) _ _ (Gr.new l hp) (.lst upd_same (dpa_le (le_upd (le_none l hp)) h))
theorem po_tup {K : PySem.W.Frag} {mg} {G H : Hp} {Q : VK} {xs : List V} {ds : List PyData} {p : Addr} (po : Po (Dq K) mg E G H Q (.ok (.tuple ds))) (l : Le G H) (hp : H p = none) (h : DqAll K G xs ds) : Q (.ref p) (upd H p (.tup xs)) :=
  po (.ref p) _ _ (Gr.new l hp) (.tup (.inl (.inl upd_same)) (dpa_le (le_upd (le_none l hp)) h))
theorem dqa_nil {K : PySem.W.Frag} {G : Hp} {xs : List V} (h : DqAll K G xs []) : xs = [] := by cases h; rfl
theorem dqa_nil' {K : PySem.W.Frag} {G : Hp} {ds : List PyData} (h : DqAll K G [] ds) : ds = [] := by cases h; rfl
def dAdd : PyData → PyData → R PyData
  | .int i, .int j => .ok (.int (i + j))
  | .str a, .str b => if a.length + b.length ≤ 100000 then .ok (.str (a ++ b)) else .no
  | .list a, .list b => if a.length + b.length ≤ 100000 then .ok (.list (a ++ b)) else .no
  | .tuple a, .tuple b => if a.length + b.length ≤ 100000 then .ok (.tuple (a ++ b)) else .no
  | _, _ => .no
theorem od_add : OD X E (binaryOp .Add) dAdd := od_of (op_add.or (op_add_str.or (op_cat.or op_catA))) fun G H x y d e Q sz l dx dy po => by
  cases dx with
  | int i =>
    cases dy with
    | int j => exact .inl ⟨i, j, rfl, rfl, Po.ok (d := PyData.int (i + j)) po l (.int _)⟩
    | _ => exact po.elim
  | str a =>
    cases dy with
    | str b =>
      have po : Po (Dq X.K) X.mg E G H Q (if a.length + b.length ≤ 100000 then .ok (.str (a ++ b)) else .no) := po
      split at po
      · rename_i h
        exact .inr (.inl ⟨a, b, rfl, rfl, sz_of h, Po.ok (d := PyData.str (a ++ b)) po l (.str _)⟩)
      · exact po.elim
    | _ => exact po.elim
  | lst h1 a1 =>
    cases dy with
    | lst h2 a2 =>
      rename_i pa xs ds pb ys es
      have po : Po (Dq X.K) X.mg E G H Q (if ds.length + es.length ≤ 100000 then .ok (.list (ds ++ es)) else .no) := po
      split at po
      · rename_i h
        exact .inr (.inr (.inl ⟨pa, pb, xs, ys, rfl, rfl, l _ _ h1, l _ _ h2, sz_of (by rw [dpa_len a1, dpa_len a2]; exact h), fun p hp => po_lst po l hp (dpa_append a1 a2)⟩))
      · exact po.elim
    | _ => exact po.elim
  | tup h1 a1 =>
    cases dy with
    | tup h2 a2 =>
      rename_i pa xs ds pb ys es
      have po : Po (Dq X.K) X.mg E G H Q (if ds.length + es.length ≤ 100000 then .ok (.tuple (ds ++ es)) else .no) := po
      split at po
      · rename_i h
        refine .inr (.inr (.inr ⟨pa, pb, xs, ys, rfl, rfl, sqt_le l h1, sqt_le l h2, sz_of (by rw [dpa_len a1, dpa_len a2]; exact h), fun e => ?_, fun e1 e2 => ?_, fun _ _ p hp => po_tup po l hp (dpa_append a1 a2)⟩))
        · subst e
          have := dqa_nil' a1; subst this
          exact Po.ok (d := PyData.tuple es) po l (.tup h2 a2)
        · subst e2
          have := dqa_nil' a2; subst this
          rw [List.append_nil] at po
          exact Po.ok (d := PyData.tuple ds) po l (.tup h1 a1)
      · exact po.elim
    | _ => exact po.elim
  | _ => exact po.elim
/-! ### - * // % ** -/
def dSub : PyData → PyData → R PyData
  | .int i, .int j => .ok (.int (i - j))
  | _, _ => .no
theorem od_sub : OD X E (binaryOp .Sub) dSub := od_of op_sub fun G H x y d e Q sz l dx dy po => by
  cases dx with
  | int i =>
    cases dy with
    | int j => exact ⟨i, j, rfl, rfl, Po.ok (d := PyData.int (i - j)) po l (.int _)⟩
    | _ => exact po.elim
  | _ => exact po.elim
theorem dqa_rep {K : PySem.W.Frag} {G : Hp} {xs : List V} {ds : List PyData} (h : DqAll K G xs ds) : ∀ n : Nat, DqAll K G (List.replicate n xs).flatten (List.replicate n ds).flatten
  | 0 => .nil
  | n + 1 => by
    rw [List.replicate_succ, List.replicate_succ, List.flatten_cons, List.flatten_cons]
    exact dpa_append h (dqa_rep h n)
def dMul : PyData → PyData → R PyData
  | .int i, .int j => if (-(2 ^ 64) < i ∧ i < 2 ^ 64) ∨ (-(2 ^ 64) < j ∧ j < 2 ^ 64) then .ok (.int (i * j)) else .no
  | .list a, .int k => if (0 ≤ k ∧ k ≤ 100000) ∧ a.length * k.toNat ≤ 100000 then .ok (.list (List.replicate k.toNat a).flatten) else .no
  | _, _ => .no
theorem od_mul : OD X E (binaryOp .Mult) dMul := od_of (op_mul.or op_rep) fun G H x y d e Q sz l dx dy po => by
  cases dx with
  | int i =>
    cases dy with
    | int j =>
      have po : Po (Dq X.K) X.mg E G H Q (if (-(2 ^ 64) < i ∧ i < 2 ^ 64) ∨ (-(2 ^ 64) < j ∧ j < 2 ^ 64) then .ok (.int (i * j)) else .no) := po
      split at po
      · rename_i h
        exact .inl ⟨i, j, rfl, rfl, h, Po.ok (d := PyData.int (i * j)) po l (.int _)⟩
      · exact po.elim
    | _ => exact po.elim
  | lst h1 a1 =>
    rename_i pa xs ds
    cases dy with
    | int k =>
      have po : Po (Dq X.K) X.mg E G H Q (if (0 ≤ k ∧ k ≤ 100000) ∧ ds.length * k.toNat ≤ 100000 then .ok (.list (List.replicate k.toNat ds).flatten) else .no) := po
      split at po
      · rename_i h
        exact .inr ⟨pa, k, xs, rfl, rfl, l _ _ h1, by omega, by omega, sz_of (by rw [dpa_len a1]; exact h.2), fun p hp => po_lst po l hp (dqa_rep a1 _)⟩
      · exact po.elim
    | _ => exact po.elim
  | _ => exact po.elim
def dDiv : PyData → PyData → R PyData
  | .int i, .int j => if 0 < j ∧ j < 2 ^ 64 then .ok (.int (i / j)) else .no
  | _, _ => .no
theorem od_div : OD X E (binaryOp .FloorDiv) dDiv := od_of op_fdivW fun G H x y d e Q sz l dx dy po => by
  cases dx with
  | int i =>
    cases dy with
    | int j =>
      have po : Po (Dq X.K) X.mg E G H Q (if 0 < j ∧ j < 2 ^ 64 then .ok (.int (i / j)) else .no) := po
      split at po
      · rename_i h
        exact ⟨i, j, rfl, rfl, wide_div (b := 64) h.1 (by have := h.2; omega) (by decide) (by decide), Po.ok (d := PyData.int (i / j)) po l (.int _)⟩
      · exact po.elim
    | _ => exact po.elim
  | _ => exact po.elim
def dMod : PyData → PyData → R PyData
  | .int i, .int j => if 0 < j then .ok (.int (i % j)) else .no
  | _, _ => .no
theorem od_mod : OD X E (binaryOp .Mod) dMod := od_of op_mod fun G H x y d e Q sz l dx dy po => by
  cases dx with
  | int i =>
    cases dy with
    | int j =>
      have po : Po (Dq X.K) X.mg E G H Q (if 0 < j then .ok (.int (i % j)) else .no) := po
      split at po
      · rename_i h
        exact ⟨i, j, rfl, rfl, h, Po.ok (d := PyData.int (i % j)) po l (.int _)⟩
      · exact po.elim
    | _ => exact po.elim
  | _ => exact po.elim
def dPow : PyData → PyData → R PyData
  | .int i, .int j => if 0 ≤ j ∧ j ≤ 1000000 ∧ i.natAbs < 2 ^ 64 then .ok (.int (i ^ j.toNat)) else .no
  | _, _ => .no
theorem od_pow : OD X E (binaryOp .Pow) dPow := od_of op_pow fun G H x y d e Q sz l dx dy po => by
  cases dx with
  | int i =>
    cases dy with
    | int j =>
      have po : Po (Dq X.K) X.mg E G H Q (if 0 ≤ j ∧ j ≤ 1000000 ∧ i.natAbs < 2 ^ 64 then .ok (.int (i ^ j.toNat)) else .no) := po
      split at po
      · rename_i h
        exact ⟨i, j, rfl, rfl, h, Po.ok (d := PyData.int (i ^ j.toNat)) po l (.int _)⟩
      · exact po.elim
    | _ => exact po.elim
  | _ => exact po.elim
/-- -x -/
def dNeg : PyData → R PyData
  | .int i => .ok (.int (-i))
  | _ => .no
def mNeg (m : M) : M := fun Γ => (m Γ).bind dNeg
theorem se_neg {a : Expr} {ma : M} {pos : Pos} (ha : SE X E a ma) : SE X E (.UnaryOp .USub a pos) (mNeg ma) := pe_of (pe_un un_neg ha) fun σ H Q ⟨B0, Γ, G, sr, po⟩ => ⟨B0, Γ, G, sr, Po.bind po fun d x G1 H1 _ g1 dx po1 => by
  cases dx with
  | int i => exact ⟨i, rfl, Po.ok (d := PyData.int (-i)) po1 g1.s (.int _)⟩
  | _ => exact po1.elim⟩
/-! ### comparisons -/
def dCmp (f : Int → Int → Bool) : PyData → PyData → R PyData
  | .int i, .int j => .ok (.bool (f i j))
  | _, _ => .no
@[simp] theorem dCmp_int (f : Int → Int → Bool) (i j : Int) : dCmp f (.int i) (.int j) = .ok (.bool (f i j)) := rfl
theorem od_cmp {op : CmpOp} {f : Int → Int → Bool} (h : OpR X (compareOp op) (rI0 fun i j => .bl (f i j))) : OD X E (compareOp op) (dCmp f) := od_of h fun G H x y d e Q sz l dx dy po => by
  cases dx with
  | int i =>
    cases dy with
    | int j => exact ⟨i, j, rfl, rfl, Po.ok (d := PyData.bool (f i j)) po l (.bl _)⟩
    | _ => exact po.elim
  | _ => exact po.elim
abbrev dLt := dCmp fun i j => decide (i < j)
abbrev dLe := dCmp fun i j => decide (i ≤ j)
abbrev dGt := dCmp fun i j => decide (j < i)
abbrev dGe := dCmp fun i j => decide (j ≤ i)
theorem od_lt : OD X E (compareOp .Lt) dLt := od_cmp op_lt
theorem od_le : OD X E (compareOp .LtE) dLe := od_cmp op_le
theorem od_gt : OD X E (compareOp .Gt) dGt := od_cmp op_gt
theorem od_ge : OD X E (compareOp .GtE) dGe := od_cmp op_ge
/-- == of two scalars of one kind, told at once -/
def sEq : PyData → PyData → Option Bool
  | .int i, .int j => some (decide (i = j))
  | .str a, .str b => some (decide (a = b))
  | .bool a, .bool b => some (decide (a = b))
  | _, _ => none
def eqD (d e : PyData) : R Bool := match sEq d e with
  | some b => .ok b
  | none => if SeqAt.shaped (unS d) = true ∧ SeqAt.shaped (unS e) = true then .ok (PyData.eqv (unS d) (unS e)) else .no
def dEq (d e : PyData) : R PyData := (eqD d e).bind fun b => .ok (.bool b)
def dNe (d e : PyData) : R PyData := (eqD d e).bind fun b => .ok (.bool (!b))
theorem eqD_cases {K : PySem.W.Frag} {G : Hp} {x y : V} {d e : PyData} {b : Bool} (dx : Dq K G x d) (dy : Dq K G y e) (h : eqD d e = .ok b) : (scal x y = true ∧ b = decide (x = y)) ∨ (SeqAt.shaped (unS d) = true ∧ SeqAt.shaped (unS e) = true ∧ b = PyData.eqv (unS d) (unS e)) := by
  unfold eqD at h
  cases q : sEq d e with
  | some c =>
    rw [q] at h
    cases h
    cases dx <;> cases dy <;> simp only [sEq] at q <;> cases q <;> exact .inl ⟨rfl, by simp⟩
  | none =>
    rw [q] at h
    dsimp only at h
    split at h
    · rename_i z
      cases h
      exact .inr ⟨z.1, z.2, rfl⟩
    · cases h
theorem od_eq {k : Nat} (hr : Room k X.A) : OD X E (compareOp .Eq) dEq := od_of (op_eq.or (op_eqD hr.units)) fun G H x y d e Q sz l dx dy po => by
  unfold dEq at po
  cases q : eqD d e with
  | ok b =>
    rw [q, R.bind_ok] at po
    have po := Po.ok (d := PyData.bool b) po l (.bl b)
    rcases eqD_cases dx dy q with ⟨h1, h2⟩ | ⟨h1, h2, h3⟩
    · subst h2; exact .inl ⟨h1, po⟩
    · subst h3; exact .inr ⟨unS d, unS e, dq_dp (dp_le l dx) h1, dq_dp (dp_le l dy) h2, h1, h2, po⟩
  | ex c =>
    unfold eqD at q
    split at q
    · cases q
    · split at q <;> cases q
  | no => rw [q] at po; exact po.elim
theorem od_ne {k : Nat} (hr : Room k X.A) : OD X E (compareOp .NotEq) dNe := od_of (op_ne.or (op_neD hr.units)) fun G H x y d e Q sz l dx dy po => by
  unfold dNe at po
  cases q : eqD d e with
  | ok b =>
    rw [q, R.bind_ok] at po
    have po := Po.ok (d := PyData.bool (!b)) po l (.bl _)
    rcases eqD_cases dx dy q with ⟨h1, h2⟩ | ⟨h1, h2, h3⟩
    · subst h2; exact .inl ⟨h1, po⟩
    · subst h3; exact .inr ⟨unS d, unS e, dq_dp (dp_le l dx) h1, dq_dp (dp_le l dy) h2, h1, h2, po⟩
  | ex c =>
    unfold eqD at q
    split at q
    · cases q
    · split at q <;> cases q
  | no => rw [q] at po; exact po.elim
/-- in, not in -/
def inD : PyData → PyData → R Bool
  | .str a, .str b => match a.cps.toList with
    | [c] => .ok (decide (c ∈ b.cps.toList))
    | _ => .no
  | x, .list ds => if SeqAt.shaped x = true ∧ SeqAt.shaped (.list ds) = true then .ok (ds.any fun z => PyData.eqv z x) else .no
  | _, _ => .no
def dIn (d e : PyData) : R PyData := (inD d e).bind fun b => .ok (.bool b)
def dNotIn (d e : PyData) : R PyData := (inD d e).bind fun b => .ok (.bool (!b))
theorem str_one {a : Str} {c : Nat} (h : a.cps.toList = [c]) : a = ⟨#[c]⟩ := by
  obtain ⟨l⟩ := a
  obtain ⟨l⟩ := l
  have h : l = [c] := h
  subst h
  rfl
theorem inD_cases {K : PySem.W.Frag} {G : Hp} {x y : V} {d e : PyData} {b : Bool} (dx : Dq K G x d) (dy : Dq K G y e) (h : inD d e = .ok b) :
    (∃ (c : Nat) (z : Str), x = .str ⟨#[c]⟩ ∧ y = .str z ∧ b = decide (c ∈ z.cps.toList)) ∨ (∃ ds, e = .list ds ∧ SeqAt.shaped d = true ∧ SeqAt.shaped (.list ds) = true ∧ b = ds.any fun z => PyData.eqv z d) := by
  cases dy with
  | str z =>
    cases dx with
    | str a =>
      simp only [inD] at h
      split at h
      · rename_i c q
        cases h
        exact .inl ⟨c, z, by rw [str_one q], rfl, rfl⟩
      · cases h
    | _ => simp only [inD] at h; cases h
  | lst h2 a2 =>
    rename_i p ys es
    have h : (if SeqAt.shaped d = true ∧ SeqAt.shaped (.list es) = true then R.ok (es.any fun z => PyData.eqv z d) else .no) = .ok b := by
      rw [← h]; cases d <;> rfl
    split at h
    · rename_i z
      cases h
      exact .inr ⟨es, rfl, z.1, z.2, rfl⟩
    · cases h
  | _ => cases dx <;> simp only [inD] at h <;> cases h
theorem inD_noex {d e : PyData} {c : Str} (h : inD d e = .ex c) : False := by
  unfold inD at h
  split at h
  · split at h <;> cases h
  · split at h <;> cases h
  · cases h
theorem od_in {k : Nat} (hr : Room k X.A) : OD X E (compareOp .In) dIn := od_of (op_in_sign.or (op_inD (by have := hr.un; omega))) fun G H x y d e Q sz l dx dy po => by
  unfold dIn at po
  cases q : inD d e with
  | ok b =>
    rw [q, R.bind_ok] at po
    have po := Po.ok (d := PyData.bool b) po l (.bl b)
    rcases inD_cases dx dy q with ⟨c, z, h1, h2, h3⟩ | ⟨ds, h0, h1, h2, h3⟩
    · subst h3; exact .inl ⟨c, z, h1, h2, po⟩
    · subst h0 h3; exact .inr ⟨d, ds, dq_dp0 (dp_le l dx) h1, dq_dp0 (dp_le l dy) h2, h1, h2, po⟩
  | ex c => exact (inD_noex q).elim
  | no => rw [q] at po; exact po.elim
theorem od_notin {k : Nat} (hr : Room k X.A) : OD X E (compareOp .NotIn) dNotIn := od_of (op_notIn_sign.or (op_notInD (by have := hr.un; omega))) fun G H x y d e Q sz l dx dy po => by
  unfold dNotIn at po
  cases q : inD d e with
  | ok b =>
    rw [q, R.bind_ok] at po
    have po := Po.ok (d := PyData.bool (!b)) po l (.bl _)
    rcases inD_cases dx dy q with ⟨c, z, h1, h2, h3⟩ | ⟨ds, h0, h1, h2, h3⟩
    · subst h3; exact .inl ⟨c, z, h1, h2, po⟩
    · subst h0 h3; exact .inr ⟨d, ds, dq_dp0 (dp_le l dx) h1, dq_dp0 (dp_le l dy) h2, h1, h2, po⟩
  | ex c => exact (inD_noex q).elim
  | no => rw [q] at po; exact po.elim
/-- is None, is True -/
def isD : PyData → PyData → R Bool
  | .none, .none => .ok true
  | .bool _, .none => .ok false
  | .int _, .none => .ok false
  | .str _, .none => .ok false
  | .list _, .none => .ok false
  | .tuple _, .none => .ok false
  | .bool a, .bool b => .ok (decide (a = b))
  | _, _ => .no
def dIs (d e : PyData) : R PyData := (isD d e).bind fun b => .ok (.bool b)
def dIsNot (d e : PyData) : R PyData := (isD d e).bind fun b => .ok (.bool (!b))
theorem isD_cases {K : PySem.W.Frag} {G : Hp} {x y : V} {d e : PyData} {b : Bool} (dx : Dq K G x d) (dy : Dq K G y e) (h : isD d e = .ok b) :
    (y = .non ∧ b = decide (x = .non)) ∨ (∃ p q : Bool, x = .bl p ∧ y = .bl q ∧ b = decide (p = q)) := by
  cases dy with
  | non => cases dx <;> simp only [isD] at h <;> cases h <;> exact .inl ⟨rfl, by simp⟩
  | bl q =>
    cases dx with
    | bl p => simp only [isD] at h; cases h; exact .inr ⟨p, q, rfl, rfl, rfl⟩
    | _ => simp only [isD] at h; cases h
  | _ => cases dx <;> simp only [isD] at h <;> cases h
theorem isD_noex {d e : PyData} {c : Str} (h : isD d e = .ex c) : False := by unfold isD at h; split at h <;> cases h
theorem od_is : OD X E (compareOp .Is) dIs := od_of (op_isN.or op_isBl) fun G H x y d e Q sz l dx dy po => by
  unfold dIs at po
  cases q : isD d e with
  | ok b =>
    rw [q, R.bind_ok] at po
    have po := Po.ok (d := PyData.bool b) po l (.bl b)
    rcases isD_cases dx dy q with ⟨h1, h2⟩ | ⟨p, r, h1, h2, h3⟩
    · subst h1 h2; exact .inl ⟨rfl, po⟩
    · subst h1 h2 h3; exact .inr ⟨p, r, rfl, rfl, po⟩
  | ex c => exact (isD_noex q).elim
  | no => rw [q] at po; exact po.elim
theorem od_isnot : OD X E (compareOp .IsNot) dIsNot := od_of (op_notN.or op_notBl) fun G H x y d e Q sz l dx dy po => by
  unfold dIsNot at po
  cases q : isD d e with
  | ok b =>
    rw [q, R.bind_ok] at po
    have po := Po.ok (d := PyData.bool (!b)) po l (.bl _)
    rcases isD_cases dx dy q with ⟨h1, h2⟩ | ⟨p, r, h1, h2, h3⟩
    · subst h1 h2; exact .inl ⟨rfl, po⟩
    · subst h1 h2 h3; exact .inr ⟨p, r, rfl, rfl, po⟩
  | ex c => exact (isD_noex q).elim
  | no => rw [q] at po; exact po.elim

/-! ### subscripts -/
def oR {α : Type} : Option α → R α
  | some a => .ok a
  | none => .no
@[simp] theorem oR_some {α : Type} (a : α) : oR (some a) = .ok a := rfl
@[simp] theorem oR_none {α : Type} : (oR none : R α) = .no := rfl
def dIx : PyData → PyData → R PyData
  | .list ds, .int i => oR (atI ds i)
  | .dict ((.none, _) :: _), .int _ => .no
  | .dict ((.bool _, _) :: _), .int _ => .no
  | .dict kvs, .int i => oR (atI (kvs.map (·.1)) i)
  | .tuple ds, .int i => oR (atI ds i)
  | .str z, .int i => if z.length ≤ 100000 then (oR (atI z.cps.toList i)).bind fun c => .ok (.str ⟨#[c]⟩) else .no
  | _, _ => .no
theorem dqa_atI {K : PySem.W.Frag} {G : Hp} {xs : List V} {ds : List PyData} {i : Int} {d : PyData} (h : DqAll K G xs ds) (e : atI ds i = some d) : ∃ v, atI xs i = some v ∧ Dq K G v d := by
  unfold atI at e ⊢
  rw [dpa_len h]
  cases q : ixN ds.length i with
  | none => rw [q] at e; cases e
  | some j =>
    rw [q] at e
    exact dpa_get h e
theorem oR_ok {α β : Type} {Rl : Hp → β → α → Prop} {mg} {G H : Hp} {Q : β → Hp → Prop} {o : Option α} (po : Po Rl mg E G H Q (oR o)) : ∃ a, o = some a ∧ Po Rl mg E G H Q (.ok a) := by
  cases o with
  | some a => exact ⟨a, rfl, po⟩
  | none => exact po.elim
abbrev ID (X : Cx) (E : XK) (g : PyData → PyData → R PyData) : Prop := IxR X (rD X.K X.mg E g)
theorem dIx_no {d e : PyData} (h : ∀ i, e ≠ .int i) : dIx d e = .no := by
  unfold dIx
  split
  all_goals first | rfl | exact absurd rfl (h _)
theorem id_ix : ID X E dIx := by
  intro va sl pins s σ H x y v u Q I rx ry q hsub
  obtain ⟨G, d, e, l, dx, dy, po⟩ := q
  refine ix_seq va sl pins s σ H x y v u Q I rx ry ?_ hsub
  cases dy with
  | int i =>
    cases dx with
    | lst h1 a1 =>
      rename_i p xs ds
      obtain ⟨a, q, po⟩ := oR_ok (o := atI ds i) po
      obtain ⟨v, e, dv⟩ := dqa_atI a1 q
      exact .inl ⟨p, xs, i, v, rfl, rfl, (sq1 l h1), e, po.ok l dv⟩
    | scr h1 =>
      rename_i p ns
      replace po : Po (Dq X.K) X.mg E G H Q (oR (atI ((ns.map fun n => (PyData.int n, PyData.none)).map (·.1)) i)) := by
        cases ns <;> exact po
      have e : ((ns.map fun n => (PyData.int n, PyData.none)).map (·.1)) = ns.map PyData.int := by simp [List.map_map, Function.comp_def]
      rw [e] at po
      obtain ⟨a, q, po⟩ := oR_ok po
      obtain ⟨v, e, dv⟩ := dqa_atI (dpa_ofInts (K := X.K) (G := G) ns) q
      exact .inl ⟨p, ns.map V.int, i, v, rfl, rfl, sql_le l h1, e, po.ok l dv⟩
    | tup h1 a1 =>
      rename_i p xs ds
      obtain ⟨a, q, po⟩ := oR_ok (o := atI ds i) po
      obtain ⟨v, e, dv⟩ := dqa_atI a1 q
      exact .inr (.inl ⟨p, xs, i, v, rfl, rfl, sqt_le l h1, e, po.ok l dv⟩)
    | str z =>
      have po : Po (Dq X.K) X.mg E G H Q (if z.length ≤ 100000 then (oR (atI z.cps.toList i)).bind fun c => .ok (.str ⟨#[c]⟩) else .no) := po
      split at po
      · rename_i h
        cases q : atI z.cps.toList i with
        | some c =>
          rw [q] at po
          exact .inr (.inr ⟨z, i, c, rfl, rfl, sz_of h, q, Po.ok (d := PyData.str ⟨#[c]⟩) po l (.str _)⟩)
        | none => rw [q] at po; exact po.elim
      · exact po.elim
    | _ => exact po.elim
  | _ =>
    rw [dIx_no (by simp)] at po
    exact po.elim
theorem se_ix {a b : Expr} {ma mb : M} {pos : Pos} {g : PyData → PyData → R PyData} (hr : ID X E g) (ha : SE X E a ma) (hb : SE X E b mb) (hs : PlainIx b := by exact fun _ _ => rfl) : SE X E (.Subscript a b pos) (mOp g ma mb) :=
  pe_of (pe_ix hr ha hb hs) fun σ H Q h => tOp_of rfl h
/-- an item of a slot's list, own or shared -/
def mIxO (i : Nat) (mi : M) : M := fun Γ => match gat Γ i with
  | .own ds => (mi Γ).bind fun k => dIx (.list ds) k
  | .v d => (mi Γ).bind fun k => dIx d k
  | .ad _ => .no
  | .no => .no
theorem se_ixo (i : Nat) {x : Str} {p pos : Pos} {b : Expr} {mb : M} (hb : SE X E b mb) (hN : X.N[i]? = some x := by rfl) (hv : Vis X.env.scope x := by first | exact Or.inl rfl | exact Or.inr (Or.inl rfl) | exact Or.inr (Or.inr rfl)) (hs : PlainIx b := by exact fun _ _ => rfl) (hd : (x == ("__debug__" : Str)) = false := by decide)
    (hcd : (x == ("__classdict__" : Str)) = false := by decide) : SE X E (.Subscript (.Name x p) b pos) (mIxO i mb) := by
  have rule : IxR X (fun x y H Q => rIxL X.K x y H Q ∨ rD X.K X.mg E dIx x y H Q) := ix_list.or id_ix
  refine pe_of (pe_ix rule (pe_var (i := i) hN hv hd hcd) hb hs) fun σ H Q ⟨B0, Γ, G, sr, po⟩ => ?_
  unfold mIxO at po
  show ∃ v, σ[i]? = some (some v) ∧ _
  cases q : gat Γ i with
  | own ds =>
    rw [q] at po
    obtain ⟨a, xs, e1, e2, e3, e4⟩ := sr.own i ds q
    refine ⟨.ref a, e1, B0, Γ, G, sr, Po.bind po fun k y G1 H1 _ g1 dy po1 => ?_⟩
    cases dy with
    | int j =>
      obtain ⟨d, q2, po2⟩ := oR_ok (o := atI ds j) po1
      obtain ⟨v, e, dv⟩ := dqa_atI e4 q2
      exact .inl ⟨a, xs, j, v, rfl, rfl, .inl (.inl (g1.h _ _ e2)), e, po2.ok g1.s (dp_le g1.g dv)⟩
    | _ => exact po1.elim
  | v d =>
    rw [q] at po
    obtain ⟨x0, e1, e2⟩ := sr.val i d q
    refine ⟨x0, e1, B0, Γ, G, sr, Po.bind po fun k y G1 H1 _ g1 dy po1 => ?_⟩
    exact .inr ⟨G1, d, k, g1.s, dp_le g1.g e2, dy, po1⟩
  | ad _ => rw [q] at po; exact po.elim
  | no => rw [q] at po; exact po.elim
end
end PD

/-! The data layer: what is walked, comprehensions, statements. -/
namespace PD
open PySem PySem.Spec PyProof.Rows L2

/-! ### what is walked -/
structure ItD (K : PySem.W.Frag) (J : It) (G : Hp) (ds : List PyData) : Prop where
  go : ∀ i G1 H1, Le G G1 → Le G1 H1 → i < ds.length → J.go i H1
  stop : ∀ G1 H1, Le G G1 → Le G1 H1 → J.stop ds.length H1
  sz : ds.length ≤ sizeLine
  yld : ∀ i G1 H1 x H2 d, Le G G1 → Le G1 H1 → ds[i]? = some d → J.yld i H1 x H2 → ∃ G2, Gr G1 H1 G2 H2 ∧ Dq K G2 x d
def PoI (K : PySem.W.Frag) (mg : Str → Option Value) (E : XK) (G H : Hp) (Q : It → Hp → Prop) : R (List PyData) → Prop
  | .ok ds => ∀ J G' H', Gr G H G' H' → ItD K J G' ds → Q J H'
  | .ex c => ∀ H', Le H H' → E (cV mg c) none H'
  | .no => False
def tIt (K : PySem.W.Frag) (mg : Str → Option Value) (E : XK) (m : Gam → R (List PyData)) : TI := fun σ H Q => ∃ B Γ G, SR K B G H σ Γ ∧ PoI K mg E G H Q (m Γ)
abbrev SI (X : Cx) (E : XK) (tg e : Expr) (m : Gam → R (List PyData)) : Prop := PI X tg e (tIt X.K X.mg E m)
theorem pi_of {X : Cx} {tg e : Expr} {t t' : TI} (h : PI X tg e t) (i : ∀ σ H Q, t' σ H Q → t σ H Q) : PI X tg e t' := ⟨fun pins s σ H Q I q => h.run pins s σ H Q I (i σ H Q q)⟩
theorem pi_siz {X : Cx} {tg e : Expr} {t : TI} (h : PI X tg e t) : PI X tg e (fun σ H Q => t σ H fun J H' => Siz X.K H' → Q J H') := ⟨fun pins s σ H Q I q =>
  thn (h.run pins s σ H _ I q) fun v s1 h1 => thn h1 fun itv s2 ⟨it, fp, tn, J, H', e, I2, T, st, f, r⟩ => ⟨it, fp, tn, J, H', e, I2, T, st, f, r (siz_of I2)⟩⟩
theorem PoI.gr {K mg} {E : XK} {G H G' H' : Hp} {Q : It → Hp → Prop} {r : R (List PyData)} (h : PoI K mg E G H Q r) (g : Gr G H G' H') : PoI K mg E G' H' Q r := by
  cases r with
  | ok d => exact fun x G2 H2 g2 r => h x G2 H2 (g.trans g2) r
  | ex c => exact fun H2 l => h H2 (le_trans g.h l)
  | no => exact h
theorem PoI.bind {α β : Type} {Rl : Hp → α → β → Prop} {K mg} {E : XK} {G H : Hp} {Q : It → Hp → Prop} {Q' : α → Hp → Prop} {r : R β} {f : β → R (List PyData)} (h : PoI K mg E G H Q (r.bind f))
    (k : ∀ d x G' H', r = .ok d → Gr G H G' H' → Rl G' x d → PoI K mg E G' H' Q (f d) → Q' x H') : Po Rl mg E G H Q' r := by
  cases r with
  | ok d => exact fun x G' H' g dx => k d x G' H' rfl g dx (PoI.gr (r := f d) h g)
  | ex c => exact h
  | no => exact h
/-- the items of a list, a tuple, a text -/
def itemsD : PyData → R (List PyData)
  | .list ds => .ok ds
  | .tuple ds => .ok ds
  | .str z => if z.length ≤ 100000 then .ok (z.cps.toList.map fun c => .str ⟨#[c]⟩) else .no
  | _ => .no
def mItems (m : M) : Gam → R (List PyData) := fun Γ => (m Γ).bind itemsD
section
variable {X : Cx} {E : XK} {tg e : Expr}
theorem pi_or {t t' : TI} (h : PI X tg e t) (h' : PI X tg e t') : PI X tg e (fun σ H Q => t σ H Q ∨ t' σ H Q) := ⟨fun pins s σ H Q I q => q.elim (h.run pins s σ H Q I) (h'.run pins s σ H Q I)⟩
theorem itd_list {K : PySem.W.Frag} {G : Hp} {a : Addr} {xs : List V} {ds : List PyData} (h : SqL K G a xs) (d : DqAll K G xs ds) (z : xs.length ≤ sizeLine) : ItD K (Itl K a) G ds where
  go := fun i G1 H1 l1 l2 hi => ⟨xs, xs[i]'(by rw [dpa_len d]; exact hi), sql_le l2 (sql_le l1 h), by simp⟩
  stop := fun G1 H1 l1 l2 => ⟨xs, sql_le l2 (sql_le l1 h), by rw [dpa_len d]; exact Nat.le_refl _⟩
  sz := by rw [← dpa_len d]; exact z
  yld := fun i G1 H1 x H2 e l1 l2 hd ⟨e1, q⟩ => by
    subst e1
    have hx := q xs (sql_le l2 (sql_le l1 h))
    obtain ⟨v, hv, dv⟩ := dpa_get d hd
    rw [hx] at hv; cases hv
    exact ⟨G1, Gr.refl l2, dp_le l1 dv⟩
theorem itd_tup {K : PySem.W.Frag} {G : Hp} {a : Addr} {xs : List V} {ds : List PyData} (h : SqT K G a xs) (d : DqAll K G xs ds) (z : xs.length ≤ sizeLine) : ItD K (Itt K a) G ds where
  go := fun i G1 H1 l1 l2 hi => ⟨xs, xs[i]'(by rw [dpa_len d]; exact hi), sqt_le l2 (sqt_le l1 h), by simp⟩
  stop := fun G1 H1 l1 l2 => ⟨xs, sqt_le l2 (sqt_le l1 h), by rw [dpa_len d]; exact Nat.le_refl _⟩
  sz := by rw [← dpa_len d]; exact z
  yld := fun i G1 H1 x H2 e l1 l2 hd ⟨e1, q⟩ => by
    subst e1
    have hx := q xs (sqt_le l2 (sqt_le l1 h))
    obtain ⟨v, hv, dv⟩ := dpa_get d hd
    rw [hx] at hv; cases hv
    exact ⟨G1, Gr.refl l2, dp_le l1 dv⟩
theorem itd_str {K : PySem.W.Frag} {G : Hp} {z : Str} (z0 : z.cps.size ≤ sizeLine) : ItD K (Its z) G (z.cps.toList.map fun c => .str ⟨#[c]⟩) where
  go := fun i G1 H1 l1 l2 hi => by
    show i < z.cps.size
    simpa using hi
  stop := fun G1 H1 l1 l2 => by simp [Its]
  sz := by simpa using z0
  yld := fun i G1 H1 x H2 e l1 l2 hd ⟨e1, c, hc, ex⟩ => by
    subst e1 ex
    rw [List.getElem?_map, Array.getElem?_toList, hc] at hd
    cases hd
    exact ⟨G1, Gr.refl l2, .str _⟩
theorem si_val {m : M} (h : SE X E e m) : SI X E tg e (mItems m) := pi_of (pi_siz (pi_or (pi_list h) (pi_or (pi_tup h) (pi_str h)))) fun σ H Q ⟨B0, Γ, G, sr, po⟩ => by
  unfold mItems at po
  cases q : m Γ with
  | no => rw [q] at po; exact po.elim
  | ex c => rw [q] at po; exact .inl ⟨B0, Γ, G, sr, by rw [q]; exact po⟩
  | ok d =>
    rw [q, R.bind_ok] at po
    cases d with
    | list ds =>
      refine .inl ⟨B0, Γ, G, sr, ?_⟩
      rw [q]
      intro x G1 H1 g1 dx
      cases dx with
      | lst h1 a1 => exact ⟨_, rfl, ⟨_, sq1 g1.s h1⟩, fun zz => po _ G1 H1 g1 (itd_list (.inl (.inl h1)) a1 (zz _ _ (.inl (sq1 g1.s h1))))⟩
    | tuple ds =>
      refine .inr (.inl ⟨B0, Γ, G, sr, ?_⟩)
      rw [q]
      intro x G1 H1 g1 dx
      cases dx with
      | tup h1 a1 => exact ⟨_, rfl, ⟨_, sqt_le g1.s h1⟩, fun zz => po _ G1 H1 g1 (itd_tup h1 a1 (zz _ _ (.inr (sqt_le g1.s h1))))⟩
    | str z =>
      replace po : PoI X.K X.mg E G H Q (if z.length ≤ 100000 then .ok (z.cps.toList.map fun c => .str ⟨#[c]⟩) else .no) := po
      refine .inr (.inr ⟨B0, Γ, G, sr, ?_⟩)
      rw [q]
      intro x G1 H1 g1 dx
      cases dx
      split at po
      · rename_i hz
        exact ⟨z, rfl, fun zz => po _ G1 H1 g1 (itd_str (sz_of hz))⟩
      · exact po.elim
    | _ => exact po.elim
/-- lo, lo + 1, .. -/
def intsFrom (lo : Int) (n : Nat) : List PyData := (List.range n).map fun i => .int (lo + (i : Nat))
theorem intsFrom_length (lo : Int) (n : Nat) : (intsFrom lo n).length = n := by simp [intsFrom]
theorem itd_rng {K : PySem.W.Frag} {G : Hp} {lo : Int} {n : Nat} (z : n ≤ sizeLine) : ItD K (Itr lo n) G (intsFrom lo n) where
  go := fun i G1 H1 l1 l2 hi => by rw [intsFrom_length] at hi; exact hi
  stop := fun G1 H1 l1 l2 => by rw [intsFrom_length]; exact Nat.le_refl _
  sz := by rw [intsFrom_length]; exact z
  yld := fun i G1 H1 x H2 e l1 l2 hd ⟨e1, ex⟩ => by
    subst e1 ex
    unfold intsFrom at hd
    rw [List.getElem?_map] at hd
    cases q : (List.range n)[i]? with
    | none => rw [q] at hd; cases hd
    | some j =>
      rw [q] at hd
      cases hd
      have hj := List.getElem?_eq_some_iff.mp q
      obtain ⟨h1, h2⟩ := hj
      rw [List.getElem_range] at h2
      subst h2
      exact ⟨G1, Gr.refl l2, .int _⟩
def rngD : List PyData → R (List PyData)
  | [.int n] => if -1000000 ≤ n ∧ n ≤ 1000000 then .ok (intsFrom 0 n.toNat) else .no
  | [.int a, .int b] => if (-1000000 ≤ a ∧ a ≤ 1000000) ∧ -1000000 ≤ b ∧ b ≤ 1000000 then .ok (intsFrom a (b - a).toNat) else .no
  | _ => .no
def mRng (m : Gam → R (List PyData)) : Gam → R (List PyData) := fun Γ => (m Γ).bind rngD
theorem si_range1 {a : Expr} {m : Gam → R (List PyData)} {p pos : Pos} (hm : X.mg "range" = none) (ha : SA X E [a] m) (hg : Gl X "range" := by exact rfl) (hs : starEach [a] X.env = [(false, eval a X.env)] := by rfl) :
    SI X E tg (.Call (.Name "range" p) [a] [] pos) (mRng m) := pi_of (pi_range1 hg hm ha.pa hs) fun σ H Q ⟨B0, Γ, G, sr, po⟩ => ⟨B0, Γ, G, sr, PoI.bind po fun ds vs G1 H1 q g1 dx po1 => by
  have hl := ha.ln Γ ds q
  match ds, hl with
  | [d], _ =>
    cases dx with
    | cons d1 d2 =>
      cases d2
      cases d1 with
      | int n =>
        have po1 : PoI X.K X.mg E G1 H1 Q (if -1000000 ≤ n ∧ n ≤ 1000000 then .ok (intsFrom 0 n.toNat) else .no) := po1
        split at po1
        · exact ⟨n, rfl, by omega, by omega, po1 _ G1 H1 (Gr.refl g1.s) (itd_rng (Nat.le_trans (m := 2000000) (by omega) (by decide)))⟩
        · exact po1.elim
      | _ => exact po1.elim⟩
theorem si_range2 {a b : Expr} {m : Gam → R (List PyData)} {p pos : Pos} (hm : X.mg "range" = none) (ha : SA X E [a, b] m) (hg : Gl X "range" := by exact rfl) (hs : starEach [a, b] X.env = [(false, eval a X.env), (false, eval b X.env)] := by rfl) (hs2 : starEach [b] X.env = [(false, eval b X.env)] := by rfl) :
    SI X E tg (.Call (.Name "range" p) [a, b] [] pos) (mRng m) := pi_of (pi_range2 hg hm ha.pa hs hs2) fun σ H Q ⟨B0, Γ, G, sr, po⟩ => ⟨B0, Γ, G, sr, PoI.bind po fun ds vs G1 H1 q g1 dx po1 => by
  have hl := ha.ln Γ ds q
  match ds, hl with
  | [d, e], _ =>
    cases dx with
    | cons d1 d2 =>
      cases d2 with
      | cons d2 d3 =>
        cases d3
        cases d1 with
        | int a =>
          cases d2 with
          | int b =>
            have po1 : PoI X.K X.mg E G1 H1 Q (if (-1000000 ≤ a ∧ a ≤ 1000000) ∧ -1000000 ≤ b ∧ b ≤ 1000000 then .ok (intsFrom a (b - a).toNat) else .no) := po1
            split at po1
            · exact ⟨a, b, rfl, ⟨by omega, by omega, by omega, by omega⟩, po1 _ G1 H1 (Gr.refl g1.s) (itd_rng (Nat.le_trans (m := 2000000) (by omega) (by decide)))⟩
            · exact po1.elim
          | _ => exact po1.elim
        | _ => cases d2 <;> exact po1.elim⟩
/-- enumerate(list) -/
def enumFrom : Nat → List PyData → List PyData
  | _, [] => []
  | n, d :: ds => .tuple [.int (n : Nat), d] :: enumFrom (n + 1) ds
theorem enumFrom_length : ∀ (n : Nat) (ds : List PyData), (enumFrom n ds).length = ds.length
  | _, [] => rfl
  | n, d :: ds => by simp [enumFrom, enumFrom_length (n + 1) ds]
theorem enumFrom_get : ∀ (n : Nat) (ds : List PyData) (i : Nat), (enumFrom n ds)[i]? = (ds[i]?).map fun d => .tuple [.int ((n + i : Nat) : Int), d]
  | _, [], i => by simp [enumFrom]
  | n, d :: ds, 0 => by simp [enumFrom]
  | n, d :: ds, i + 1 => by
    simp only [enumFrom, List.getElem?_cons_succ, enumFrom_get (n + 1) ds i]
    rw [show n + 1 + i = n + (i + 1) by omega]
theorem itd_enum {K : PySem.W.Frag} {G : Hp} {a : Addr} {xs : List V} {ds : List PyData} (h : SqL K G a xs) (d : DqAll K G xs ds) (z : xs.length ≤ sizeLine) : ItD K (Ite K a) G (enumFrom 0 ds) where
  go := fun i G1 H1 l1 l2 hi => by
    rw [enumFrom_length] at hi
    exact ⟨xs, xs[i]'(by rw [dpa_len d]; exact hi), sql_le l2 (sql_le l1 h), by simp⟩
  stop := fun G1 H1 l1 l2 => ⟨xs, sql_le l2 (sql_le l1 h), by rw [enumFrom_length, dpa_len d]; exact Nat.le_refl _⟩
  sz := by rw [enumFrom_length, ← dpa_len d]; exact z
  yld := fun i G1 H1 x H2 e l1 l2 hd ⟨T, y, e1, hT, e2, q⟩ => by
    subst e1 e2
    have hx := q xs (sql_le l2 (sql_le l1 h))
    rw [enumFrom_get] at hd
    obtain ⟨d', hd', dv⟩ := dpa_get' d hx
    rw [hd'] at hd
    cases hd
    have lu : Le G1 (upd G1 T (.tup [.int (i : Nat), y])) := le_upd (le_none l2 hT)
    refine ⟨upd G1 T (.tup [.int (i : Nat), y]), Gr.new l2 hT, .tup (.inl (.inl upd_same)) (.cons ?_ (.cons (dp_le lu (dp_le l1 dv)) .nil))⟩
    rw [Nat.zero_add]
    exact .int _
def enumD : List PyData → R (List PyData)
  | [.list ds] => .ok (enumFrom 0 ds)
  | _ => .no
def mEnum (m : Gam → R (List PyData)) : Gam → R (List PyData) := fun Γ => (m Γ).bind enumD
theorem si_enum {a : Expr} {m : Gam → R (List PyData)} {elts : List Expr} {kk : Nat} {p pos tpos : Pos} (hm : X.mg "enumerate" = none) (ha : SA X E [a] m) (hg : Gl X "enumerate" := by exact rfl) (hs : starEach [a] X.env = [(false, eval a X.env)] := by rfl) :
    SI X E (.Tuple elts kk tpos) (.Call (.Name "enumerate" p) [a] [] pos) (mEnum m) := pi_of (pi_siz (pi_enum hg hm ha.pa hs)) fun σ H Q ⟨B0, Γ, G, sr, po⟩ => ⟨B0, Γ, G, sr, PoI.bind po fun ds vs G1 H1 q g1 dx po1 => by
  have hl := ha.ln Γ ds q
  match ds, hl with
  | [d], _ =>
    cases dx with
    | cons d1 d2 =>
      cases d2
      cases d1 with
      | lst h1 a1 => exact ⟨_, _, rfl, (sq1 g1.s h1), fun zz => po1 _ G1 H1 (Gr.refl g1.s) (itd_enum (.inl (.inl h1)) a1 (zz _ _ (.inl ((sq1 g1.s h1)))))⟩
      | _ => exact po1.elim⟩
/-- zip of two lists, of two tuples -/
def zipL : List PyData → List PyData → List PyData
  | d :: ds, e :: es => .tuple [d, e] :: zipL ds es
  | _, _ => []
theorem zipL_length : ∀ (ds es : List PyData), (zipL ds es).length = min ds.length es.length
  | [], _ => by simp [zipL]
  | _ :: _, [] => by simp [zipL]
  | d :: ds, e :: es => by simp [zipL, zipL_length ds es]
theorem zipL_get : ∀ (ds es : List PyData) (i : Nat) (d e : PyData), ds[i]? = some d → es[i]? = some e → (zipL ds es)[i]? = some (.tuple [d, e])
  | d :: ds, e :: es, 0, _, _, h1, h2 => by simp at h1 h2; subst h1 h2; rfl
  | d :: ds, e :: es, i + 1, x, y, h1, h2 => by
    simp only [zipL, List.getElem?_cons_succ]
    exact zipL_get ds es i x y (by simpa using h1) (by simpa using h2)
  | [], _, i, _, _, h1, _ => by simp at h1
  | _ :: _, [], i, _, _, _, h2 => by simp at h2
def zipD : List PyData → R (List PyData)
  | [.list ds, .list es] => .ok (zipL ds es)
  | [.tuple ds, .tuple es] => .ok (zipL ds es)
  | _ => .no
theorem itd_zip {K : PySem.W.Frag} {G : Hp} {a b : Addr} {xs ys : List V} {ds es : List PyData} (h : SqL K G a xs) (h' : SqL K G b ys) (d : DqAll K G xs ds) (d' : DqAll K G ys es) (z : xs.length ≤ sizeLine) : ItD K (Itz K a b) G (zipL ds es) where
  go := fun i G1 H1 l1 l2 hi => by
    rw [zipL_length] at hi
    have e1 := dpa_len d
    have e2 := dpa_len d'
    exact ⟨xs, ys, xs[i]'(by omega), ys[i]'(by omega), sql_le l2 (sql_le l1 h), sql_le l2 (sql_le l1 h'), by simp, by simp⟩
  stop := fun G1 H1 l1 l2 => by
    have e1 := dpa_len d
    have e2 := dpa_len d'
    exact ⟨xs, ys, sql_le l2 (sql_le l1 h), sql_le l2 (sql_le l1 h'), by rw [zipL_length]; omega⟩
  sz := by rw [zipL_length, ← dpa_len d]; omega
  yld := fun i G1 H1 x H2 e l1 l2 hd ⟨T, y, y', e1, hT, e2, q, q'⟩ => by
    subst e1 e2
    obtain ⟨d1, hd1, dv1⟩ := dpa_get' d (q xs (sql_le l2 (sql_le l1 h)))
    obtain ⟨d2, hd2, dv2⟩ := dpa_get' d' (q' ys (sql_le l2 (sql_le l1 h')))
    rw [zipL_get ds es i d1 d2 hd1 hd2] at hd
    cases hd
    have lu : Le G1 (upd G1 T (.tup [y, y'])) := le_upd (le_none l2 hT)
    exact ⟨_, Gr.new l2 hT, .tup (.inl (.inl upd_same)) (.cons (dp_le lu (dp_le l1 dv1)) (.cons (dp_le lu (dp_le l1 dv2)) .nil))⟩
theorem itd_zipT {K : PySem.W.Frag} {G : Hp} {a b : Addr} {xs ys : List V} {ds es : List PyData} (h : SqT K G a xs) (h' : SqT K G b ys) (d : DqAll K G xs ds) (d' : DqAll K G ys es) (z : xs.length ≤ sizeLine) : ItD K (RZ.ItzT K a b) G (zipL ds es) where
  go := fun i G1 H1 l1 l2 hi => by
    rw [zipL_length] at hi
    have e1 := dpa_len d
    have e2 := dpa_len d'
    exact ⟨xs, ys, xs[i]'(by omega), ys[i]'(by omega), sqt_le l2 (sqt_le l1 h), sqt_le l2 (sqt_le l1 h'), by simp, by simp⟩
  stop := fun G1 H1 l1 l2 => by
    have e1 := dpa_len d
    have e2 := dpa_len d'
    exact ⟨xs, ys, sqt_le l2 (sqt_le l1 h), sqt_le l2 (sqt_le l1 h'), by rw [zipL_length]; omega⟩
  sz := by rw [zipL_length, ← dpa_len d]; omega
  yld := fun i G1 H1 x H2 e l1 l2 hd ⟨T, y, y', e1, hT, e2, q, q'⟩ => by
    subst e1 e2
    obtain ⟨d1, hd1, dv1⟩ := dpa_get' d (q xs (sqt_le l2 (sqt_le l1 h)))
    obtain ⟨d2, hd2, dv2⟩ := dpa_get' d' (q' ys (sqt_le l2 (sqt_le l1 h')))
    rw [zipL_get ds es i d1 d2 hd1 hd2] at hd
    cases hd
    have lu : Le G1 (upd G1 T (.tup [y, y'])) := le_upd (le_none l2 hT)
    exact ⟨_, Gr.new l2 hT, .tup (.inl (.inl upd_same)) (.cons (dp_le lu (dp_le l1 dv1)) (.cons (dp_le lu (dp_le l1 dv2)) .nil))⟩
def mZip (m : Gam → R (List PyData)) : Gam → R (List PyData) := fun Γ => (m Γ).bind zipD
theorem si_zip {a b : Expr} {m : Gam → R (List PyData)} {elts : List Expr} {kk : Nat} {p pos tpos : Pos} (hm : X.mg "zip" = none) (ha : SA X E [a, b] m) (hg : Gl X "zip" := by exact rfl) (hs : starEach [a, b] X.env = (false, eval a X.env) :: starEach [b] X.env := by rfl) (hpl : (backTo pos (starEach [b] X.env)).any (·.1) = false := by rfl) :
    SI X E (.Tuple elts kk tpos) (.Call (.Name "zip" p) [a, b] [] pos) (mZip m) := pi_of (pi_siz (RZ.pi_zipA hg hm ha.pa hs hpl)) fun σ H Q ⟨B0, Γ, G, sr, po⟩ => ⟨B0, Γ, G, sr, PoI.bind po fun ds vs G1 H1 q g1 dx po1 => by
  have hl := ha.ln Γ ds q
  match ds, hl with
  | [d, e], _ =>
    cases dx with
    | cons d1 d2 =>
      cases d2 with
      | cons d2 d3 =>
        cases d3
        cases d1 with
        | lst h1 a1 =>
          cases d2 with
          | lst h2 a2 => exact ⟨_, _, _, _, rfl, .inl ⟨(sq1 g1.s h1), (sq1 g1.s h2), fun zz => po1 _ G1 H1 (Gr.refl g1.s) (itd_zip (.inl (.inl h1)) (.inl (.inl h2)) a1 a2 (zz _ _ (.inl ((sq1 g1.s h1)))))⟩⟩
          | _ => exact po1.elim
        | tup h1 a1 =>
          cases d2 with
          | tup h2 a2 => exact ⟨_, _, _, _, rfl, .inr ⟨sqt_le g1.s h1, sqt_le g1.s h2, fun zz => po1 _ G1 H1 (Gr.refl g1.s) (itd_zipT h1 h2 a1 a2 (zz _ _ (.inr (sqt_le g1.s h1))))⟩⟩
          | _ => exact po1.elim
        | _ => cases d2 <;> exact po1.elim⟩
end

/-! ### targets -/
abbrev Bd := PyData → Gam → Option Gam
def bName (i : Nat) : Bd := fun d Γ => some (Γ.set i (.v d))
def bAll : List Bd → List PyData → Gam → Option Gam
  | [], [], Γ => some Γ
  | b :: bs, d :: ds, Γ => (b d Γ).bind fun Γ1 => bAll bs ds Γ1
  | _, _, _ => none
def bTup (bs : List Bd) : Bd := fun d Γ => match d with
  | .tuple ds => bAll bs ds Γ
  | _ => none
/-- only the slots `is` have changed -/
def Wp (is : List Nat) (σ σ' : L2.St) : Prop := ∀ vs : List Nat, (∀ i ∈ is, i ∈ vs) → wipe σ' vs = wipe σ vs
theorem wipe_get (σ : L2.St) : ∀ (vs : List Nat) (j : Nat), (wipe σ vs)[j]? = if j ∈ vs ∧ j < σ.length then some none else σ[j]?
  | [], j => by simp [wipe]
  | v :: vs, j => by
    unfold wipe
    rw [List.getElem?_set, wipe_length, wipe_get σ vs j]
    by_cases h1 : v = j
    · subst h1
      by_cases h2 : v < σ.length
      · simp [h2]
      · simp [h2, List.getElem?_eq_none (Nat.le_of_not_lt h2)]
    · simp [h1, Ne.symm h1]
theorem wp_set {σ : L2.St} {i : Nat} {x : Option V} : Wp [i] σ (σ.set i x) := fun vs h => by
  apply List.ext_getElem?
  intro j
  rw [wipe_get, wipe_get, List.length_set, List.getElem?_set]
  have hi := h i (by simp)
  by_cases e : i = j
  · subst e
    by_cases l : i < σ.length
    · simp [hi, l]
    · simp [l, List.getElem?_eq_none (Nat.le_of_not_lt l)]
  · simp [e]
theorem Wp.trans {is js : List Nat} {σ σ1 σ2 : L2.St} (a : Wp is σ σ1) (b : Wp js σ1 σ2) : Wp (is ++ js) σ σ2 := fun vs h =>
  (b vs fun i hi => h i (List.mem_append_right _ hi)).trans (a vs fun i hi => h i (List.mem_append_left _ hi))
def tG (K : PySem.W.Frag) (is : List Nat) (b : Bd) : TG := fun v σ H Q => ∃ B Γ G d, SR K B G H σ Γ ∧ Dq K G v d ∧ match b d Γ with
  | some Γ' => ∀ σ', SR K B G H σ' Γ' → Wp is σ σ' → Q σ' H
  | none => False
def tGs (K : PySem.W.Frag) (is : List Nat) (bs : List Bd) : TGs := fun vs σ H Q => ∃ B Γ G ds, SR K B G H σ Γ ∧ DqAll K G vs ds ∧ match bAll bs ds Γ with
  | some Γ' => ∀ σ', SR K B G H σ' Γ' → Wp is σ σ' → Q σ' H
  | none => False
abbrev SG (X : Cx) (tg : Expr) (is : List Nat) (b : Bd) : Prop := PG X tg (tG X.K is b)
structure SGs (X : Cx) (tgs : List Expr) (is : List Nat) (bs : List Bd) : Prop where
  pg : PGs X tgs (tGs X.K is bs)
  ln : bs.length = tgs.length
theorem pg_of {X : Cx} {tg : Expr} {t t' : TG} (h : PG X tg t) (i : ∀ v σ H Q, t' v σ H Q → t v σ H Q) : PG X tg t' := ⟨fun pins s σ H v u Q I r q => h.run pins s σ H v u Q I r (i v σ H Q q)⟩
theorem pgs_of {X : Cx} {tg : List Expr} {t t' : TGs} (h : PGs X tg t) (i : ∀ v σ H Q, t' v σ H Q → t v σ H Q) : PGs X tg t' := ⟨fun pins s σ H v u Q I r q => h.run pins s σ H v u Q I r (i v σ H Q q)⟩
section
variable {X : Cx} {pos : Pos}
theorem sg_name (i : Nat) {x : Str} (hN : X.N.Nodup) (hi : X.N[i]? = some x := by rfl) (hx : Loc X.env.scope x := by first | exact .inl rfl | exact .inr rfl) (hf : X.fn x = true ∨ X.env.scope.names.lookup x = some .local := by first | exact .inl rfl | exact .inr rfl | assumption) : SG X (.Name x pos) [i] (bName i) :=
  pg_of (pg_name hN hi hx hf) fun v σ H Q ⟨B, Γ, G, d, sr, dv, q⟩ => q _ (sr.setV dv) wp_set
theorem sgs_nil : SGs X [] [] [] := ⟨pgs_of pgs_nil fun vs σ H Q ⟨B, Γ, G, ds, sr, dv, q⟩ => by
  cases dv with
  | nil => exact ⟨rfl, q _ sr fun _ _ => rfl⟩
  | cons => exact q.elim, rfl⟩
theorem sgs_cons {e : Expr} {es : List Expr} {b : Bd} {bs : List Bd} {is js : List Nat} (h1 : SG X e is b) (h2 : SGs X es js bs)
    (hs : (assignEach (e :: es) X.env).map (·.2) = assign e X.env :: (assignEach es X.env).map (·.2) := by rfl) : SGs X (e :: es) (is ++ js) (b :: bs) := ⟨pgs_of (pgs_cons h1 h2.pg hs) fun vs σ H Q ⟨B, Γ, G, ds, sr, dv, q⟩ => by
  cases dv with
  | nil => exact q.elim
  | @cons v vs d ds d1 d2 =>
    refine ⟨v, vs, rfl, B, Γ, G, d, sr, d1, ?_⟩
    have q : match (b d Γ).bind fun Γ1 => bAll bs ds Γ1 with
      | some Γ' => ∀ σ', SR X.K B G H σ' Γ' → Wp (is ++ js) σ σ' → Q σ' H
      | none => False := q
    cases e : b d Γ with
    | none => rw [e] at q; exact q.elim
    | some Γ1 =>
      rw [e] at q
      have q : match bAll bs ds Γ1 with
        | some Γ' => ∀ σ', SR X.K B G H σ' Γ' → Wp (is ++ js) σ σ' → Q σ' H
        | none => False := q
      refine fun σ' sr' w1 => ⟨B, Γ1, G, ds, sr', d2, ?_⟩
      cases e2 : bAll bs ds Γ1 with
      | none => rw [e2] at q; exact q.elim
      | some Γ2 =>
        rw [e2] at q
        exact fun σ2 sr2 w2 => q σ2 sr2 (w1.trans w2), by simp [h2.ln]⟩
theorem sg_tup {es : List Expr} {k : Nat} {bs : List Bd} {is : List Nat} (hc : X.calm = true) (h : SGs X es is bs)
    (hn : (assignEach es X.env).length = bs.length := by rfl) (hst : (assignEach es X.env).findIdx? (·.1) = none := by rfl) : SG X (.Tuple es k pos) is (bTup bs) :=
  pg_of (pg_tup hc h.pg hn hst) fun v σ H Q ⟨B, Γ, G, d, sr, dv, q⟩ => by
    cases dv with
    | @tup a xs ds h1 a1 =>
      refine ⟨a, xs, rfl, sqt_le sr.sub h1, ?_, B, Γ, G, ds, sr, a1, q⟩
      rw [dpa_len a1]
      have go : ∀ (bs : List Bd) (ds : List PyData) (Γ : Gam), bAll bs ds Γ ≠ none → ds.length = bs.length := by
        intro bs
        induction bs with
        | nil => intro ds Γ h; cases ds with
          | nil => rfl
          | cons => exact absurd rfl h
        | cons b bs ih => intro ds Γ h; cases ds with
          | nil => exact absurd rfl h
          | cons d ds =>
            cases e : b d Γ with
            | none => simp [bAll, e] at h
            | some Γ1 => simp [bAll, e] at h; simp [ih ds Γ1 h]
      refine go bs ds Γ fun z => ?_
      have q : match bAll bs ds Γ with
        | some Γ' => ∀ σ', SR X.K B G H σ' Γ' → Wp is σ σ' → Q σ' H
        | none => False := q
      rw [z] at q
      exact q
    | _ => exact q.elim
end
end PD

/-! The data layer: comprehensions, statements. -/
namespace PD
open PySem PySem.Spec PyProof.Rows L2

/-! ### a comprehension -/
def wpG (Γ : Gam) : List Nat → Gam
  | [] => Γ
  | v :: vs => (wpG Γ vs).set v .no
@[simp] theorem wpG_nil (Γ : Gam) : wpG Γ [] = Γ := rfl
@[simp] theorem wpG_cons (Γ : Gam) (v : Nat) (vs : List Nat) : wpG Γ (v :: vs) = (wpG Γ vs).set v .no := rfl
def lcGo (b : Bd) (mt : Gam → R Bool) (me : M) (Γ : Gam) : List PyData → R (List PyData)
  | [] => .ok []
  | d :: ds => match b d Γ with
    | none => .no
    | some Γ1 => match mt Γ1 with
      | .ok true => match me Γ1 with
        | .ok y => match lcGo b mt me Γ ds with
          | .ok ys => .ok (y :: ys)
          | _ => .no
        | _ => .no
      | .ok false => lcGo b mt me Γ ds
      | _ => .no
def mLc (own : List Nat) (ms : Gam → R (List PyData)) (b : Bd) (mt : Gam → R Bool) (me : M) : Gam → R (List PyData) := fun Γ => (ms Γ).bind fun ds => lcGo b mt me (wpG Γ own) ds
section
variable {K : PySem.W.Frag} {B G H : Hp} {σ : L2.St} {Γ : Gam}
theorem SR.setN (s : SR K B G H σ Γ) (i : Nat) : SR K B G H (σ.set i none) (Γ.set i .no) := by
  have old : ∀ j, gat (Γ.set i .no) j ≠ .no → j ≠ i ∧ gat (Γ.set i .no) j = gat Γ j ∧ (σ.set i none)[j]? = σ[j]? := fun j h => by
    have ji : j ≠ i := fun e => by
      subst e
      rw [gat_set] at h
      split at h
      · exact h rfl
      · rename_i z
        by_cases l : j < Γ.length
        · exact z ⟨rfl, l⟩
        · exact h (gat_ge (Nat.le_of_not_lt l))
    refine ⟨ji, ?_, List.getElem?_set_ne (Ne.symm ji)⟩
    rw [gat_set, if_neg (fun z => ji z.1)]
  refine ⟨s.sub, by simp [s.len], fun j d h => ?_, fun j ds h => ?_, fun j l ds es p h1 h2 a1 a2 => ?_, fun j ds p h a => ?_, fun j u h => ?_⟩
  · obtain ⟨_, e1, e2⟩ := old j (by rw [h]; simp)
    rw [e2]; exact s.val j d (e1 ▸ h)
  · obtain ⟨_, e1, e2⟩ := old j (by rw [h]; simp)
    rw [e2]; exact s.own j ds (e1 ▸ h)
  · obtain ⟨_, e1, e2⟩ := old j (by rw [h1]; simp)
    obtain ⟨_, e3, e4⟩ := old l (by rw [h2]; simp)
    rw [e2] at a1; rw [e4] at a2
    exact s.inj j l ds es p (e1 ▸ h1) (e3 ▸ h2) a1 a2
  · obtain ⟨_, e1, e2⟩ := old j (by rw [h]; simp)
    rw [e2] at a
    exact s.nw j ds p (e1 ▸ h) a
  · obtain ⟨_, e1, e2⟩ := old j (by rw [h]; simp)
    rw [e2]
    exact s.adr j u (e1 ▸ h)
theorem SR.wipe (s : SR K B G H σ Γ) : ∀ vs : List Nat, SR K B G H (L2.wipe σ vs) (wpG Γ vs)
  | [] => s
  | v :: vs => (SR.wipe s vs).setN v
end
abbrev STs (X : Cx) (E : XK) (ifs : List Expr) (m : Gam → R Bool) : Prop := PTs X ifs (tX X.K RB X.mg E m)
def mT : Gam → R Bool := fun _ => .ok true
theorem pts_of {X : Cx} {e : List Expr} {t t' : TT} (h : PTs X e t) (i : ∀ σ H Q, t' σ H Q → t σ H Q) : PTs X e t' := ⟨fun pins s σ H Q I q => h.run pins s σ H Q I (i σ H Q q)⟩
theorem sts_nil {X : Cx} {E : XK} : STs X E [] mT := pts_of pts_nil fun σ H Q ⟨B, Γ, G, sr, po⟩ => Po.ok (Rl := RB) (d := true) (x := true) po sr.sub rfl
theorem sts_one {X : Cx} {E : XK} {c : Expr} {m : Gam → R Bool} (h : ST X E c m) : STs X E [c] m := pts_one h
theorem lcGo_noex {b : Bd} {mt : Gam → R Bool} {me : M} {Γ : Gam} {c : Str} : ∀ {ds : List PyData}, lcGo b mt me Γ ds ≠ .ex c
  | [], h => by cases h
  | d :: ds, h => by
    unfold lcGo at h
    split at h
    · cases h
    · split at h
      · split at h
        · split at h <;> cases h
        · cases h
      · exact lcGo_noex h
      · cases h
/-- the reading of a comprehension -/
theorem tLc_of {K : PySem.W.Frag} {mg : Str → Option Value} {E : XK} {own is : List Nat} {ms : Gam → R (List PyData)} {b : Bd} {mt : Gam → R Bool} {me : M} {σ : L2.St} {H : Hp} {Q : VK} (his : ∀ i ∈ is, i ∈ own)
    (h : tL K mg E (mLc own ms b mt me) σ H Q) : tLc (tIt K mg E ms) (tG K is b) (tX K RB mg (fun _ _ _ => False) mt) (tX K (Dq K) mg (fun _ _ _ => False) me) own σ H Q := by
  obtain ⟨B, Γ, G, sr, po⟩ := h
  refine ⟨B, Γ, G, sr, ?_⟩
  unfold mLc at po
  cases q : ms Γ with
  | no => rw [q] at po; exact po
  | ex c => rw [q] at po; exact po
  | ok ds =>
    rw [q, R.bind_ok] at po
    intro J G1 H1 g1 it D hD
    have hGD : G1 D = none := le_none g1.s hD
    have hBD : ∀ u, H1 D = some u → False := fun u e => by rw [hD] at e; cases e
    refine ⟨fun i m Hc => m = ds.length - i ∧ i ≤ ds.length ∧ ∃ Gi acc ys zs, SR K B Gi Hc (L2.wipe σ own) (wpG Γ own) ∧ Le G1 Gi ∧ Le H1 Hc ∧ (∀ a, H1 a ≠ none → G1 a = none → Gi a = none) ∧ Gi D = none ∧
      Hc D = some (.lst acc) ∧ DqAll K Gi acc ys ∧ ys.length ≤ i ∧ lcGo b mt me (wpG Γ own) (ds.drop i) = .ok zs ∧ lcGo b mt me (wpG Γ own) ds = .ok (ys ++ zs), ?_, ?_⟩
    · cases e : lcGo b mt me (wpG Γ own) ds with
      | ok zs =>
        exact ⟨ds.length, by simp, Nat.zero_le _, G1, [], [], zs, ((sr.gr g1).gr (Gr.grow g1.s (le_upd hD))).wipe own, fun _ _ z => z, le_upd hD, fun _ _ z => z, hGD, upd_same, .nil, Nat.le_refl _, by simpa using e, by simpa using e⟩
      | ex c => exact absurd e lcGo_noex
      | no => rw [e] at po; exact po.elim
    · rintro i m Hc ⟨rfl, hi, Gi, acc, ys, zs, sri, l1, l2, fr, hgd, hcd, dac, hys, hz, hall⟩
      by_cases hlt : i < ds.length
      · refine .inr ⟨it.go i Gi Hc l1 sri.sub hlt, fun H' => ∃ Gi acc ys zs, SR K B Gi H' (L2.wipe σ own) (wpG Γ own) ∧ Le G1 Gi ∧ Le H1 H' ∧ (∀ a, H1 a ≠ none → G1 a = none → Gi a = none) ∧ Gi D = none ∧
          H' D = some (.lst acc) ∧ DqAll K Gi acc ys ∧ ys.length ≤ i + 1 ∧ lcGo b mt me (wpG Γ own) (ds.drop (i + 1)) = .ok zs ∧ lcGo b mt me (wpG Γ own) ds = .ok (ys ++ zs), fun H' w => ⟨ds.length - (i + 1), by omega, rfl, hlt, w⟩, fun x H' hy => ?_⟩
        obtain ⟨d, hd⟩ : ∃ d, ds[i]? = some d := ⟨ds[i], by simp [hlt]⟩
        have hdrop : ds.drop i = d :: ds.drop (i + 1) := by
          rw [List.drop_eq_getElem_cons hlt]
          have : ds[i] = d := by simpa [hlt] using hd
          rw [this]
        obtain ⟨G2, g2, dx⟩ := it.yld i Gi Hc x H' d l1 sri.sub hd hy
        rw [hdrop] at hz
        unfold lcGo at hz
        refine ⟨B, wpG Γ own, G2, d, sri.gr g2, dx, ?_⟩
        split at hz
        · cases hz
        · rename_i Γ1 eb
          rw [eb]
          intro σ2 sr2 w2
          have hw : L2.wipe σ2 own = L2.wipe σ own := by
            rw [w2 own his]
            apply List.ext_getElem?
            intro j
            rw [wipe_get, wipe_length, wipe_get]
            by_cases h1 : j ∈ own ∧ j < σ.length
            · simp [h1]
            · simp [h1]
          have hww : ∀ {s2 : L2.St}, L2.wipe s2 own = L2.wipe σ own → L2.wipe (L2.wipe σ own) own = L2.wipe σ own := fun _ => by
            apply List.ext_getElem?
            intro j
            rw [wipe_get, wipe_length, wipe_get]
            by_cases h1 : j ∈ own ∧ j < σ.length
            · simp [h1]
            · simp [h1]
          refine ⟨hw, B, Γ1, G2, sr2, ?_⟩
          cases et : mt Γ1 with
          | no => rw [et] at hz; cases hz
          | ex c => rw [et] at hz; cases hz
          | ok k =>
            rw [et] at hz
            intro k' G3 H3 g3 ek
            have ek : k' = k := ek
            subst ek
            have l3 : Le G1 G3 := le_trans l1 (le_trans g2.g g3.g)
            have hl3 : Le H1 H3 := le_trans l2 (le_trans g2.h g3.h)
            have hH2 : H' D = some (.lst acc) := g2.h _ _ hcd
            have hH3 : H3 D = some (.lst acc) := g3.h _ _ hH2
            have hg2 : G2 D = none := g2.fr D (by rw [hcd]; simp) hgd
            have hg3 : G3 D = none := g3.fr D (by rw [hH2]; simp) hg2
            have fr3 : ∀ a, H1 a ≠ none → G1 a = none → G3 a = none := fun a h1 h2 => by
              have n1 : ∀ {Hx : Hp}, Le H1 Hx → Hx a ≠ none := fun {Hx} l z => h1 (le_none l z)
              exact g3.fr a (n1 (le_trans l2 g2.h)) (g2.fr a (n1 l2) (fr a h1 h2))
            cases k' with
            | false =>
              rw [if_neg Bool.false_ne_true]
              exact ⟨G3, acc, ys, zs, (sri.gr g2).gr g3, l3, hl3, fr3, hg3, hH3, dpa_le (le_trans g2.g g3.g) dac, Nat.le_succ_of_le hys, hz, hall⟩
            | true =>
              rw [if_pos rfl]
              refine ⟨B, Γ1, G3, sr2.gr g3, ?_⟩
              dsimp only at hz
              cases ee : me Γ1 with
              | no => rw [ee] at hz; cases hz
              | ex c => rw [ee] at hz; cases hz
              | ok y =>
                rw [ee] at hz
                dsimp only at hz
                intro yv G4 H4 g4 dy
                have hH4 : H4 D = some (.lst acc) := g4.h _ _ hH3
                have hg4 : G4 D = none := g4.fr D (by rw [hH3]; simp) hg3
                have fr4 : ∀ a, H1 a ≠ none → G1 a = none → G4 a = none := fun a h1 h2 => g4.fr a (fun z => h1 (le_none hl3 z)) (fr3 a h1 h2)
                cases ez : lcGo b mt me (wpG Γ own) (ds.drop (i + 1)) with
                | no => rw [ez] at hz; cases hz
                | ex c => rw [ez] at hz; cases hz
                | ok zs' =>
                  rw [ez] at hz
                  cases hz
                  have hsz := it.sz
                  have hal := dpa_len dac
                  have s4 : SR K B G4 H4 (L2.wipe σ own) (wpG Γ own) := ((sri.gr g2).gr g3).gr g4
                  refine ⟨acc, hH4, by omega, G4, acc ++ [yv], ys ++ [y], zs', ⟨fun a u e => ?_, s4.len, s4.val, fun j es z => ?_, s4.inj, s4.nw, s4.adr⟩, le_trans l3 g4.g, fun a u e => ?_, fr4, hg4, upd_same, dpa_append (dpa_le (le_trans (le_trans g2.g g3.g) g4.g) dac) (dpa_one dy), by simp; omega, rfl, by simpa using hall⟩
                  · have ne : a ≠ D := fun z => by subst z; rw [hg4] at e; cases e
                    rw [upd_ne ne]; exact s4.sub a u e
                  · obtain ⟨p, xs, e1, e2, e3, e4⟩ := s4.own j es z
                    obtain ⟨p0, xs0, f1, f2, f3, f4⟩ := (sr.wipe own).own j es z
                    have ep : p = p0 := by rw [e1] at f1; cases f1; rfl
                    have ne : p ≠ D := fun z => by
                      subst ep
                      rw [z] at f2
                      exact hBD _ (g1.h _ _ f2)
                    exact ⟨p, xs, e1, by rw [upd_ne ne]; exact e2, e3, e4⟩
                  · have ne : a ≠ D := fun z => by subst z; exact hBD u e
                    rw [upd_ne ne]; exact g4.h _ _ (hl3 _ _ e)
      · have ei : i = ds.length := by omega
        subst ei
        rw [List.drop_length] at hz
        cases hz
        rw [hall] at po
        rw [List.append_nil] at po
        refine .inl ⟨it.stop Gi Hc l1 sri.sub, ?_⟩
        refine po D acc Gi Hc ⟨le_trans g1.g l1, le_trans g1.h l2, sri.sub, fun a h1 h2 => ?_⟩ (le_none g1.h hD) hcd hgd dac
        exact fr a (fun z => h1 (le_none g1.h z)) (g1.fr a h1 h2)
theorem blkc {N : List Str} {sc scope : Scope} {own : List (Str × Nat)} (h : blkC N sc scope own = true) : blkC N sc scope own = true := h
section
variable {X : Cx} {E : XK}
theorem sl_lc {elt tg iter : Expr} {ifs : List Expr} {scope : Scope} {own : List (Str × Nat)} {is : List Nat} {pos : Pos} {ms : Gam → R (List PyData)} {b : Bd} {mt : Gam → R Bool} {me : M} (hc : X.calm = true) (hN : X.N.Nodup) (hi : SI X E tg iter ms) (ok : blkC X.N X.env.scope scope own = true)
    (hg : ∀ (s : Shared) (H : Hp) (C : Addr) (cl : List (Str × Addr)) (fp : List Addr), SG (X.blk s H scope (compEnvC scope cl C X.env) fp) tg is b) (ht : ∀ (s : Shared) (H : Hp) (C : Addr) (cl : List (Str × Addr)) (fp : List Addr), STs (X.blk s H scope (compEnvC scope cl C X.env) fp) E0 ifs mt)
    (he : ∀ (s : Shared) (H : Hp) (C : Addr) (cl : List (Str × Addr)) (fp : List Addr), SE (X.blk s H scope (compEnvC scope cl C X.env) fp) E0 elt me) (his : ∀ i ∈ is, i ∈ own.map (·.2)) (hs : ∀ x, foldedSetIterable iter X.env x = pure x := by intro _; rfl) :
    SL X E (.ListComp elt [⟨tg, iter, ifs, 0⟩] scope pos) (mLc (own.map (·.2)) ms b mt me) := pe_of (pe_lc hc hN hi (blkOk_by ok) hg ht he hs) fun σ H Q h => tLc_of his h
end
end PD

/-! The data layer: statements. -/
namespace PD
open PySem PySem.Spec PyProof.Rows L2

inductive Out where
  | nx (Γ : Gam)
  | bk (Γ : Gam)
  | ct (Γ : Gam)
  | rt (d : PyData)
  | ex (c : Str)
  | no
abbrev MS := Gam → Out
/-- the state within a def that was entered at (G0, H0) -/
structure SZ (K : PySem.W.Frag) (G0 H0 G H : Hp) (σ : L2.St) (Γ : Gam) : Prop where
  sr : SR K H0 G H σ Γ
  gr : Gr G0 H0 G H
def PoS (K : PySem.W.Frag) (mg : Str → Option Value) (E : XK) (G0 H0 : Hp) (D : Ends) : Out → Prop
  | .nx Γ => ∀ σ' G' H', SZ K G0 H0 G' H' σ' Γ → D.nx σ' H'
  | .bk Γ => ∀ σ' G' H', SZ K G0 H0 G' H' σ' Γ → D.bk σ' H'
  | .ct Γ => ∀ σ' G' H', SZ K G0 H0 G' H' σ' Γ → D.ct σ' H'
  | .rt d => ∀ x G' H', Gr G0 H0 G' H' → Dq K G' x d → D.rt x H'
  | .ex c => ∀ H', Le H0 H' → E (cV mg c) none H'
  | .no => False
def tS (K : PySem.W.Frag) (mg : Str → Option Value) (E : XK) (m : MS) : TS := fun D σ H => ∃ G0 H0 G Γ, SZ K G0 H0 G H σ Γ ∧ PoS K mg E G0 H0 D (m Γ)
abbrev SS (X : Cx) (E : XK) (st : Stmt) (m : MS) : Prop := PS X st (tS X.K X.mg E m)
abbrev SB (X : Cx) (E : XK) (st : List Stmt) (m : MS) : Prop := PSs X st (tS X.K X.mg E m)
theorem ps_of {X : Cx} {st : Stmt} {t t' : TS} (h : PS X st t) (i : ∀ D σ H, t' D σ H → t D σ H) : PS X st t' := ⟨fun pins s σ H D I q => h.run pins s σ H D I (i D σ H q)⟩
theorem pss_of {X : Cx} {st : List Stmt} {t t' : TS} (h : PSs X st t) (i : ∀ D σ H, t' D σ H → t D σ H) : PSs X st t' := ⟨fun pins s σ H D I q => h.run pins s σ H D I (i D σ H q)⟩
section
variable {K : PySem.W.Frag} {mg : Str → Option Value} {G0 H0 G H G' H' : Hp} {σ : L2.St} {Γ : Gam}
theorem SZ.go (s : SZ K G0 H0 G H σ Γ) (g : Gr G H G' H') : SZ K G0 H0 G' H' σ Γ := ⟨s.sr.gr g, s.gr.trans g⟩
theorem SZ.setV (s : SZ K G0 H0 G H σ Γ) {i : Nat} {x : V} {d : PyData} (h : Dq K G x d) : SZ K G0 H0 G H (σ.set i (some x)) (Γ.set i (.v d)) := ⟨s.sr.setV h, s.gr⟩
theorem SZ.fzs (s : SZ K G0 H0 G H σ Γ) (l : List Nat) : ∃ G1, Le G G1 ∧ SZ K G0 H0 G1 H σ (fz l Γ) := by
  obtain ⟨G1, l1, s1, f1⟩ := s.sr.fzs l (Gr.refl s.sr.sub)
  exact ⟨G1, l1, s1, ⟨le_trans s.gr.g l1, s.gr.h, s1.sub, fun a h1 h2 => f1 a h1 (s.gr.fr a h1 h2)⟩⟩
end
/-- a datum without objects of its own -/
def flatD : PyData → Bool
  | .list _ => false
  | .tuple _ => false
  | .dict _ => false
  | _ => true
theorem dq_flat {K : PySem.W.Frag} {G G' : Hp} {v : V} {d : PyData} (h : Dq K G v d) (f : flatD d = true) : Dq K G' v d := by
  cases h with
  | non => exact .non
  | bl b => exact .bl b
  | int i => exact .int i
  | str x => exact .str x
  | lst _ _ => cases f
  | tup _ _ => cases f
  | scr _ => cases f
  | dct _ => cases f
  | dsk _ _ _ _ => cases f
  | dsl _ _ _ _ => cases f
/-- evaluate, the slots l shared for that time; shared for good where the value is an object -/
def mEv (l : List Nat) (m : M) (Γ : Gam) (k : PyData → Gam → Out) : Out := match m (fz l Γ) with
  | .ok d => k d (if flatD d then Γ else fz l Γ)
  | .ex c => .ex c
  | .no => .no
def mEvB (l : List Nat) (m : Gam → R Bool) (Γ : Gam) (k : Bool → Out) : Out := match m (fz l Γ) with
  | .ok b => k b
  | .ex c => .ex c
  | .no => .no
def mEvL (l : List Nat) (m : Gam → R (List PyData)) (Γ : Gam) (k : List PyData → Out) : Out := match m (fz l Γ) with
  | .ok b => k b
  | .ex c => .ex c
  | .no => .no
section
variable {K : PySem.W.Frag} {mg : Str → Option Value} {E : XK} {G0 H0 G H : Hp} {D : Ends} {σ : L2.St} {Γ : Gam}
theorem ev_core {l : List Nat} {m : M} {k : PyData → Gam → Out} (s : SZ K G0 H0 G H σ Γ) (po : PoS K mg E G0 H0 D (mEv l m Γ k)) {Q : VK}
    (q : ∀ x H' d Γ1 G', Le H H' → SZ K G0 H0 G' H' σ Γ1 → Dq K G' x d → PoS K mg E G0 H0 D (k d Γ1) → Q x H') : tX K (Dq K) mg E m σ H Q := by
  obtain ⟨G1, l1, s1⟩ := s.fzs l
  unfold mEv at po
  refine ⟨H0, fz l Γ, G1, s1.sr, ?_⟩
  cases e : m (fz l Γ) with
  | no => rw [e] at po; exact po.elim
  | ex c => rw [e] at po; exact fun H' lh => po H' (le_trans s.gr.h lh)
  | ok d =>
    rw [e] at po
    intro x G2 H2 g2 dx
    cases f : flatD d with
    | true =>
      simp only [f, if_true] at po
      exact q x H2 d Γ G g2.h (s.go (Gr.grow s.sr.sub g2.h)) (dq_flat dx f) po
    | false =>
      simp only [f, Bool.false_eq_true, if_false] at po
      exact q x H2 d (fz l Γ) G2 g2.h (s1.go g2) dx po
theorem ev_coreB {l : List Nat} {m : Gam → R Bool} {k : Bool → Out} (s : SZ K G0 H0 G H σ Γ) (po : PoS K mg E G0 H0 D (mEvB l m Γ k)) {Q : Bool → Hp → Prop}
    (q : ∀ b H', SZ K G0 H0 G H' σ Γ → PoS K mg E G0 H0 D (k b) → Q b H') : tX K RB mg E m σ H Q := by
  obtain ⟨G1, l1, s1⟩ := s.fzs l
  unfold mEvB at po
  refine ⟨H0, fz l Γ, G1, s1.sr, ?_⟩
  cases e : m (fz l Γ) with
  | no => rw [e] at po; exact po.elim
  | ex c => rw [e] at po; exact fun H' lh => po H' (le_trans s.gr.h lh)
  | ok d =>
    rw [e] at po
    intro x G2 H2 g2 dx
    have dx : x = d := dx
    subst dx
    exact q x H2 (s.go (Gr.grow s.sr.sub g2.h)) po
/-- a new list that becomes a slot's own -/
theorem ev_coreL {l : List Nat} {m : Gam → R (List PyData)} {k : List PyData → Out} (s : SZ K G0 H0 G H σ Γ) (po : PoS K mg E G0 H0 D (mEvL l m Γ k)) {Q : VK}
    (q : ∀ p xs H' ds G', SZ K G0 H0 G' H' σ (fz l Γ) → H p = none → H' p = some (.lst xs) → G' p = none → DqAll K G' xs ds → PoS K mg E G0 H0 D (k ds) → Q (.ref p) H') : tL K mg E m σ H Q := by
  obtain ⟨G1, l1, s1⟩ := s.fzs l
  unfold mEvL at po
  refine ⟨H0, fz l Γ, G1, s1.sr, ?_⟩
  cases e : m (fz l Γ) with
  | no => rw [e] at po; exact po.elim
  | ex c => rw [e] at po; exact fun H' lh => po H' (le_trans s.gr.h lh)
  | ok ds =>
    rw [e] at po
    intro p xs G2 H2 g2 hp hp2 hg2 dx
    exact q p xs H2 ds G2 (s1.go g2) hp hp2 hg2 dx po
end

section
variable {X : Cx} {E : XK} {st : Stmt} {rest : List Stmt} {e : Expr} {m : M} {pos : Pos}
/-! ### blocks -/
def mSeq (a b : MS) : MS := fun Γ => match a Γ with
  | .nx Γ1 => b Γ1
  | o => o
def mSkip : MS := fun Γ => .nx Γ
theorem sb_nil : SB X E [] mSkip := pss_of pss_nil fun D σ H ⟨G0, H0, G, Γ, s, po⟩ => po σ G H s
theorem sb_one {a : MS} (h : SS X E st a) : SB X E [st] a := pss_one h
theorem sb_cons {a b : MS} (h1 : SS X E st a) (h2 : SB X E rest b) : SB X E (st :: rest) (mSeq a b) := pss_of (pss_cons h1 h2) fun D σ H ⟨G0, H0, G, Γ, s, po⟩ => ⟨G0, H0, G, Γ, s, by
  unfold mSeq at po
  cases e : a Γ with
  | nx Γ1 => rw [e] at po; exact fun σ' G' H' s' => ⟨G0, H0, G', Γ1, s', po⟩
  | bk Γ1 => rw [e] at po; exact po
  | ct Γ1 => rw [e] at po; exact po
  | rt d => rw [e] at po; exact po
  | ex c => rw [e] at po; exact po
  | no => rw [e] at po; exact po⟩
theorem ss_pass : SS X E (.Pass pos) mSkip := ps_of ps_pass fun D σ H ⟨G0, H0, G, Γ, s, po⟩ => po σ G H s
def mBreak : MS := fun Γ => .bk Γ
def mCont : MS := fun Γ => .ct Γ
theorem ss_break : SS X E (.Break pos) mBreak := ps_of ps_break fun D σ H ⟨G0, H0, G, Γ, s, po⟩ => po σ G H s
theorem ss_continue : SS X E (.Continue pos) mCont := ps_of ps_continue fun D σ H ⟨G0, H0, G, Γ, s, po⟩ => po σ G H s
/-! ### expressions, return, raise -/
def mDo (l : List Nat) (m : M) : MS := fun Γ => mEv l m Γ fun _ Γ1 => .nx Γ1
theorem ss_expr (l : List Nat) (he : SE X E e m) (hs : swapsWith e none pos.line X.env = pure false := by rfl) : SS X E (.Expr e pos) (mDo l m) :=
  ps_of (ps_expr he hs) fun D σ H ⟨G0, H0, G, Γ, s, po⟩ => ev_core s po fun x H' d Γ1 G' _ s1 dx po1 => po1 σ G' H' s1
def mRet (l : List Nat) (m : M) : MS := fun Γ => mEv l m Γ fun d _ => .rt d
theorem ss_ret (l : List Nat) (he : SE X E e m) : SS X E (.Return (some e) pos) (mRet l m) :=
  ps_of (ps_ret he) fun D σ H ⟨G0, H0, G, Γ, s, po⟩ => ev_core s po fun x H' d Γ1 G' _ s1 dx po1 => po1 x G' H' s1.gr dx
def mRaise (c : Str) : MS := fun _ => .ex c
/-- a class of the text over ValueError -/
structure Exn (K : PySem.W.Frag) (mg : Str → Option Value) (c : Str) : Prop where
  ex : ∃ C, mg c = some (.ref C) ∧ PySem.W.excIn K C [.type "ValueError", .type "Exception", .type "BaseException", .type "object"] "ValueError.__new__" = true ∧ PySem.W.keepIn K (.ref C) = true ∧
    PySem.W.subIn K (.ref C) (.type "BaseException") = some true ∧ PySem.W.typeIn K (.ref C) = some (.type "type")
theorem ss_raise {x c : Str} {j : Nat} {p p2 cpos : Pos} (hc : X.calm = true) (tk : Takes X (fun cls d _ H => E cls d H)) (h : Exn X.K X.mg x) (hg : Gl X x := by exact rfl) (hd : (x == ("__debug__" : Str)) = false := by decide) :
    SS X E (.Raise (some (.Call (.Name x p) [.Constant (.str c) j p2] [] cpos)) none pos) (mRaise x) := by
  obtain ⟨C, h1, h2, h3, h4, h5⟩ := h.ex
  refine ps_of (ps_raise hc tk (pmk_own PySem.F.excBase_ValueError h2 h1 h3 (raises_own h4 h5) hg hd)) fun D σ H ⟨G0, H0, G, Γ, s, po⟩ => ?_
  have q := po H s.gr.h
  unfold cV at q
  rw [h1] at q
  exact q
/-! ### stores -/
def mSet (i : Nat) (l : List Nat) (m : M) : MS := fun Γ => mEv l m Γ fun d Γ1 => .nx (Γ1.set i (.v d))
theorem set_core {K mg} {i : Nat} {l : List Nat} {D : Ends} {σ H} (h : tS K mg E (mSet i l m) D σ H) : tAsg (tX K (Dq K) mg E m) (gName i) D σ H := by
  obtain ⟨G0, H0, G, Γ, s, po⟩ := h
  exact ev_core s po fun x H' d Γ1 G' _ s1 dx po1 => po1 _ G' H' (s1.setV dx)
theorem ss_set (i : Nat) (l : List Nat) {x : Str} {p : Pos} (he : SE X E e m) (hN : X.N.Nodup) (hi : X.N[i]? = some x := by rfl) (hx : Loc X.env.scope x := by first | exact .inl rfl | exact .inr rfl) (hs : swapsWith e (some (.Name x p)) pos.line X.env = pure false := by rfl)
    (hf : X.fn x = true ∨ X.env.scope.names.lookup x = some .local := by first | exact .inl rfl | exact .inr rfl | assumption) : SS X E (.Assign [.Name x p] e pos) (mSet i l m) :=
  ps_of (ps_set hN hi hx he hs hf) fun D σ H h => set_core h
def mOwn (i : Nat) (l : List Nat) (m : Gam → R (List PyData)) : MS := fun Γ => mEvL l m Γ fun ds => .nx ((fz l Γ).set i (.own ds))
theorem own_new {K : PySem.W.Frag} {G0 H0 G H G' H' : Hp} {σ : L2.St} {Γ Γ1 : Gam} {i : Nat} {p : Addr} {xs : List V} {ds : List PyData} (s : SZ K G0 H0 G H σ Γ) (s1 : SZ K G0 H0 G' H' σ Γ1) (hp : H p = none) (hp1 : H' p = some (.lst xs)) (hg : G' p = none) (dx : DqAll K G' xs ds)
    (ho : ∀ j es, gat Γ1 j = .own es → gat Γ j = .own es) : SZ K G0 H0 G' H' (σ.set i (some (.ref p))) (Γ1.set i (.own ds)) :=
  ⟨s1.sr.setO hp1 hg (le_none s.gr.h hp) dx (fun j es _ h1 h2 => by
    obtain ⟨p2, xs2, e1, e2, _⟩ := s.sr.own j es (ho j es h1)
    rw [h2] at e1; cases e1
    rw [hp] at e2; cases e2), s1.gr⟩
theorem fz1_own {i j : Nat} {Γ : Gam} {es : List PyData} (h : gat (fz1 i Γ) j = .own es) : gat Γ j = .own es := by
  unfold fz1 at h
  split at h
  · rw [gat_set] at h
    split at h
    · cases h
    · exact h
  · exact h
theorem fz_own : ∀ {l : List Nat} {j : Nat} {Γ : Gam} {es : List PyData}, gat (fz l Γ) j = .own es → gat Γ j = .own es
  | [], _, _, _, h => h
  | i :: r, _, _, _, h => fz1_own (fz_own (l := r) h)
theorem own_core {K mg} {i : Nat} {l : List Nat} {ml : Gam → R (List PyData)} {D : Ends} {σ H} (h : tS K mg E (mOwn i l ml) D σ H) : tAsg (tL K mg E ml) (gName i) D σ H := by
  obtain ⟨G0, H0, G, Γ, s, po⟩ := h
  exact ev_coreL s po fun p xs H' ds G' s1 hp hp1 hg dx po1 => po1 _ G' H' (own_new s s1 hp hp1 hg dx fun j es => fz_own)
theorem ss_own (i : Nat) (l : List Nat) {x : Str} {p : Pos} {ml : Gam → R (List PyData)} (he : SL X E e ml) (hN : X.N.Nodup) (hi : X.N[i]? = some x := by rfl) (hx : Loc X.env.scope x := by first | exact .inl rfl | exact .inr rfl) (hs : swapsWith e (some (.Name x p)) pos.line X.env = pure false := by rfl)
    (hf : X.fn x = true ∨ X.env.scope.names.lookup x = some .local := by first | exact .inl rfl | exact .inr rfl | assumption) : SS X E (.Assign [.Name x p] e pos) (mOwn i l ml) :=
  ps_of (ps_set hN hi hx he hs hf) fun D σ H h => own_core h
section
variable {elt tg iter : Expr} {ifs : List Expr} {scope : Scope} {own : List (Str × Nat)} {is : List Nat} {lpos : Pos} {ms : Gam → R (List PyData)} {b : Bd} {mt : Gam → R Bool} {me : M}
/-- x = [..], a comprehension on that row, x a local name -/
theorem ss_ownLc (i : Nat) (l : List Nat) {x : Str} {p : Pos} (hc : X.calm = true) (hN : X.N.Nodup) (hi : SI X E tg iter ms) (ok : blkC X.N X.env.scope scope own = true)
    (hg : ∀ (s : Shared) (H : Hp) (C : Addr) (cl : List (Str × Addr)) (fp : List Addr), SG (X.blk s H scope (compEnvC scope cl C X.env) fp) tg is b) (ht : ∀ (s : Shared) (H : Hp) (C : Addr) (cl : List (Str × Addr)) (fp : List Addr), STs (X.blk s H scope (compEnvC scope cl C X.env) fp) E0 ifs mt)
    (he : ∀ (s : Shared) (H : Hp) (C : Addr) (cl : List (Str × Addr)) (fp : List Addr), SE (X.blk s H scope (compEnvC scope cl C X.env) fp) E0 elt me) (his : ∀ i ∈ is, i ∈ own.map (·.2))
    (hy : X.N[i]? = some x := by rfl) (hl : X.env.scope.names.lookup x = some .local := by rfl) (hk : X.env.scope.kind = .function := by rfl) (hp : (p.line == lpos.line) = true := by rfl) (ha : (scope.names.any fun (n, k) => n == x && (k == .local || k == .cell)) = false := by rfl)
    (hs : ∀ x, foldedSetIterable iter X.env x = pure x := by intro _; rfl) :
    SS X E (.Assign [.Name x p] (.ListComp elt [⟨tg, iter, ifs, 0⟩] scope lpos) pos) (mOwn i l (mLc (own.map (·.2)) ms b mt me)) :=
  ps_of (ps_setLc hc hN hy hl (sw_true hk hl hp ha) hi (blkOk_by ok) hg ht he hs) fun D σ H h => tLc_of his (own_core h)
theorem ss_setLc (i : Nat) (l : List Nat) {x : Str} {p : Pos} (hc : X.calm = true) (hN : X.N.Nodup) (hi : SI X E tg iter ms) (ok : blkC X.N X.env.scope scope own = true)
    (hg : ∀ (s : Shared) (H : Hp) (C : Addr) (cl : List (Str × Addr)) (fp : List Addr), SG (X.blk s H scope (compEnvC scope cl C X.env) fp) tg is b) (ht : ∀ (s : Shared) (H : Hp) (C : Addr) (cl : List (Str × Addr)) (fp : List Addr), STs (X.blk s H scope (compEnvC scope cl C X.env) fp) E0 ifs mt)
    (he : ∀ (s : Shared) (H : Hp) (C : Addr) (cl : List (Str × Addr)) (fp : List Addr), SE (X.blk s H scope (compEnvC scope cl C X.env) fp) E0 elt me) (his : ∀ i ∈ is, i ∈ own.map (·.2))
    (hy : X.N[i]? = some x := by rfl) (hl : X.env.scope.names.lookup x = some .local := by rfl) (hk : X.env.scope.kind = .function := by rfl) (hp : (p.line == lpos.line) = true := by rfl) (ha : (scope.names.any fun (n, k) => n == x && (k == .local || k == .cell)) = false := by rfl)
    (hs : ∀ x, foldedSetIterable iter X.env x = pure x := by intro _; rfl) :
    SS X E (.Assign [.Name x p] (.ListComp elt [⟨tg, iter, ifs, 0⟩] scope lpos) pos) (mSet i l (mL (mLc (own.map (·.2)) ms b mt me))) :=
  ps_of (ps_setLc hc hN hy hl (sw_true hk hl hp ha) hi (blkOk_by ok) hg ht he hs) fun D σ H h => tLc_of his (by
    obtain ⟨B, Γ, G, sr, po⟩ : tX X.K (Dq X.K) X.mg E (mL (mLc (own.map (·.2)) ms b mt me)) σ H fun x H1 => gName i x σ H1 D.nx := set_core h
    exact ⟨B, Γ, G, sr, pol_share po⟩)
end
/-- a, b = a tuple -/
def mAsg (b : Bd) (l : List Nat) (m : M) : MS := fun Γ => mEv l m Γ fun d Γ1 => match b d Γ1 with
  | some Γ2 => .nx Γ2
  | none => .no
theorem ss_asg (l : List Nat) {tg : Expr} {is : List Nat} {b : Bd} (he : SE X E e m) (hg : SG X tg is b) (hs : swapsWithSole [tg] e pos.line X.env = pure false := by rfl) (hw : swappedStores [tg] e X.env = pure none := by rfl)
    (h1 : (assignEach [tg] X.env).map (·.2) = [assign tg X.env] := by rfl) : SS X E (.Assign [tg] e pos) (mAsg b l m) :=
  ps_of (ps_asg he hg hs hw h1) fun D σ H ⟨G0, H0, G, Γ, s, po⟩ => ev_core s po fun x H' d Γ1 G' _ s1 dx po1 => by
    refine ⟨H0, Γ1, G', d, s1.sr, dx, ?_⟩
    cases e : b d Γ1 with
    | none => rw [e] at po1; exact po1.elim
    | some Γ2 => rw [e] at po1; exact fun σ' sr' _ => po1 σ' G' H' ⟨sr', s1.gr⟩
/-! ### several stores at once -/
inductive Pi where
  | v (m : M)
  | o (m : Gam → R (List PyData))
def mPis : List Pi → Gam → R (List Sl)
  | [], _ => .ok []
  | .v m :: r, Γ => (m Γ).bind fun d => (mPis r Γ).bind fun ss => .ok (.v d :: ss)
  | .o m :: r, Γ => (m Γ).bind fun d => (mPis r Γ).bind fun ss => .ok (.own d :: ss)
/-- how the items lie; those of one's own were made one after another -/
inductive PiAt (K : PySem.W.Frag) (G' H' : Hp) : Hp → List V → List Sl → Prop
  | nil {H : Hp} : PiAt K G' H' H [] []
  | v {H H1 : Hp} {x : V} {d : PyData} {xs : List V} {ss : List Sl} : Dq K G' x d → Le H H1 → PiAt K G' H' H1 xs ss → PiAt K G' H' H (x :: xs) (.v d :: ss)
  | o {H H1 : Hp} {p : Addr} {vs : List V} {ds : List PyData} {xs : List V} {ss : List Sl} : H p = none → H' p = some (.lst vs) → G' p = none → DqAll K G' vs ds → Le H H1 → H1 p ≠ none → PiAt K G' H' H1 xs ss → PiAt K G' H' H (.ref p :: xs) (.own ds :: ss)
theorem PiAt.len {K : PySem.W.Frag} {G' H' H : Hp} {xs : List V} {ss : List Sl} (h : PiAt K G' H' H xs ss) : xs.length = ss.length := by
  induction h with
  | nil => rfl
  | v _ _ _ ih => simp [ih]
  | o _ _ _ _ _ _ _ ih => simp [ih]
theorem PiAt.up {K : PySem.W.Frag} {G' H' H'' H : Hp} {xs : List V} {ss : List Sl} (h : PiAt K G' H' H xs ss) (l : Le H' H'') : PiAt K G' H'' H xs ss := by
  induction h with
  | nil => exact .nil
  | v a b _ ih => exact .v a b ih
  | o a b c d e f _ ih => exact .o a (l _ _ b) c d e f ih
def tPi (K : PySem.W.Frag) (mg : Str → Option Value) (E : XK) (its : List Pi) : TA := fun σ H Q => ∃ B Γ G, SR K B G H σ Γ ∧ match mPis its Γ with
  | .ok ss => ∀ xs G' H', Gr G H G' H' → PiAt K G' H' H xs ss → Q xs H'
  | .ex c => ∀ H', Le H H' → E (cV mg c) none H'
  | .no => False
abbrev SP2 (X : Cx) (E : XK) (es : List Expr) (its : List Pi) : Prop := PA X es (tPi X.K X.mg E its)
theorem sp_nil : SP2 X E [] [] := pa_of pa_nil fun σ H Q ⟨B, Γ, G, sr, po⟩ => po [] G H (Gr.refl sr.sub) .nil
theorem sp_v {es : List Expr} {its : List Pi} (ha : SE X E e m) (hr : SP2 X E es its) (hs : starEach (e :: es) X.env = (false, eval e X.env) :: starEach es X.env := by rfl) : SP2 X E (e :: es) (.v m :: its) :=
  pa_of (pa_cons ha hr hs) fun σ H Q ⟨B, Γ, G, sr, po⟩ => by
    refine ⟨B, Γ, G, sr, ?_⟩
    have po : match (m Γ).bind fun d => (mPis its Γ).bind fun ss => R.ok (Sl.v d :: ss) with
      | .ok ss => ∀ xs G' H', Gr G H G' H' → PiAt X.K G' H' H xs ss → Q xs H'
      | .ex c => ∀ H', Le H H' → E (cV X.mg c) none H'
      | .no => False := po
    cases e1 : m Γ with
    | no => rw [e1] at po; exact po.elim
    | ex c => rw [e1] at po; exact po
    | ok d =>
      rw [e1, R.bind_ok] at po
      intro x G1 H1 g1 dx
      refine ⟨B, Γ, G1, sr.gr g1, ?_⟩
      cases e2 : mPis its Γ with
      | no => rw [e2] at po; exact po.elim
      | ex c => rw [e2] at po; exact fun H' l => po H' (le_trans g1.h l)
      | ok ss => rw [e2] at po; exact fun xs G' H' g2 ha => po (x :: xs) G' H' (g1.trans g2) (.v (dp_le g2.g dx) g1.h ha)
theorem sp_o {es : List Expr} {its : List Pi} {ml : Gam → R (List PyData)} (ha : SL X E e ml) (hr : SP2 X E es its) (hs : starEach (e :: es) X.env = (false, eval e X.env) :: starEach es X.env := by rfl) : SP2 X E (e :: es) (.o ml :: its) :=
  pa_of (pa_cons ha hr hs) fun σ H Q ⟨B, Γ, G, sr, po⟩ => by
    refine ⟨B, Γ, G, sr, ?_⟩
    have po : match (ml Γ).bind fun d => (mPis its Γ).bind fun ss => R.ok (Sl.own d :: ss) with
      | .ok ss => ∀ xs G' H', Gr G H G' H' → PiAt X.K G' H' H xs ss → Q xs H'
      | .ex c => ∀ H', Le H H' → E (cV X.mg c) none H'
      | .no => False := po
    cases e1 : ml Γ with
    | no => rw [e1] at po; exact po.elim
    | ex c => rw [e1] at po; exact po
    | ok d =>
      rw [e1, R.bind_ok] at po
      intro p vs G1 H1 g1 hp hp1 hg dx
      refine ⟨B, Γ, G1, sr.gr g1, ?_⟩
      cases e2 : mPis its Γ with
      | no => rw [e2] at po; exact po.elim
      | ex c => rw [e2] at po; exact fun H' l => po H' (le_trans g1.h l)
      | ok ss => rw [e2] at po; exact fun xs G' H' g2 ha => po (.ref p :: xs) G' H' (g1.trans g2) (.o hp (g2.h _ _ hp1) (g2.fr p (by rw [hp1]; simp) hg) (dpa_le g2.g dx) g1.h (by rw [hp1]; simp) ha)
def gsetAll : List Nat → List Sl → Gam → Gam
  | i :: is, s :: ss, Γ => gsetAll is ss (Γ.set i s)
  | _, _, Γ => Γ
def ssetAll : List Nat → List V → L2.St → L2.St
  | i :: is, x :: xs, σ => ssetAll is xs (σ.set i (some x))
  | _, _, σ => σ
theorem setAll_ok {K : PySem.W.Frag} {B G' H' : Hp} : ∀ (is : List Nat) {H : Hp} {xs : List V} {ss : List Sl} {σ : L2.St} {Γ : Gam}, SR K B G' H' σ Γ → PiAt K G' H' H xs ss → Le B H →
    (∀ j es p, gat Γ j = .own es → σ[j]? = some (some (.ref p)) → H p ≠ none) → SR K B G' H' (ssetAll is xs σ) (gsetAll is ss Γ)
  | [], _, _, _, _, _, s, h, _, _ => by cases h <;> exact s
  | i :: is, H, _, _, σ, Γ, s, h, lb, ho => by
    cases h with
    | nil => exact s
    | @v _ H1 x d xs ss dx l r =>
      refine setAll_ok is (s.setV dx) r (le_trans lb l) fun j es p h1 h2 => ?_
      rw [gat_set] at h1
      split at h1
      · cases h1
      rename_i z
      have hj := gat_lt (Γ := Γ) (i := j) (by rw [h1]; simp)
      have ji : j ≠ i := fun e => by subst e; exact z ⟨rfl, hj⟩
      rw [List.getElem?_set_ne (Ne.symm ji)] at h2
      exact fun q => ho j es p h1 h2 (le_none l q)
    | @o _ H1 p vs ds xs ss hp hp1 hg dx l hp2 r =>
      refine setAll_ok is (s.setO hp1 hg (le_none lb hp) dx fun j es _ h1 h2 => ho j es p h1 h2 hp) r (le_trans lb l) fun j es q h1 h2 => ?_
      rw [gat_set] at h1
      split at h1
      · rename_i z
        obtain ⟨z1, z2⟩ := z
        subst z1
        rw [List.getElem?_set_self (by rw [s.len]; exact z2)] at h2
        cases h2
        exact hp2
      · rename_i z
        have hj := gat_lt (Γ := Γ) (i := j) (by rw [h1]; simp)
        have ji : j ≠ i := fun e => by subst e; exact z ⟨rfl, hj⟩
        rw [List.getElem?_set_ne (Ne.symm ji)] at h2
        exact fun u => ho j es q h1 h2 (le_none l u)
def mPar (is : List Nat) (l : List Nat) (its : List Pi) : MS := fun Γ => match mPis its (fz l Γ) with
  | .ok ss => .nx (gsetAll is ss (fz l Γ))
  | .ex c => .ex c
  | .no => .no
theorem par_core {K mg} {is l : List Nat} {its : List Pi} {D : Ends} {σ H} (h : tS K mg E (mPar is l its) D σ H) :
    tPi K mg E its σ H fun xs H1 => ∀ H2, Le H1 H2 → xs.length = its.length → D.nx (ssetAll is xs σ) H2 := by
  obtain ⟨G0, H0, G, Γ, s, po⟩ := h
  obtain ⟨G1, l1, s1⟩ := s.fzs l
  unfold mPar at po
  refine ⟨H0, fz l Γ, G1, s1.sr, ?_⟩
  cases e : mPis its (fz l Γ) with
  | no => rw [e] at po; exact po.elim
  | ex c => rw [e] at po; exact fun H' lh => po H' (le_trans s.gr.h lh)
  | ok ss =>
    rw [e] at po
    intro xs G2 H1 g2 pa H2 l2 _
    have g3 : Gr G1 H G2 H2 := ⟨g2.g, le_trans g2.h l2, le_trans g2.s l2, g2.fr⟩
    have pa2 : PiAt K G2 H2 H xs ss := pa.up l2
    refine po _ G2 H2 ⟨setAll_ok is (s1.sr.gr g3) pa2 s.gr.h fun j es p h1 h2 => ?_, s1.gr.trans g3⟩
    obtain ⟨p', xs', e1, e2, _⟩ := s1.sr.own j es h1
    rw [h2] at e1; cases e1
    rw [e2]; simp
theorem mPis_len : ∀ {its : List Pi} {Γ : Gam} {ss : List Sl}, mPis its Γ = .ok ss → ss.length = its.length
  | [], _, _, h => by cases h; rfl
  | .v m :: r, Γ, ss, h => by
    unfold mPis at h
    cases e1 : m Γ with
    | ok d =>
      rw [e1, R.bind_ok] at h
      cases e2 : mPis r Γ with
      | ok ss' => rw [e2] at h; cases h; simp [mPis_len e2]
      | ex c => rw [e2] at h; cases h
      | no => rw [e2] at h; cases h
    | ex c => rw [e1] at h; cases h
    | no => rw [e1] at h; cases h
  | .o m :: r, Γ, ss, h => by
    unfold mPis at h
    cases e1 : m Γ with
    | ok d =>
      rw [e1, R.bind_ok] at h
      cases e2 : mPis r Γ with
      | ok ss' => rw [e2] at h; cases h; simp [mPis_len e2]
      | ex c => rw [e2] at h; cases h
      | no => rw [e2] at h; cases h
    | ex c => rw [e1] at h; cases h
    | no => rw [e1] at h; cases h
/-- the number of items is told -/
theorem tPi_len {K mg} {its : List Pi} {σ H} {Q : List V → Hp → Prop} (h : tPi K mg E its σ H fun xs H1 => xs.length = its.length → Q xs H1) : tPi K mg E its σ H Q := by
  obtain ⟨B, Γ, G, sr, po⟩ := h
  refine ⟨B, Γ, G, sr, ?_⟩
  cases e : mPis its Γ with
  | no => rw [e] at po; exact po
  | ex c => rw [e] at po; exact po
  | ok ss => rw [e] at po; exact fun xs G' H' g pa => po xs G' H' g pa (by rw [pa.len, mPis_len e])
theorem tPi_mono {K mg} {its : List Pi} {σ H} {Q Q' : List V → Hp → Prop} (h : tPi K mg E its σ H Q) (i : ∀ xs H1, Q xs H1 → Q' xs H1) : tPi K mg E its σ H Q' := by
  obtain ⟨B, Γ, G, sr, po⟩ := h
  refine ⟨B, Γ, G, sr, ?_⟩
  cases e : mPis its Γ with
  | no => rw [e] at po; exact po
  | ex c => rw [e] at po; exact po
  | ok ss => rw [e] at po; exact fun xs G' H' g pa => i _ _ (po xs G' H' g pa)
theorem ss_par2 (i j : Nat) (l : List Nat) {x y : Str} {a b : Expr} {its : List Pi} {px py pt : Pos} {kt k2 pt2} (hc : X.calm = true) (hN : X.N.Nodup) (ha : SP2 X E [a, b] its) (hl2 : its.length = 2 := by rfl) (hi : X.N[i]? = some x := by rfl) (hj : X.N[j]? = some y := by rfl) (hij : i ≠ j := by decide)
    (hx : X.env.scope.names.lookup x = some .local := by rfl) (hy : X.env.scope.names.lookup y = some .local := by rfl)
    (hw : swappedStores [.Tuple [.Name x px, .Name y py] kt pt] (.Tuple [a, b] k2 pt2) X.env = pure (some [x, y]) := by rfl)
    (hs : swapsWithSole [.Tuple [.Name x px, .Name y py] kt pt] (.Tuple [a, b] k2 pt2) pos.line X.env = pure false := by rfl) :
    SS X E (.Assign [.Tuple [.Name x px, .Name y py] kt pt] (.Tuple [a, b] k2 pt2) pos) (mPar [i, j] l its) :=
  ps_of (ps_par hc hN hi hj hij hx hy ha hw hs) fun D σ H h => tPi_len (tPi_mono (par_core h) fun xs H1 q e => by
    rw [hl2] at e
    match xs, e with
    | [u, v], _ => exact ⟨u, v, rfl, q H1 (fun _ _ z => z) (by rw [hl2]; rfl)⟩)
theorem ss_par3 (i j k : Nat) (l : List Nat) {x y z : Str} {a b c : Expr} {its : List Pi} {px py pz pt : Pos} {kt k2 pt2} (hc : X.calm = true) (hN : X.N.Nodup) (ha : SP2 X E [a, b, c] its) (hl2 : its.length = 3 := by rfl) (hi : X.N[i]? = some x := by rfl) (hj : X.N[j]? = some y := by rfl) (hk : X.N[k]? = some z := by rfl)
    (hij : i ≠ j := by decide) (hik : i ≠ k := by decide) (hjk : j ≠ k := by decide)
    (hx : X.env.scope.names.lookup x = some .local := by rfl) (hy : X.env.scope.names.lookup y = some .local := by rfl) (hz : X.env.scope.names.lookup z = some .local := by rfl)
    (hw : swappedStores [.Tuple [.Name x px, .Name y py, .Name z pz] kt pt] (.Tuple [a, b, c] k2 pt2) X.env = pure (some [x, y, z]) := by rfl)
    (hs : swapsWithSole [.Tuple [.Name x px, .Name y py, .Name z pz] kt pt] (.Tuple [a, b, c] k2 pt2) pos.line X.env = pure false := by rfl) :
    SS X E (.Assign [.Tuple [.Name x px, .Name y py, .Name z pz] kt pt] (.Tuple [a, b, c] k2 pt2) pos) (mPar [i, j, k] l its) :=
  ps_of (ps_par3 hc hN hi hj hk hij hik hjk hx hy hz ha hw hs) fun D σ H h => tPi_len (tPi_mono (par_core h) fun xs H1 q e => by
    rw [hl2] at e
    match xs, e with
    | [u, v, w], _ => exact ⟨u, v, w, rfl, q H1 (fun _ _ z => z) (by rw [hl2]; rfl)⟩)
/-- names, all at their places -/
structure SNs (X : Cx) (tgs : List Expr) (is : List Nat) : Prop where
  pg : PGs X tgs (fun vs σ H Q => vs.length = is.length ∧ Q (ssetAll is vs σ) H)
theorem sns_nil : SNs X [] [] := ⟨pgs_of pgs_nil fun vs σ H Q ⟨e, q⟩ => by
  cases vs with
  | nil => exact ⟨rfl, q⟩
  | cons => cases e⟩
theorem sns_cons (i : Nat) {x : Str} {p : Pos} {es : List Expr} {is : List Nat} (h2 : SNs X es is) (hN : X.N.Nodup) (hi : X.N[i]? = some x := by rfl) (hx : Loc X.env.scope x := by first | exact .inl rfl | exact .inr rfl) (hf : X.fn x = true ∨ X.env.scope.names.lookup x = some .local := by first | exact .inl rfl | exact .inr rfl | assumption)
    (hs : (assignEach (.Name x p :: es) X.env).map (·.2) = assign (.Name x p) X.env :: (assignEach es X.env).map (·.2) := by rfl) : SNs X (.Name x p :: es) (i :: is) := ⟨pgs_of (pgs_cons (pg_name hN hi hx hf) h2.pg hs) fun vs σ H Q ⟨e, q⟩ => by
  cases vs with
  | nil => cases e
  | cons v vs => exact ⟨v, vs, rfl, by simpa using e, q⟩⟩
/-- .. by a tuple (four and more, or a captured name among them) -/
theorem ss_parT (l : List Nat) {is : List Nat} {ts vs : List Expr} {its : List Pi} {pt : Pos} {kt k2 pt2} (hc : X.calm = true) (hg : SNs X ts is) (ha : SP2 X E vs its) (hl2 : its.length = is.length := by rfl) (hz : is.length ≤ 1000 := by decide)
    (hn : (assignEach ts X.env).length = is.length := by rfl) (hst : (assignEach ts X.env).findIdx? (·.1) = none := by rfl)
    (hs : swapsWithSole [.Tuple ts kt pt] (.Tuple vs k2 pt2) pos.line X.env = pure false := by rfl) (hw : swappedStores [.Tuple ts kt pt] (.Tuple vs k2 pt2) X.env = pure none := by rfl)
    (h1 : (assignEach [.Tuple ts kt pt] X.env).map (·.2) = [assign (.Tuple ts kt pt) X.env] := by rfl) : SS X E (.Assign [.Tuple ts kt pt] (.Tuple vs k2 pt2) pos) (mPar is l its) :=
  ps_of (ps_asg (pe_tup ha) (pg_tup hc hg.pg hn hst) hs hw h1) fun D σ H h => tPi_len (tPi_mono (par_core h) fun xs H1 q e => by
    refine ⟨sz_of (by omega), fun p hp => ⟨p, xs, rfl, .inl (.inl upd_same), by omega, by omega, q _ (le_upd hp) e⟩⟩)
/-! ### append, extend -/
def mApp (i : Nat) (l : List Nat) (m : M) : MS := fun Γ => match gat Γ i with
  | .own _ => mEv l m Γ fun d Γ1 => match gat Γ1 i with
    | .own ds => if ds.length < 100000 then .nx (Γ1.set i (.own (ds ++ [d]))) else .no
    | _ => .no
  | _ => .no
theorem own_mut {K : PySem.W.Frag} {G0 H0 G H : Hp} {σ : L2.St} {Γ : Gam} {i : Nat} {p : Addr} {xs ys : List V} {ds es : List PyData} (s : SZ K G0 H0 G H σ Γ) (hi : gat Γ i = .own ds) (hp : σ[i]? = some (some (.ref p))) (d : DqAll K G ys es) :
    SZ K G0 H0 G (upd H p (.lst ys)) σ (Γ.set i (.own es)) := by
  obtain ⟨p', xs', e1, e2, e3, e4⟩ := s.sr.own i ds hi
  rw [hp] at e1; cases e1
  have hil := gat_lt (Γ := Γ) (i := i) (by rw [hi]; simp)
  have hb := s.sr.nw i ds p hi hp
  have sub : Le G (upd H p (.lst ys)) := fun a u e => by
    have ne : a ≠ p := fun z => by subst z; rw [e3] at e; cases e
    rw [upd_ne ne]; exact s.sr.sub a u e
  refine ⟨⟨sub, by simp [s.sr.len], fun j e q => ?_, fun j fs q => ?_, fun j k fs gs u q1 q2 a1 a2 => ?_, fun j fs u q1 a1 => ?_, fun j u q1 => ?_⟩, ⟨s.gr.g, fun a u e => ?_, sub, s.gr.fr⟩⟩
  · rw [gat_set] at q
    split at q
    · cases q
    · exact s.sr.val j e q
  · rw [gat_set] at q
    split at q
    · rename_i z
      obtain ⟨z1, _⟩ := z
      subst z1
      cases q
      exact ⟨p, ys, hp, upd_same, e3, d⟩
    · rename_i z
      obtain ⟨p2, xs2, f1, f2, f3, f4⟩ := s.sr.own j fs q
      have ne : p2 ≠ p := fun e => by
        subst e
        exact z ⟨s.sr.inj j i fs ds p2 q hi f1 hp, hil⟩
      exact ⟨p2, xs2, f1, by rw [upd_ne ne]; exact f2, f3, f4⟩
  · have own : ∀ {j fs}, gat (Γ.set i (.own es)) j = .own fs → ∃ gs, gat Γ j = .own gs := fun {j fs} q => by
      rw [gat_set] at q
      split at q
      · rename_i z
        obtain ⟨z1, _⟩ := z
        subst z1
        exact ⟨_, hi⟩
      · exact ⟨_, q⟩
    obtain ⟨_, h1⟩ := own q1
    obtain ⟨_, h2⟩ := own q2
    exact s.sr.inj j k _ _ u h1 h2 a1 a2
  · rw [gat_set] at q1
    split at q1
    · rename_i z
      obtain ⟨z1, _⟩ := z
      subst z1
      rw [hp] at a1; cases a1
      exact hb
    · exact s.sr.nw j fs u q1 a1
  · rw [gat_set] at q1
    split at q1
    · cases q1
    · exact s.sr.adr j u q1
  · have ne : a ≠ p := fun z => by subst z; rw [hb] at e; cases e
    rw [upd_ne ne]; exact s.gr.h a u e
theorem ss_app (i : Nat) (l : List Nat) {x : Str} {p ap cp : Pos} (he : SE X E e m) (hN : X.N[i]? = some x := by rfl) (hv : Vis X.env.scope x := by first | exact Or.inl rfl | exact Or.inr (Or.inl rfl) | exact Or.inr (Or.inr rfl)) (hd : (x == ("__debug__" : Str)) = false := by decide) (hcd : (x == ("__classdict__" : Str)) = false := by decide)
    (hbase : attributeBase (.Name x p) "append" X.env (eval (.Name x p) X.env) = eval (.Name x p) X.env := by rfl)
    (hfew : ((backTo cp (starEach [e] X.env)).all (fun x => !x.1) && (backToKw cp (keywordEach [] X.env)).all (fun x => x.1.isSome)
      && decide ([e].length + ([] : List Keyword).length + (if ([] : List Keyword).isEmpty then 0 else 1) < 30)) = true := by rfl)
    (hline : (ap.endLine == cp.line) = true := by rfl) (hst : starEach [e] X.env = (false, eval e X.env) :: starEach [] X.env := by rfl) (hplain : (backTo cp (starEach [] X.env)).any (·.1) = false := by rfl)
    (hs : swapsWith (.Call (.Attribute (.Name x p) "append" ap) [e] [] cp) none pos.line X.env = pure false := by rfl) : SS X E (.Expr (.Call (.Attribute (.Name x p) "append" ap) [e] [] cp) pos) (mApp i l m) :=
  ps_of (ps_expr (pe_bm PySem.F.plainAttrs_list PySem.F.slot_list_append PySem.F.type_list_append mt_append (pe_var (i := i) hN hv hd hcd) (pa_cons he pa_nil hst) hbase hfew hline hst hplain) hs) fun D σ H ⟨G0, H0, G, Γ, s, po⟩ => by
    unfold mApp at po
    cases hi : gat Γ i with
    | no => rw [hi] at po; exact po.elim
    | ad _ => rw [hi] at po; exact po.elim
    | v d => rw [hi] at po; exact po.elim
    | own ds =>
      rw [hi] at po
      obtain ⟨a, xs, e1, e2, e3, e4⟩ := s.sr.own i ds hi
      refine ⟨.ref a, e1, .inl ⟨rfl, xs, .inl (.inl e2)⟩, ev_core s po fun x H1 d Γ1 G1 lh s1 dx po1 => ?_⟩
      split at po1
      · rename_i ds1 h1
        split at po1
        · rename_i hz
          obtain ⟨a', xs', f1, f2, f3, f4⟩ := s1.sr.own i ds1 h1
          rw [e1] at f1; cases f1
          refine ⟨a, xs', x, rfl, rfl, f2, Nat.lt_of_lt_of_le (by rw [dpa_len f4]; exact hz) (by decide : 100000 ≤ sizeLine), ?_⟩
          exact po1 σ G1 _ (own_mut (xs := xs') s1 h1 e1 (dpa_append f4 (dpa_one dx)))
        · exact po1.elim
      · exact po1.elim
def mExt (i : Nat) (l : List Nat) (m : M) : MS := fun Γ => match gat Γ i with
  | .own _ => mEv l m Γ fun d Γ1 => match gat Γ1 i, d with
    | .own ds, .list es => if ds.length + es.length ≤ 100000 then .nx (Γ1.set i (.own (ds ++ es))) else .no
    | _, _ => .no
  | _ => .no
theorem ss_ext (i : Nat) (l : List Nat) {x : Str} {p ap cp : Pos} (he : SE X E e m) (hN : X.N[i]? = some x := by rfl) (hv : Vis X.env.scope x := by first | exact Or.inl rfl | exact Or.inr (Or.inl rfl) | exact Or.inr (Or.inr rfl)) (hd : (x == ("__debug__" : Str)) = false := by decide) (hcd : (x == ("__classdict__" : Str)) = false := by decide)
    (hbase : attributeBase (.Name x p) "extend" X.env (eval (.Name x p) X.env) = eval (.Name x p) X.env := by rfl)
    (hfew : ((backTo cp (starEach [e] X.env)).all (fun x => !x.1) && (backToKw cp (keywordEach [] X.env)).all (fun x => x.1.isSome)
      && decide ([e].length + ([] : List Keyword).length + (if ([] : List Keyword).isEmpty then 0 else 1) < 30)) = true := by rfl)
    (hline : (ap.endLine == cp.line) = true := by rfl) (hst : starEach [e] X.env = (false, eval e X.env) :: starEach [] X.env := by rfl) (hplain : (backTo cp (starEach [] X.env)).any (·.1) = false := by rfl)
    (hs : swapsWith (.Call (.Attribute (.Name x p) "extend" ap) [e] [] cp) none pos.line X.env = pure false := by rfl) : SS X E (.Expr (.Call (.Attribute (.Name x p) "extend" ap) [e] [] cp) pos) (mExt i l m) :=
  ps_of (ps_expr (pe_bm PySem.F.plainAttrs_list PySem.F.slot_list_extend PySem.F.type_list_extend mt_extend (pe_var (i := i) hN hv hd hcd) (pa_cons he pa_nil hst) hbase hfew hline hst hplain) hs) fun D σ H ⟨G0, H0, G, Γ, s, po⟩ => by
    unfold mExt at po
    cases hi : gat Γ i with
    | no => rw [hi] at po; exact po.elim
    | ad _ => rw [hi] at po; exact po.elim
    | v d => rw [hi] at po; exact po.elim
    | own ds =>
      rw [hi] at po
      obtain ⟨a, xs, e1, e2, e3, e4⟩ := s.sr.own i ds hi
      refine ⟨.ref a, e1, .inl ⟨rfl, xs, .inl (.inl e2)⟩, ev_core s po fun x H1 d Γ1 G1 lh s1 dx po1 => ?_⟩
      split at po1
      · rename_i ds1 es h1
        split at po1
        · rename_i hz
          obtain ⟨a', xs', f1, f2, f3, f4⟩ := s1.sr.own i ds1 h1
          rw [e1] at f1; cases f1
          cases dx with
          | @lst b zs _ hb ab =>
            refine ⟨a, b, xs', zs, rfl, rfl, f2, s1.sr.sub _ _ hb, Nat.le_trans (by rw [dpa_len f4, dpa_len ab]; exact hz) (by decide : 100000 ≤ sizeLine), ?_⟩
            exact po1 σ G1 _ (own_mut (xs := xs') s1 h1 e1 (dpa_append f4 ab))
        · exact po1.elim
      · exact po1.elim
/-! ### if, while, for -/
def mIfS (l : List Nat) (t : Gam → R Bool) (a b : MS) : MS := fun Γ => mEvB l t Γ fun c => if c = true then a Γ else b Γ
theorem ss_if (l : List Nat) {c : Expr} {a b : List Stmt} {t : Gam → R Bool} {ma mb : MS} (hc : ST X E c t) (ha : SB X E a ma) (hb : SB X E b mb) : SS X E (.If c a b pos) (mIfS l t ma mb) :=
  ps_of (ps_if hc ha hb) fun D σ H ⟨G0, H0, G, Γ, s, po⟩ => ev_coreB s po fun c H' s1 po1 => by
    cases c with
    | true => exact ⟨G0, H0, G, Γ, s1, po1⟩
    | false => exact ⟨G0, H0, G, Γ, s1, po1⟩
def mWh (l : List Nat) (t : Gam → R Bool) (b : MS) : Nat → MS
  | 0, _ => .no
  | n + 1, Γ => mEvB l t Γ fun c => if c = true then (match b Γ with
    | .nx Γ1 => mWh l t b n Γ1
    | .ct Γ1 => mWh l t b n Γ1
    | .bk Γ1 => .nx Γ1
    | o => o) else .nx Γ
theorem ss_while (n : Nat) (l : List Nat) {c : Expr} {body : List Stmt} {t : Gam → R Bool} {mb : MS} (hp : PassesOwn (model X.prog X.w) X.A X.env X.xe) (hc : ST X E c t) (hb : SB X E body mb) : SS X E (.While c body [] pos) (mWh l t mb n) :=
  ps_of (ps_while hp hc hb) fun D σ H ⟨G0, H0, G, Γ, s, po⟩ => by
    refine ⟨fun k σ H => ∃ G Γ, SZ X.K G0 H0 G H σ Γ ∧ PoS X.K X.mg E G0 H0 D (mWh l t mb k Γ), ⟨n, G, Γ, s, po⟩, ?_⟩
    rintro k σ1 H1 ⟨G1, Γ1, s1, po1⟩
    cases k with
    | zero => exact po1.elim
    | succ k =>
      refine ev_coreB s1 po1 fun c H' s2 po2 => ?_
      cases c with
      | false => exact po2 σ1 G1 H' s2
      | true =>
        refine ⟨fun σ H => ∃ G Γ, SZ X.K G0 H0 G H σ Γ ∧ PoS X.K X.mg E G0 H0 D (mWh l t mb k Γ), fun σ' H' w => ⟨k, Nat.lt_succ_self k, w⟩, G0, H0, G1, Γ1, s2, ?_⟩
        rw [if_pos rfl] at po2
        cases q : mb Γ1 with
        | nx Γ2 => rw [q] at po2; exact fun σ' G' H' s' => ⟨G', Γ2, s', po2⟩
        | ct Γ2 => rw [q] at po2; exact fun σ' G' H' s' => ⟨G', Γ2, s', po2⟩
        | bk Γ2 => rw [q] at po2; exact po2
        | rt d => rw [q] at po2; exact po2
        | ex c => rw [q] at po2; exact po2
        | no => rw [q] at po2; exact po2
def forGo (b : Bd) (body : MS) : List PyData → MS
  | [], Γ => .nx Γ
  | d :: ds, Γ => match b d Γ with
    | none => .no
    | some Γ1 => match body Γ1 with
      | .nx Γ2 => forGo b body ds Γ2
      | .ct Γ2 => forGo b body ds Γ2
      | .bk Γ2 => .nx Γ2
      | o => o
def mFor (l : List Nat) (ms : Gam → R (List PyData)) (b : Bd) (body : MS) : MS := fun Γ => mEvL l ms Γ fun ds => forGo b body ds (fz l Γ)
theorem ss_for (l : List Nat) {tg iter : Expr} {body : List Stmt} {is : List Nat} {ms : Gam → R (List PyData)} {b : Bd} {mb : MS} (hp : PassesOwn (model X.prog X.w) X.A X.env X.xe) (hc : X.calm = true) (hi : SI X E tg iter ms) (hg : SG X tg is b) (hb : SB X E body mb)
    (hs : ∀ x, foldedSetIterable iter X.env x = pure x := by intro _; rfl) : SS X E (.For tg iter body [] pos) (mFor l ms b mb) :=
  ps_of (ps_for hp hc hi hg hb hs) fun D σ H ⟨G0, H0, G, Γ, s, po⟩ => by
    obtain ⟨G1, l1, s1⟩ := s.fzs l
    unfold mFor mEvL at po
    refine ⟨H0, fz l Γ, G1, s1.sr, ?_⟩
    cases q : ms (fz l Γ) with
    | no => rw [q] at po; exact po.elim
    | ex c => rw [q] at po; exact fun H' lh => po H' (le_trans s.gr.h lh)
    | ok ds =>
      rw [q] at po
      intro J G2 H2 g2 it
      refine ⟨fun i m σ H => m = ds.length - i ∧ i ≤ ds.length ∧ ∃ G Γ, SZ X.K G0 H0 G H σ Γ ∧ Le G2 G ∧ PoS X.K X.mg E G0 H0 D (forGo b mb (ds.drop i) Γ), ⟨ds.length, by simp, Nat.zero_le _, G2, fz l Γ, s1.go g2, fun _ _ z => z, by simpa using po⟩, ?_⟩
      rintro i m σ3 H3 ⟨rfl, hi, G3, Γ3, s3, l3, po3⟩
      by_cases hlt : i < ds.length
      · obtain ⟨d, hd⟩ : ∃ d, ds[i]? = some d := ⟨ds[i], by simp [hlt]⟩
        have hdrop : ds.drop i = d :: ds.drop (i + 1) := by
          rw [List.drop_eq_getElem_cons hlt]
          have : ds[i] = d := by simpa [hlt] using hd
          rw [this]
        rw [hdrop] at po3
        unfold forGo at po3
        refine .inr ⟨it.go i G3 H3 l3 s3.sr.sub hlt, fun σ H => ∃ G Γ, SZ X.K G0 H0 G H σ Γ ∧ Le G2 G ∧ PoS X.K X.mg E G0 H0 D (forGo b mb (ds.drop (i + 1)) Γ), fun σ' H' w => ⟨ds.length - (i + 1), by omega, rfl, hlt, w⟩, fun x H' hy => ?_⟩
        obtain ⟨G4, g4, dx⟩ := it.yld i G3 H3 x H' d l3 s3.sr.sub hd hy
        have s4 := s3.go g4
        refine ⟨H0, Γ3, G4, d, s4.sr, dx, ?_⟩
        cases eb : b d Γ3 with
        | none => rw [eb] at po3; exact po3.elim
        | some Γ5 =>
          rw [eb] at po3
          dsimp only at po3
          have gb := (s1.go g2).gr
          have up : ∀ {G H : Hp}, Gr G2 H0 G H → Gr G0 H0 G H := fun {G H} g => ⟨le_trans gb.g g.g, g.h, g.s, fun a h1 h2 => g.fr a h1 (gb.fr a h1 h2)⟩
          refine fun σ' sr' _ => ⟨G2, H0, G4, Γ5, ⟨sr', le_trans l3 g4.g, s4.gr.h, s4.gr.s, fun a h1 h2 => s4.gr.fr a h1 (le_none gb.g h2)⟩, ?_⟩
          cases q2 : mb Γ5 with
          | nx Γ6 => rw [q2] at po3; exact fun σ' G' H' s' => ⟨G', Γ6, ⟨s'.sr, up s'.gr⟩, s'.gr.g, po3⟩
          | ct Γ6 => rw [q2] at po3; exact fun σ' G' H' s' => ⟨G', Γ6, ⟨s'.sr, up s'.gr⟩, s'.gr.g, po3⟩
          | bk Γ6 => rw [q2] at po3; exact fun σ' G' H' s' => po3 σ' G' H' ⟨s'.sr, up s'.gr⟩
          | rt d => rw [q2] at po3; exact fun x G' H' g dx => po3 x G' H' (up g) dx
          | ex c => rw [q2] at po3; exact po3
          | no => rw [q2] at po3; exact po3
      · have ei : i = ds.length := by omega
        subst ei
        rw [List.drop_length] at po3
        exact .inl ⟨it.stop G3 H3 l3 s3.sr.sub, po3 σ3 G3 H3 s3⟩
end
end PD

/-! The data layer: built-ins, slices, methods, a def. -/
namespace PD
open PySem PySem.Spec PyProof.Rows L2

section
variable {X : Cx} {E : XK}
/-! ### built-ins -/
def dLen : List PyData → R PyData
  | [.str z] => if z.length ≤ 100000 then .ok (.int (z.length : Nat)) else .no
  | [.list ds] => .ok (.int (ds.length : Nat))
  | [.dict ((.none, _) :: _)] => .no
  | [.dict ((.bool _, _) :: _)] => .no
  | [.dict kvs] => .ok (.int (kvs.length : Nat))
  | [.tuple ds] => .ok (.int (ds.length : Nat))
  | _ => .no
theorem cd_len : CD X E (.builtin "len") dLen := cd_of (call_len_str.or call_len_seq) fun G H vs ds Q sz l dx po => by
  cases dx with
  | nil => exact po.elim
  | cons d1 d2 =>
    cases d2 with
    | nil =>
      cases d1 with
      | str z =>
        replace po : Po (Dq X.K) X.mg E G H Q (if z.length ≤ 100000 then .ok (.int (z.length : Nat)) else .no) := po
        split at po
        · rename_i h
          exact .inl ⟨z, rfl, sz_of h, Po.ok (d := PyData.int (z.length : Nat)) po l (.int _)⟩
        · exact po.elim
      | @lst a xs es h1 a1 =>
        refine .inr ⟨a, xs, rfl, .inl ((sq1 l h1)), ?_⟩
        rw [dpa_len a1]
        exact Po.ok (d := PyData.int (es.length : Nat)) po l (.int _)
      | @scr a ns h1 =>
        refine .inr ⟨a, _, rfl, .inl (sql_le l h1), ?_⟩
        have e : (ns.map V.int).length = (ns.map fun n => (PyData.int n, PyData.none)).length := by simp
        rw [e]
        replace po : Po (Dq X.K) X.mg E G H Q (.ok (.int ((ns.map fun n => (PyData.int n, PyData.none)).length : Nat))) := by
          cases ns <;> exact po
        exact Po.ok (d := PyData.int _) po l (.int _)
      | @tup a xs es h1 a1 =>
        refine .inr ⟨a, xs, rfl, .inr (sqt_le l h1), ?_⟩
        rw [dpa_len a1]
        exact Po.ok (d := PyData.int (es.length : Nat)) po l (.int _)
      | _ => exact po.elim
    | cons =>
      cases d1 with
      | @scr a ns h1 => cases ns <;> exact po.elim
      | _ => exact po.elim
def intsOf : List PyData → Option (List Int)
  | [] => some []
  | .int i :: r => (intsOf r).map (i :: ·)
  | _ => none
def boolsOf : List PyData → Option (List Bool)
  | [] => some []
  | .bool i :: r => (boolsOf r).map (i :: ·)
  | _ => none
def strsOf : List PyData → Option (List Str)
  | [] => some []
  | .str i :: r => (strsOf r).map (i :: ·)
  | _ => none
theorem intsOf_eq : ∀ {ds : List PyData} {ns : List Int}, intsOf ds = some ns → ds = ns.map PyData.int
  | [], ns, h => by cases h; rfl
  | .int i :: r, ns, h => by
    unfold intsOf at h
    cases e : intsOf r with
    | none => rw [e] at h; cases h
    | some ms => rw [e] at h; cases h; rw [intsOf_eq e]; rfl
  | .none :: _, _, h => by cases h
  | .bool _ :: _, _, h => by cases h
  | .str _ :: _, _, h => by cases h
  | .list _ :: _, _, h => by cases h
  | .tuple _ :: _, _, h => by cases h
  | .dict _ :: _, _, h => by cases h
@[simp] theorem intsOf_map : ∀ ns : List Int, intsOf (ns.map PyData.int) = some ns
  | [] => rfl
  | n :: ns => by simp [intsOf, intsOf_map ns]
theorem boolsOf_eq : ∀ {ds : List PyData} {ns : List Bool}, boolsOf ds = some ns → ds = ns.map PyData.bool
  | [], ns, h => by cases h; rfl
  | .bool i :: r, ns, h => by
    unfold boolsOf at h
    cases e : boolsOf r with
    | none => rw [e] at h; cases h
    | some ms => rw [e] at h; cases h; rw [boolsOf_eq e]; rfl
  | .none :: _, _, h => by cases h
  | .int _ :: _, _, h => by cases h
  | .str _ :: _, _, h => by cases h
  | .list _ :: _, _, h => by cases h
  | .tuple _ :: _, _, h => by cases h
  | .dict _ :: _, _, h => by cases h
@[simp] theorem boolsOf_map : ∀ ns : List Bool, boolsOf (ns.map PyData.bool) = some ns
  | [] => rfl
  | n :: ns => by simp [boolsOf, boolsOf_map ns]
theorem strsOf_eq : ∀ {ds : List PyData} {ns : List Str}, strsOf ds = some ns → ds = ns.map PyData.str
  | [], ns, h => by cases h; rfl
  | .str i :: r, ns, h => by
    unfold strsOf at h
    cases e : strsOf r with
    | none => rw [e] at h; cases h
    | some ms => rw [e] at h; cases h; rw [strsOf_eq e]; rfl
  | .none :: _, _, h => by cases h
  | .int _ :: _, _, h => by cases h
  | .bool _ :: _, _, h => by cases h
  | .list _ :: _, _, h => by cases h
  | .tuple _ :: _, _, h => by cases h
  | .dict _ :: _, _, h => by cases h
@[simp] theorem strsOf_map : ∀ ns : List Str, strsOf (ns.map PyData.str) = some ns
  | [] => rfl
  | n :: ns => by simp [strsOf, strsOf_map ns]
/-- the greatest, the least int -/
def maxI (n : Int) : List Int → Int
  | [] => n
  | m :: r => maxI (if n < m then m else n) r
def minI (n : Int) : List Int → Int
  | [] => n
  | m :: r => minI (if m < n then m else n) r
theorem maxI_spec : ∀ (r : List Int) (n : Int), (maxI n r = n ∨ maxI n r ∈ r) ∧ n ≤ maxI n r ∧ ∀ y ∈ r, y ≤ maxI n r
  | [], n => ⟨.inl rfl, Int.le_refl _, by simp⟩
  | m :: r, n => by
    obtain ⟨h1, h2, h3⟩ := maxI_spec r (if n < m then m else n)
    unfold maxI
    refine ⟨?_, ?_, fun y hy => ?_⟩
    · rcases h1 with h1 | h1
      · rw [h1]; split <;> simp
      · exact .inr (List.mem_cons_of_mem _ h1)
    · refine Int.le_trans ?_ h2; split <;> omega
    · rcases List.mem_cons.mp hy with rfl | hy
      · refine Int.le_trans ?_ h2; split <;> omega
      · exact h3 y hy
theorem minI_spec : ∀ (r : List Int) (n : Int), (minI n r = n ∨ minI n r ∈ r) ∧ minI n r ≤ n ∧ ∀ y ∈ r, minI n r ≤ y
  | [], n => ⟨.inl rfl, Int.le_refl _, by simp⟩
  | m :: r, n => by
    obtain ⟨h1, h2, h3⟩ := minI_spec r (if m < n then m else n)
    unfold minI
    refine ⟨?_, ?_, fun y hy => ?_⟩
    · rcases h1 with h1 | h1
      · rw [h1]; split <;> simp
      · exact .inr (List.mem_cons_of_mem _ h1)
    · refine Int.le_trans h2 ?_; split <;> omega
    · rcases List.mem_cons.mp hy with rfl | hy
      · refine Int.le_trans h2 ?_; split <;> omega
      · exact h3 y hy
def dMax : List PyData → R PyData
  | [.int i, .int j] => .ok (.int (if j > i then j else i))
  | [.list ds] => match intsOf ds with
    | some (n :: ns) => .ok (.int (maxI n ns))
    | _ => .no
  | _ => .no
theorem cd_max (hc : X.calm = true) : CD X E (.builtin "max") dMax := cd_of ((call_max2 hc).or (cr_max hc)) fun G H vs ds Q sz l dx po => by
  cases dx with
  | nil => exact po.elim
  | cons d1 d2 =>
    cases d2 with
    | nil =>
      cases d1 with
      | @lst a xs es h1 a1 =>
        replace po : Po (Dq X.K) X.mg E G H Q (match intsOf es with
          | some (n :: ns) => .ok (.int (maxI n ns))
          | _ => .no) := po
        split at po
        · rename_i n ns e
          have e := intsOf_eq e
          subst e
          have := dpa_ints a1; subst this
          refine .inr ⟨a, n :: ns, rfl, (sq1 l h1), by simp, fun m hm hy => ?_⟩
          obtain ⟨q1, q2, q3⟩ := maxI_spec ns n
          have : m = maxI n ns := by
            have a1 : maxI n ns ≤ m := by
              rcases q1 with q1 | q1
              · rw [q1]; exact hy n (by simp)
              · exact hy _ (List.mem_cons_of_mem _ q1)
            have a2 : m ≤ maxI n ns := by
              rcases List.mem_cons.mp hm with rfl | hm
              · exact q2
              · exact q3 m hm
            omega
          rw [this]
          exact Po.ok (d := PyData.int (maxI n ns)) po l (.int _)
        · exact po.elim
      | _ => exact po.elim
    | cons d2 d3 =>
      cases d3 with
      | nil =>
        cases d1 with
        | int i =>
          cases d2 with
          | int j => exact .inl ⟨i, j, rfl, Po.ok (d := PyData.int (if j > i then j else i)) po l (Dq.int _)⟩
          | _ => exact po.elim
        | _ => cases d2 <;> exact po.elim
      | cons d3 d4 => cases d1 <;> cases d2 <;> exact po.elim
def dMin : List PyData → R PyData
  | [.int i, .int j] => .ok (.int (if j < i then j else i))
  | [.list ds] => match intsOf ds with
    | some (n :: ns) => .ok (.int (minI n ns))
    | _ => .no
  | _ => .no
theorem cd_min (hc : X.calm = true) : CD X E (.builtin "min") dMin := cd_of ((call_min2 hc).or (cr_min hc)) fun G H vs ds Q sz l dx po => by
  cases dx with
  | nil => exact po.elim
  | cons d1 d2 =>
    cases d2 with
    | nil =>
      cases d1 with
      | @lst a xs es h1 a1 =>
        replace po : Po (Dq X.K) X.mg E G H Q (match intsOf es with
          | some (n :: ns) => .ok (.int (minI n ns))
          | _ => .no) := po
        split at po
        · rename_i n ns e
          have e := intsOf_eq e
          subst e
          have := dpa_ints a1; subst this
          refine .inr ⟨a, n :: ns, rfl, (sq1 l h1), by simp, fun m hm hy => ?_⟩
          obtain ⟨q1, q2, q3⟩ := minI_spec ns n
          have : m = minI n ns := by
            have a1 : m ≤ minI n ns := by
              rcases q1 with q1 | q1
              · rw [q1]; exact hy n (by simp)
              · exact hy _ (List.mem_cons_of_mem _ q1)
            have a2 : minI n ns ≤ m := by
              rcases List.mem_cons.mp hm with rfl | hm
              · exact q2
              · exact q3 m hm
            omega
          rw [this]
          exact Po.ok (d := PyData.int (minI n ns)) po l (.int _)
        · exact po.elim
      | _ => exact po.elim
    | cons d2 d3 =>
      cases d3 with
      | nil =>
        cases d1 with
        | int i =>
          cases d2 with
          | int j => exact .inl ⟨i, j, rfl, Po.ok (d := PyData.int (if j < i then j else i)) po l (Dq.int _)⟩
          | _ => exact po.elim
        | _ => cases d2 <;> exact po.elim
      | cons d3 d4 => cases d1 <;> cases d2 <;> exact po.elim
/-- a rule for one list -/
theorem one_list {f : Value} {g : List PyData → R PyData} {r : List V → Hp → VK → Prop} (h : CallR X f r)
    (h0 : ∀ ds, (∀ es, ds ≠ [.list es]) → g ds = .no)
    (i : ∀ G H a xs ds Q, Siz X.K H → Le G H → G a = some (.lst xs) → DqAll X.K G xs ds → Po (Dq X.K) X.mg E G H Q (g [.list ds]) → r [.ref a] H Q) : CD X E f g := cd_of h fun G H vs ds Q sz l dx po => by
  by_cases e : ∃ es, ds = [.list es]
  · obtain ⟨es, rfl⟩ := e
    cases dx with
    | cons d1 d2 =>
      cases d2
      cases d1 with
      | lst h1 a1 => exact i G H _ _ es Q sz l h1 a1 po
  · rw [h0 ds fun es z => e ⟨es, z⟩] at po
    exact po.elim
def dAll : List PyData → R PyData
  | [.list ds] => (oR (boolsOf ds)).bind fun bs => .ok (.bool (bs.all id))
  | _ => .no
theorem cd_all (hc : X.calm = true) : CD X E (.builtin "all") dAll := one_list (cr_all hc) (fun ds h => by
    unfold dAll
    split
    · exact absurd rfl (h _)
    · rfl) fun G H a xs ds Q sz l h1 a1 po => by
  replace po : Po (Dq X.K) X.mg E G H Q ((oR (boolsOf ds)).bind fun bs => .ok (.bool (bs.all id))) := po
  cases e : boolsOf ds with
  | none => rw [e] at po; exact po.elim
  | some bs =>
    rw [e] at po
    have := boolsOf_eq e; subst this
    have := dpa_bls a1; subst this
    exact ⟨a, bs, rfl, (sq1 l h1), Po.ok (d := PyData.bool (bs.all id)) po l (.bl _)⟩
def dAny : List PyData → R PyData
  | [.list ds] => (oR (boolsOf ds)).bind fun bs => .ok (.bool (bs.any id))
  | _ => .no
theorem cd_any (hc : X.calm = true) : CD X E (.builtin "any") dAny := one_list (cr_any hc) (fun ds h => by
    unfold dAny
    split
    · exact absurd rfl (h _)
    · rfl) fun G H a xs ds Q sz l h1 a1 po => by
  replace po : Po (Dq X.K) X.mg E G H Q ((oR (boolsOf ds)).bind fun bs => .ok (.bool (bs.any id))) := po
  cases e : boolsOf ds with
  | none => rw [e] at po; exact po.elim
  | some bs =>
    rw [e] at po
    have := boolsOf_eq e; subst this
    have := dpa_bls a1; subst this
    exact ⟨a, bs, rfl, (sq1 l h1), Po.ok (d := PyData.bool (bs.any id)) po l (.bl _)⟩
def sortI (ns : List Int) : List Int := ns.mergeSort fun x y => decide (x ≤ y)
theorem sortI_perm (ns : List Int) : (sortI ns).Perm ns := List.mergeSort_perm ns _
theorem sortI_sorted (ns : List Int) : (sortI ns).Pairwise (· ≤ ·) := by
  have h := List.pairwise_mergeSort (le := fun x y : Int => decide (x ≤ y)) (fun a b c h1 h2 => by simp at *; omega) (fun a b => by simp; omega) ns
  exact h.imp fun h => by simpa using h
theorem sortI_eq {ns ms : List Int} (h1 : ms.Perm ns) (h2 : ms.Pairwise (· ≤ ·)) : ms = sortI ns :=
  List.Perm.eq_of_pairwise (fun a b _ _ h1 h2 => Int.le_antisymm h1 h2) h2 (sortI_sorted ns) (h1.trans (sortI_perm ns).symm)
def dSortedI : List PyData → R PyData
  | [.list ds] => (oR (intsOf ds)).bind fun ns => .ok (.list ((sortI ns).map .int))
  | _ => .no
theorem cd_sortedI : CD X E (.builtin "sorted") dSortedI := one_list cr_sortedI (fun ds h => by
    unfold dSortedI
    split
    · exact absurd rfl (h _)
    · rfl) fun G H a xs ds Q sz l h1 a1 po => by
  replace po : Po (Dq X.K) X.mg E G H Q ((oR (intsOf ds)).bind fun ns => .ok (.list ((sortI ns).map .int))) := po
  cases e : intsOf ds with
  | none => rw [e] at po; exact po.elim
  | some ns =>
    rw [e] at po
    have := intsOf_eq e; subst this
    have := dpa_ints a1; subst this
    refine ⟨a, ns, rfl, (sq1 l h1), fun ns' p h2 h3 hp => ?_⟩
    have := sortI_eq h2 h3; subst this
    exact po_lst po l hp (dpa_ofInts _)
/-- list(x), tuple(x) -/
def dList : List PyData → R PyData
  | [.list ds] => .ok (.list ds)
  | [.tuple ds] => .ok (.list ds)
  | _ => .no
theorem cd_list : CD X E (.type "list") dList := cd_of call_list_of fun G H vs ds Q sz l dx po => by
  cases dx with
  | nil => exact po.elim
  | cons d1 d2 =>
    cases d2 with
    | nil =>
      cases d1 with
      | @lst a xs es h1 a1 => exact ⟨a, xs, rfl, .inl ((sq1 l h1)), fun p hp => po_lst po l hp a1⟩
      | @tup a xs es h1 a1 => exact ⟨a, xs, rfl, .inr (sqt_le l h1), fun p hp => po_lst po l hp a1⟩
      | _ => exact po.elim
    | cons => cases d1 <;> exact po.elim
def dTuple : List PyData → R PyData
  | [.list ds] => .ok (.tuple ds)
  | [.tuple ds] => .ok (.tuple ds)
  | _ => .no
theorem cd_tuple : CD X E (.type "tuple") dTuple := cd_of call_tuple_of fun G H vs ds Q sz l dx po => by
  cases dx with
  | nil => exact po.elim
  | cons d1 d2 =>
    cases d2 with
    | nil =>
      cases d1 with
      | @lst a xs es h1 a1 => exact ⟨a, xs, rfl, .inl ⟨(sq1 l h1), fun p hp => po_tup po l hp a1⟩⟩
      | @tup a xs es h1 a1 => exact ⟨a, xs, rfl, .inr ⟨sqt_le l h1, Po.ok (d := PyData.tuple es) po l (.tup h1 a1)⟩⟩
      | _ => exact po.elim
    | cons => cases d1 <;> exact po.elim
/-! ### isinstance -/
inductive Ty where
  | int | bool | str | tuple | list
def Ty.nm : Ty → String
  | .int => "int"
  | .bool => "bool"
  | .str => "str"
  | .tuple => "tuple"
  | .list => "list"
def isiD : Ty → PyData → Bool
  | .int, .int _ => true
  | .int, .bool _ => true
  | .bool, .bool _ => true
  | .str, .str _ => true
  | .tuple, .tuple _ => true
  | .list, .list _ => true
  | .list, .dict ((.none, _) :: _) => false
  | .list, .dict ((.bool _, _) :: _) => false
  | .list, .dict _ => true
  | _, _ => false
def tyS : PyData → String
  | .none => "NoneType"
  | .bool _ => "bool"
  | .int _ => "int"
  | .str _ => "str"
  | .list _ => "list"
  | .tuple _ => "tuple"
  | .dict ((.none, _) :: _) => "dict"
  | .dict _ => "list"
theorem kit_all : ∀ t : Ty, ∀ n ∈ ["NoneType", "bool", "int", "str", "list", "tuple", "dict"], kitB n t.nm = some (match t, n with
    | .int, "int" => true
    | .int, "bool" => true
    | .bool, "bool" => true
    | .str, "str" => true
    | .tuple, "tuple" => true
    | .list, "list" => true
    | _, _ => false) := by
  intro t
  cases t <;> decide +kernel
def isDk : PyData → Bool
  | .dict ((.bool _, _) :: _) => true
  | _ => false
theorem kit_d {K : PySem.W.Frag} {G : Hp} {v : V} {d : PyData} (t : Ty) (h : Dq K G v d) (nd : isDk d = false) : PySem.W.kitOne K (.type (tyS d)) (.type t.nm) = some (isiD t d) := by
  cases h with
  | non => exact (kit_ty (kit_all t "NoneType" (by simp))).trans (by cases t <;> rfl)
  | bl b => exact (kit_ty (kit_all t "bool" (by simp))).trans (by cases t <;> rfl)
  | int b => exact (kit_ty (kit_all t "int" (by simp))).trans (by cases t <;> rfl)
  | str b => exact (kit_ty (kit_all t "str" (by simp))).trans (by cases t <;> rfl)
  | lst b c => exact (kit_ty (kit_all t "list" (by simp))).trans (by cases t <;> rfl)
  | tup b c => exact (kit_ty (kit_all t "tuple" (by simp))).trans (by cases t <;> rfl)
  | @scr a ns b => exact (show PySem.W.kitOne K (.type (tyS (.dict (ns.map fun n => (PyData.int n, PyData.none))))) (.type t.nm) = some (isiD t (.dict (ns.map fun n => (PyData.int n, PyData.none)))) by
      have e1 : tyS (.dict (ns.map fun n => (PyData.int n, PyData.none))) = "list" := by cases ns <;> rfl
      have e2 : isiD t (.dict (ns.map fun n => (PyData.int n, PyData.none))) = isiD t (.list []) := by cases ns <;> cases t <;> rfl
      rw [e1, e2]
      exact (kit_ty (kit_all t "list" (by simp))).trans (by cases t <;> rfl))
  | dsk _ _ _ _ => cases nd
  | dsl _ _ _ _ => cases nd
  | dct b => exact (kit_ty (kit_all t "dict" (by simp))).trans (by cases t <;> rfl)
theorem tyx_d {K : PySem.W.Frag} {G H : Hp} {v : V} {d : PyData} (l : Le G H) (h : Dq K G v d) (nd : isDk d = false) : TyX K H v (.type (tyS d)) := by
  cases h with
  | non => exact .base .non
  | bl b => exact .base (.bl b)
  | int i => exact .base (.int i)
  | str x => exact .base (.str x)
  | lst h1 a1 => exact .base (.lst (l _ _ h1))
  | dct h1 => exact .fDict (l _ _ h1)
  | dsk _ _ _ _ => cases nd
  | dsl _ _ _ _ => cases nd
  | @scr a ns h1 =>
    have e1 : tyS (.dict (ns.map fun n => (PyData.int n, PyData.none))) = "list" := by cases ns <;> rfl
    rw [e1]
    rcases h1 with (h1 | ⟨o, h1⟩) | ⟨o, its, n, h1, h2, _⟩
    · exact .base (.lst (l _ _ h1))
    · exact .base (.frz (l _ _ h1))
    · exact .kList h1 h2
  | tup h1 a1 =>
    rcases h1 with (h1 | ⟨o, h1⟩) | ⟨o, its, n, h1, h2, _⟩
    · exact .base (.tup (l _ _ h1))
    · exact .fTuple (l _ _ h1)
    · exact .kTuple h1 h2
theorem ty_d {K : PySem.W.Frag} {G H : Hp} {v : V} {d : PyData} (l : Le G H) (h : Dq K G v d) (t : Ty) : ∃ u, TyX K H v u ∧ PySem.W.kitOne K u (.type t.nm) = some (isiD t d) := by
  cases nd : isDk d with
  | false => exact ⟨_, tyx_d l h nd, kit_d t h nd⟩
  | true =>
    cases h with
    | @scr a ns h1 => cases ns <;> cases nd
    | dsl c h1 h2 h3 => exact ⟨_, .base (.ins (l _ _ h1) c.cl c.ha c.hn c.htk c.hm), (c.kit t.nm (by cases t <;> simp [Ty.nm])).trans (by cases t <;> rfl)⟩
    | dsk c h1 h2 h3 => exact ⟨_, .base (.ins (l _ _ h1) c.cl c.ha c.hn c.htk c.hm), (c.kit t.nm (by cases t <;> simp [Ty.nm])).trans (by cases t <;> rfl)⟩
    | _ => cases nd
def mIsi (t : Ty) (m : M) : M := fun Γ => (m Γ).bind fun d => .ok (.bool (isiD t d))
theorem se_isi (t : Ty) {e : Expr} {m : M} {x : Str} {p p2 pos : Pos} (ha : SE X E e m) (hm : X.mg "isinstance" = none) (hm2 : X.mg x = none) (hv : bootBuiltins x = some (.type t.nm) := by decide +kernel) (hg : Gl X "isinstance" := by exact rfl) (hg2 : Gl X x := by exact rfl)
    (hn : x ≠ "__name__" := by decide) (hd : (x == ("__debug__" : Str)) = false := by decide)
    (he : starEach [e, .Name x p2] X.env = (false, eval e X.env) :: starEach [.Name x p2] X.env := by rfl) (he2 : starEach [.Name x p2] X.env = (false, eval (.Name x p2) X.env) :: starEach [] X.env := by rfl) (hpl : (backTo pos (starEach [.Name x p2] X.env)).any (·.1) = false := by rfl) :
    SE X E (.Call (.Name "isinstance" p) [e, .Name x p2] [] pos) (mIsi t m) :=
  pe_of (pe_callB call_isi hg hm PyProof.Rows.boot_isinstance (pa_cons ha (pa_cons (pe_bltn (v := .ty t.nm) hg2 hm2 hv rfl hn hd) pa_nil he2) he) (he := he) (hpl := hpl)) fun σ H Q ⟨B0, Γ, G, sr, po⟩ => ⟨B0, Γ, G, sr, Po.bind po fun d x G1 H1 _ g1 dx po1 =>
    let ⟨u, t1, t2⟩ := ty_d g1.s dx t
    ⟨x, .ty t.nm, u, .type t.nm, isiD t d, rfl, .ty _, t1, t2, Po.ok (d := PyData.bool (isiD t d)) po1 g1.s (.bl _)⟩⟩
/-! ### slices -/
abbrev RE {α : Type} : Hp → α → α → Prop := fun _ a b => a = b
abbrev SO (X : Cx) (E : XK) (e : Option Expr) (m : Gam → R (Option Int)) : Prop := PO X e (tX X.K RE X.mg E m)
theorem po_of {X : Cx} {e : Option Expr} {t t' : TO} (h : PO X e t) (i : ∀ σ H Q, t' σ H Q → t σ H Q) : PO X e t' := ⟨fun pins s σ H Q I q => h.run pins s σ H Q I (i σ H Q q)⟩
def mPN : Gam → R (Option Int) := fun _ => .ok none
def mPS (m : M) : Gam → R (Option Int) := fun Γ => (m Γ).bind fun d => match d with
  | .int i => .ok (some i)
  | _ => .no
theorem so_none : SO X E none mPN := po_of po_none fun σ H Q ⟨B, Γ, G, sr, po⟩ => Po.ok (Rl := RE) (d := (none : Option Int)) po sr.sub rfl
theorem so_some {e : Expr} {m : M} (h : SE X E e m) : SO X E (some e) (mPS m) := po_of (L2.po_some h) fun σ H Q ⟨B, Γ, G, sr, po⟩ => ⟨B, Γ, G, sr, Po.bind po fun d x G1 H1 _ g1 dx po1 => by
  cases dx with
  | int i => exact ⟨i, rfl, Po.ok (Rl := RE) (d := some i) po1 g1.s rfl⟩
  | _ => exact po1.elim⟩
def cutG {α : Type} (xs : List α) (lo hi : Option Int) : List α := (xs.drop (HT.sIx xs.length 0 lo)).take (HT.sIx xs.length xs.length hi - HT.sIx xs.length 0 lo)
def dSl : PyData → Option Int → Option Int → R PyData
  | .list ds, lo, hi => .ok (.list (cutG ds lo hi))
  | .tuple ds, lo, hi => .ok (.tuple (cutG ds lo hi))
  | .str z, lo, hi => if z.length ≤ 100000 then .ok (.str (cutS z lo hi)) else .no
  | _, _, _ => .no
theorem dqa_cut {K : PySem.W.Frag} {G : Hp} {xs : List V} {ds : List PyData} (h : DqAll K G xs ds) (lo hi : Option Int) : DqAll K G (cutV xs lo hi) (cutG ds lo hi) := by
  unfold cutV cutG
  rw [dpa_len h]
  exact dpa_take _ (dpa_drop _ h)
def mSl (m : M) (lo hi : Gam → R (Option Int)) : M := fun Γ => (m Γ).bind fun d => (lo Γ).bind fun l => (hi Γ).bind fun u => dSl d l u
theorem cutG_all {α : Type} (xs : List α) {lo hi : Option Int} (h : HT.sIx xs.length 0 lo = 0 ∧ HT.sIx xs.length xs.length hi = xs.length) : cutG xs lo hi = xs := by
  unfold cutG
  rw [h.1, h.2]
  simp
theorem se_slice {e : Expr} {m : M} {lo hi : Option Expr} {ml mu : Gam → R (Option Int)} {p2 pos : Pos} (he : SE X E e m) (hl : SO X E lo ml) (hu : SO X E hi mu) : SE X E (.Subscript e (.Slice lo hi none p2) pos) (mSl m ml mu) :=
  pe_of (pe_slice (sl_list.or (sl_tupA.or sl_str)) he hl hu) fun σ H Q ⟨B, Γ, G, sr, po⟩ => ⟨B, Γ, G, sr, Po.bind po fun d x G1 H1 _ g1 dx po1 => ⟨B, Γ, G1, sr.gr g1, Po.bind po1 fun l l' G2 H2 _ g2 el po2 => ⟨B, Γ, G2, (sr.gr g1).gr g2, Po.bind po2 fun u u' G3 H3 _ g3 eu po3 => by
    have el : l' = l := el
    have eu : u' = u := eu
    subst el eu
    have dx := dp_le g3.g (dp_le g2.g dx)
    cases dx with
    | @lst a xs ds h1 a1 => exact .inl ⟨a, xs, rfl, (sq1 g3.s h1), fun p hp => po_lst po3 g3.s hp (dqa_cut a1 _ _)⟩
    | @tup a xs ds h1 a1 =>
      refine .inr (.inl ⟨a, xs, rfl, sqt_le g3.s h1, fun hw => ?_, fun hw p hp => po_tup po3 g3.s hp (dqa_cut a1 _ _)⟩)
      rw [dpa_len a1] at hw
      have e := cutG_all ds hw
      replace po3 : Po (Dq X.K) X.mg E G3 H3 Q (.ok (.tuple (cutG ds l' u'))) := po3
      rw [e] at po3
      exact po3.ok g3.s (.tup h1 a1)
    | str z =>
      replace po3 : Po (Dq X.K) X.mg E G3 H3 Q (if z.length ≤ 100000 then .ok (.str (cutS z l' u')) else .no) := po3
      split at po3
      · rename_i hz
        exact .inr (.inr ⟨z, rfl, sz_of hz, Po.ok (d := PyData.str (cutS z l' u')) po3 g3.s (.str _)⟩)
      · exact po3.elim
    | _ => exact po3.elim⟩⟩⟩
/-! ### list(range(..)), len(set(..)) -/
theorem rgV_d {K : PySem.W.Frag} {G : Hp} (a b : Int) : DqAll K G (rgV a b) (intsFrom a (b - a).toNat) := by
  have h := dpa_ofInts (K := K) (G := G) ((List.range (b - a).toNat).map fun i => a + (i : Nat))
  unfold rgV intsFrom
  simpa [List.map_map, Function.comp_def] using h
def mLstR (m : Gam → R (List PyData)) : M := fun Γ => (m Γ).bind fun ds => (rngD ds).bind fun es => .ok (.list es)
theorem se_listR1 {a : Expr} {m : Gam → R (List PyData)} {p p2 q2 pos : Pos} (hc : X.calm = true) (hm : X.mg "list" = none) (hm2 : X.mg "range" = none) (ha : SA X E [a] m) {m1 : M} (ha1 : SE X E a m1) (e1 : m = mCons m1 mNil) (hg : Gl X "list" := by exact rfl) (hg2 : Gl X "range" := by exact rfl)
    (na : starEach [a] X.env = (false, eval a X.env) :: starEach [] X.env := by rfl) (na2 : starEach [.Call (.Name "range" p2) [a] [] q2] X.env = (false, eval (.Call (.Name "range" p2) [a] [] q2) X.env) :: starEach [] X.env := by rfl) :
    SE X E (.Call (.Name "list" p) [.Call (.Name "range" p2) [a] [] q2] [] pos) (mLstR m) :=
  pe_of (pe_listRg hc hg hm (prg_1 hg2 hm2 ha1 na) na2) fun σ H Q ⟨B, Γ, G, sr, po⟩ => ⟨B, Γ, G, sr, by
    subst e1
    unfold mLstR mCons mNil at po
    cases q : m1 Γ with
    | no => rw [q] at po; exact po.elim
    | ex c => rw [q] at po; exact po
    | ok d =>
      rw [q] at po
      intro x G1 H1 g1 dx
      cases dx with
      | int n =>
        replace po : Po (Dq X.K) X.mg E G H Q ((if -1000000 ≤ n ∧ n ≤ 1000000 then R.ok (intsFrom 0 n.toNat) else .no).bind fun es => .ok (.list es)) := po
        split at po
        · rename_i hn
          refine ⟨n, rfl, ⟨by omega, by omega, by omega, by omega, by omega⟩, fun q hq => ?_⟩
          have e := rgV_d (K := X.K) (G := G1) 0 n
          rw [Int.sub_zero] at e
          exact po_lst (po.gr g1) g1.s hq e
        · exact po.elim
      | _ => exact po.elim⟩
theorem se_listR2 {a b : Expr} {ma mb : M} {p p2 q2 pos : Pos} (hc : X.calm = true) (hm : X.mg "list" = none) (hm2 : X.mg "range" = none) (ha : SE X E a ma) (hb : SE X E b mb) (hg : Gl X "list" := by exact rfl) (hg2 : Gl X "range" := by exact rfl)
    (na : starEach [a, b] X.env = (false, eval a X.env) :: starEach [b] X.env := by rfl) (nb : starEach [b] X.env = (false, eval b X.env) :: starEach [] X.env := by rfl) (hp : (backTo q2 (starEach [b] X.env)).any (·.1) = false := by rfl)
    (na2 : starEach [.Call (.Name "range" p2) [a, b] [] q2] X.env = (false, eval (.Call (.Name "range" p2) [a, b] [] q2) X.env) :: starEach [] X.env := by rfl) :
    SE X E (.Call (.Name "list" p) [.Call (.Name "range" p2) [a, b] [] q2] [] pos) (mLstR (mCons ma (mCons mb mNil))) :=
  pe_of (pe_listRg hc hg hm (prg_2 hg2 hm2 ha hb na nb hp) na2) fun σ H Q ⟨B, Γ, G, sr, po⟩ => ⟨B, Γ, G, sr, by
    unfold mLstR mCons mNil at po
    cases q : ma Γ with
    | no => rw [q] at po; exact po.elim
    | ex c => rw [q] at po; exact po
    | ok d =>
      rw [q, R.bind_ok] at po
      intro x G1 H1 g1 dx
      refine ⟨B, Γ, G1, sr.gr g1, ?_⟩
      cases q2 : mb Γ with
      | no => rw [q2] at po; exact po.elim
      | ex c => rw [q2] at po; exact fun H' l => po H' (le_trans g1.h l)
      | ok e =>
        rw [q2] at po
        intro y G2 H2 g2 dy
        have dx := dp_le g2.g dx
        cases dx with
        | int i =>
          cases dy with
          | int j =>
            replace po : Po (Dq X.K) X.mg E G H Q ((if (-1000000 ≤ i ∧ i ≤ 1000000) ∧ -1000000 ≤ j ∧ j ≤ 1000000 then R.ok (intsFrom i (j - i).toNat) else .no).bind fun es => .ok (.list es)) := po
            split at po
            · rename_i hn
              refine ⟨i, j, rfl, rfl, ⟨by omega, by omega, by omega, by omega, by omega⟩, fun q hq => ?_⟩
              exact po_lst ((po.gr g1).gr g2) g2.s hq (rgV_d i j)
            · exact po.elim
          | _ => exact po.elim
        | _ => cases dy <;> exact po.elim⟩
def dLenSet : PyData → R PyData
  | .list ds => (oR (intsOf ds)).bind fun ns => if ns.Nodup ∧ ns.length ≤ 4000 then .ok (.int (ns.length : Nat)) else .no
  | _ => .no
def mLenSet (m : M) : M := fun Γ => (m Γ).bind dLenSet
theorem se_lenset {a : Expr} {m : M} {p p2 q pos : Pos} (hc : X.calm = true) (hm : X.mg "len" = none) (hm2 : X.mg "set" = none) (ha : SE X E a m) (hg : Gl X "len" := by exact rfl) (hg2 : Gl X "set" := by exact rfl)
    (na : starEach [a] X.env = (false, eval a X.env) :: starEach [] X.env := by rfl) : SE X E (.Call (.Name "len" p) [.Call (.Name "set" p2) [a] [] q] [] pos) (mLenSet m) :=
  pe_of (RZ.pe_lenSetI hg hm hg2 hm2 ha hc na) fun σ H Q ⟨B, Γ, G, sr, po⟩ => ⟨B, Γ, G, sr, Po.bind po fun d x G1 H1 _ g1 dx po1 => by
    cases dx with
    | @lst a xs ds h1 a1 =>
      replace po1 : Po (Dq X.K) X.mg E G1 H1 Q ((oR (intsOf ds)).bind fun ns => if ns.Nodup ∧ ns.length ≤ 4000 then .ok (.int (ns.length : Nat)) else .no) := po1
      cases e : intsOf ds with
      | none => rw [e] at po1; exact po1.elim
      | some ns =>
        rw [e, oR_some, R.bind_ok] at po1
        have := intsOf_eq e; subst this
        have := dpa_ints a1; subst this
        split at po1
        · rename_i h
          exact ⟨a, ns, rfl, (sq1 g1.s h1), h.1, h.2, Po.ok (d := PyData.int (ns.length : Nat)) po1 g1.s (.int _)⟩
        · exact po1.elim
    | _ => exact po1.elim⟩
end
/-! ### a def -/
def mDef (m : MS) (n : Nat) : List PyData → R PyData := fun ds => match m (ds.map .v ++ List.replicate (n - ds.length) .no) with
  | .rt d => .ok d
  | .nx _ => .ok .none
  | .ex c => .ex c
  | _ => .no
theorem gat_start : ∀ (ds : List PyData) (k i : Nat) (d : PyData), gat (ds.map Sl.v ++ List.replicate k .no) i = .v d → ds[i]? = some d
  | [], k, i, d, h => by
    exfalso
    have : ∀ (k i : Nat), gat (List.replicate k .no) i = .no := by
      intro k
      induction k with
      | zero => intro i; rfl
      | succ k ih => intro i; cases i with
        | zero => rfl
        | succ i => exact ih i
    simp [this] at h
  | e :: ds, k, 0, d, h => by simp at h; simp [h]
  | e :: ds, k, i + 1, d, h => by
    simp at h
    simpa using gat_start ds k i d h
theorem gat_start_own : ∀ (ds : List PyData) (k i : Nat) (es : List PyData), gat (ds.map Sl.v ++ List.replicate k .no) i ≠ .own es
  | [], k, i, d, h => by
    have : ∀ (k i : Nat), gat (List.replicate k .no) i = .no := by
      intro k
      induction k with
      | zero => intro i; rfl
      | succ k ih => intro i; cases i with
        | zero => rfl
        | succ i => exact ih i
    simp [this] at h
  | e :: ds, k, 0, d, h => by simp at h
  | e :: ds, k, i + 1, d, h => by
    simp at h
    exact gat_start_own ds k i d h
theorem gat_start_ad : ∀ (ds : List PyData) (k i : Nat) (es : Addr), gat (ds.map Sl.v ++ List.replicate k .no) i ≠ .ad es
  | [], k, i, d, h => by
    have : ∀ (k i : Nat), gat (List.replicate k .no) i = .no := by
      intro k
      induction k with
      | zero => intro i; rfl
      | succ k ih => intro i; cases i with
        | zero => rfl
        | succ i => exact ih i
    simp [this] at h
  | e :: ds, k, 0, d, h => by simp at h
  | e :: ds, k, i + 1, d, h => by
    simp at h
    exact gat_start_ad ds k i d h
theorem sr_start {K : PySem.W.Frag} {G H : Hp} {vs : List V} {ds : List PyData} {N : List Str} (l : Le G H) (d : DqAll K G vs ds) (h : ds.length ≤ N.length) : SZ K G H G H (L2.start N vs) (ds.map .v ++ List.replicate (N.length - ds.length) .no) := by
  have hl := dpa_len d
  refine ⟨⟨l, by simp [L2.start]; omega, fun i e q => ?_, fun i es q => absurd q (gat_start_own _ _ _ _), fun i j es fs p q => absurd q (gat_start_own _ _ _ _), fun i es p q => absurd q (gat_start_own _ _ _ _), fun i a q => absurd q (gat_start_ad _ _ _ _)⟩, Gr.refl l⟩
  have q := gat_start _ _ _ _ q
  obtain ⟨v, hv, dv⟩ := dpa_get d q
  refine ⟨v, ?_, dv⟩
  have hi := (List.getElem?_eq_some_iff.mp hv).1
  unfold L2.start
  rw [List.getElem?_append_left (by simpa using hi), List.getElem?_map, hv]
  rfl
section
variable {P : Program} {w : World} {K : PySem.W.Frag} {mg : Str → Option Value} {base : Heap}
/-- how a def of the text stands behind the top -/
abbrev FnP (K : PySem.W.Frag) (x : Str) (st : Stmt) (f : Addr) (fd : FuncData) : Prop := FunD K x x (defArgs st) (defBody st) (defScope st) [] [] f fd
theorem dn_mk {x : Str} {st : Stmt} {f : Addr} {fd : FuncData} {N ps : List Str} {k : Nat} {m : MS} (F : FnP K x st f fd) (S : FnScope N ps (defScope st)) (hg : mg x = some (.ref f)) (hb : L2.Binds K fd ps []) (hl : ps.length ≤ N.length)
    (body : ∀ (cdv : Value) (A : Around) (outer : List Env) (s : Shared) (H : Hp) (E : XK), Room k (A.deeper (envOfC x (defScope st) s.heap.objs.size f cdv)) →
      SB (cxOf (L2.CX P w) P w K mg base N x (defScope st) f cdv A outer s H E) E (defBody st) m) : Dn P w K mg base (k + 1) x ps.length (mDef m N.length) :=
  ⟨f, fd, ps, hg, rfl, F.ok S (fun vs H Q E h => spD_len h) (fun cdv A outer s H vs Q E hr ⟨G, ds, l, dx, hn, po⟩ => ⟨_, body cdv A outer s H E hr, G, H, G, _, sr_start (N := N) l dx (by rw [hn]; exact hl), by
    replace po : Po (Dq K) mg E G H Q (mDef m N.length ds) := po
    unfold mDef at po
    show PoS K mg E G H { nx := fun _ H' => Q .non H', rt := Q } (m (ds.map .v ++ List.replicate (N.length - ds.length) .no))
    cases e : m (ds.map .v ++ List.replicate (N.length - ds.length) .no) with
    | nx Γ => rw [e] at po; exact fun σ' G' H' s' => po .non G' H' s'.gr .non
    | rt d => rw [e] at po; exact po
    | ex c => rw [e] at po; exact po
    | bk Γ => rw [e] at po; exact po.elim
    | ct Γ => rw [e] at po; exact po.elim
    | no => rw [e] at po; exact po.elim⟩), F.kp, hb⟩
end
end PD

/-! The data layer: how mirrors are reckoned. -/
namespace PD
open PySem L2
section
variable (Γ : Gam) (a b c m : M) (t u : Gam → R Bool) (ms ml : Gam → R (List PyData)) (g g' : PyData → PyData → R PyData) (l : List Nat) (s s' : MS) (i : Nat) (d e : PyData) (ds es : List PyData)
@[simp] theorem ap_C : mC d Γ = .ok d := rfl
@[simp] theorem ap_Var : mVar i Γ = match gat Γ i with
  | .v d => .ok d
  | _ => .no := rfl
@[simp] theorem ap_Op : mOp g a b Γ = (a Γ).bind fun x => (b Γ).bind fun y => g x y := rfl
@[simp] theorem ap_B : mB a Γ = (a Γ).bind asB := rfl
@[simp] theorem ap_And : mAnd t u Γ = (t Γ).bind fun c => if c = true then u Γ else .ok false := rfl
@[simp] theorem ap_Or : mOr t u Γ = (t Γ).bind fun c => if c = true then .ok true else u Γ := rfl
@[simp] theorem ap_Not : mNot t Γ = (t Γ).bind fun c => .ok (!c) := rfl
@[simp] theorem ap_AndV : mAndV a b Γ = (a Γ).bind fun d => (asB d).bind fun c => if c = true then b Γ else .ok (.bool false) := rfl
@[simp] theorem ap_OrV : mOrV a b Γ = (a Γ).bind fun d => (asB d).bind fun c => if c = true then .ok (.bool true) else b Γ := rfl
@[simp] theorem ap_NotV : mNotV a Γ = (a Γ).bind fun d => (asB d).bind fun c => .ok (.bool (!c)) := rfl
@[simp] theorem ap_If : mIf t a b Γ = (t Γ).bind fun c => if c = true then a Γ else b Γ := rfl
@[simp] theorem ap_Chain : mChain g g' a b c Γ = (a Γ).bind fun x => (b Γ).bind fun y => (g x y).bind fun k => (asB k).bind fun q => if q = true then (c Γ).bind fun z => g' y z else .ok (.bool false) := rfl
@[simp] theorem ap_Nil : mNil Γ = .ok [] := rfl
@[simp] theorem ap_Cons : mCons a ms Γ = (a Γ).bind fun d => (ms Γ).bind fun ds => .ok (d :: ds) := rfl
@[simp] theorem ap_Tup : mTup ms Γ = (ms Γ).bind fun ds => .ok (.tuple ds) := rfl
@[simp] theorem ap_L : mL ms Γ = (ms Γ).bind fun ds => .ok (.list ds) := rfl
@[simp] theorem ap_Call (f : List PyData → R PyData) : mCall f ms Γ = (ms Γ).bind f := rfl
@[simp] theorem ap_Neg : mNeg a Γ = (a Γ).bind dNeg := rfl
@[simp] theorem ap_IxO : mIxO i a Γ = match gat Γ i with
  | .own ds => (a Γ).bind fun k => dIx (.list ds) k
  | .v d => (a Γ).bind fun k => dIx d k
  | .ad _ => .no
  | .no => .no := rfl
@[simp] theorem ap_Items : mItems a Γ = (a Γ).bind itemsD := rfl
@[simp] theorem ap_Rng : mRng ms Γ = (ms Γ).bind rngD := rfl
@[simp] theorem ap_Enum : mEnum ms Γ = (ms Γ).bind enumD := rfl
@[simp] theorem ap_Zip : mZip ms Γ = (ms Γ).bind zipD := rfl
@[simp] theorem ap_Name : bName i d Γ = some (Γ.set i (.v d)) := rfl
@[simp] theorem ap_bAll0 : bAll [] [] Γ = some Γ := rfl
@[simp] theorem ap_bAll (p : Bd) (ps : List Bd) : bAll (p :: ps) (d :: ds) Γ = (p d Γ).bind fun Γ1 => bAll ps ds Γ1 := rfl
@[simp] theorem ap_bTup (ps : List Bd) : bTup ps (.tuple ds) Γ = bAll ps ds Γ := rfl
@[simp] theorem ap_Lc (own : List Nat) (p : Bd) : mLc own ms p t a Γ = (ms Γ).bind fun ds => lcGo p t a (wpG Γ own) ds := rfl
@[simp] theorem ap_T : mT Γ = .ok true := rfl
@[simp] theorem ap_Seq : mSeq s s' Γ = match s Γ with
  | .nx Γ1 => s' Γ1
  | o => o := rfl
@[simp] theorem ap_Skip : mSkip Γ = .nx Γ := rfl
@[simp] theorem ap_Break : mBreak Γ = .bk Γ := rfl
@[simp] theorem ap_Cont : mCont Γ = .ct Γ := rfl
@[simp] theorem ap_Raise (c : Str) : mRaise c Γ = .ex c := rfl
@[simp] theorem ap_Do : mDo l a Γ = mEv l a Γ fun _ Γ1 => .nx Γ1 := rfl
@[simp] theorem ap_Ret : mRet l a Γ = mEv l a Γ fun d _ => .rt d := rfl
@[simp] theorem ap_Set : mSet i l a Γ = mEv l a Γ fun d Γ1 => .nx (Γ1.set i (.v d)) := rfl
@[simp] theorem ap_Own : mOwn i l ml Γ = mEvL l ml Γ fun ds => .nx ((fz l Γ).set i (.own ds)) := rfl
@[simp] theorem ap_Asg (p : Bd) : mAsg p l a Γ = mEv l a Γ fun d Γ1 => match p d Γ1 with
  | some Γ2 => .nx Γ2
  | none => .no := rfl
@[simp] theorem ap_Par (is : List Nat) (its : List Pi) : mPar is l its Γ = match mPis its (fz l Γ) with
  | .ok ss => .nx (gsetAll is ss (fz l Γ))
  | .ex c => .ex c
  | .no => .no := rfl
@[simp] theorem ap_App : mApp i l a Γ = match gat Γ i with
  | .own _ => mEv l a Γ fun d Γ1 => match gat Γ1 i with
    | .own ds => if ds.length < 100000 then .nx (Γ1.set i (.own (ds ++ [d]))) else .no
    | _ => .no
  | _ => .no := rfl
@[simp] theorem ap_Ext : mExt i l a Γ = match gat Γ i with
  | .own _ => mEv l a Γ fun d Γ1 => match gat Γ1 i, d with
    | .own ds, .list es => if ds.length + es.length ≤ 100000 then .nx (Γ1.set i (.own (ds ++ es))) else .no
    | _, _ => .no
  | _ => .no := rfl
@[simp] theorem ap_IfS : mIfS l t s s' Γ = mEvB l t Γ fun c => if c = true then s Γ else s' Γ := rfl
@[simp] theorem ap_For (p : Bd) : mFor l ms p s Γ = mEvL l ms Γ fun ds => forGo p s ds (fz l Γ) := rfl
@[simp] theorem ap_Pis0 : mPis [] Γ = .ok [] := rfl
@[simp] theorem ap_PisV (r : List Pi) : mPis (.v a :: r) Γ = (a Γ).bind fun d => (mPis r Γ).bind fun ss => .ok (.v d :: ss) := rfl
@[simp] theorem ap_PisO (r : List Pi) : mPis (.o ml :: r) Γ = (ml Γ).bind fun d => (mPis r Γ).bind fun ss => .ok (.own d :: ss) := rfl
@[simp] theorem ap_gsetAll (is : List Nat) (x : Sl) (ss : List Sl) : gsetAll (i :: is) (x :: ss) Γ = gsetAll is ss (Γ.set i x) := rfl
@[simp] theorem ap_gsetAll0 (ss : List Sl) : gsetAll [] ss Γ = Γ := rfl
@[simp] theorem ap_Isi (ty : Ty) : mIsi ty a Γ = (a Γ).bind fun d => .ok (.bool (isiD ty d)) := rfl
@[simp] theorem ap_PN : mPN Γ = .ok none := rfl
@[simp] theorem ap_PS : mPS a Γ = (a Γ).bind fun d => match d with
  | .int i => .ok (some i)
  | _ => .no := rfl
@[simp] theorem ap_Sl (lo hi : Gam → R (Option Int)) : mSl a lo hi Γ = (a Γ).bind fun d => (lo Γ).bind fun l => (hi Γ).bind fun u => dSl d l u := rfl
@[simp] theorem ap_LstR : mLstR ms Γ = (ms Γ).bind fun ds => (rngD ds).bind fun es => .ok (.list es) := rfl
@[simp] theorem ap_LenSet : mLenSet a Γ = (a Γ).bind dLenSet := rfl
end
/-! evaluation, by the value -/
theorem mEv_ok {l : List Nat} {m : M} {Γ : Gam} {k : PyData → Gam → Out} {d : PyData} (h : m (fz l Γ) = .ok d) : mEv l m Γ k = k d (if flatD d then Γ else fz l Γ) := by unfold mEv; rw [h]
@[simp] theorem mEv_eq (l : List Nat) (m : M) (Γ : Gam) (k : PyData → Gam → Out) : mEv l m Γ k = match m (fz l Γ) with
  | .ok d => k d (if flatD d = true then Γ else fz l Γ)
  | .ex c => .ex c
  | .no => .no := by unfold mEv; cases m (fz l Γ) <;> rfl
theorem mEv_nil (m : M) (Γ : Gam) (k : PyData → Gam → Out) : mEv [] m Γ k = match m Γ with
  | .ok d => k d Γ
  | .ex c => .ex c
  | .no => .no := by unfold mEv; rw [fz_nil]; cases m Γ <;> simp
@[simp] theorem mEvB_eq (l : List Nat) (m : Gam → R Bool) (Γ : Gam) (k : Bool → Out) : mEvB l m Γ k = match m (fz l Γ) with
  | .ok b => k b
  | .ex c => .ex c
  | .no => .no := rfl
@[simp] theorem mEvL_eq (l : List Nat) (m : Gam → R (List PyData)) (Γ : Gam) (k : List PyData → Out) : mEvL l m Γ k = match m (fz l Γ) with
  | .ok b => k b
  | .ex c => .ex c
  | .no => .no := rfl
@[simp] theorem fz1_own_zero (ds : List PyData) (r : Gam) : fz1 0 (.own ds :: r) = .v (.list ds) :: r := rfl
@[simp] theorem fz1_v_zero (d : PyData) (r : Gam) : fz1 0 (.v d :: r) = .v d :: r := rfl
@[simp] theorem fz1_no_zero (r : Gam) : fz1 0 (.no :: r) = .no :: r := rfl
@[simp] theorem fz1_succ (i : Nat) (s : Sl) (r : Gam) : fz1 (i + 1) (s :: r) = s :: fz1 i r := by
  unfold fz1
  simp only [gat_succ]
  split <;> simp
@[simp] theorem flat_none : flatD .none = true := rfl
@[simp] theorem flat_bool (b : Bool) : flatD (.bool b) = true := rfl
@[simp] theorem flat_int (b : Int) : flatD (.int b) = true := rfl
@[simp] theorem flat_str (b : Str) : flatD (.str b) = true := rfl
@[simp] theorem flat_list (b : List PyData) : flatD (.list b) = false := rfl
@[simp] theorem flat_tuple (b : List PyData) : flatD (.tuple b) = false := rfl
/-! operators upon ints -/
@[simp] theorem dAdd_int (i j : Int) : dAdd (.int i) (.int j) = .ok (.int (i + j)) := rfl
@[simp] theorem dSub_int (i j : Int) : dSub (.int i) (.int j) = .ok (.int (i - j)) := rfl
theorem dMul_int (i j : Int) : dMul (.int i) (.int j) = if (-(2 ^ 64) < i ∧ i < 2 ^ 64) ∨ (-(2 ^ 64) < j ∧ j < 2 ^ 64) then .ok (.int (i * j)) else .no := rfl
theorem dMul_r {i j : Int} (h1 : -(2 ^ 64) < j) (h2 : j < 2 ^ 64) : dMul (.int i) (.int j) = .ok (.int (i * j)) := by rw [dMul_int, if_pos (.inr ⟨h1, h2⟩)]
theorem dMul_l {i j : Int} (h1 : -(2 ^ 64) < i) (h2 : i < 2 ^ 64) : dMul (.int i) (.int j) = .ok (.int (i * j)) := by rw [dMul_int, if_pos (.inl ⟨h1, h2⟩)]
theorem dDiv_int {i j : Int} (h1 : 0 < j) (h2 : j < 2 ^ 64) : dDiv (.int i) (.int j) = .ok (PyData.int (i / j)) := by
  show (if 0 < j ∧ j < 2 ^ 64 then R.ok (PyData.int (i / j)) else .no) = _
  rw [if_pos ⟨h1, h2⟩]
theorem dMod_int {i j : Int} (h1 : 0 < j) : dMod (.int i) (.int j) = .ok (PyData.int (i % j)) := by
  show (if 0 < j then R.ok (PyData.int (i % j)) else .no) = _
  rw [if_pos h1]
@[simp] theorem dNeg_int (i : Int) : dNeg (.int i) = .ok (.int (-i)) := rfl
@[simp] theorem eqD_int (i j : Int) : eqD (.int i) (.int j) = .ok (decide (i = j)) := rfl
@[simp] theorem eqD_str (i j : Str) : eqD (.str i) (.str j) = .ok (decide (i = j)) := rfl
@[simp] theorem eqD_bool (i j : Bool) : eqD (.bool i) (.bool j) = .ok (decide (i = j)) := rfl
@[simp] theorem dEq_def (d e : PyData) : dEq d e = (eqD d e).bind fun b => .ok (.bool b) := rfl
@[simp] theorem dNe_def (d e : PyData) : dNe d e = (eqD d e).bind fun b => .ok (.bool (!b)) := rfl
@[simp] theorem dIn_def (d e : PyData) : dIn d e = (inD d e).bind fun b => .ok (.bool b) := rfl
@[simp] theorem dNotIn_def (d e : PyData) : dNotIn d e = (inD d e).bind fun b => .ok (.bool (!b)) := rfl
@[simp] theorem dIs_def (d e : PyData) : dIs d e = (isD d e).bind fun b => .ok (.bool b) := rfl
@[simp] theorem dIsNot_def (d e : PyData) : dIsNot d e = (isD d e).bind fun b => .ok (.bool (!b)) := rfl
@[simp] theorem isD_bool (a b : Bool) : isD (.bool a) (.bool b) = .ok (decide (a = b)) := rfl
@[simp] theorem isD_int_none (a : Int) : isD (.int a) .none = .ok false := rfl
@[simp] theorem isD_str_none (a : Str) : isD (.str a) .none = .ok false := rfl
@[simp] theorem isD_tuple_none (a : List PyData) : isD (.tuple a) .none = .ok false := rfl
@[simp] theorem isD_list_none (a : List PyData) : isD (.list a) .none = .ok false := rfl
@[simp] theorem isD_none_none : isD .none .none = .ok true := rfl
@[simp] theorem isi_int_int (i : Int) : isiD .int (.int i) = true := rfl
@[simp] theorem isi_int_bool (i : Bool) : isiD .int (.bool i) = true := rfl
@[simp] theorem isi_bool_int (i : Int) : isiD .bool (.int i) = false := rfl
@[simp] theorem isi_bool_bool (i : Bool) : isiD .bool (.bool i) = true := rfl
@[simp] theorem isi_tuple (i : List PyData) : isiD .tuple (.tuple i) = true := rfl
@[simp] theorem isi_list (i : List PyData) : isiD .list (.list i) = true := rfl
@[simp] theorem isi_str (i : Str) : isiD .str (.str i) = true := rfl
@[simp] theorem dLen_list (ds : List PyData) : dLen [.list ds] = .ok (.int (ds.length : Nat)) := rfl
@[simp] theorem dLen_tuple (ds : List PyData) : dLen [.tuple ds] = .ok (.int (ds.length : Nat)) := rfl
@[simp] theorem dLen_dict (ns : List Int) : dLen [.dict (ns.map fun n => (.int n, .none))] = .ok (.int (ns.length : Nat)) := by cases ns <;> simp [dLen]
@[simp] theorem dMax_int (i j : Int) : dMax [.int i, .int j] = .ok (.int (if j > i then j else i)) := rfl
@[simp] theorem dMin_int (i j : Int) : dMin [.int i, .int j] = .ok (.int (if j < i then j else i)) := rfl
@[simp] theorem dTuple_list (ds : List PyData) : dTuple [.list ds] = .ok (.tuple ds) := rfl
@[simp] theorem dTuple_tuple (ds : List PyData) : dTuple [.tuple ds] = .ok (.tuple ds) := rfl
@[simp] theorem dList_list (ds : List PyData) : dList [.list ds] = .ok (.list ds) := rfl
@[simp] theorem itemsD_list (ds : List PyData) : itemsD (.list ds) = .ok ds := rfl
@[simp] theorem itemsD_tuple (ds : List PyData) : itemsD (.tuple ds) = .ok ds := rfl
@[simp] theorem dIx_list (ds : List PyData) (i : Int) : dIx (.list ds) (.int i) = oR (atI ds i) := rfl
@[simp] theorem dIx_tuple (ds : List PyData) (i : Int) : dIx (.tuple ds) (.int i) = oR (atI ds i) := rfl
@[simp] theorem atI_0 {α : Type} (x : α) (r : List α) : atI (x :: r) 0 = some x := atI_nat (j := 0) rfl
@[simp] theorem atI_1 {α : Type} (x y : α) (r : List α) : atI (x :: y :: r) 1 = some y := atI_nat (j := 1) rfl
@[simp] theorem atI_2 {α : Type} (x y z : α) (r : List α) : atI (x :: y :: z :: r) 2 = some z := atI_nat (j := 2) rfl
@[simp] theorem boolsOf_mapf {α : Type} (f : α → Bool) : ∀ xs : List α, boolsOf (xs.map fun x => PyData.bool (f x)) = some (xs.map f)
  | [] => rfl
  | x :: xs => by simp [boolsOf, boolsOf_mapf f xs]
@[simp] theorem intsOf_mapf {α : Type} (f : α → Int) : ∀ xs : List α, intsOf (xs.map fun x => PyData.int (f x)) = some (xs.map f)
  | [] => rfl
  | x :: xs => by simp [intsOf, intsOf_mapf f xs]
@[simp] theorem strsOf_mapf {α : Type} (f : α → Str) : ∀ xs : List α, strsOf (xs.map fun x => PyData.str (f x)) = some (xs.map f)
  | [] => rfl
  | x :: xs => by simp [strsOf, strsOf_mapf f xs]
@[simp] theorem dAll_mapf {α : Type} (f : α → Bool) (xs : List α) : dAll [.list (xs.map fun x => PyData.bool (f x))] = .ok (.bool (xs.all f)) := by
  show (oR (boolsOf (xs.map fun x => PyData.bool (f x)))).bind _ = _
  simp [List.all_map, Function.comp_def]
@[simp] theorem dAny_mapf {α : Type} (f : α → Bool) (xs : List α) : dAny [.list (xs.map fun x => PyData.bool (f x))] = .ok (.bool (xs.any f)) := by
  show (oR (boolsOf (xs.map fun x => PyData.bool (f x)))).bind _ = _
  simp [List.any_map, Function.comp_def]
@[simp] theorem dSl_list (ds : List PyData) (l u : Option Int) : dSl (.list ds) l u = .ok (.list (cutG ds l u)) := rfl
@[simp] theorem dSl_tuple (ds : List PyData) (l u : Option Int) : dSl (.tuple ds) l u = .ok (.tuple (cutG ds l u)) := rfl
@[simp] theorem zipD_list (ds es : List PyData) : zipD [.list ds, .list es] = .ok (zipL ds es) := rfl
@[simp] theorem zipD_tuple (ds es : List PyData) : zipD [.tuple ds, .tuple es] = .ok (zipL ds es) := rfl
@[simp] theorem enumD_list (ds : List PyData) : enumD [.list ds] = .ok (enumFrom 0 ds) := rfl
end PD

/-! The data layer: how a law ends. -/
namespace PD
open PySem PySem.Spec PyProof.Rows L2
theorem fn_mk {P : Program} {w : World} {K : PySem.W.Frag} {mg : Str → Option Value} {base : Heap} {x : Str} {st : Stmt} {f : Addr} {fd : FuncData} {N ps : List Str} {k : Nat} {m : MS} (F : FnP K x st f fd) (S : FnScope N ps (defScope st)) (hl : ps.length ≤ N.length)
    (body : ∀ (cdv : Value) (A : Around) (outer : List Env) (s : Shared) (H : Hp) (E : XK), Room k (A.deeper (envOfC x (defScope st) s.heap.objs.size f cdv)) →
      SB (cxOf (L2.CX P w) P w K mg base N x (defScope st) f cdv A outer s H E) E (defBody st) m) : FnOk P w K mg base (L2.CX P w) (k + 1) f fd ps (spD K mg ps.length (mDef m N.length)) :=
  F.ok S (fun vs H Q E h => spD_len h) (fun cdv A outer s H vs Q E hr ⟨G, ds, l, dx, hn, po⟩ => ⟨_, body cdv A outer s H E hr, G, H, G, _, sr_start (N := N) l dx (by rw [hn]; exact hl), by
    replace po : Po (Dq K) mg E G H Q (mDef m N.length ds) := po
    unfold mDef at po
    show PoS K mg E G H { nx := fun _ H' => Q .non H', rt := Q } (m (ds.map .v ++ List.replicate (N.length - ds.length) .no))
    cases e : m (ds.map .v ++ List.replicate (N.length - ds.length) .no) with
    | nx Γ => rw [e] at po; exact fun σ' G' H' s' => po .non G' H' s'.gr .non
    | rt d => rw [e] at po; exact po
    | ex c => rw [e] at po; exact po
    | bk Γ => rw [e] at po; exact po.elim
    | ct Γ => rw [e] at po; exact po.elim
    | no => rw [e] at po; exact po.elim⟩)
/-- an exception's context, in some world -/
def CXA (P : Program) : CXT := fun outer H s E u s' => ∃ w, L2.CX P w outer H s E u s'
theorem fn_a {P : Program} {w : World} {K : PySem.W.Frag} {mg : Str → Option Value} {base : Heap} {k : Nat} {f : Addr} {fd : FuncData} {ps : List Str} {sp : Sp} (F : FnOk P w K mg base (L2.CX P w) k f fd ps sp) : FnOk P w K mg base (CXA P) k f fd ps sp where
  len := F.len
  run := fun A outer s H args us vs Q E hr he hb hv h => codeAny_mono (F.run A outer s H args us vs Q E hr he hb hv h) fun r s' q => by
    cases r with
    | ok fl => cases fl <;> exact q
    | error e => exact ⟨w, q⟩
theorem cxa_no {P : Program} (H : Hp) (s : Shared) (e : Value) (s' : Shared) : CXA P [] H s (fun _ _ _ => False) e s' → False := fun ⟨_, _, _, _, _, _, _, _, _, _, _, _, _, z⟩ => z
theorem sp_law {K : PySem.W.Frag} {mg : Str → Option Value} {g : List PyData → R PyData} (H : Hp) (a : Addr) (ns : List Int) (hS : SqL K H a (ns.map V.int)) (h : g [.dict (ns.map fun n => (.int n, .none))] = .ok (.bool true)) :
    spD K mg 1 g [.ref a] H (fun v _ => v = .bl true) fun _ _ _ => False := by
  refine ⟨H, [.dict (ns.map fun n => (.int n, .none))], fun _ _ e => e, .cons (.scr hS) .nil, rfl, ?_⟩
  rw [h]
  intro x G' H' g dx
  cases dx
  rfl
end PD

/-! The data layer: a call of a def that stands in a list; try. -/
namespace PD
open PySem PySem.Spec PyProof.Rows L2
section
variable {X : Cx} {E : XK} {e : Expr} {es : List Expr} {pos : Pos}
/-! ### [f, g, h][i](..) -/
/-- a def at an address, as callers have it -/
structure DnA (P : Program) (w : World) (K : PySem.W.Frag) (mg : Str → Option Value) (base : Heap) (k : Nat) (f : Addr) (n : Nat) (g : List PyData → R PyData) : Prop where
  ex : ∃ fd ps, ps.length = n ∧ FnOk P w K mg base (L2.CX P w) k f fd ps (spD K mg n g) ∧ PySem.W.keepIn K (.ref f) = true ∧ Binds K fd ps []
inductive FnL (X : Cx) (k n : Nat) : List Expr → List Addr → List (List PyData → R PyData) → Prop
  | nil : FnL X k n [] [] []
  | cons {x : Str} {p : Pos} {f : Addr} {g : List PyData → R PyData} {es fs gs} : Gl X x → (x == ("__debug__" : Str)) = false → X.mg x = some (.ref f) → DnA X.prog X.w X.K X.mg X.base k f n g → starEach (.Name x p :: es) X.env = (false, eval (.Name x p) X.env) :: starEach es X.env →
      FnL X k n es fs gs → FnL X k n (.Name x p :: es) (f :: fs) (g :: gs)
theorem FnL.pa {k n : Nat} {fs : List Addr} {gs : List (List PyData → R PyData)} : ∀ {es : List Expr}, FnL X k n es fs gs → PA X es (fun _ H Q => Q (fs.map V.ref) H) := by
  intro es h
  induction h with
  | nil => exact pa_of pa_nil fun σ H Q q => q
  | cons h1 h2 h3 _ h5 _ ih => exact pa_of (pa_cons (pe_glob (v := V.ref _) h1 h3 rfl h2) ih h5) fun σ H Q q => q
theorem FnL.get {k n : Nat} {fs : List Addr} {gs : List (List PyData → R PyData)} {es : List Expr} (h : FnL X k n es fs gs) : ∀ (j : Nat) (g : List PyData → R PyData), gs[j]? = some g → ∃ f, fs[j]? = some f ∧ DnA X.prog X.w X.K X.mg X.base k f n g := by
  induction h with
  | nil => intro j g q; simp at q
  | cons h1 h2 h3 h4 _ _ ih =>
    intro j g q
    cases j with
    | zero => simp at q; subst q; exact ⟨_, rfl, h4⟩
    | succ j => exact ih j g (by simpa using q)
theorem FnL.len {k n : Nat} {fs : List Addr} {gs : List (List PyData → R PyData)} {es : List Expr} (h : FnL X k n es fs gs) : fs.length = es.length := by
  induction h with
  | nil => rfl
  | cons _ _ _ _ _ _ ih => simp [ih]
theorem fnl_cons {k j n : Nat} {x : Str} {p : Pos} {g : List PyData → R PyData} {es : List Expr} {gs : List (List PyData → R PyData)} (D : Dn X.prog X.w X.K X.mg X.base j x n g) (hk : j ≤ k) (h : ∃ fs : List Addr, FnL X k n es fs gs) (hg : Gl X x := by exact rfl) (hd : (x == ("__debug__" : Str)) = false := by decide)
    (hs : starEach (.Name x p :: es) X.env = (false, eval (.Name x p) X.env) :: starEach es X.env := by rfl) : ∃ fs : List Addr, FnL X k n (.Name x p :: es) fs (g :: gs) := by
  obtain ⟨f, fd, ps, hm, hl, F, kp, hb⟩ := (D.mono hk).ex
  obtain ⟨fs, h⟩ := h
  exact ⟨f :: fs, .cons hg hd hm ⟨fd, ps, hl, F, kp, hb⟩ hs h⟩
theorem fnl_nil {k n : Nat} : ∃ fs : List Addr, FnL X k n [] fs [] := ⟨[], .nil⟩
/-- a call of what an expression gives -/
theorem pe_callE {k n : Nat} {fe : Expr} {tf : TE} {t : TA} (hf : PE X fe tf) (hr : Room k X.A) (hx : Passes (L2.CX X.prog X.w) X E) (ha : PA X (e :: es) t)
    (he : starEach (e :: es) X.env = (false, eval e X.env) :: starEach es X.env := by rfl) (hpl : (backTo pos (starEach es X.env)).any (·.1) = false := by rfl)
    (hc : eval (.Call fe (e :: es) [] pos) X.env = (do callWith pos (← eval fe X.env) [] (backTo pos (starEach (e :: es) X.env)) (backToKw pos (keywordEach [] X.env))) := by rfl) :
    PE X (.Call fe (e :: es) [] pos) (fun σ H Q => tf σ H fun v H1 => ∃ f g, v = .ref f ∧ DnA X.prog X.w X.K X.mg X.base k f n g ∧ t σ H1 fun vs H2 => spD X.K X.mg n g vs H2 Q E) := by
  refine ⟨fun pins s σ H Q I h => Call_ ?_ hc⟩
  refine thn (hf.run pins s σ H _ I h) fun u s1 ⟨v, H1, I1, r1, f, g, e1, D, q⟩ => ?_
  subst e1
  cases r1
  obtain ⟨fd, ps, hl, F, kp, hb⟩ := D.ex
  refine PySem.W.callWith_K (h₀ := X.base) I.ok.mod.kin kp (thn (ha.run pos pins s1 σ _ _ I1 q) fun us s2 ⟨vs, H2, I2, r, q⟩ => ⟨I2.kIn, ?_⟩) he hpl
  exact run_fn F hr hb .nil hx I2 r (by rw [List.append_nil]; exact q)
def mCallL (gs : List (List PyData → R PyData)) (mi : M) (ms : Gam → R (List PyData)) : M := fun Γ => (mi Γ).bind fun k => match k with
  | .int k => if 0 ≤ k then (match gs[k.toNat]? with
    | some g => (ms Γ).bind g
    | none => .no) else .no
  | _ => .no
theorem se_callL {k n : Nat} {ls : List Expr} {p2 p3 : Pos} {ie : Expr} {gs : List (List PyData → R PyData)} {mi : M} {ms : Gam → R (List PyData)} (hL : ∃ fs : List Addr, FnL X k n ls fs gs) (hz : ls.length ≤ 100000) (hi : SE X E ie mi) (hr : Room k X.A) (hx : Passes (L2.CX X.prog X.w) X E) (ha : SA X E (e :: es) ms)
    (hn : (e :: es).length = n := by rfl) (hs : PlainIx ie := by exact fun _ _ => rfl)
    (he : starEach (e :: es) X.env = (false, eval e X.env) :: starEach es X.env := by rfl) (hpl : (backTo pos (starEach es X.env)).any (·.1) = false := by rfl)
    (hc : eval (.Call (.Subscript (.List ls p2) ie p3) (e :: es) [] pos) X.env = (do callWith pos (← eval (.Subscript (.List ls p2) ie p3) X.env) [] (backTo pos (starEach (e :: es) X.env)) (backToKw pos (keywordEach [] X.env))) := by rfl) :
    SE X E (.Call (.Subscript (.List ls p2) ie p3) (e :: es) [] pos) (mCallL gs mi ms) := by
  obtain ⟨fs, L⟩ := hL
  refine pe_of (pe_callE (n := n) (pe_ix ix_list (pe_lst L.pa) hi hs) hr hx ha.pa he hpl hc) fun σ H Q ⟨B0, Γ, G, sr, po⟩ => ⟨sz_of (by rw [List.length_map, L.len]; exact hz), fun p hp => ?_⟩
  have l0 : Le H (upd H p (.lst (fs.map V.ref))) := le_upd hp
  have g0 : Gr G H G (upd H p (.lst (fs.map V.ref))) := ⟨fun _ _ e => e, l0, le_trans sr.sub l0, fun a _ h => h⟩
  refine ⟨B0, Γ, G, sr.gr g0, ?_⟩
  have po2 : Po (Dq X.K) X.mg E G (upd H p (.lst (fs.map V.ref))) Q (mCallL gs mi ms Γ) := po.gr g0
  refine Po.bind po2 fun d x G1 H1 _ g1 dx po1 => ?_
  cases dx with
  | int i =>
    replace po1 : Po (Dq X.K) X.mg E G1 H1 Q (if 0 ≤ i then (match gs[i.toNat]? with | some g => (ms Γ).bind g | none => .no) else .no) := po1
    split at po1
    · rename_i h0
      cases q : gs[i.toNat]? with
      | none => rw [q] at po1; exact po1.elim
      | some g =>
        rw [q] at po1
        obtain ⟨f, hf, D⟩ := L.get i.toNat g q
        have hat : atI (fs.map V.ref) i = some (.ref f) := by
          obtain ⟨j, rfl⟩ : ∃ j : Nat, i = j := ⟨i.toNat, by omega⟩
          simp only [Int.toNat_natCast] at hf
          exact atI_nat (by simp [hf])
        refine ⟨p, fs.map V.ref, i, .ref f, rfl, rfl, .inl (Or.inl (g1.h p _ upd_same)), hat, f, g, rfl, D, B0, Γ, G1, (sr.gr g0).gr g1, ?_⟩
        refine Po.bind po1 fun ds xs G2 H2 q2 g2 dx2 po3 => ?_
        exact ⟨G2, ds, g2.s, dx2, by rw [ha.ln Γ ds q2]; exact hn, po3⟩
    · exact po1.elim
  | _ => exact po1.elim
end
/-! ### the suite of an except clause: which class? -/
structure Exs (K : PySem.W.Frag) (mg : Str → Option Value) (bs : Str) (names : List Str) : Prop where
  ex : ∃ B, mg bs = some (.ref B) ∧ ∀ c ∈ names, ∃ D, mg c = some (.ref D) ∧ ExcC K D ∧ PySem.W.exmOne K (.ref D) (.ref B) = some true ∧ ∀ c2 ∈ names, ∃ D2, mg c2 = some (.ref D2) ∧ PySem.W.kitOne K (.ref D) (.ref D2) = some (decide (c = c2))
/-- the exception at hand is of the class c -/
structure InS (X : Cx) (oe : Obj) (names : List Str) (c : Str) : Prop where
  ex : ∃ D, ExcC X.K D ∧ Zc (.ref D) none oe ∧ (∃ vs, oe.data = .fields vs) ∧ ∀ c2 ∈ names, ∃ D2, X.mg c2 = some (.ref D2) ∧ PySem.W.kitOne X.K (.ref D) (.ref D2) = some (decide (c = c2))
section
variable {X : Cx} {a : Addr} {oe : Obj} {pn : List (Addr × Obj)} {names : List Str} {c : Str} {i jf : Nat} {e : Expr} {es : List Expr} {pos : Pos} {bs bs0 : List Bool}
abbrev AtE (a : Addr) (i : Nat) (σ : L2.St) : Prop := σ[i]? = some (some (.ref a))
theorem isi_one (S : InS X oe names c) {nm cn : Str} {p p1 p2 : Pos} (hcn : cn ∈ names) (hm : X.mg "isinstance" = none) (hN : X.N[i]? = some nm) (hg : Gl X "isinstance" := by exact rfl)
    (hv : Vis X.env.scope nm := by first | exact Or.inl rfl | exact Or.inr (Or.inl rfl) | exact Or.inr (Or.inr rfl)) (hd : (nm == ("__debug__" : Str)) = false := by decide) (hcd : (nm == ("__classdict__" : Str)) = false := by decide)
    (hgc : Gl X cn := by exact rfl) (hdc : (cn == ("__debug__" : Str)) = false := by decide)
    (he : starEach [.Name nm p1, .Name cn p2] X.env = (false, eval (.Name nm p1) X.env) :: starEach [.Name cn p2] X.env := by rfl)
    (he2 : starEach [.Name cn p2] X.env = (false, eval (.Name cn p2) X.env) :: starEach [] X.env := by rfl)
    (hpl : (backTo pos (starEach [.Name cn p2] X.env)).any (·.1) = false := by rfl) :
    PE (X.suite a ((a, oe) :: pn)) (.Call (.Name "isinstance" p) [.Name nm p1, .Name cn p2] [] pos) (fun σ H Q => AtE a i σ ∧ Q (.bl (decide (c = cn))) H) := by
  obtain ⟨D, C, hz, hf, hk⟩ := S.ex
  obtain ⟨D2, h1, h2⟩ := hk cn hcn
  refine pe_of (pe_callB (X := X.suite a ((a, oe) :: pn)) (call_isE (pn := pn) (a := a) C hz hf) hg hm PyProof.Rows.boot_isinstance (pa_cons (pe_var (X := X.suite a ((a, oe) :: pn)) (i := i) hN hv hd hcd) (pa_cons (pe_glob (X := X.suite a ((a, oe) :: pn)) (v := V.ref D2) hgc h1 rfl hdc) pa_nil he2) he) (he := he) (hpl := hpl)) fun σ H Q ⟨q1, q2⟩ => ?_
  exact ⟨.ref a, q1, V.ref D2, .ref D2, _, rfl, fun u h => h, h2, q2⟩
abbrev PAI (X : Cx) (a : Addr) (i : Nat) (es : List Expr) (bs : List Bool) : Prop := PA X es (fun σ H Q => AtE a i σ ∧ Q (bs.map V.bl) H)
theorem isi_nil : PAI X a i [] [] := pa_of pa_nil fun σ H Q q => q.2
theorem isi_cons {b : Bool} (h : PE X e (fun σ H Q => AtE a i σ ∧ Q (.bl b) H)) (t : PAI X a i es bs) (hs : starEach (e :: es) X.env = (false, eval e X.env) :: starEach es X.env := by rfl) : PAI X a i (e :: es) (b :: bs) :=
  pa_of (pa_cons h t hs) fun σ H Q ⟨q1, q2⟩ => ⟨q1, q1, q2⟩
/-- a fresh list of truth values -/
abbrev PEF (X : Cx) (e : Expr) (P : L2.St → Hp → Prop) (bs : List Bool) : Prop := PE X e (fun σ H Q => P σ H ∧ ∀ p H', Le H H' → H' p = some (.lst (bs.map V.bl)) → Q (.ref p) H')
theorem flg_lst {P : L2.St → Hp → Prop} (h : PAI X a i es bs) (hP : ∀ σ H, P σ H → AtE a i σ) (hz : bs.length ≤ 1000 := by exact Nat.le_of_ble_eq_true rfl) : PEF X (.List es pos) P bs :=
  pe_of (pe_lst h) fun σ H Q ⟨q1, q2⟩ => ⟨hP σ H q1, sz_of (by rw [List.length_map]; omega), fun p hp => q2 p _ (le_upd hp) upd_same⟩
theorem flg_cat {P : L2.St → Hp → Prop} {x : Str} {p pos2 : Pos} (h : PAI X a i es bs) (hP : ∀ σ H, P σ H → AtE a i σ ∧ ∃ q, σ[jf]? = some (some (.ref q)) ∧ H q = some (.lst (bs0.map V.bl))) (hN : X.N[jf]? = some x) (hz : bs.length + bs0.length ≤ 1000 := by exact Nat.le_of_ble_eq_true rfl)
    (hv : Vis X.env.scope x := by first | exact Or.inl rfl | exact Or.inr (Or.inl rfl) | exact Or.inr (Or.inr rfl)) (hd : (x == ("__debug__" : Str)) = false := by decide) (hcd : (x == ("__classdict__" : Str)) = false := by decide) :
    PEF X (.BinOp (.Name x p) .Add (.List es pos) pos2) P (bs0 ++ bs) := by
  refine pe_of (pe_op op_cat (pe_var (i := jf) hN hv hd hcd) (pe_lst h)) fun σ H Q ⟨q1, q2⟩ => ?_
  obtain ⟨h1, q, h2, h3⟩ := hP σ H q1
  refine ⟨.ref q, h2, h1, sz_of (by rw [List.length_map]; omega), fun p hp => ?_⟩
  have ne : q ≠ p := fun z => by subst z; rw [hp] at h3; cases h3
  refine ⟨q, p, bs0.map V.bl, bs.map V.bl, rfl, rfl, by rw [upd_ne ne]; exact h3, upd_same, sz_of (by rw [List.length_map, List.length_map]; omega), fun p2 hp2 => ?_⟩
  refine q2 p2 _ (le_trans (le_upd hp) (le_upd hp2)) ?_
  rw [upd_same, List.map_append]
theorem shaped_bools (bs : List Bool) : SeqAt.shaped (.list (bs.map .bool)) = true := by
  have : ∀ bs : List Bool, PyData.canLayAll0 (bs.map PyData.bool) = true ∧ PyData.depthAll (bs.map PyData.bool) = 0 := fun bs => by
    induction bs with
    | nil => exact ⟨rfl, rfl⟩
    | cons b r ih => simp [PyData.canLayAll0, PyData.depthAll, PyData.canLay0, PyData.depth, ih.1, ih.2]
  obtain ⟨h1, h2⟩ := this bs
  simp [SeqAt.shaped, PyData.canLay0, PyData.depth, h1, h2]
theorem dpAll_bools {K : PySem.W.Frag} {H : Hp} : ∀ bs : List Bool, DpAll K H (bs.map V.bl) (bs.map .bool)
  | [] => .nil
  | b :: r => .cons (.bl b) (dpAll_bools r)
theorem idx_pe {P : L2.St → Hp → Prop} {kk : Nat} {apos cp : Pos} (hu : X.A.units + 65 < cLine) (h : PEF X e P bs) {j : Nat} (hj : bs[j]? = some true) (hno : ∀ m, m < j → bs[m]? = some false)
    (hbase : attributeBase e "index" X.env (eval e X.env) = eval e X.env := by rfl)
    (hfew : ((backTo cp (starEach [.Constant (.bool true) kk pos] X.env)).all (fun x => !x.1) && (backToKw cp (keywordEach [] X.env)).all (fun x => x.1.isSome)
      && decide ([Expr.Constant (.bool true) kk pos].length + ([] : List Keyword).length + (if ([] : List Keyword).isEmpty then 0 else 1) < 30)) = true := by rfl)
    (hline : (apos.endLine == cp.line) = true := by rfl) (hs : starEach [.Constant (.bool true) kk pos] X.env = (false, eval (.Constant (.bool true) kk pos) X.env) :: starEach [] X.env := by rfl) (hplain : (backTo cp (starEach [] X.env)).any (·.1) = false := by rfl) :
    PE X (.Call (.Attribute e "index" apos) [.Constant (.bool true) kk pos] [] cp) (fun σ H Q => P σ H ∧ ∀ H', Le H H' → Q (.int (j : Nat)) H') := by
  refine pe_of (pe_bm (T := "list") PySem.F.plainAttrs_list PySem.F.slot_list_index PySem.F.type_list_index (mt_indexD hu) h (pa_cons pe_bl pa_nil hs) hbase hfew hline hs hplain) fun σ H Q ⟨q1, q2⟩ => ⟨q1, fun p H' l hp => ?_⟩
  refine ⟨.inl ⟨rfl, _, .inl (.inl hp)⟩, ?_⟩
  have hsh := shaped_bools bs
  exact ⟨p, .bl true, .bool true, bs.map .bool, j, .bool true, rfl, rfl, .lst (.inl (.inl hp)) (dpAll_bools bs), .bl true, hsh, by decide, by simp [hj], by simp [PyData.eqv],
    fun m z' hm hz' => by
      have := hno m hm
      simp [this] at hz'
      subst hz'
      simp [PyData.eqv], q2 H' l⟩
/-! the two forms of the suite -/
theorem hd_ret {P : L2.St → Hp → Prop} {j : Nat} (h : PE X e (fun σ H Q => P σ H ∧ ∀ H', Le H H' → Q (.int (j : Nat)) H')) : PSs X [.Return (some e) pos] (fun D σ H => P σ H ∧ ∀ H', Le H H' → D.rt (.int (j : Nat)) H') :=
  pss_of (pss_one (ps_ret h)) fun D σ H ⟨q1, q2⟩ => ⟨q1, q2⟩
/-- e at i, flags at jf -/
abbrev FlP (a : Addr) (i jf : Nat) (bs0 : List Bool) : L2.St → Hp → Prop := fun σ H => AtE a i σ ∧ ∃ q, σ[jf]? = some (some (.ref q)) ∧ H q = some (.lst (bs0.map V.bl))
theorem hd_set {P : L2.St → Hp → Prop} {T : (V → Hp → Prop) → Hp → Prop} {rest : List Stmt} {x : Str} {p : Pos} (h : PEF X e P bs) (hP : ∀ σ H, P σ H → AtE a i σ ∧ jf < σ.length) (hT : ∀ D H H', T D H → Le H H' → T D H') (hij : i ≠ jf)
    (hr : PSs X rest (fun D σ H => FlP a i jf bs σ H ∧ T D.rt H)) (hN : X.N.Nodup) (hi : X.N[jf]? = some x := by rfl) (hx : Loc X.env.scope x := by first | exact .inl rfl | exact .inr rfl) (hs : swapsWith e (some (.Name x p)) pos.line X.env = pure false := by rfl)
    (hf : X.fn x = true ∨ X.env.scope.names.lookup x = some .local := by first | exact .inl rfl | exact .inr rfl | assumption) : PSs X (.Assign [.Name x p] e pos :: rest) (fun D σ H => P σ H ∧ T D.rt H) :=
  pss_of (pss_cons (ps_set hN hi hx h hs hf) hr) fun D σ H ⟨q1, q2⟩ => by
    obtain ⟨g1, g2⟩ := hP σ H q1
    refine ⟨q1, fun q H' l hq => ⟨⟨?_, q, ?_, hq⟩, hT _ _ _ q2 l⟩⟩
    · rw [AtE, List.getElem?_set_ne (Ne.symm hij)]; exact g1
    · rw [List.getElem?_set_self g2]
end
/-! ### try .. except X as e: return an int of the class -/
def noOwn (Γ : Gam) : Bool := Γ.all fun x => match x with
  | .own _ => false
  | _ => true
theorem noOwn_get : ∀ {Γ : Gam}, noOwn Γ = true → ∀ (i : Nat) (ds : List PyData), gat Γ i ≠ .own ds
  | [], _, i, ds, e => by cases e
  | x :: r, h, 0, ds, e => by
    have e : x = .own ds := e
    subst e
    cases h
  | x :: r, h, i + 1, ds, e => by
    have h2 : noOwn r = true := by
      unfold noOwn at h ⊢
      rw [List.all_cons] at h
      exact (Bool.and_eq_true_iff.mp h).2
    exact noOwn_get h2 i ds e
def mTry (names : List Str) (k : Str → Int) (mb : MS) : MS := fun Γ => if noOwn Γ = true then (match mb Γ with
  | .ex c => if c ∈ names then .rt (.int (k c)) else .no
  | .nx Γ1 => .nx Γ1
  | .rt d => .rt d
  | _ => .no) else .no
theorem SZ.of_base {K : PySem.W.Frag} {G0 H0 G H G' H' : Hp} {σ σ' : L2.St} {Γ Γ' : Gam} (s : SZ K G0 H0 G H σ Γ) (t : SZ K G H G' H' σ' Γ') : SZ K G0 H0 G' H' σ' Γ' :=
  ⟨⟨t.sr.sub, t.sr.len, t.sr.val, t.sr.own, t.sr.inj, (fun i ds p h1 h2 => by
    have := t.sr.nw i ds p h1 h2
    cases q : H0 p with
    | none => rfl
    | some u => rw [s.gr.h p u q] at this; cases this), t.sr.adr⟩, s.gr.trans t.gr⟩
section
variable {X : Cx} {E : XK} {names : List Str} {i : Nat} {n x : Str} {b₀ : Stmt} {body suite : List Stmt} {mb : MS} {k : Str → Nat} {np pos pos' : Pos}
abbrev P0 (a : Addr) (i L : Nat) : L2.St → Hp → Prop := fun σ _ => AtE a i σ ∧ σ.length = L
theorem ss_try (hex : Exs X.K X.mg x names) (hs : X.stack = X.env :: X.outer) (hf : X.env.frame = some X.env.locals) (hN : X.N.Nodup) (hi : X.N[i]? = some n) (hln : X.env.kindOf n = some .local) (hg : Gl X x) (hd : (x == ("__debug__" : Str)) = false)
    (tk : Takes X (fun _ _ _ _ => False))
    (hb : ∀ (E' : XK) (pn : List (Addr × Obj)) (xe : Value → Shared → Prop), Takes (X.tr pn xe) (fun cls d _ H => E' cls d H) → PassesOwn (model X.prog X.w) X.A X.env xe → SB (X.tr pn xe) E' body mb)
    (hh : ∀ c ∈ names, ∀ (a : Addr) (oe : Obj) (pn : List (Addr × Obj)), InS X oe names c → PSs (X.suite a ((a, oe) :: pn)) (b₀ :: suite) (fun D σ H => P0 a i X.N.length σ H ∧ ∀ H', Le H H' → D.rt (.int (k c : Nat)) H')) :
    SS X E (.Try body [.ExceptHandler (some (.Name x np)) (some n) (b₀ :: suite) pos'] [] [] pos) (mTry names (fun c => (k c : Nat)) mb) := by
  obtain ⟨B, hB, hx⟩ := hex.ex
  refine ps_of (ps_try_as (c := .ref B) (i := i) (tb := fun W D σ H => tS X.K X.mg (fun cls d H => ∀ σ : L2.St, σ.length = X.N.length → W cls d σ H) mb D σ H) (Wout := fun _ _ _ _ => False)
    (ts := fun a cls d D σ H => ∃ c, c ∈ names ∧ cls = cV X.mg c ∧ d = none ∧ P0 a i X.N.length σ H ∧ ∀ H', Le H H' → D.rt (.int (k c : Nat)) H') hs hf hN hi hln ⟨hg, hd, .inl hB⟩ tk ?_ ?_) ?_
  · intro W pn xe t po
    exact hb _ pn xe (fun u s' ⟨a, B', sI, pins, σ, H, cls, d, e, I, nb, up, sky, na, os, ag, w⟩ => t u s' ⟨a, B', sI, pins, σ, H, cls, d, e, I, nb, up, sky, na, os, ag, w σ I.len⟩) po
  · intro a oe cls d pn hz hfl
    refine ⟨fun pins s σ H D I q => ?_⟩
    obtain ⟨c, hc, rfl, rfl, q1, q2⟩ := q
    obtain ⟨Dc, g1, g2, g3, g4⟩ := hx c hc
    have e1 : cV X.mg c = .ref Dc := by unfold cV; rw [g1]; rfl
    rw [e1] at hz
    exact (hh c hc a oe pn ⟨Dc, g2, hz, hfl, g4⟩).run pins s σ H D I ⟨q1, q2⟩
  · rintro D σ H ⟨G0, H0, G, Γ, s, po⟩
    unfold mTry at po
    split at po
    · rename_i hno
      have s2 : SZ X.K G H G H σ Γ := ⟨⟨s.sr.sub, s.sr.len, s.sr.val, s.sr.own, s.sr.inj, fun i ds p h1 _ => absurd h1 (noOwn_get hno i ds), s.sr.adr⟩, Gr.refl s.sr.sub⟩
      refine ⟨G, H, G, Γ, s2, ?_⟩
      cases e : mb Γ with
      | nx Γ1 =>
        rw [e] at po
        exact fun σ' G' H' t => po σ' G' H' (s.of_base t)
      | rt d =>
        rw [e] at po
        exact fun x G' H' g dx => po x G' H' (s.gr.trans g) dx
      | bk Γ1 => rw [e] at po; exact po.elim
      | ct Γ1 => rw [e] at po; exact po.elim
      | no => rw [e] at po; exact po.elim
      | ex c =>
        rw [e] at po
        dsimp only at po
        split at po
        · rename_i hc
          intro H' l σ2 hl
          obtain ⟨Dc, g1, g2, g3, g4⟩ := hx c hc
          have e1 : cV X.mg c = .ref Dc := by unfold cV; rw [g1]; rfl
          have hlt : i < σ2.length := by
            rw [hl]
            exact (List.getElem?_eq_some_iff.mp hi).1
          refine ⟨true, by rw [e1]; exact g3, fun _ a ha => ⟨c, hc, rfl, rfl, ⟨List.getElem?_set_self hlt, by rw [List.length_set]; exact hl⟩, fun H'' l2 => ?_⟩, fun z => nomatch z⟩
          have l3 := le_trans l l2
          exact po (.int (k c : Nat)) G H'' (s.gr.trans ⟨fun _ _ e => e, l3, le_trans s.sr.sub l3, fun a _ h => h⟩) (.int _)
        · exact po.elim
    · exact po.elim
end
theorem hu65 {k : Nat} {A : Around} {v : Option Value} (hr : Room k A) : (A.mark v).units + 65 < cLine := by
  have := hr.un
  show A.units + 65 < cLine
  omega
theorem flp_len {a : Addr} {i jf : Nat} {bs : List Bool} {σ : L2.St} {H : Hp} (h : FlP a i jf bs σ H) : jf < σ.length := by
  obtain ⟨q, h1, _⟩ := h.2
  exact (List.getElem?_eq_some_iff.mp h1).1
theorem idx_hit {c : Str} : ∀ {names : List Str}, c ∈ names → (names.map fun n => decide (c = n))[names.idxOf c]? = some true ∧ ∀ m, m < names.idxOf c → (names.map fun n => decide (c = n))[m]? = some false
  | [], h => by cases h
  | n :: r, h => by
    by_cases e : n = c
    · subst e
      simp [List.idxOf_cons]
    · have hr : c ∈ r := by
        rcases List.mem_cons.mp h with h | h
        · exact absurd h.symm e
        · exact h
      obtain ⟨h1, h2⟩ := idx_hit hr
      have e1 : (n :: r).idxOf c = r.idxOf c + 1 := by rw [List.idxOf_cons, show (n == c) = false from beq_eq_false_iff_ne.mpr e]; rfl
      have e2 : decide (c = n) = false := by simpa using Ne.symm e
      rw [e1]
      refine ⟨by simpa using h1, fun m hm => ?_⟩
      cases m with
      | zero => simp [e2]
      | succ m => simpa using h2 m (by omega)
end PD

/-! The data layer: what the head tells of the exception classes. -/
namespace PD
open PySem PySem.Spec PyProof.Rows L2
def excB (K : PySem.W.Frag) (D : Addr) : Bool :=
  (PySem.W.findIn K (.ref D) "__getattribute__" == some (some (.builtin "BaseException.__getattribute__"))) && ((PySem.W.findIn K (.ref D) "__getattr__" == some none) && ((PySem.W.subIn K (.ref D) (.type "BaseException") == some true) && (PySem.W.hasDictIn K D && ((PySem.W.findIn K (.ref D) "__class__" == some (some (.builtin "object.__class__"))) &&
  ((PySem.W.specialIn K (.builtin "object.__class__") "__get__" == some (some (.builtin "getset_descriptor.__get__"))) && ((PySem.W.takesIn K (.builtin "object.__class__") == some true) && (PySem.W.mroIn K D (.type "object") == some true)))))))
theorem excB_ok {K : PySem.W.Frag} {D : Addr} (h : excB K D = true) : ExcC K D := by
  unfold excB at h
  simp only [Bool.and_eq_true, beq_iff_eq] at h
  obtain ⟨h1, h2, h3, h4, h5, h6, h7, h8⟩ := h
  exact ⟨h1, h2, h3, h4, h5, h6, h7, h8⟩
def exsB (K : PySem.W.Frag) (bs : Str) (names : List Str) : Bool := names.all fun c => excB K (He.ga K c) && ((PySem.W.exmOne K (.ref (He.ga K c)) (.ref (He.ga K bs)) == some true) && names.all fun c2 => PySem.W.kitOne K (.ref (He.ga K c)) (.ref (He.ga K c2)) == some (decide (c = c2)))
theorem exs_of {K : PySem.W.Frag} {mg : Str → Option Value} {bs : Str} {names : List Str} (hb : mg bs = some (.ref (He.ga K bs))) (hn : ∀ c ∈ names, mg c = some (.ref (He.ga K c))) (h : exsB K bs names = true) : Exs K mg bs names := by
  refine ⟨He.ga K bs, hb, fun c hc => ?_⟩
  have h1 := List.all_eq_true.mp h c hc
  simp only [Bool.and_eq_true, beq_iff_eq] at h1
  obtain ⟨h2, h3, h4⟩ := h1
  refine ⟨He.ga K c, hn c hc, excB_ok h2, h3, fun c2 hc2 => ⟨He.ga K c2, hn c2 hc2, ?_⟩⟩
  have := List.all_eq_true.mp h4 c2 hc2
  simpa using this
theorem all_nil {P : Str → Prop} : ∀ c ∈ ([] : List Str), P c := fun c h => by cases h
theorem all_cons {P : Str → Prop} {n : Str} {r : List Str} (h : P n) (t : ∀ c ∈ r, P c) : ∀ c ∈ n :: r, P c := fun c hc => by
  rcases List.mem_cons.mp hc with e | hc
  · rw [e]; exact h
  · exact t c hc
end PD

/-! The data layer: set(xs) of a list: whatever the set keeps of its members, told step by step. -/
namespace PD
open PySem PySem.Spec PyProof.Rows
section
variable {prog : Program} {w : World} {A : Around} {R : Result → Shared → Prop} {I S : Addr} {fp wr : List Addr} {G : Array GenState → Array GenState → Prop} {n : Nat} {Pv : Nat → Value → Prop} {St : Nat → Shared → Prop} {T : Nat → Heap → Prop}
/-- T speaks of the object at S alone -/
def Own1 (S : Addr) (T : Nat → Heap → Prop) : Prop := ∀ i (h k : Heap), (∀ o, h.get? S = some o → k.get? S = some o) → T i h → T i k
/-- a member is added -/
def Adds (prog : Program) (w : World) (A : Around) (S : Addr) (T : Nat → Heap → Prop) (Pv : Nat → Value → Prop) : Prop :=
  ∀ (i : Nat) (v : Value) (s : Shared) (Q : Bool → Shared → Prop) (E : Value → Shared → Prop), Pv i v → T i s.heap → (∀ b g k, Heap.SameBut S s.heap g → T (i + 1) g → Q b { s with heap := g, toks := s.toks + k }) → wpAny (model prog w) A (setAdd S v) Q E s
theorem fill (W : WalksS prog w A.in1 I fp wr G n Pv St) (nS : S ∉ fp) (hT : Own1 S T) (hA : Adds prog w A.in1 S T Pv) : ∀ (m j : Nat) (s : Shared), n - j = m → j ≤ n → St j s → T j s.heap →
    (∀ u, Moved (S :: wr) G s u → T n u.heap → R (.ok (.ret .none)) u) → codeAny (model prog w) A (.builtin "set.update.loop" ⟨[.ref S, .ref I], []⟩) R s := by
  have nw : S ∉ wr := fun z => nS (W.sub _ z)
  have up : ∀ c ∈ wr, c ∈ S :: wr := fun c hc => .tail _ hc
  intro m
  induction m with
  | zero =>
    intro j s hm hj st t hR
    obtain rfl : j = n := by omega
    refine codeAny_builtin F.entry_set_update_loop ?_
    rw [Around.under_plainId F.plain_set_update_loop _]
    change wpAny _ A.in1 (pyNext (.ref I) >>= _) _ _ s
    refine wpAny_bind (W.done s _ _ st fun u mv => ?_)
    change wpAny _ A.in1 (ret Value.none) _ _ u
    exact wpAny_pure (hR u (mv.mono up) (hT _ _ _ (fun o e => mv.heap S o nw e) t))
  | succ m ih =>
    intro j s hm hj st t hR
    have lt : j < n := by omega
    refine codeAny_builtin F.entry_set_update_loop ?_
    rw [Around.under_plainId F.plain_set_update_loop _]
    change wpAny _ A.in1 (pyNext (.ref I) >>= _) _ _ s
    refine wpAny_bind (W.item j s _ _ lt st fun v u pv st2 mv => ?_)
    change wpAny _ A.in1 (holding [v] (setAdd S v) >>= _) _ _ u
    refine wpAny_bind (wpAny_holding (hA j v u _ _ pv (hT _ _ _ (fun o e => mv.heap S o nw e) t) fun b g k sb t2 => ?_))
    have keep : ∀ c, c ≠ S → ∀ o, u.heap.get? c = some o → g.get? c = some o := fun c nc o e => by rw [sb.2 c nc]; exact e
    refine wpAny_pure ⟨plainId_quiet F.plain_set_update_loop _, ih (j + 1) _ (by omega) lt (W.frame _ u _ _ st2 (Nat.le_add_right _ _) fun c hc o e => keep c (fun z => nS (z ▸ hc)) o e) t2 fun x mx tx => ?_⟩
    exact hR x (Moved.trans W.gtrans ((mv.mono up).then_heap (Nat.le_add_right _ _) fun c o hc e => keep c (fun z => hc (z ▸ .head _)) o e) mx) tx
end
section
variable {prog : Program} {w : World} {A : Around} {E : Value → Shared → Prop} {s : Shared} {T : Nat → Heap → Prop}
/-- a set that was just made -/
abbrev newSet (w : World) : Obj := { cls := .type "set", dict := none, data := .set #[] 0 (.fresh 0 0 (!w.params.followText "set-order")) }
/-- set(xs) of a list -/
theorem set_of {l : Addr} {its : Array Value} {Q : Value → Shared → Prop} (calm : A.handled = none) (hl : s.heap.IsList l its) (hT : Own1 s.heap.objs.size T)
    (hA : ∀ B : Around, B.handled = none → Adds prog w B s.heap.objs.size T fun i v => its[i]? = some v) (h0 : ∀ g : Heap, g.get? s.heap.objs.size = some (newSet w) → T 0 g)
    (hQ : ∀ (g : Heap) (tk : Nat), T its.size g → (∀ b o, s.heap.get? b = some o → g.get? b = some o) → Q (.ref s.heap.objs.size) { s with heap := g, toks := tk }) :
    wpAny (model prog w) A (call (.type "set") [.ref l]) Q E s := by
  have ⟨c, tl, mro⟩ := PySem.F.called_set.mro
  have a1 := PySem.F.called_set.made; have a2 := PySem.F.called_set.sub; have a3 := PySem.F.called_set.notType; have a4 := PySem.F.called_set.canCreate; have a5 := PySem.F.typeCall_set_1 (.ref l)
  have a6 := PySem.F.called_set.init.lookup; have a7 := PySem.F.called_set.init.bind (.ref s.heap.objs.size)
  refine wpAny_call (codeAny_of_tree (show wpAny _ _ (callAny (.type "set") _) _ _ _ from wpAny_pure ⟨Code.quiet_builtin _ (by decide +kernel), codeAny_builtin PySem.F.entry_type_call ?_⟩))
  rw [Around.under_plain (weight_type_call_type "set" [.ref l] []) rfl]
  repeat (any_goals (first | assumption | wp_step))
  refine codeAny_mono (L2.code_set_led1 (.ref l) (E := E) (Q₁ := fun v u => v = .ref s.heap.objs.size ∧ u = { s with heap := s.heap.push (newSet w) }) ⟨rfl, rfl⟩) fun r u hr => ?_
  match r, hr with
  | .error e, hr => exact hr
  | .ok (.ret v), hr =>
    obtain ⟨rfl, rfl⟩ := hr
    have b1 : (s.heap.push (newSet w)).get? s.heap.objs.size = some (newSet w) := Heap.get?_push_size _ rfl
    have b2 : Shared.TypeIs { s with heap := s.heap.push (newSet w) } (.ref s.heap.objs.size) "set" := ⟨_, b1, rfl⟩
    repeat (any_goals (first | assumption | wp_step))
    refine codeAny_mono (codeAny_call_builtin (R := wants (fun v u => v = .none ∧ ∃ g tk, u = { s with heap := g, toks := tk } ∧ T its.size g ∧ ∀ b o, s.heap.get? b = some o → g.get? b = some o) E) PySem.F.called_set.init.plain PySem.F.entry_set_init (check_set_init_1 b2 ?_)) fun r2 u2 hr2 => ?_
    · have ⟨ol, e1, e2, nl, e3⟩ := hl
      have ll : l < s.heap.objs.size := Heap.lt_size e1
      have l1 : (s.heap.push (newSet w)).IsList l its := hl.push _
      have c1 := PySem.F.sub_list_set; have c2 := PySem.F.sub_list_frozenset
      have c3 : (Value.type "list" == Value.type "dict") = false := by decide
      obtain ⟨oc, od, oda, osl⟩ := ol
      simp only at e2 e3
      subst e2 e3
      have e4 := Heap.get?_push_of_some (newSet w) e1
      unfold Builtin.«set.__init__» noKeywords Builtin.Frozenset.updateFrom
      generalize hp : pyIter = py
      wp_walk
      subst hp
      refine wpAny_pyIter_list l1 (wpAny_bind (wpAny_runValue ?_))
      have z : (s.heap.push (newSet w)).objs.size = s.heap.objs.size + 1 := Heap.size_push ..
      have q0 : A.in1.in1.in1.handled = none := by simp [calm]
      have nS2 : s.heap.objs.size ∉ [(s.heap.push (newSet w)).objs.size, l] := fun m => by
        rw [z] at m
        rcases List.mem_cons.mp m with m | m
        · exact absurd m (Nat.ne_of_lt (Nat.lt_succ_self _))
        · exact absurd (List.mem_singleton.mp m) (Nat.ne_of_gt ll)
      refine fill (Walks.list q0 _ l (z ▸ Nat.ne_of_lt (Nat.lt_succ_of_lt ll)) its).toS nS2 hT (hA _ (by simp [calm])) (its.size - 0) 0 _ rfl (Nat.zero_le _) ⟨⟨_, Heap.get?_push_size _ rfl, rfl, rfl⟩, l1.push _⟩ (h0 _ (Heap.get?_push_of_some _ b1)) fun u mv tn => ?_
      obtain ⟨g, gs, dr, tk, os⟩ := u
      obtain rfl : gs = s.gens := mv.gens
      obtain rfl : dr = s.drawn := mv.drawn
      obtain rfl : os = s.os := mv.os
      refine (show wpAny _ _ _ _ _ _ from wpAny_pure (show wpAny _ _ (ret Value.none) _ _ _ from wpAny_pure ⟨rfl, g, tk, rfl, tn, fun b o e => ?_⟩))
      have lb := Heap.lt_size e
      refine mv.heap b o (fun m => ?_) (Heap.get?_push_of_some _ (Heap.get?_push_of_some _ e))
      rcases List.mem_cons.mp m with m | m
      · exact absurd m (Nat.ne_of_lt lb)
      · exact absurd (List.mem_singleton.mp m) (z ▸ Nat.ne_of_lt (Nat.lt_succ_of_lt lb))
    · match r2, hr2 with
      | .error e, hr2 => exact hr2
      | .ok (.ret v), hr2 =>
        obtain ⟨rfl, g, tk, rfl, t1, t2⟩ := hr2
        repeat (any_goals (first | assumption | wp_step))
        exact hQ g tk t1 t2
end
end PD

/-! The data layer: sorted(set(xs)), ints. -/
namespace PD
open PySem PySem.Spec PyProof.Rows L2
theorem asc_eq : ∀ {xs ys : List Int}, xs.Pairwise (· < ·) → ys.Pairwise (· < ·) → (∀ k, k ∈ xs ↔ k ∈ ys) → xs = ys
  | [], [], _, _, _ => rfl
  | [], y :: ys, _, _, h => absurd ((h y).mpr (.head _)) (by simp)
  | x :: xs, [], _, _, h => absurd ((h x).mp (.head _)) (by simp)
  | x :: xs, y :: ys, hx, hy, h => by
    obtain ⟨a1, a2⟩ := List.pairwise_cons.mp hx
    obtain ⟨b1, b2⟩ := List.pairwise_cons.mp hy
    have e : x = y := by
      rcases List.mem_cons.mp ((h x).mp (.head _)) with c | c
      · exact c
      · rcases List.mem_cons.mp ((h y).mpr (.head _)) with d | d
        · exact d.symm
        · have := a1 y d; have := b1 x c; omega
    subst e
    refine congrArg _ (asc_eq a2 b2 fun k => ⟨fun hk => ?_, fun hk => ?_⟩)
    · rcases List.mem_cons.mp ((h k).mp (.tail _ hk)) with c | c
      · have := a1 k hk; omega
      · exact c
    · rcases List.mem_cons.mp ((h k).mpr (.tail _ hk)) with c | c
      · have := b1 k hk; omega
      · exact c
theorem sortI_lt {ns : List Int} (h : ns.Nodup) : (sortI ns).Pairwise (· < ·) := by
  have h1 := sortI_sorted ns
  have h2 : (sortI ns).Nodup := (sortI_perm ns).nodup_iff.mpr h
  exact List.Pairwise.imp₂ (fun a b hab hne => by have : a ≠ b := hne; omega) h1 h2
section
variable {X : Cx}
theorem fresh_setR {w : World} {g : Heap} {a : Addr} {ns : List Int} (h : g.get? a = some (newSet w)) : SetR w g a (fun j => decide (j ∈ ns.take 0)) 0 := L2.setR_new_at h
/-- set(xs), xs a list of ints -/
def rSetL (K : PySem.W.Frag) (w : World) : List V → Hp → VK → Prop := fun vs H Q => ∃ (l : Addr) (ns : List Int), vs = [V.ref l] ∧ SqL K H l (ns.map V.int) ∧ ns.length ≤ 1000 ∧
  ∀ p c, H p = none → c ≤ ns.length → Q (.ref p) (upd H p (SetO w p (fun j => decide (j ∈ ns)) c))
theorem cr_setL (hc : X.calm = true) : CallR X (.type "set") (rSetL X.K X.w) := by
  intro pins s σ H vs us Q I r h
  obtain ⟨l, ns, rfl, hq, hz, q⟩ := h
  obtain ⟨its, rv, pl, _⟩ := I.list hq
  rw [Vals.ref1 r]
  have hv := RZ.intsAre_vals rv
  have hlen : its.length = ns.length := by rw [← rv.length, List.length_map]
  refine set_of (T := fun i g => ∃ c, c ≤ i ∧ SetR X.w g s.heap.objs.size (fun j => decide (j ∈ ns.take i)) c) (I.ok.hd hc) pl.isList (fun i g k e ⟨c, c1, c2⟩ => ⟨c, c1, c2.at e⟩) (fun B _ => ?_) (fun g e => ⟨0, Nat.le_refl _, fresh_setR e⟩) fun g tk ⟨c, c1, c2⟩ hk => ?_
  · intro i v u Q2 E2 hi ⟨c, c1, c2⟩ hQ
    obtain ⟨t, e⟩ := PyProof.Rows.IntsAre.int_at hv i v (by simpa using hi)
    have hin : i < ns.length := by
      have := (Array.getElem?_eq_some_iff.mp hi).1
      simpa [hlen] using this
    have hn : ns.getD i 0 = ns[i] := by simp [List.getD_eq_getElem?_getD, hin]
    rw [hn] at e
    subst e
    unfold setAdd
    refine wpAny_holding (wpAny_bind ((intKind X.prog X.w).pyHash (k := ns[i]) (intKind_is _ _ _ _) ?_))
    refine setR_add_hashed (s := { u with toks := u.toks + 1 }) c2 (by unfold scanBound; omega) fun g sb new => ?_
    refine hQ _ g 1 sb ⟨if decide (ns[i] ∈ ns.take i) = true then c else c + 1, by split <;> omega, new.congr fun k => ?_⟩
    rw [List.take_succ_eq_append_getElem hin]
    rw [Bool.eq_iff_iff]
    simp only [decide_eq_true_eq, List.mem_append, List.mem_singleton, Bool.or_eq_true]
  · have hsz : its.toArray.size = ns.length := by simp [hlen]
    rw [hsz] at c1 c2
    rw [List.take_length] at c2
    exact ⟨.ref _, _, I.laid (t' := tk) hk (Nat.le_refl _) (setO_new c2), rfl, q _ c (I.hok.fresh (Nat.le_refl _)) c1⟩
def dSortSet : PyData → R PyData
  | .list ds => (oR (intsOf ds)).bind fun ns => if ns.Nodup ∧ ns.length ≤ 63 then .ok (.list ((sortI ns).map .int)) else .no
  | _ => .no
def mSortSet (m : M) : M := fun Γ => (m Γ).bind dSortSet
theorem se_sortset {E : XK} {a : Expr} {m : M} {p p2 q pos : Pos} (hc : X.calm = true) (hm : X.mg "sorted" = none) (hm2 : X.mg "set" = none) (ha : SE X E a m) (hg : Gl X "sorted" := by exact rfl) (hg2 : Gl X "set" := by exact rfl)
    (na : starEach [a] X.env = (false, eval a X.env) :: starEach [] X.env := by rfl)
    (nb : starEach [.Call (.Name "set" p2) [a] [] q] X.env = (false, eval (.Call (.Name "set" p2) [a] [] q) X.env) :: starEach [] X.env := by rfl) : SE X E (.Call (.Name "sorted" p) [.Call (.Name "set" p2) [a] [] q] [] pos) (mSortSet m) := by
  have h1 := pe_callTy (p := p2) (pos := q) (cr_setL hc) hg2 hm2 (by decide +kernel) (pa_cons ha pa_nil na) (hn := by decide) (hdb := by decide) (he := na) (hpl := by rfl)
  refine pe_of (pe_callB (p := p) (pos := pos) (cr_sortedSet hc) hg hm (by decide +kernel) (pa_cons h1 pa_nil nb) (hn := by decide) (hdb := by decide) (he := nb) (hpl := by rfl)) fun σ H Q ⟨B, Γ, G, sr, po⟩ => ⟨B, Γ, G, sr, Po.bind po fun d x G1 H1 _ g1 dx po1 => ?_⟩
  cases dx with
  | @lst l xs ds h1 a1 =>
    replace po1 : Po (Dq X.K) X.mg E G1 H1 Q ((oR (intsOf ds)).bind fun ns => if ns.Nodup ∧ ns.length ≤ 63 then R.ok (PyData.list ((sortI ns).map .int)) else .no) := po1
    cases e : intsOf ds with
    | none => rw [e] at po1; exact po1.elim
    | some ns =>
      rw [e, oR_some, R.bind_ok] at po1
      have := intsOf_eq e; subst this
      have := dpa_ints a1; subst this
      split at po1
      · rename_i h
        refine ⟨l, ns, rfl, sq1 g1.s h1, by omega, fun p c hp hcl => ?_⟩
        refine ⟨p, _, c, rfl, upd_same, by omega, fun ns' p3 up mem len hp3 => ?_⟩
        have : ns' = sortI ns := asc_eq up (sortI_lt h.1) fun k => by
          rw [mem, decide_eq_true_eq, (sortI_perm ns).mem_iff]
        subst this
        have g2 : Gr G1 H1 G1 (upd H1 p (SetO X.w p (fun j => decide (j ∈ ns)) c)) := ⟨fun _ _ e => e, le_upd hp, le_trans g1.s (le_upd hp), fun a _ h => h⟩
        exact po_lst (po1.gr g2) g2.s hp3 (dpa_ofInts _)
      · exact po1.elim
  | _ => exact po1.elim
end
end PD

/-! The data layer: len(set(xs)), a list of texts. -/
namespace PD
open PySem PySem.Spec PyProof.Rows L2
/-- how many different ones -/
def ndS : List Str → Nat
  | [] => 0
  | x :: t => if x ∈ t then ndS t else ndS t + 1
theorem ndS_le : ∀ xs : List Str, ndS xs ≤ xs.length
  | [] => Nat.le_refl _
  | x :: t => by unfold ndS; have := ndS_le t; simp only [List.length_cons]; split <;> omega
theorem vals_str_at : ∀ {xs : List Str} {us : List Value}, Vals (xs.map V.str) us → ∀ (i : Nat) (v : Value), us[i]? = some v → ∀ h : i < xs.length, ∃ t, v = Value.str xs[i] t
  | [], _, _, i, v, _, h => absurd h (by simp)
  | x :: xs, _, .cons r t, 0, v, hi, h => by
    obtain ⟨k, rfl⟩ := r
    simp at hi
    exact ⟨k, hi.symm⟩
  | x :: xs, _, .cons r t, i + 1, v, hi, h => by
    simp at hi
    exact vals_str_at t i v hi (by simpa using h)
section
variable {X : Cx}
def tLenSetS (K : PySem.W.Frag) (ta : TE) : TE := fun σ H Q => ta σ H fun x H1 => ∃ l, ∃ xs : List Str, x = .ref l ∧ SqL K H1 l (xs.map V.str) ∧ xs.length ≤ 1000 ∧ Q (.int (ndS xs.reverse : Nat)) H1
theorem pe_lenSetS {a : Expr} {ta : TE} {p p2 q pos : Pos} (hc : X.calm = true) (hg : Gl X "len") (hm : X.mg "len" = none) (hg2 : Gl X "set") (hm2 : X.mg "set" = none) (ha : PE X a ta)
    (na : starEach [a] X.env = (false, eval a X.env) :: starEach [] X.env := by rfl) : PE X (.Call (.Name "len" p) [.Call (.Name "set" p2) [a] [] q] [] pos) (tLenSetS X.K ta) := by
  refine ⟨fun pins s σ H Q I h => ?_⟩
  refine Call_ (ld_blt I hg hm boot_len ?_)
  refine PyProof.Rows.callWith_builtin1 (PyProof.Rows.args_cons ?_ rfl) rfl rfl
  refine Call_ (ld_blt I hg2 hm2 boot_set ?_)
  refine PyProof.Rows.callWith_type1 (PyProof.Rows.args_cons (thn (ha.run pins s σ H _ I h) fun v s1 ⟨x, H1, I1, r1, q1⟩ => PyProof.Rows.args_nil ?_) na) na rfl
  obtain ⟨l, xs, rfl, hq, h1, q1⟩ := q1
  cases r1
  obtain ⟨its, rv, pl, hz⟩ := I1.list hq
  have hlen : its.length = xs.length := by rw [← rv.length, List.length_map]
  refine set_of (T := fun i g => g.SetOf (strKind X.prog X.w) s1.heap.objs.size (fun k => decide (k ∈ xs.take i)) (ndS (xs.take i).reverse)) (I1.ok.hd hc) pl.isList (fun i g k e R => ?_) (fun B _ => ?_) (fun g e => ?_) fun g tk hS hk => ?_
  · obtain ⟨o, es, ep, t, ho, r⟩ := R
    exact ⟨o, es, ep, t, e o ho, r⟩
  · intro i v u Q2 E2 hi hS hQ
    have hin : i < xs.length := by
      have := (Array.getElem?_eq_some_iff.mp hi).1
      simpa [hlen] using this
    have e : ∃ t, v = Value.str xs[i] t := by
      exact vals_str_at rv i v (by simpa using hi) hin
    obtain ⟨t, rfl⟩ := e
    have hle : ndS (xs.take i).reverse ≤ i := by have := ndS_le (xs.take i).reverse; simp at this; omega
    unfold setAdd
    refine wpAny_holding (wpAny_bind ((strKind X.prog X.w).pyHash (k := xs[i]) (strKind_is _ _ _ _) ?_))
    refine wpAny_setAddHashed_of (knd := strKind X.prog X.w) (s := { u with toks := u.toks + 1 }) (strKind_is _ _ _ _) rfl hS (by unfold scanBound; omega) fun g sb new => ?_
    refine hQ _ g 1 sb ?_
    show Heap.SetOf (strKind X.prog X.w) g s1.heap.objs.size (fun k => decide (k ∈ xs.take (i + 1))) (ndS (xs.take (i + 1)).reverse)
    rw [List.take_succ_eq_append_getElem hin, List.reverse_append]
    refine SetOf_congr new (fun k => by rw [Bool.eq_iff_iff]; simp only [decide_eq_true_eq, List.mem_append, List.mem_singleton, Bool.or_eq_true]) ?_
    show _ = ndS (xs[i] :: (xs.take i).reverse)
    have e2 : ndS (xs[i] :: (xs.take i).reverse) = if xs[i] ∈ (xs.take i).reverse then ndS (xs.take i).reverse else ndS (xs.take i).reverse + 1 := rfl
    rw [e2]
    simp only [List.mem_reverse, decide_eq_true_eq]
  · exact ⟨_, #[], 0, _, e, ⟨rfl, rfl, rfl⟩, rfl, (fun e he => by simp at he), (fun k => by simp), (by decide), (by rfl), rfl⟩
  · refine PyProof.Rows.args_nil ?_
    have hsz : its.toArray.size = xs.length := by simp [hlen]
    rw [hsz, List.take_length] at hS
    obtain ⟨o, es, ep, t, ho, hex, hd, _, _, _, hf, hn⟩ := hS
    have := ndS_le xs.reverse
    simp at this
    have I2 : Inv X pins σ H1 { s1 with heap := g, toks := tk } := I1.kept fun b o e => hk b o e
    refine call_len_set ho hex hd hf (by rw [hn] <;> omega) ⟨.int (ndS xs.reverse : Nat), H1, I2.tok _, ⟨_, by rw [hn]⟩, q1⟩
def dLenSetT : PyData → R PyData
  | .list ds => (oR (strsOf ds)).bind fun ns => if ns.length ≤ 1000 then .ok (.int (ndS ns.reverse : Nat)) else .no
  | _ => .no
def mLenSetT (m : M) : M := fun Γ => (m Γ).bind dLenSetT
theorem se_lensetT {E : XK} {a : Expr} {m : M} {p p2 q pos : Pos} (hc : X.calm = true) (hm : X.mg "len" = none) (hm2 : X.mg "set" = none) (ha : SE X E a m) (hg : Gl X "len" := by exact rfl) (hg2 : Gl X "set" := by exact rfl)
    (na : starEach [a] X.env = (false, eval a X.env) :: starEach [] X.env := by rfl) : SE X E (.Call (.Name "len" p) [.Call (.Name "set" p2) [a] [] q] [] pos) (mLenSetT m) :=
  pe_of (pe_lenSetS hc hg hm hg2 hm2 ha na) fun σ H Q ⟨B, Γ, G, sr, po⟩ => ⟨B, Γ, G, sr, Po.bind po fun d x G1 H1 _ g1 dx po1 => by
    cases dx with
    | @lst a xs ds h1 a1 =>
      replace po1 : Po (Dq X.K) X.mg E G1 H1 Q ((oR (strsOf ds)).bind fun ns => if ns.length ≤ 1000 then R.ok (PyData.int (ndS ns.reverse : Nat)) else .no) := po1
      cases e : strsOf ds with
      | none => rw [e] at po1; exact po1.elim
      | some ns =>
        rw [e, oR_some, R.bind_ok] at po1
        have := strsOf_eq e; subst this
        have := dpa_strs a1; subst this
        split at po1
        · rename_i h
          exact ⟨a, ns, rfl, (sq1 g1.s h1), h, Po.ok (d := PyData.int (ndS ns.reverse : Nat)) po1 g1.s (.int _)⟩
        · exact po1.elim
    | _ => exact po1.elim⟩
end
end PD

/-! The data layer: sorted(xs), int pairs or texts. -/
namespace PD
open PySem PySem.Spec PyProof.Rows L2
def pairsOf : List PyData → Option (List (Int × Int))
  | [] => some []
  | .tuple [.int i, .int j] :: r => (pairsOf r).map ((i, j) :: ·)
  | _ => none
def dP (p : Int × Int) : PyData := .tuple [.int p.1, .int p.2]
theorem pairsOf_eq : ∀ {ds : List PyData} {ps : List (Int × Int)}, pairsOf ds = some ps → ds = ps.map dP := by
  intro ds
  fun_induction pairsOf ds with
  | case1 => intro ps h; cases h; rfl
  | case2 i j r ih =>
    intro ps h
    cases e : pairsOf r with
    | none => rw [e] at h; cases h
    | some ms => rw [e] at h; cases h; rw [ih e]; rfl
  | case3 => intro ps h; cases h
@[simp] theorem pairsOf_map : ∀ ps : List (Int × Int), pairsOf (ps.map dP) = some ps
  | [] => rfl
  | p :: ps => by simp [pairsOf, dP, pairsOf_map ps]
def leP (p q : Int × Int) : Bool := !SrtO.lexB q p
def sortP (ps : List (Int × Int)) : List (Int × Int) := ps.mergeSort leP
theorem leP_iff {p q : Int × Int} : leP p q = true ↔ p.1 < q.1 ∨ (p.1 = q.1 ∧ p.2 ≤ q.2) := by
  unfold leP
  rw [Bool.not_eq_true', SrtO.lexB_no]
  omega
theorem sortP_perm (ps : List (Int × Int)) : (sortP ps).Perm ps := List.mergeSort_perm ps _
theorem sortP_sorted (ps : List (Int × Int)) : (sortP ps).Pairwise fun x y => leP x y = true :=
  List.pairwise_mergeSort (le := leP) (fun a b c h1 h2 => by rw [leP_iff] at *; omega) (fun a b => by rw [Bool.or_eq_true, leP_iff, leP_iff]; omega) ps
theorem sortP_eq {ns ms : List (Int × Int)} (h1 : ms.Perm ns) (h2 : ms.Pairwise fun x y => leP x y = true) : ms = sortP ns :=
  List.Perm.eq_of_pairwise (fun a b _ _ h1 h2 => by rw [leP_iff] at *; exact Prod.ext (by omega) (by omega)) h2 (sortP_sorted ns) (h1.trans (sortP_perm ns).symm)
def rSortedPT (K : PySem.W.Frag) : List V → Hp → VK → Prop := fun vs H Q => ∃ (a : Addr) (xs : List V) (k : V → Int × Int), vs = [V.ref a] ∧ SqL K H a xs ∧ (∀ x ∈ xs, ∃ t, x = V.ref t ∧ SqT K H t [.int (k x).1, .int (k x).2]) ∧
  ∀ ys p, SrtO.Srtd (ltP k) ys → SrtO.Stb (ltP k) ys xs → H p = none → Q (.ref p) (upd H p (.lst ys))
theorem cr_sortedPT {X : Cx} : CallR X (.builtin "sorted") (rSortedPT X.K) := by
  intro pins s σ H vs us Q I r h
  obtain ⟨a, xs, k, rfl, hs, hx, q⟩ := h
  obtain ⟨its, rv, hl, hz⟩ := I.list hs
  obtain ⟨u, rfl, ru⟩ := vals1 r
  obtain rfl : u = Value.ref a := ru
  obtain ⟨e1, e2⟩ := refs_back rv fun x m => by
    obtain ⟨t, e, _⟩ := hx x m
    exact ⟨t, e⟩
  refine SrtO.sorted_pairsO (k := fun u => k (backV u)) hl.isList (by rw [← rv.length]; exact hz) (fun v hv => ?_) fun h' d out h1 h2 kp hd hn => ?_
  · obtain ⟨t, rfl⟩ := e2 v hv
    have hm : V.ref t ∈ xs := by rw [e1]; exact List.mem_map.mpr ⟨_, hv, rfl⟩
    obtain ⟨t', e, ht⟩ := hx _ hm
    cases e
    obtain ⟨its2, r2, ⟨o, ho, hc, n, hd⟩, _⟩ := I.tuple ht
    obtain ⟨u1, u2, rfl, ri, rj⟩ := vals2 r2
    obtain ⟨t1, rfl⟩ := ri
    obtain ⟨t2, rfl⟩ := rj
    exact ⟨t, o, t1, t2, n, rfl, ho, hc, hd⟩
  · have h3 : ∀ u ∈ out, ∃ a, u = Value.ref a := fun u hu => e2 u (h2.perm.mem_iff.mp hu)
    obtain ⟨n, hn⟩ := hn
    have hb : SrtO.Stb (ltP k) (out.map backV) xs := by
      rw [e1]
      exact SrtO.Stb.map (ltP_swo k) backV h2
    refine ⟨.ref d, upd H d (.lst (out.map backV)), I.laid (t' := s.toks) kp hd ⟨?_, out, n, vals_back h3, hn⟩, rfl, q _ d (SrtO.srtd_map h1) hb (I.hok.fresh hd)⟩
    rw [hb.len]
    exact hz
noncomputable def kQ (K : PySem.W.Frag) (G : Hp) (x : V) : Int × Int :=
  open Classical in if h : ∃ p : Int × Int, Dq K G x (dP p) then h.choose else (0, 0)
theorem kQ_dq {K : PySem.W.Frag} {G : Hp} {x : V} {p : Int × Int} (h : Dq K G x (dP p)) : Dq K G x (dP (kQ K G x)) := by
  unfold kQ
  rw [dif_pos ⟨p, h⟩]
  exact Exists.choose_spec (p := fun p => Dq K G x (dP p)) ⟨p, h⟩
theorem dP_sq {K : PySem.W.Frag} {G : Hp} {x : V} {p : Int × Int} (h : Dq K G x (dP p)) : ∃ t, x = V.ref t ∧ SqT K G t [.int p.1, .int p.2] := by
  unfold dP at h
  cases h with
  | tup g1 a1 =>
    cases a1 with
    | cons b1 b2 => cases b2 with
      | cons b2 b3 => cases b3; cases b1; cases b2; exact ⟨_, rfl, g1⟩
theorem pair_uniq {X : Cx} {pins : List (Addr × Obj)} {σ : L2.St} {H : Hp} {s : Shared} (I : L2.Inv X pins σ H s) {t : Addr} {a b c d : Int} (h1 : SqT X.K H t [.int a, .int b]) (h2 : SqT X.K H t [.int c, .int d]) : (a, b) = (c, d) := by
  obtain ⟨i1, r1, ⟨o1, ho1, hc1, n1, hd1⟩, _⟩ := I.tuple h1
  obtain ⟨i2, r2, ⟨o2, ho2, hc2, n2, hd2⟩, _⟩ := I.tuple h2
  rw [ho1] at ho2
  cases ho2
  rw [hd1] at hd2
  cases hd2
  obtain ⟨u1, u2, e, ri, rj⟩ := vals2 r1
  obtain ⟨w1, w2, e2, rk, rl⟩ := vals2 r2
  rw [e] at e2
  cases e2
  obtain ⟨t1, rfl⟩ := ri
  obtain ⟨t2, rfl⟩ := rj
  obtain ⟨t3, e3⟩ := rk
  obtain ⟨t4, e4⟩ := rl
  cases e3
  cases e4
  rfl
theorem dpa_mem {K : PySem.W.Frag} {G : Hp} : ∀ {vs : List V} {ps : List (Int × Int)}, DqAll K G vs (ps.map dP) → ∀ x ∈ vs, ∃ p, Dq K G x (dP p)
  | _, [], h => by cases h; exact fun x hx => by cases hx
  | _, p :: ps, h => by
    cases h with
    | cons h1 h2 =>
      intro x hx
      rcases List.mem_cons.mp hx with rfl | hx
      · exact ⟨p, h1⟩
      · exact dpa_mem h2 x hx
theorem dpa_kQ {K : PySem.W.Frag} {G : Hp} : ∀ {vs : List V} {ps : List (Int × Int)}, DqAll K G vs (ps.map dP) → (∀ x ∈ vs, ∀ p, Dq K G x (dP p) → p = kQ K G x) → vs.map (kQ K G) = ps
  | _, [], h, _ => by cases h; rfl
  | _, p :: ps, h, u => by
    cases h with
    | cons h1 h2 =>
      rw [List.map_cons, dpa_kQ h2 fun x hx => u x (.tail _ hx), ← u _ (.head _) p h1]
theorem dpa_ofK {K : PySem.W.Frag} {G : Hp} : ∀ {vs : List V}, (∀ x ∈ vs, Dq K G x (dP (kQ K G x))) → DqAll K G vs ((vs.map (kQ K G)).map dP)
  | [], _ => .nil
  | x :: vs, h => .cons (h x (.head _)) (dpa_ofK fun y hy => h y (.tail _ hy))
def rSortedPD (K : PySem.W.Frag) : List V → Hp → VK → Prop := fun vs H Q => ∃ (G : Hp) (a : Addr) (xs : List V) (ps : List (Int × Int)), vs = [V.ref a] ∧ SqL K H a xs ∧ Le G H ∧ DqAll K G xs (ps.map dP) ∧
  ∀ ys p, DqAll K G ys ((sortP ps).map dP) → H p = none → Q (.ref p) (upd H p (.lst ys))
theorem cr_sortedPD {X : Cx} : CallR X (.builtin "sorted") (rSortedPD X.K) := by
  intro pins s σ H vs us Q I r h
  obtain ⟨G, a, xs, ps, rfl, hs, l, hd, q⟩ := h
  have hm := dpa_mem hd
  have hk : ∀ x ∈ xs, Dq X.K G x (dP (kQ X.K G x)) := fun x hx => by
    obtain ⟨p, hp⟩ := hm x hx
    exact kQ_dq hp
  have hu : xs.map (kQ X.K G) = ps := dpa_kQ hd fun x hx p hp => by
    obtain ⟨t, e, h1⟩ := dP_sq (dp_le l hp)
    obtain ⟨t', e', h2⟩ := dP_sq (dp_le l (hk x hx))
    rw [e] at e'
    cases e'
    exact pair_uniq I h1 h2
  refine cr_sortedPT pins s σ H _ us Q I r ⟨a, xs, kQ X.K G, rfl, hs, fun x hx => dP_sq (dp_le l (hk x hx)), fun ys p h1 h2 hp => q ys p ?_ hp⟩
  have e : ys.map (kQ X.K G) = sortP ps := sortP_eq (by rw [← hu]; exact h2.perm.map _) (List.pairwise_map.mpr (h1.imp fun {x y} h => by
    have h : SrtO.lexB (kQ X.K G y) (kQ X.K G x) = false := h
    unfold leP; rw [h]; rfl))
  rw [← e]
  exact dpa_ofK fun x hx => hk x (h2.perm.mem_iff.mp hx)
section
variable {X : Cx} {E : XK}
/-- sorted(xs), xs a list of int pairs -/
def dSortedP : List PyData → R PyData
  | [.list ds] => (oR (pairsOf ds)).bind fun ps => .ok (.list ((sortP ps).map dP))
  | _ => .no
theorem cd_sortedP : CD X E (.builtin "sorted") dSortedP := one_list cr_sortedPD (fun ds h => by
    unfold dSortedP
    split
    · exact absurd rfl (h _)
    · rfl) fun G H a xs ds Q sz l h1 a1 po => by
  replace po : Po (Dq X.K) X.mg E G H Q ((oR (pairsOf ds)).bind fun ps => .ok (.list ((sortP ps).map dP))) := po
  cases e : pairsOf ds with
  | none => rw [e] at po; exact po.elim
  | some ps =>
    rw [e] at po
    have := pairsOf_eq e; subst this
    exact ⟨G, a, xs, ps, rfl, (sq1 l h1), l, a1, fun ys p h2 hp => po_lst po l hp h2⟩
end
end PD

/-! The data layer: sorted(xs) of ints, int pairs, texts or a text's signs; sep.join(list of texts). -/
namespace PD
open PySem PySem.Spec PyProof.Rows L2
def leS (x y : Str) : Bool := !ltCps y.cps.toList x.cps.toList
theorem leS_iff {x y : Str} : leS x y = true ↔ ¬ y.cps.toList < x.cps.toList := by
  unfold leS
  rw [ltCps_eq]
  simp
def sortS (xs : List Str) : List Str := xs.mergeSort leS
theorem leS_tr {a b c : Str} (h1 : leS a b = true) (h2 : leS b c = true) : leS a c = true := by
  rw [leS_iff] at *
  exact List.le_trans (α := Nat) h1 h2
theorem leS_tot (a b : Str) : (leS a b || leS b a) = true := by
  rw [Bool.or_eq_true, leS_iff, leS_iff]
  exact List.le_total (α := Nat) _ _
theorem leS_anti {a b : Str} (h1 : leS a b = true) (h2 : leS b a = true) : a = b := by
  rw [leS_iff] at *
  have e := List.le_antisymm (α := Nat) h1 h2
  cases a with | mk a => cases b with | mk b => exact congrArg Str.mk (Array.toList_inj.mp e)
theorem sortS_perm (xs : List Str) : (sortS xs).Perm xs := List.mergeSort_perm xs _
theorem sortS_sorted (xs : List Str) : (sortS xs).Pairwise fun x y => leS x y = true :=
  List.pairwise_mergeSort (le := leS) (fun a b c h1 h2 => leS_tr h1 h2) leS_tot xs
theorem sortS_eq {ns ms : List Str} (h1 : ms.Perm ns) (h2 : ms.Pairwise fun x y => leS x y = true) : ms = sortS ns :=
  List.Perm.eq_of_pairwise (fun a b _ _ h1 h2 => leS_anti h1 h2) h2 (sortS_sorted ns) (h1.trans (sortS_perm ns).symm)
theorem sortS_congr {ns ms : List Str} (h : ns.Perm ms) : sortS ns = sortS ms := sortS_eq ((sortS_perm ns).trans h) (sortS_sorted ns)
theorem risingS_pw : ∀ (p : Str) (l : List Str), risingS p l = true → (p :: l).Pairwise fun x y => leS x y = true
  | p, [], _ => List.pairwise_singleton _ _
  | p, x :: r, h => by
    have h : (leS p x && risingS x r) = true := h
    rw [Bool.and_eq_true] at h
    have ih := risingS_pw x r h.2
    refine List.pairwise_cons.mpr ⟨fun y hy => ?_, ih⟩
    rcases List.mem_cons.mp hy with rfl | hy
    · exact h.1
    · exact leS_tr h.1 ((List.pairwise_cons.mp ih).1 y hy)
theorem sortedS_pw : ∀ (l : List Str), sortedS l = true → l.Pairwise fun x y => leS x y = true
  | [], _ => .nil
  | x :: r, h => risingS_pw x r h
/-- the signs of a text -/
def sgnS (x : Str) : List Str := x.cps.toList.map fun c => ⟨#[c]⟩
section
variable {X : Cx} {E : XK}
def rSortedT : List V → Hp → VK → Prop := fun vs H Q => ∃ x : Str, vs = [V.str x] ∧ x.length < 64 ∧ ∀ p, H p = none → Q (.ref p) (upd H p (.lst ((sortS (sgnS x)).map V.str)))
theorem cr_sortedT (hcalm : X.calm = true) : CallR X (.builtin "sorted") rSortedT := by
  intro pins s σ H xs us Q I r ⟨x, ex, h64, q⟩
  subst ex
  obtain ⟨u, eu, rx⟩ := vals1 r
  subst eu
  obtain ⟨t, rfl⟩ := rx
  have hx : x.cps.size = x.length := rfl
  refine Calls.call_function_entry PyProof.Rows.kind_sorted PyProof.Rows.plain_sorted PyProof.Rows.entry_sorted (PyProof.Rows.args_sorted1 _) ?_
  unfold Builtin.«sorted»
  refine wpAny_bind (m := checkCount "sorted" 1 1 _) (wpAny_pure ?_)
  refine wpAny_bind (wpAny_collect_str (A := X.A.in1) (I.ok.hd hcalm) x t (fun s2 acc hk eg ed eo hacc => ?_) (by rw [hx, sizeLine_eq]; omega))
  have ks : x.cps.size = (sgnS x).length := by simp [sgnS]
  have hal : acc.toList.length = (sgnS x).length := by rw [Array.length_toList, hacc.1, ks]
  have hS : StrsAre acc.toList (sgnS x) := strs_at hal fun j v e => by
    obtain ⟨c, tk, e1, e2⟩ := hacc.2 j v (by rw [← Array.getElem?_toList]; exact e)
    exact ⟨⟨#[c]⟩, tk, by simp [sgnS, e1], e2⟩
  obtain ⟨g2, gs2, dr2, tk2, os2⟩ := s2
  obtain rfl : gs2 = s.gens := eg
  obtain rfl : dr2 = s.drawn := ed
  obtain rfl : os2 = s.os := eo
  have h64' : acc.toList.length < 64 := by rw [hal, ← ks, hx]; exact h64
  have I1 : Inv X pins σ H { s with heap := g2, toks := tk2 } := I.kept hk
  refine wpAny_bind (wpAny_newList ?_ (by rw [sizeLine_eq]; omega))
  have hoL : (g2.push (seqObj "list" acc.toList.toArray 0)).get? g2.objs.size = some (seqObj "list" acc.toList.toArray 0) := Heap.get?_push_size _ rfl
  show wpAny _ _ _ _ _ { s with heap := g2.push (seqObj "list" acc.toList.toArray 0), toks := tk2 }
  refine wpAny_bind (wpAny_holding (wpAny_call_entry PyProof.Rows.slot_list_sort ⟨_, hoL, rfl⟩ PyProof.Rows.entry_list_sort
    (list_sort_treeK strKind_oneLt (s := { s with heap := g2.push (seqObj "list" acc.toList.toArray 0), toks := tk2 }) hoL hS.keysOf (fun v1 v2 rest e => keyKind_strs (by rw [← e]; exact hS)) h64' fun st2 hp hs => ⟨_, rfl, ?_⟩)
    (PyProof.Rows.args_list_sort _)))
  obtain ⟨ys, g1, g3, g4⟩ := sorted_out_str hS hp hs
  obtain rfl : ys = sortS (sgnS x) := sortS_eq g3 (sortedS_pw _ g4)
  obtain ⟨e3, he3⟩ := PyProof.Rows.sortedHeap_at (vs := acc.toList) (out := (arrOf st2).map (·.2)) hoL
  have hlen : ((sortS (sgnS x)).map V.str).length ≤ sizeLine := by rw [List.length_map, g3.length_eq, ← ks, hx, sizeLine_eq]; omega
  refine wpAny_pure ⟨_, rfl, .ref g2.objs.size, upd H g2.objs.size (.lst ((sortS (sgnS x)).map V.str)), I1.laid (t' := tk2) (fun b u e => ?_) (Nat.le_refl _)
    (show ObjOk X.prog X.w _ _ _ (.lst ((sortS (sgnS x)).map V.str)) from ⟨hlen, ((arrOf st2).map (·.2)).toList, e3, vals_of_strs g1, by rw [Array.toArray_toList]; exact he3⟩), rfl, q _ (I1.hok.fresh (Nat.le_refl _))⟩
  have hb : b < g2.objs.size := Heap.lt_size e
  rw [PyProof.Rows.sortedHeap_old (Nat.ne_of_lt hb) (by rw [size_push']; exact Nat.lt_succ_of_lt hb)]
  exact Heap.get?_push_of_some _ e
def dSortedL (ds : List PyData) : R PyData :=
  match intsOf ds with
  | some ns => .ok (.list ((sortI ns).map .int))
  | none => match pairsOf ds with
    | some ps => .ok (.list ((sortP ps).map dP))
    | none => (oR (strsOf ds)).bind fun ys => if ys.length < 64 then .ok (.list ((sortS ys).map .str)) else .no
/-- sorted(x) -/
def dSortedA : List PyData → R PyData
  | [.list ds] => dSortedL ds
  | [.str x] => if x.length < 64 then .ok (.list ((sortS (sgnS x)).map .str)) else .no
  | _ => .no
theorem cd_sortedA (hc : X.calm = true) : CD X E (.builtin "sorted") dSortedA := cd_of (cr_sortedI.or (cr_sortedPD.or (cr_sortedS.or (cr_sortedT hc)))) fun G H vs ds Q sz l dx po => by
  unfold dSortedA at po
  split at po
  · rename_i ds
    cases dx with
    | cons d1 d2 =>
      cases d2
      cases d1 with
      | lst h1 a1 =>
        unfold dSortedL at po
        split at po
        · rename_i ns e
          have := intsOf_eq e; subst this
          have := dpa_ints a1; subst this
          exact .inl ⟨_, ns, rfl, sq1 l h1, fun ns' p h2 h3 hp => by
            obtain rfl : ns' = sortI ns := sortI_eq h2 h3
            exact po_lst po l hp (dpa_ofInts _)⟩
        · split at po
          · rename_i ps e
            have := pairsOf_eq e; subst this
            exact .inr (.inl ⟨G, _, _, ps, rfl, sq1 l h1, l, a1, fun ys p h2 hp => po_lst po l hp h2⟩)
          · rename_i xs e1 e2
            cases e : strsOf ds with
            | none => rw [e] at po; exact po.elim
            | some ys =>
              rw [e, oR_some, R.bind_ok] at po
              have := strsOf_eq e; subst this
              have := dpa_strs a1; subst this
              split at po
              · rename_i h
                exact .inr (.inr (.inl ⟨_, ys, rfl, sq1 l h1, h, fun ns' p h2 h3 hp => by
                  obtain rfl : ns' = sortS ys := sortS_eq h2 (sortedS_pw _ h3)
                  exact po_lst po l hp (dpa_ofStrs _)⟩))
              · exact po.elim
  · rename_i x
    split at po
    · rename_i h
      cases dx with
      | cons d1 d2 =>
        cases d2
        cases d1
        exact .inr (.inr (.inr ⟨x, rfl, h, fun p hp => po_lst po l hp (dpa_ofStrs _)⟩))
    · exact po.elim
  · exact po.elim
/-- sep.join(xs), a list of texts -/
def dJoin (a : Str) : PyData → R PyData
  | .list ds => (oR (strsOf ds)).bind fun ys => if (ys.map (·.length)).sum + ys.length * a.length ≤ 16777216 then .ok (.str (Txt.join a ys)) else .no
  | _ => .no
def mJoin (mo me : M) : M := fun Γ => (mo Γ).bind fun x => match x with
  | .str a => (me Γ).bind (dJoin a)
  | _ => .no
theorem se_join {o e : Expr} {mo me : M} {apos pos : Pos} (ho : SE X E o mo) (he : SE X E e me) (hs : starEach [e] X.env = [(false, eval e X.env)] := by rfl) (hbase : attributeBase o "join" X.env (eval o X.env) = eval o X.env := by rfl) (hline : (apos.endLine == pos.line) = true := by rfl) :
    SE X E (.Call (.Attribute o "join" apos) [e] [] pos) (mJoin mo me) :=
  pe_of (pe_join ho he hs hbase hline) fun σ H Q ⟨B0, Γ, G, sr, po⟩ => ⟨B0, Γ, G, sr, Po.bind po fun d x G1 H1 _ g1 dx po1 => by
    cases dx with
    | str a =>
      refine ⟨⟨a, rfl⟩, B0, Γ, G1, sr.gr g1, Po.bind po1 fun e y G2 H2 _ g2 dy po2 => ?_⟩
      cases dy with
      | @lst b xs ds h1 a1 =>
        replace po2 : Po (Dq X.K) X.mg E G2 H2 Q ((oR (strsOf ds)).bind fun ys => if (ys.map (·.length)).sum + ys.length * a.length ≤ 16777216 then .ok (.str (Txt.join a ys)) else .no) := po2
        cases e : strsOf ds with
        | none => rw [e] at po2; exact po2.elim
        | some ys =>
          rw [e, oR_some, R.bind_ok] at po2
          have := strsOf_eq e; subst this
          have := dpa_strs a1; subst this
          split at po2
          · rename_i h
            exact ⟨a, b, ys, rfl, rfl, .inl (sq1 g2.s h1), h, Po.ok (d := PyData.str (Txt.join a ys)) po2 g2.s (.str _)⟩
          · exact po2.elim
      | _ => exact po2.elim
    | _ => exact po1.elim⟩
end
end PD

/-! The data layer: max(xs), min(xs) of any alike data, xs.index(x). -/
namespace PD
open PySem PySem.Spec PyProof.Rows L2
/-- one rule, or another where the first says nothing -/
def orR (g g' : List PyData → R PyData) : List PyData → R PyData := fun ds => match g ds with
  | .no => g' ds
  | r => r
theorem cd_or {X : Cx} {E : XK} {f : Value} {g g' : List PyData → R PyData} (h : CD X E f g) (h' : CD X E f g') : CD X E f (orR g g') := by
  intro pins s σ H vs us Q I r q
  obtain ⟨G, ds, l, dx, po⟩ := q
  unfold orR at po
  cases e : g ds with
  | no => rw [e] at po; exact h' pins s σ H vs us Q I r ⟨G, ds, l, dx, po⟩
  | ok d => rw [e] at po; exact h pins s σ H vs us Q I r ⟨G, ds, l, dx, by rw [e]; exact po⟩
  | ex c => rw [e] at po; exact h pins s σ H vs us Q I r ⟨G, ds, l, dx, by rw [e]; exact po⟩
def notNone : PyData → Bool
  | .none => false
  | _ => true
/-- data that can be set in a row -/
def okMx (ds : List PyData) : Bool := SeqAt.shaped (.list ds) && ds.all (fun d => SeqAt.shaped d && notNone d) && ds.all fun x => ds.all fun y => PySem.W.alike x y
theorem okMx_el {ds : List PyData} (h : okMx ds = true) : SeqAt.shaped (.list ds) = true ∧ (∀ d ∈ ds, SeqAt.shaped d = true) ∧ PySem.W.AlikeAll ds := by
  unfold okMx at h
  simp only [Bool.and_eq_true, List.all_eq_true, decide_eq_true_eq] at h
  exact ⟨h.1.1, fun d hd => (h.1.2 d hd).1, fun x hx y hy => h.2 x hx y hy, fun x hx e => by have := (h.1.2 x hx).2; rw [e] at this; cases this⟩
theorem dqa_at {K : PySem.W.Frag} {G : Hp} : ∀ {vs : List V} {ds : List PyData} {i : Nat} {v : V}, DqAll K G vs ds → vs[i]? = some v → ∃ d, ds[i]? = some d ∧ Dq K G v d
  | _, _, i, v, .nil, e => by simp at e
  | _, _, 0, v, .cons h _, e => by simp at e; subst e; exact ⟨_, rfl, h⟩
  | _, _, i + 1, v, .cons _ t, e => by
    obtain ⟨d, h1, h2⟩ := dqa_at (i := i) (v := v) t (by simpa using e)
    exact ⟨d, by simpa using h1, h2⟩
theorem vals_at : ∀ {xs : List V} {us : List Value} {i : Nat} {u : Value}, Vals xs us → us[i]? = some u → ∃ x, xs[i]? = some x ∧ RelV x u
  | _, _, i, u, .nil, e => by simp at e
  | _, _, 0, u, .cons h _, e => by simp at e; subst e; exact ⟨_, rfl, h⟩
  | _, _, i + 1, u, .cons _ t, e => by
    obtain ⟨d, h1, h2⟩ := vals_at (i := i) (u := u) t (by simpa using e)
    exact ⟨d, by simpa using h1, h2⟩
def rPickG (K : PySem.W.Frag) (pick : PyData → List PyData → PyData) : List V → Hp → VK → Prop := fun vs H Q => ∃ (G : Hp) (a : Addr) (xs : List V) (d : PyData) (ds : List PyData), vs = [V.ref a] ∧ SqL K H a xs ∧ Le G H ∧ DqAll K G xs (d :: ds) ∧ okMx (d :: ds) = true ∧
  ∀ x, Dq K G x (pick d ds) → Q x H
section
variable {X : Cx} {E : XK}
theorem pick_item {pins : List (Addr × Obj)} {σ : L2.St} {H G : Hp} {s : Shared} (I : L2.Inv X pins σ H s) (l : Le G H) {xs : List V} {its : List Value} {ds : List PyData} (rv : Vals xs its) (dx : DqAll X.K G xs ds) (ok : okMx ds = true) {i : Nat} {v : Value} {g : Heap} {m : PyData} {bs : List Addr}
    (hv : its.toArray[i]? = some v) (hr : Reads g v m bs) (hk : ∀ b o, s.heap.get? b = some o → g.get? b = some o) : ∃ x, RelV x v ∧ Dq X.K G x m := by
  obtain ⟨x, hx, rx⟩ := vals_at (u := v) (i := i) rv (by simpa using hv)
  obtain ⟨e, he, de⟩ := dqa_at dx hx
  obtain ⟨h1, h2, h3⟩ := okMx_el ok
  have hs := h2 e (List.mem_of_getElem? he)
  obtain ⟨as, r1⟩ := Dp.reads I e x v (dq_dp0 (dp_le l de) hs) rx
  have r2 := PySem.W.reads_keeps hk r1
  have : e = m := SeqAt.Reads.unique _ _ _ _ _ (SeqAt.canLay_of_shaped hs) r2 hr
  subst this
  exact ⟨x, rx, de⟩
theorem room_mx {ds : List PyData} (h : SeqAt.shaped (.list ds) = true) (hu : X.A.units + 66 < cLine) : X.A.units + 1 + PyData.depthAll ds < cLine := by
  have := SeqAt.depth_of_shaped h
  simp only [PyData.depth] at this
  omega
theorem cr_maxG (hc : X.calm = true) (hu : X.A.units + 66 < cLine) : CallR X (.builtin "max") (rPickG X.K PySem.W.maxD) := by
  intro pins s σ H vs us Q I r ⟨G, a, xs, d, ds, e, hs, l, dx, ok, q⟩
  subst e
  obtain ⟨its, rv, hl, _⟩ := I.list hs
  rw [Vals.ref1 r]
  obtain ⟨h1, h2, h3⟩ := okMx_el ok
  obtain ⟨as, hr⟩ := Dp.readsAll I (d :: ds) xs its (dqa_dpa (dpa_le l dx) h2) rv
  refine PySem.W.max_list_data (I.ok.hd hc) hl.isList (by simpa using hr) h3 (room_mx h1 hu) fun i v g tk bs hv hm hk => ?_
  obtain ⟨x, rx, de⟩ := pick_item I l rv dx ok hv hm hk
  exact ⟨x, H, I.kept hk, rx, q x de⟩
theorem cr_minG (hc : X.calm = true) (hu : X.A.units + 66 < cLine) : CallR X (.builtin "min") (rPickG X.K PySem.W.minD) := by
  intro pins s σ H vs us Q I r ⟨G, a, xs, d, ds, e, hs, l, dx, ok, q⟩
  subst e
  obtain ⟨its, rv, hl, _⟩ := I.list hs
  rw [Vals.ref1 r]
  obtain ⟨h1, h2, h3⟩ := okMx_el ok
  obtain ⟨as, hr⟩ := Dp.readsAll I (d :: ds) xs its (dqa_dpa (dpa_le l dx) h2) rv
  refine PySem.W.min_list_data (I.ok.hd hc) hl.isList (by simpa using hr) h3 (room_mx h1 hu) fun i v g tk bs hv hm hk => ?_
  obtain ⟨x, rx, de⟩ := pick_item I l rv dx ok hv hm hk
  exact ⟨x, H, I.kept hk, rx, q x de⟩
def dPickG (pick : PyData → List PyData → PyData) : List PyData → R PyData
  | [.list (d :: ds)] => if okMx (d :: ds) = true then .ok (pick d ds) else .no
  | _ => .no
theorem cd_pickG {f : Value} {pick : PyData → List PyData → PyData} (h : CallR X f (rPickG X.K pick)) : CD X E f (dPickG pick) := one_list h (fun ds h => by
    unfold dPickG
    split
    · exact absurd rfl (h _)
    · rfl) fun G H a xs ds Q sz l h1 a1 po => by
  cases ds with
  | nil => exact po.elim
  | cons d ds =>
    replace po : Po (Dq X.K) X.mg E G H Q (if okMx (d :: ds) = true then .ok (pick d ds) else .no) := po
    split at po
    · rename_i ok
      exact ⟨G, a, xs, d, ds, rfl, sq1 l h1, l, a1, ok, fun x dx => Po.ok po l dx⟩
    · exact po.elim
def dMaxA : List PyData → R PyData := orR dMax (dPickG PySem.W.maxD)
def dMinA : List PyData → R PyData := orR dMin (dPickG PySem.W.minD)
theorem room66 {k : Nat} (hr : Room k X.A) : X.A.units + 66 < cLine := by have := hr.un; omega
theorem cd_maxA {k : Nat} (hr : Room k X.A) (hc : X.calm = true) : CD X E (.builtin "max") dMaxA := cd_or (cd_max hc) (cd_pickG (cr_maxG hc (room66 hr)))
theorem cd_minA {k : Nat} (hr : Room k X.A) (hc : X.calm = true) : CD X E (.builtin "min") dMinA := cd_or (cd_min hc) (cd_pickG (cr_minG hc (room66 hr)))
/-- xs.index(x): the first place of an equal one -/
def dIndex : PyData → PyData → R PyData
  | .list ds, d => if SeqAt.shaped (.list ds) = true ∧ SeqAt.shaped d = true then (match ds.findIdx? fun z => PyData.eqv z d with
    | some j => .ok (.int (j : Nat))
    | none => .no) else .no
  | _, _ => .no
def mIndex (mo me : M) : M := fun Γ => (mo Γ).bind fun x => match x with
  | .list ds => (me Γ).bind (dIndex (.list ds))
  | _ => .no
theorem se_index {k : Nat} (hr : Room k X.A) {o e : Expr} {mo me : M} {apos pos : Pos} (ho : SE X E o mo) (he : SE X E e me) (hs : starEach [e] X.env = (false, eval e X.env) :: starEach [] X.env := by rfl) (hbase : attributeBase o "index" X.env (eval o X.env) = eval o X.env := by rfl)
    (hfew : ((backTo pos (starEach [e] X.env)).all (fun x => !x.1) && (backToKw pos (keywordEach [] X.env)).all (fun x => x.1.isSome)
      && decide ([e].length + ([] : List Keyword).length + (if ([] : List Keyword).isEmpty then 0 else 1) < 30)) = true := by rfl)
    (hline : (apos.endLine == pos.line) = true := by rfl) (hplain : (backTo pos (starEach [] X.env)).any (·.1) = false := by rfl) :
    SE X E (.Call (.Attribute o "index" apos) [e] [] pos) (mIndex mo me) :=
  pe_of (pe_bm (T := "list") PySem.F.plainAttrs_list PySem.F.slot_list_index PySem.F.type_list_index (mt_indexD (by have := room66 hr; omega)) ho (pa_cons he pa_nil hs) hbase hfew hline hs hplain) fun σ H Q ⟨B0, Γ, G, sr, po⟩ => ⟨B0, Γ, G, sr, Po.bind po fun d x G1 H1 _ g1 dx po1 => by
    cases dx with
    | @lst b xs ds h1 a1 =>
      refine ⟨.inl ⟨rfl, xs, sq1 g1.s h1⟩, B0, Γ, G1, sr.gr g1, Po.bind po1 fun d2 y G2 H2 _ g2 dy po2 => ?_⟩
      replace po2 : Po (Dq X.K) X.mg E G2 H2 Q (if SeqAt.shaped (.list ds) = true ∧ SeqAt.shaped d2 = true then (match ds.findIdx? fun z => PyData.eqv z d2 with
        | some j => .ok (.int (j : Nat))
        | none => .no) else .no) := po2
      split at po2
      · rename_i hsh
        cases ej : ds.findIdx? fun z => PyData.eqv z d2 with
        | none => rw [ej] at po2; exact po2.elim
        | some j =>
          rw [ej] at po2
          obtain ⟨hj, hz, hno⟩ := List.findIdx?_eq_some_iff_getElem.mp ej
          have dl : Dq X.K G2 (.ref b) (.list ds) := dp_le g2.g (.lst h1 a1)
          refine ⟨b, y, d2, ds, j, ds[j], rfl, rfl, dq_dp0 (dp_le g2.s dl) hsh.1, dq_dp0 (dp_le g2.s dy) hsh.2, hsh.1, hsh.2, by simp [hj], hz, fun m z' hm hz' => ?_, Po.ok (d := PyData.int (j : Nat)) po2 g2.s (.int _)⟩
          have := hno m hm
          have hml : m < ds.length := Nat.lt_trans hm hj
          rw [List.getElem?_eq_getElem hml] at hz'
          cases hz'
          simpa using this
      · exact po2.elim
    | _ => exact po1.elim⟩
end
end PD

/-! The data layer: partition, split, int(text), in a tuple, a handler that returns a constant. -/
namespace PD
open PySem PySem.Spec PyProof.Rows L2
section
variable {X : Cx} {E : XK}
/-! ### x in (a, b), x not in (a, b) -/
def rInT (K : PySem.W.Frag) (f : Bool → Bool) : R2 := fun x y H Q => ∃ d ds, Dp K H x d ∧ Dp K H y (.tuple ds) ∧ SeqAt.shaped d = true ∧ SeqAt.shaped (.tuple ds) = true ∧ Q (.bl (f (ds.any fun z => PyData.eqv z d))) H
theorem op_inT (hu : X.A.units + 65 < cLine) : OpR X (compareOp .In) (rInT X.K fun b => b) := by
  intro pins s σ H x y v u Q I rx ry ⟨d, ds, hd, he, sd, se, q⟩
  obtain ⟨as, r1⟩ := Dp.reads I d x v hd rx
  obtain ⟨bs, r2⟩ := Dp.reads I (.tuple ds) y u he ry
  exact SeqAt.in_tuple_reads r2 r1 (SeqAt.canLay_of_shaped se) (SeqAt.canLay_of_shaped sd) (room_in_shaped sd hu) ⟨.bl _, H, I, rfl, q⟩
theorem op_notInT (hu : X.A.units + 65 < cLine) : OpR X (compareOp .NotIn) (rInT X.K fun b => !b) := by
  intro pins s σ H x y v u Q I rx ry ⟨d, ds, hd, he, sd, se, q⟩
  obtain ⟨as, r1⟩ := Dp.reads I d x v hd rx
  obtain ⟨bs, r2⟩ := Dp.reads I (.tuple ds) y u he ry
  exact SeqAt.notIn_tuple_reads r2 r1 (SeqAt.canLay_of_shaped se) (SeqAt.canLay_of_shaped sd) (room_in_shaped sd hu) ⟨.bl _, H, I, rfl, q⟩
def dInT (f : Bool → Bool) : PyData → PyData → R PyData
  | d, .tuple ds => if SeqAt.shaped d = true ∧ SeqAt.shaped (.tuple ds) = true then .ok (.bool (f (ds.any fun z => PyData.eqv z d))) else .no
  | _, _ => .no
theorem od_inT {op : CmpOp} {f : Bool → Bool} (h : OpR X (compareOp op) (rInT X.K f)) : OD X E (compareOp op) (dInT f) := od_of h fun G H x y d e Q sz l dx dy po => by
  cases dy with
  | @tup a xs ds h1 a1 =>
    replace po : Po (Dq X.K) X.mg E G H Q (if SeqAt.shaped d = true ∧ SeqAt.shaped (.tuple ds) = true then .ok (.bool (f (ds.any fun z => PyData.eqv z d))) else .no) := po
    split at po
    · rename_i hs
      have dy : Dq X.K G (.ref a) (.tuple ds) := .tup h1 a1
      exact ⟨d, ds, dq_dp0 (dp_le l dx) hs.1, dq_dp0 (dp_le l dy) hs.2, hs.1, hs.2, Po.ok (d := PyData.bool _) po l (.bl _)⟩
    · exact po.elim
  | _ => exact po.elim
abbrev dInTu := dInT fun b => b
abbrev dNotInTu := dInT fun b => !b
theorem od_inTu {k : Nat} (hr : Room k X.A) : OD X E (compareOp .In) dInTu := od_inT (op_inT (by have := hr.un; omega))
theorem od_notinTu {k : Nat} (hr : Room k X.A) : OD X E (compareOp .NotIn) dNotInTu := od_inT (op_notInT (by have := hr.un; omega))
/-! ### texts: partition, split, int -/
def dPart (a : Str) : PyData → R PyData
  | .str b => if (b.length == 0) = false ∧ a.length ≤ 100000 then .ok (.tuple [.str (Txt.partition a b).1, .str (Txt.partition a b).2.1, .str (Txt.partition a b).2.2]) else .no
  | _ => .no
def dSplit (a : Str) : PyData → R PyData
  | .str b => if (b.length == 0) = false ∧ a.length ≤ 100000 then .ok (.list ((Txt.split a b).map .str)) else .no
  | _ => .no
def mTxt (g : Str → PyData → R PyData) (mo me : M) : M := fun Γ => (mo Γ).bind fun x => match x with
  | .str a => (me Γ).bind (g a)
  | _ => .no
theorem txt_of {r : V → List V → Hp → VK → Prop} {g : Str → PyData → R PyData} {mo me : M}
    (i : ∀ a G H y d Q, Le G H → Dq X.K G y d → Po (Dq X.K) X.mg E G H Q (g a d) → r (.str a) [y] H Q) : ∀ σ H Q, tX X.K (Dq X.K) X.mg E (mTxt g mo me) σ H Q → tM1 r (tX X.K (Dq X.K) X.mg E mo) (tX X.K (Dq X.K) X.mg E me) σ H Q :=
  fun σ H Q ⟨B0, Γ, G, sr, po⟩ => ⟨B0, Γ, G, sr, Po.bind po fun d x G1 H1 _ g1 dx po1 => by
    cases dx with
    | str a => exact ⟨⟨a, rfl⟩, B0, Γ, G1, sr.gr g1, Po.bind po1 fun e y G2 H2 _ g2 dy po2 => i a G2 H2 y e Q g2.s dy po2⟩
    | _ => exact po1.elim⟩
theorem line_le : 100000 + 2 ≤ sizeLine := by rw [sizeLine_eq]; decide
theorem se_partition {o e : Expr} {mo me : M} {apos pos : Pos} (ho : SE X E o mo) (he : SE X E e me) (hs : starEach [e] X.env = [(false, eval e X.env)] := by rfl) (hbase : attributeBase o "partition" X.env (eval o X.env) = eval o X.env := by rfl) (hline : (apos.endLine == pos.line) = true := by rfl) :
    SE X E (.Call (.Attribute o "partition" apos) [e] [] pos) (mTxt dPart mo me) :=
  pe_of (pe_partition ho he hs hbase hline) (txt_of fun a G H y d Q l dy po => by
    cases dy with
    | str b =>
      replace po : Po (Dq X.K) X.mg E G H Q (if (b.length == 0) = false ∧ a.length ≤ 100000 then .ok (.tuple [.str (Txt.partition a b).1, .str (Txt.partition a b).2.1, .str (Txt.partition a b).2.2]) else .no) := po
      split at po
      · rename_i h
        exact ⟨a, b, rfl, rfl, h.1, by have := line_le; omega, fun p hp => po_tup po l hp (.cons (.str _) (.cons (.str _) (.cons (.str _) .nil)))⟩
      · exact po.elim
    | _ => exact po.elim)
theorem se_split {o e : Expr} {mo me : M} {apos pos : Pos} (ho : SE X E o mo) (he : SE X E e me) (hs : starEach [e] X.env = [(false, eval e X.env)] := by rfl) (hbase : attributeBase o "split" X.env (eval o X.env) = eval o X.env := by rfl) (hline : (apos.endLine == pos.line) = true := by rfl) :
    SE X E (.Call (.Attribute o "split" apos) [e] [] pos) (mTxt dSplit mo me) :=
  pe_of (pe_split ho he hs hbase hline) (txt_of fun a G H y d Q l dy po => by
    cases dy with
    | str b =>
      replace po : Po (Dq X.K) X.mg E G H Q (if (b.length == 0) = false ∧ a.length ≤ 100000 then .ok (.list ((Txt.split a b).map .str)) else .no) := po
      split at po
      · rename_i h
        exact ⟨a, b, rfl, rfl, h.1, by have := line_le; omega, fun p hp => po_lst po l hp (dpa_ofStrs _)⟩
      · exact po.elim
    | _ => exact po.elim)
def dIntT : List PyData → R PyData
  | [.str a] => match PySem.intText? a with
    | some n => if a.length ≤ 640 then .ok (.int n) else .no
    | none => .no
  | _ => .no
theorem cd_intT : CD X E (.type "int") dIntT := cd_of call_int_str fun G H vs ds Q sz l dx po => by
  unfold dIntT at po
  split at po
  · rename_i a
    cases dx with
    | cons d1 d2 =>
      cases d2
      cases d1
      split at po
      · rename_i n e
        split at po
        · rename_i h
          exact ⟨a, n, rfl, e, h, Po.ok (d := PyData.int n) po l (.int _)⟩
        · exact po.elim
      · exact po.elim
  · exact po.elim
def dStr : List PyData → R PyData
  | [.int i] => if i.natAbs < 1000000 then .ok (.str (toString i)) else .no
  | _ => .no
theorem log_lt {n : Nat} (h : n < 1000000) : n.log2 < 1920 := by
  by_cases h0 : n = 0
  · subst h0; decide
  · have := (Nat.log2_lt h0 (k := 20)).mpr (by omega)
    omega
theorem cd_str : CD X E (.type "str") dStr := cd_of call_str_int fun G H vs ds Q sz l dx po => by
  unfold dStr at po
  split at po
  · rename_i i
    cases dx with
    | cons d1 d2 =>
      cases d2
      cases d1
      split at po
      · rename_i h
        exact ⟨i, rfl, log_lt h, Po.ok (d := PyData.str (toString i)) po l (.str _)⟩
      · exact po.elim
  · exact po.elim
/-! ### try .. except X as e: return a constant if isinstance(e, Y) else another -/
def mTryD (names : List Str) (k : Str → PyData) (mb : MS) : MS := fun Γ => if noOwn Γ = true then (match mb Γ with
  | .ex c => if c ∈ names then .rt (k c) else .no
  | .nx Γ1 => .nx Γ1
  | .rt d => .rt d
  | _ => .no) else .no
end
section
variable {X : Cx} {E : XK} {names : List Str} {i : Nat} {n x : Str} {b₀ : Stmt} {body suite : List Stmt} {mb : MS} {k : Str → PyData} {kv : Str → V} {np pos pos' : Pos}
theorem ss_tryD (hkv : ∀ c G, Dq X.K G (kv c) (k c)) (hex : Exs X.K X.mg x names) (hs : X.stack = X.env :: X.outer) (hf : X.env.frame = some X.env.locals) (hN : X.N.Nodup) (hi : X.N[i]? = some n) (hln : X.env.kindOf n = some .local) (hg : Gl X x) (hd : (x == ("__debug__" : Str)) = false)
    (tk : Takes X (fun _ _ _ _ => False))
    (hb : ∀ (E' : XK) (pn : List (Addr × Obj)) (xe : Value → Shared → Prop), Takes (X.tr pn xe) (fun cls d _ H => E' cls d H) → PassesOwn (model X.prog X.w) X.A X.env xe → SB (X.tr pn xe) E' body mb)
    (hh : ∀ c ∈ names, ∀ (a : Addr) (oe : Obj) (pn : List (Addr × Obj)), InS X oe names c → PSs (X.suite a ((a, oe) :: pn)) (b₀ :: suite) (fun D σ H => P0 a i X.N.length σ H ∧ ∀ H', Le H H' → D.rt (kv c) H')) :
    SS X E (.Try body [.ExceptHandler (some (.Name x np)) (some n) (b₀ :: suite) pos'] [] [] pos) (mTryD names k mb) := by
  obtain ⟨B, hB, hx⟩ := hex.ex
  refine ps_of (ps_try_as (c := .ref B) (i := i) (tb := fun W D σ H => tS X.K X.mg (fun cls d H => ∀ σ : L2.St, σ.length = X.N.length → W cls d σ H) mb D σ H) (Wout := fun _ _ _ _ => False)
    (ts := fun a cls d D σ H => ∃ c, c ∈ names ∧ cls = cV X.mg c ∧ d = none ∧ P0 a i X.N.length σ H ∧ ∀ H', Le H H' → D.rt (kv c) H') hs hf hN hi hln ⟨hg, hd, .inl hB⟩ tk ?_ ?_) ?_
  · intro W pn xe t po
    exact hb _ pn xe (fun u s' ⟨a, B', sI, pins, σ, H, cls, d, e, I, nb, up, sky, na, os, ag, w⟩ => t u s' ⟨a, B', sI, pins, σ, H, cls, d, e, I, nb, up, sky, na, os, ag, w σ I.len⟩) po
  · intro a oe cls d pn hz hfl
    refine ⟨fun pins s σ H D I q => ?_⟩
    obtain ⟨c, hc, rfl, rfl, q1, q2⟩ := q
    obtain ⟨Dc, g1, g2, g3, g4⟩ := hx c hc
    have e1 : cV X.mg c = .ref Dc := by unfold cV; rw [g1]; rfl
    rw [e1] at hz
    exact (hh c hc a oe pn ⟨Dc, g2, hz, hfl, g4⟩).run pins s σ H D I ⟨q1, q2⟩
  · rintro D σ H ⟨G0, H0, G, Γ, s, po⟩
    unfold mTryD at po
    split at po
    · rename_i hno
      have s2 : SZ X.K G H G H σ Γ := ⟨⟨s.sr.sub, s.sr.len, s.sr.val, s.sr.own, s.sr.inj, fun i ds p h1 _ => absurd h1 (noOwn_get hno i ds), s.sr.adr⟩, Gr.refl s.sr.sub⟩
      refine ⟨G, H, G, Γ, s2, ?_⟩
      cases e : mb Γ with
      | nx Γ1 =>
        rw [e] at po
        exact fun σ' G' H' t => po σ' G' H' (s.of_base t)
      | rt d =>
        rw [e] at po
        exact fun x G' H' g dx => po x G' H' (s.gr.trans g) dx
      | bk Γ1 => rw [e] at po; exact po.elim
      | ct Γ1 => rw [e] at po; exact po.elim
      | no => rw [e] at po; exact po.elim
      | ex c =>
        rw [e] at po
        dsimp only at po
        split at po
        · rename_i hc
          intro H' l σ2 hl
          obtain ⟨Dc, g1, g2, g3, g4⟩ := hx c hc
          have e1 : cV X.mg c = .ref Dc := by unfold cV; rw [g1]; rfl
          have hlt : i < σ2.length := by
            rw [hl]
            exact (List.getElem?_eq_some_iff.mp hi).1
          refine ⟨true, by rw [e1]; exact g3, fun _ a ha => ⟨c, hc, rfl, rfl, ⟨List.getElem?_set_self hlt, by rw [List.length_set]; exact hl⟩, fun H'' l2 => ?_⟩, fun z => nomatch z⟩
          have l3 := le_trans l l2
          exact po (kv c) G H'' (s.gr.trans ⟨fun _ _ e => e, l3, le_trans s.sr.sub l3, fun a _ h => h⟩) (hkv c G)
        · exact po.elim
    · exact po.elim
/-- return a if isinstance(e, Y) else b: Y it is -/
theorem hd_ifc {a : Addr} {oe : Obj} {pn : List (Addr × Obj)} {L : Nat} {t ea eb : Expr} {va vb : V} (h : PE (X.suite a ((a, oe) :: pn)) t (fun σ H Q => AtE a i σ ∧ Q (.bl true) H)) (ha : PE (X.suite a ((a, oe) :: pn)) ea (tC va)) (hb : PE (X.suite a ((a, oe) :: pn)) eb (tC vb))
    (he : ∀ whole, isTrue t (X.suite a ((a, oe) :: pn)).env whole = (do let v ← whole; standAt t.pos; holding [v] (truthy v)) := by intro _; rfl) : PSs (X.suite a ((a, oe) :: pn)) [.Return (some (.IfExp t ea eb np)) pos] (fun D σ H => P0 a i L σ H ∧ ∀ H', Le H H' → D.rt va H') :=
  pss_of (pss_one (ps_ret (pe_ifExp (pt_val h he) ha hb))) fun D σ H ⟨q1, q2⟩ => ⟨q1.1, true, rfl, q2 _ (fun _ _ e => e)⟩
end
theorem exs_sub {K : PySem.W.Frag} {mg : Str → Option Value} {bs : Str} {names names2 : List Str} (h : Exs K mg bs names) (s : (names2.all fun c => decide (c ∈ names)) = true := by decide +kernel) : Exs K mg bs names2 := by
  have s2 : ∀ c ∈ names2, c ∈ names := fun c hc => of_decide_eq_true (List.all_eq_true.mp s c hc)
  obtain ⟨B, hB, hx⟩ := h.ex
  exact ⟨B, hB, fun c hc => by
    obtain ⟨D, g1, g2, g3, g4⟩ := hx c (s2 c hc)
    exact ⟨D, g1, g2, g3, fun c2 hc2 => g4 c2 (s2 c2 hc2)⟩⟩
end PD

/-! The data layer: desks (instances with a present state and two lists), beside the data. -/
namespace PD
open PySem PySem.Spec PyProof.Rows L2
/-- what a desk holds -/
structure ObD where
  p : PyData
  dn : List PyData
  un : List PyData
abbrev Wd := List (Addr × ObD)
abbrev Q3 := Addr × Addr × Addr
def Cell (a : Addr) (q : Q3) (b : Addr) : Prop := b = a ∨ b = q.1 ∨ b = q.2.1 ∨ b = q.2.2
structure Dk (K : PySem.W.Frag) (G H : Hp) (a : Addr) (D : ObD) (q : Q3) : Prop where
  cl : DskC K
  ins : ∃ tp, H a = some (.ins (dkC K) q.1 (fsD tp q.2.1 q.2.2)) ∧ Dq K G tp D.p
  own : H q.1 = some (.own a)
  l1 : ∃ xs, H q.2.1 = some (.lst xs) ∧ DqAll K G xs D.dn
  l2 : ∃ xs, H q.2.2 = some (.lst xs) ∧ DqAll K G xs D.un
  ne : q.2.1 ≠ q.2.2
  off : ∀ b, Cell a q b → G b = none
section
variable {K : PySem.W.Frag} {G H G' H' : Hp} {a : Addr} {D : ObD} {q : Q3}
theorem Dk.on (d : Dk K G H a D q) {b : Addr} (h : Cell a q b) : H b ≠ none := by
  rcases h with e | e | e | e <;> subst e
  · obtain ⟨tp, e, _⟩ := d.ins; rw [e]; simp
  · rw [d.own]; simp
  · obtain ⟨xs, e, _⟩ := d.l1; rw [e]; simp
  · obtain ⟨xs, e, _⟩ := d.l2; rw [e]; simp
/-- the cells stay -/
theorem Dk.stay (d : Dk K G H a D q) (g : Le G G') (h : ∀ b, Cell a q b → H' b = H b) (o : ∀ b, Cell a q b → G' b = none) : Dk K G' H' a D q := by
  obtain ⟨tp, i1, i2⟩ := d.ins
  obtain ⟨x1, j1, j2⟩ := d.l1
  obtain ⟨x2, k1, k2⟩ := d.l2
  exact ⟨d.cl, ⟨tp, by rw [h _ (.inl rfl)]; exact i1, dp_le g i2⟩, by rw [h _ (.inr (.inl rfl))]; exact d.own, ⟨x1, by rw [h _ (.inr (.inr (.inl rfl)))]; exact j1, dpa_le g j2⟩, ⟨x2, by rw [h _ (.inr (.inr (.inr rfl)))]; exact k1, dpa_le g k2⟩, d.ne, o⟩
theorem Dk.gr (d : Dk K G H a D q) (g : Gr G H G' H') : Dk K G' H' a D q :=
  d.stay g.g (fun b hb => by
    cases e : H b with
    | none => exact absurd e (d.on hb)
    | some u => exact g.h b u e) fun b hb => g.fr b (d.on hb) (d.off b hb)
end
/-- the desks W stand in H, their cells are known to nobody else -/
structure Dks (K : PySem.W.Frag) (G H : Hp) (W : Wd) (qs : Addr → Q3) : Prop where
  dk : ∀ p ∈ W, Dk K G H p.1 p.2 (qs p.1)
  dj : ∀ p ∈ W, ∀ p' ∈ W, p.1 ≠ p'.1 → ∀ b, Cell p.1 (qs p.1) b → ¬ Cell p'.1 (qs p'.1) b
def InC (W : Wd) (qs : Addr → Q3) (b : Addr) : Prop := ∃ p ∈ W, Cell p.1 (qs p.1) b
section
variable {K : PySem.W.Frag} {G0 H0 G H G' H' : Hp} {W : Wd} {qs : Addr → Q3} {σ σ' : L2.St} {Γ Γ' : Gam}
theorem Dks.gr (d : Dks K G H W qs) (g : Gr G H G' H') : Dks K G' H' W qs := ⟨fun p hp => (d.dk p hp).gr g, d.dj⟩
/-- the state of a def that has desks: the data and the slots as before; the desks beside them -/
structure SWd (K : PySem.W.Frag) (G0 H0 G H : Hp) (σ : L2.St) (Γ : Gam) (W : Wd) (qs : Addr → Q3) : Prop where
  sz : SZ K G0 H0 G H σ Γ
  ds : Dks K G H W qs
  base : ∀ b, InC W qs b → H0 b = none
  far : ∀ i es b, gat Γ i = .own es → σ[i]? = some (some (.ref b)) → ¬ InC W qs b
open Classical in
/-- the first heap, with the cells and all that is known -/
noncomputable def lay (G0 H0 G H : Hp) (W : Wd) (qs : Addr → Q3) : Hp := fun b => if InC W qs b then H b else if G b = none then H0 b else G b
theorem lay_in {b : Addr} (h : InC W qs b) : lay G0 H0 G H W qs b = H b := by unfold lay; rw [if_pos h]
theorem lay_g {b : Addr} (h : ¬ InC W qs b) {u : HO} (g : G b = some u) : lay G0 H0 G H W qs b = some u := by unfold lay; rw [if_neg h, if_neg (by rw [g]; simp), g]
theorem lay_out {b : Addr} (h : ¬ InC W qs b) (g : G b = none) : lay G0 H0 G H W qs b = H0 b := by unfold lay; rw [if_neg h, if_pos g]
theorem Dks.on (d : Dks K G H W qs) {b : Addr} (h : InC W qs b) : H b ≠ none := by
  obtain ⟨p, hp, hc⟩ := h
  exact (d.dk p hp).on hc
theorem Dks.off (d : Dks K G H W qs) {b : Addr} (h : InC W qs b) : G b = none := by
  obtain ⟨p, hp, hc⟩ := h
  exact (d.dk p hp).off b hc
theorem Dks.stay (d : Dks K G H W qs) (g : Le G G') (h : ∀ b, InC W qs b → H' b = H b) (o : ∀ b, InC W qs b → G' b = none) : Dks K G' H' W qs :=
  ⟨fun p hp => (d.dk p hp).stay g (fun b hb => h b ⟨p, hp, hb⟩) fun b hb => o b ⟨p, hp, hb⟩, d.dj⟩
theorem SWd.low (s : SWd K G0 H0 G H σ Γ W qs) : SZ K G (lay G0 H0 G H W qs) G H σ Γ := by
  refine ⟨⟨s.sz.sr.sub, s.sz.sr.len, s.sz.sr.val, s.sz.sr.own, s.sz.sr.inj, fun i es p h1 h2 => ?_, s.sz.sr.adr⟩, ⟨fun _ _ e => e, fun b u e => ?_, s.sz.sr.sub, fun _ _ e => e⟩⟩
  · obtain ⟨p0, xs, e1, _, e3, _⟩ := s.sz.sr.own i es h1
    have : p0 = p := by rw [h2] at e1; cases e1; rfl
    subst this
    rw [lay_out (s.far i es p0 h1 h2) e3]
    exact s.sz.sr.nw i es p0 h1 h2
  · by_cases hb : InC W qs b
    · rw [lay_in hb] at e; exact e
    · cases q : G b with
      | none => rw [lay_out hb q] at e; exact s.sz.gr.h b u e
      | some v => rw [lay_g hb q] at e; rw [← Option.some.inj e]; exact s.sz.sr.sub b v q
/-- what a heap above the laid one keeps -/
theorem SWd.kept (s : SWd K G0 H0 G H σ Γ W qs) (l : Le (lay G0 H0 G H W qs) H') : Gr G0 H0 G H' ∧ Dks K G H' W qs := by
  have lG : Le G H' := fun b u e => l b u (lay_g (fun hb => by rw [s.ds.off hb] at e; cases e) e)
  refine ⟨⟨s.sz.gr.g, fun b u e => ?_, lG, s.sz.gr.fr⟩, s.ds.stay (fun _ _ e => e) (fun b hb => ?_) fun b hb => s.ds.off hb⟩
  · have hb : ¬ InC W qs b := fun hb => by rw [s.base b hb] at e; cases e
    cases q : G b with
    | none => exact l b u (by rw [lay_out hb q]; exact e)
    | some v =>
      have h1 := s.sz.gr.h b u e
      have h2 := s.sz.sr.sub b v q
      rw [h1] at h2
      cases h2
      exact lG b u q
  · cases e : H b with
    | none => exact absurd e (s.ds.on hb)
    | some u => exact l b u (by rw [lay_in hb]; exact e)
theorem SWd.up (s : SWd K G0 H0 G H σ Γ W qs) (t : SZ K G (lay G0 H0 G H W qs) G' H' σ' Γ') : SWd K G0 H0 G' H' σ' Γ' W qs := by
  obtain ⟨k1, k2⟩ := s.kept t.gr.h
  have off' : ∀ b, InC W qs b → G' b = none := fun b hb => t.gr.fr b (by rw [lay_in hb]; exact s.ds.on hb) (s.ds.off hb)
  have nin : ∀ i es b, gat Γ' i = .own es → σ'[i]? = some (some (.ref b)) → ¬ InC W qs b := fun i es b h1 h2 hb => by
    have := t.sr.nw i es b h1 h2
    rw [lay_in hb] at this
    exact s.ds.on hb this
  refine ⟨⟨⟨t.sr.sub, t.sr.len, t.sr.val, t.sr.own, t.sr.inj, fun i es p h1 h2 => ?_, t.sr.adr⟩, ⟨le_trans s.sz.gr.g t.gr.g, k1.h, t.gr.s, fun b h1 h2 => ?_⟩⟩, k2.stay t.gr.g (fun b hb => rfl) off', s.base, nin⟩
  · have hl := t.sr.nw i es p h1 h2
    have hn := nin i es p h1 h2
    cases q : G p with
    | none => rw [lay_out hn q] at hl; exact hl
    | some v => rw [lay_g hn q] at hl; cases hl
  · have hb : ¬ InC W qs b := fun hb => h1 (s.base b hb)
    have h3 := s.sz.gr.fr b h1 h2
    exact t.gr.fr b (by rw [lay_out hb h3]; exact h1) h3
end
/-! ### statements -/
inductive OutW where
  | nx (Γ : Gam) (W : Wd)
  | bk (Γ : Gam) (W : Wd)
  | ct (Γ : Gam) (W : Wd)
  | rt (d : PyData) (W : Wd)
  | ex (c : Str) (W : Wd)
  | al (W : Wd) (f : Addr → OutW)
  | no
abbrev MW := Gam → Wd → OutW
def PoW (K : PySem.W.Frag) (mg : Str → Option Value) (E : XK) (G0 H0 : Hp) (D : Ends) : OutW → Prop
  | .nx Γ W => ∀ σ' G' H' qs, SWd K G0 H0 G' H' σ' Γ W qs → D.nx σ' H'
  | .bk Γ W => ∀ σ' G' H' qs, SWd K G0 H0 G' H' σ' Γ W qs → D.bk σ' H'
  | .ct Γ W => ∀ σ' G' H' qs, SWd K G0 H0 G' H' σ' Γ W qs → D.ct σ' H'
  | .rt d W => ∀ x G' H' qs, Gr G0 H0 G' H' → Dq K G' x d → Dks K G' H' W qs → (∀ b, InC W qs b → H0 b = none) → D.rt x H'
  | .ex c W => ∀ G' H' qs, Gr G0 H0 G' H' → Dks K G' H' W qs → (∀ b, InC W qs b → H0 b = none) → E (cV mg c) none H'
  | .al W f => ∀ a, (∀ p ∈ W, p.1 ≠ a) → PoW K mg E G0 H0 D (f a)
  | .no => False
def tSW (K : PySem.W.Frag) (mg : Str → Option Value) (E : XK) (m : MW) : TS := fun D σ H => ∃ G0 H0 G Γ W qs, SWd K G0 H0 G H σ Γ W qs ∧ PoW K mg E G0 H0 D (m Γ W)
/-- a statement that touches no desk -/
def mUp (m : MS) : MW := fun Γ W => match m Γ with
  | .nx Γ1 => .nx Γ1 W
  | .bk Γ1 => .bk Γ1 W
  | .ct Γ1 => .ct Γ1 W
  | .rt d => .rt d W
  | .ex c => .ex c W
  | .no => .no
section
variable {X : Cx} {E : XK}
theorem tS_up {m : MS} {D : Ends} {σ : L2.St} {H : Hp} (h : tSW X.K X.mg E (mUp m) D σ H) : tS X.K X.mg E m D σ H := by
  obtain ⟨G0, H0, G, Γ, W, qs, s, po⟩ := h
  refine ⟨G, lay G0 H0 G H W qs, G, Γ, s.low, ?_⟩
  unfold mUp at po
  cases e : m Γ with
  | nx Γ1 => rw [e] at po; exact fun σ' G' H' t => po σ' G' H' qs (s.up t)
  | bk Γ1 => rw [e] at po; exact fun σ' G' H' t => po σ' G' H' qs (s.up t)
  | ct Γ1 => rw [e] at po; exact fun σ' G' H' t => po σ' G' H' qs (s.up t)
  | rt d =>
    rw [e] at po
    intro x G' H' g dx
    obtain ⟨k1, k2⟩ := s.kept g.h
    refine po x G' H' qs ⟨le_trans s.sz.gr.g g.g, k1.h, g.s, fun b h1 h2 => ?_⟩ dx (k2.stay g.g (fun b hb => rfl) fun b hb => g.fr b (by rw [lay_in hb]; exact s.ds.on hb) (s.ds.off hb)) s.base
    have hb : ¬ InC W qs b := fun hb => h1 (s.base b hb)
    have h3 := s.sz.gr.fr b h1 h2
    exact g.fr b (by rw [lay_out hb h3]; exact h1) h3
  | ex c =>
    rw [e] at po
    intro H' l
    obtain ⟨k1, k2⟩ := s.kept l
    exact po G H' qs k1 k2 s.base
  | no => rw [e] at po; exact po
abbrev WS (X : Cx) (E : XK) (st : Stmt) (m : MW) : Prop := PS X st (tSW X.K X.mg E m)
abbrev WB (X : Cx) (E : XK) (st : List Stmt) (m : MW) : Prop := PSs X st (tSW X.K X.mg E m)
theorem ws_up {st : Stmt} {m : MS} (h : SS X E st m) : WS X E st (mUp m) := ps_of h fun D σ H q => tS_up q
theorem wb_up {st : List Stmt} {m : MS} (h : SB X E st m) : WB X E st (mUp m) := pss_of h fun D σ H q => tS_up q
end
end PD

/-! The data layer: desks that are read as data, calls that change desks. -/
namespace PD
open PySem PySem.Spec PyProof.Rows L2
/-! ### a desk read as a datum -/
def dskD (D : ObD) : PyData := .dict [(.bool true, .list [D.p, .list D.dn, .list D.un])]
open Classical in
noncomputable def lif (G H : Hp) (W : Wd) (qs : Addr → Q3) : Hp := fun b => if InC W qs b then H b else G b
open Classical in
noncomputable def drp (G : Hp) (W : Wd) (qs : Addr → Q3) : Hp := fun b => if InC W qs b then none else G b
section
variable {K : PySem.W.Frag} {G0 H0 G H G' H' : Hp} {W W' : Wd} {qs qs' : Addr → Q3} {σ σ' : L2.St} {Γ Γ' : Gam} {b a : Addr} {D : ObD}
theorem lif_in (h : InC W qs b) : lif G H W qs b = H b := by unfold lif; rw [if_pos h]
theorem lif_out (h : ¬ InC W qs b) : lif G H W qs b = G b := by unfold lif; rw [if_neg h]
theorem drp_in (h : InC W qs b) : drp G W qs b = none := by unfold drp; rw [if_pos h]
theorem drp_out (h : ¬ InC W qs b) : drp G W qs b = G b := by unfold drp; rw [if_neg h]
theorem drp_none (h : drp G W qs b = none) : InC W qs b ∨ G b = none := by
  by_cases e : InC W qs b
  · exact .inl e
  · rw [drp_out e] at h; exact .inr h
theorem drp_some {u : HO} (h : drp G W qs b = some u) : ¬ InC W qs b ∧ G b = some u := by
  by_cases e : InC W qs b
  · rw [drp_in e] at h; cases h
  · rw [drp_out e] at h; exact ⟨e, h⟩
theorem Dks.lif_le (d : Dks K G H W qs) : Le G (lif G H W qs) := fun b u e => by
  rw [lif_out fun h => by rw [d.off h] at e; cases e]; exact e
theorem lookup_mem : ∀ {W : Wd}, W.lookup a = some D → (a, D) ∈ W
  | (c, F) :: r, h => by
    rw [List.lookup_cons] at h
    split at h
    · rename_i e
      cases h
      rw [beq_iff_eq.mp e]
      exact List.mem_cons_self
    · exact List.mem_cons_of_mem _ (lookup_mem h)
theorem Dks.dsk (d : Dks K G H W qs) (h : (a, D) ∈ W) : Dq K (lif G H W qs) (.ref a) (dskD D) := by
  have k := d.dk _ h
  have c : ∀ {b}, Cell a (qs a) b → InC W qs b := fun hb => ⟨_, h, hb⟩
  obtain ⟨tp, e, dq⟩ := k.ins
  obtain ⟨xs, e1, d1⟩ := k.l1
  obtain ⟨ys, e2, d2⟩ := k.l2
  have f1 : lif G H W qs (qs a).2.1 = some (.lst xs) := (lif_in (c (.inr (.inr (.inl rfl))))).trans e1
  have f2 : lif G H W qs (qs a).2.2 = some (.lst ys) := (lif_in (c (.inr (.inr (.inr rfl))))).trans e2
  exact .dsk k.cl ((lif_in (c (.inl rfl))).trans e) ((lif_in (c (.inr (.inl rfl)))).trans k.own) (.cons (dp_le d.lif_le dq) (.cons (.lst f1 (dpa_le d.lif_le d1)) (.cons (.lst f2 (dpa_le d.lif_le d2)) .nil)))
end
def upS (W : Wd) : Sl → Sl
  | .ad a => match W.lookup a with
    | some D => .v (dskD D)
    | none => .no
  | s => s
def upG (W : Wd) (Γ : Gam) : Gam := Γ.map (upS W)
theorem gat_up (W : Wd) : ∀ (Γ : Gam) (i : Nat), gat (upG W Γ) i = upS W (gat Γ i)
  | [], i => rfl
  | s :: r, 0 => rfl
  | s :: r, i + 1 => gat_up W r i
/-! no list, no dict, no desk within -/
mutual
def calm : PyData → Bool
  | .list _ => false
  | .dict _ => false
  | .tuple ds => calmA ds
  | _ => true
def calmA : List PyData → Bool
  | [] => true
  | d :: ds => calm d && calmA ds
end
def hardO : HO → Bool
  | .lst _ => true
  | .ins _ _ _ => true
  | .own _ => true
  | _ => false
mutual
theorem calm_dq {K : PySem.W.Frag} {G G' : Hp} (hg : ∀ b u, G b = some u → hardO u = false → G' b = some u) : ∀ {d : PyData} {v : V}, Dq K G v d → calm d = true → Dq K G' v d
  | _, _, .non, _ => .non
  | _, _, .bl b, _ => .bl b
  | _, _, .int i, _ => .int i
  | _, _, .str x, _ => .str x
  | _, _, .lst h a, c => nomatch c
  | _, _, .tup h a, c => .tup (match h with
    | .inl (.inl h) => .inl (.inl (hg _ _ h rfl))
    | .inl (.inr ⟨o, h⟩) => .inl (.inr ⟨o, hg _ _ h rfl⟩)
    | .inr h => .inr h) (calm_dqa hg a (by simpa [calm] using c))
  | _, _, .scr h, c => nomatch c
  | _, _, .dct h, c => nomatch c
  | _, _, .dsk _ _ _ _, c => nomatch c
  | _, _, .dsl _ _ _ _, c => nomatch c
theorem calm_dqa {K : PySem.W.Frag} {G G' : Hp} (hg : ∀ b u, G b = some u → hardO u = false → G' b = some u) : ∀ {ds : List PyData} {vs : List V}, DqAll K G vs ds → calmA ds = true → DqAll K G' vs ds
  | _, _, .nil, _ => .nil
  | _, _, .cons h1 h2, c => .cons (calm_dq hg h1 (Bool.and_eq_true_iff.mp c).1) (calm_dqa hg h2 (Bool.and_eq_true_iff.mp c).2)
end
section
variable {K : PySem.W.Frag} {G0 H0 G H G' H' : Hp} {W W' : Wd} {qs qs' : Addr → Q3} {σ σ' : L2.St} {Γ Γ' : Gam} {b a : Addr} {D : ObD}
theorem SWd.go (s : SWd K G0 H0 G H σ Γ W qs) (g : Gr G H G' H') : SWd K G0 H0 G' H' σ Γ W qs := ⟨s.sz.go g, s.ds.gr g, s.base, s.far⟩
theorem SWd.grow (s : SWd K G0 H0 G H σ Γ W qs) (l : Le H H') : SWd K G0 H0 G H' σ Γ W qs := s.go (Gr.grow s.sz.sr.sub l)
theorem SWd.nin (s : SWd K G0 H0 G H σ Γ W qs) {i : Nat} {es : List PyData} {p : Addr} (h1 : gat Γ i = .own es) (h2 : σ[i]? = some (some (.ref p))) : ¬ InC W qs p := s.far i es p h1 h2
/-- the desks as data -/
theorem SWd.sr2 (s : SWd K G0 H0 G H σ Γ W qs) : SR K H0 (lif G H W qs) H σ (upG W Γ) := by
  have hown : ∀ {i es}, gat (upG W Γ) i = .own es → gat Γ i = .own es := fun {i es} h => by
    rw [gat_up] at h
    cases e : gat Γ i with
    | own ds => rw [e] at h; exact h
    | no => rw [e] at h; cases h
    | v d => rw [e] at h; cases h
    | ad c =>
      rw [e] at h
      have h : (match W.lookup c with
        | some D => Sl.v (dskD D)
        | none => Sl.no) = Sl.own es := h
      split at h <;> cases h
  refine ⟨fun b u e => ?_, by rw [s.sz.sr.len]; simp [upG], fun i d h => ?_, fun i es h => ?_, fun i j ds es p h1 h2 => s.sz.sr.inj i j ds es p (hown h1) (hown h2), fun i ds p h => s.sz.sr.nw i ds p (hown h), fun i c h => ?_⟩
  · by_cases hb : InC W qs b
    · rw [lif_in hb] at e; exact e
    · rw [lif_out hb] at e; exact s.sz.sr.sub b u e
  · rw [gat_up] at h
    cases e : gat Γ i with
    | own ds => rw [e] at h; cases h
    | no => rw [e] at h; cases h
    | v d' =>
      rw [e] at h
      have h : Sl.v d' = Sl.v d := h
      cases h
      obtain ⟨x, e1, e2⟩ := s.sz.sr.val i _ e
      exact ⟨x, e1, dp_le s.ds.lif_le e2⟩
    | ad c =>
      rw [e] at h
      have h : (match W.lookup c with
        | some D => Sl.v (dskD D)
        | none => Sl.no) = Sl.v d := h
      split at h
      · rename_i D hl
        cases h
        exact ⟨_, s.sz.sr.adr i c e, s.ds.dsk (lookup_mem hl)⟩
      · cases h
  · obtain ⟨p, xs, e1, e2, e3, e4⟩ := s.sz.sr.own i es (hown h)
    exact ⟨p, xs, e1, e2, by rw [lif_out (s.far i es p (hown h) e1)]; exact e3, dpa_le s.ds.lif_le e4⟩
  · rw [gat_up] at h
    cases e : gat Γ i with
    | own ds => rw [e] at h; cases h
    | no => rw [e] at h; cases h
    | v d => rw [e] at h; cases h
    | ad c' =>
      rw [e] at h
      have h : (match W.lookup c' with
        | some D => Sl.v (dskD D)
        | none => Sl.no) = Sl.ad c := h
      split at h <;> cases h
theorem Dk.kind {q : Q3} (d : Dk K G H a D q) (h : Cell a q b) : ∃ u, H b = some u ∧ hardO u = true := by
  rcases h with e | e | e | e <;> subst e
  · obtain ⟨tp, e, _⟩ := d.ins; exact ⟨_, e, rfl⟩
  · exact ⟨_, d.own, rfl⟩
  · obtain ⟨xs, e, _⟩ := d.l1; exact ⟨_, e, rfl⟩
  · obtain ⟨xs, e, _⟩ := d.l2; exact ⟨_, e, rfl⟩
/-- behind an evaluation that read desks -/
theorem SWd.back (s : SWd K G0 H0 G H σ Γ W qs) (g : Gr (lif G H W qs) H G' H') : Gr G H (drp G' W qs) H' ∧ ∀ b u, G' b = some u → hardO u = false → drp G' W qs b = some u := by
  refine ⟨⟨fun b u e => ?_, g.h, fun b u e => g.s b u (drp_some e).2, fun b h1 h2 => ?_⟩, fun b u e hu => ?_⟩
  · rw [drp_out fun h => by rw [s.ds.off h] at e; cases e]
    exact g.g b u (s.ds.lif_le b u e)
  · by_cases hb : InC W qs b
    · exact drp_in hb
    · rw [drp_out hb]; exact g.fr b h1 (by rw [lif_out hb]; exact h2)
  · rw [drp_out fun h => ?_]
    · exact e
    · obtain ⟨p, hp, hc⟩ := h
      obtain ⟨v, e1, e2⟩ := (s.ds.dk p hp).kind hc
      have := g.s b u e
      rw [g.h b v e1] at this
      cases this
      rw [hu] at e2; cases e2
/-- behind a call that was given all desks -/
theorem SWd.call (s : SWd K G0 H0 G H σ Γ W qs) (g : Gr G (drp H W qs) G' H') (d : Dks K G' H' W' qs') (hb : ∀ b, InC W' qs' b → drp H W qs b = none) : SWd K G0 H0 G' H' σ Γ W' qs' := by
  have ow : ∀ {i es p}, gat Γ i = .own es → σ[i]? = some (some (.ref p)) → ∃ xs, drp H W qs p = some (.lst xs) ∧ G p = none ∧ DqAll K G xs es := fun {i es p} h1 h2 => by
    obtain ⟨p', xs, e1, e2, e3, e4⟩ := s.sz.sr.own i es h1
    rw [h2] at e1; cases e1
    exact ⟨xs, by rw [drp_out (s.far i es p h1 h2)]; exact e2, e3, e4⟩
  refine ⟨⟨⟨g.s, s.sz.sr.len, fun i d h => ?_, fun i es h => ?_, s.sz.sr.inj, s.sz.sr.nw, s.sz.sr.adr⟩, ⟨le_trans s.sz.gr.g g.g, fun b u e => ?_, g.s, fun b h1 h2 => ?_⟩⟩, d, fun b h => ?_, fun i es p h1 h2 h => ?_⟩
  · obtain ⟨x, e1, e2⟩ := s.sz.sr.val i d h
    exact ⟨x, e1, dp_le g.g e2⟩
  · obtain ⟨p, xs, e1, e2, e3, e4⟩ := s.sz.sr.own i es h
    obtain ⟨xs', f1, f2, f3⟩ := ow h e1
    exact ⟨p, xs', e1, g.h _ _ f1, g.fr p (by rw [f1]; simp) f2, dpa_le g.g f3⟩
  · exact g.h b u (by rw [drp_out fun h => by rw [s.base b h] at e; cases e]; exact s.sz.gr.h b u e)
  · refine g.fr b (fun z => ?_) (s.sz.gr.fr b h1 h2)
    rcases drp_none z with z | z
    · exact h1 (s.base b z)
    · exact h1 (le_none s.sz.gr.h z)
  · cases e : H0 b with
    | none => rfl
    | some u =>
      have := hb b h
      have nb : ¬ InC W qs b := fun z => by rw [s.base b z] at e; cases e
      rw [drp_out nb, s.sz.gr.h b u e] at this
      cases this
  · obtain ⟨xs, f1, _⟩ := ow h1 h2
    rw [hb p h] at f1; cases f1
end
/-! ### expressions -/
inductive RW (α : Type) where
  | ok (d : α) (W : Wd)
  | ex (c : Str) (W : Wd)
  | al (W : Wd) (f : Addr → RW α)
  | no
def RW.bind {α β : Type} : RW α → (α → Wd → RW β) → RW β
  | .ok d W, f => f d W
  | .ex c W, _ => .ex c W
  | .al W g, f => .al W fun a => (g a).bind f
  | .no, _ => .no
def RW.of {α : Type} : R α → Wd → RW α
  | .ok d, W => .ok d W
  | .ex c, W => .ex c W
  | .no, _ => .no
@[simp] theorem RW.bind_ok {α β : Type} (d : α) (W : Wd) (f : α → Wd → RW β) : (RW.ok d W).bind f = f d W := rfl
@[simp] theorem RW.bind_ex {α β : Type} (c : Str) (W : Wd) (f : α → Wd → RW β) : (RW.ex c W : RW α).bind f = .ex c W := rfl
@[simp] theorem RW.bind_al {α β : Type} (W : Wd) (g : Addr → RW α) (f : α → Wd → RW β) : (RW.al W g).bind f = .al W fun a => (g a).bind f := rfl
@[simp] theorem RW.bind_no {α β : Type} (f : α → Wd → RW β) : (RW.no : RW α).bind f = .no := rfl
@[simp] theorem RW.of_ok {α : Type} (d : α) (W : Wd) : RW.of (.ok d) W = .ok d W := rfl
@[simp] theorem RW.of_ex {α : Type} (c : Str) (W : Wd) : RW.of (.ex c : R α) W = .ex c W := rfl
@[simp] theorem RW.of_no {α : Type} (W : Wd) : RW.of (.no : R α) W = .no := rfl
section
variable {α β γ δ : Type}
def PoE (K : PySem.W.Frag) (Rl : Hp → α → β → Prop) (mg : Str → Option Value) (E : XK) (G0 H0 G : Hp) (σ : L2.St) (Γ : Gam) (Q : α → Hp → Prop) : RW β → Prop
  | .ok d W => ∀ x G' H' qs, Le G G' → SWd K G0 H0 G' H' σ Γ W qs → Rl G' x d → Q x H'
  | .ex c W => ∀ G' H' qs, Gr G0 H0 G' H' → Dks K G' H' W qs → (∀ b, InC W qs b → H0 b = none) → E (cV mg c) none H'
  | .al W f => ∀ a, (∀ p ∈ W, p.1 ≠ a) → PoE K Rl mg E G0 H0 G σ Γ Q (f a)
  | .no => False
def tE (K : PySem.W.Frag) (Rl : Hp → α → β → Prop) (mg : Str → Option Value) (E : XK) (m : Gam → Wd → RW β) : L2.St → Hp → (α → Hp → Prop) → Prop :=
  fun σ H Q => ∃ G0 H0 G Γ W qs, SWd K G0 H0 G H σ Γ W qs ∧ PoE K Rl mg E G0 H0 G σ Γ Q (m Γ W)
variable {K : PySem.W.Frag} {Rl : Hp → α → β → Prop} {Rk : Hp → γ → δ → Prop} {mg : Str → Option Value} {E : XK} {G0 H0 G H G' H' : Hp} {σ : L2.St} {Γ : Gam} {W : Wd} {qs : Addr → Q3}
theorem PoE.gr {Q : α → Hp → Prop} {r : RW β} (h : PoE K Rl mg E G0 H0 G σ Γ Q r) (l : Le G G') : PoE K Rl mg E G0 H0 G' σ Γ Q r := by
  induction r with
  | ok d W => exact fun x G2 H2 q l2 => h x G2 H2 q (le_trans l l2)
  | ex c W => exact h
  | al W f ih => exact fun a ha => ih a (h a ha)
  | no => exact h
theorem PoE.bind {Q : γ → Hp → Prop} {Q' : α → Hp → Prop} {r : RW β} {f : β → Wd → RW δ} (h : PoE K Rk mg E G0 H0 G σ Γ Q (r.bind f))
    (k : ∀ d x G' H' W qs, Le G G' → SWd K G0 H0 G' H' σ Γ W qs → Rl G' x d → PoE K Rk mg E G0 H0 G' σ Γ Q (f d W) → Q' x H') : PoE K Rl mg E G0 H0 G σ Γ Q' r := by
  induction r with
  | ok d W => exact fun x G' H' qs l s dx => k d x G' H' W qs l s dx (PoE.gr (r := f d W) h l)
  | ex c W => exact h
  | al W f ih => exact fun a ha => ih a (h a ha)
  | no => exact h
theorem PoE.ok {Q : α → Hp → Prop} {d : β} {x : α} (h : PoE K Rl mg E G0 H0 G σ Γ Q (.ok d W)) (s : SWd K G0 H0 G H σ Γ W qs) (r : Rl G x d) : Q x H := h x G H qs (fun _ _ e => e) s r
theorem PoE.exc {Q : α → Hp → Prop} {c : Str} (h : PoE K Rl mg E G0 H0 G σ Γ Q (.ex c W : RW β)) (s : SWd K G0 H0 G H σ Γ W qs) (l : Le H H') : E (cV mg c) none H' :=
  let t := s.grow l
  h G H' qs t.sz.gr t.ds t.base
/-- a piece that touches no desk -/
theorem PoE.po {Q : α → Hp → Prop} {r : R β} (h : PoE K Rl mg E G0 H0 G σ Γ Q (RW.of r W)) (s : SWd K G0 H0 G H σ Γ W qs) : Po Rl mg E G H Q r := by
  cases r with
  | ok d => exact fun x G' H' g dx => h x G' H' qs g.g (s.go g) dx
  | ex c => exact fun H' l => PoE.exc h s l
  | no => exact h
end
abbrev MWE := Gam → Wd → RW PyData
def mU {α : Type} (m : Gam → R α) : Gam → Wd → RW α := fun Γ W => RW.of (m Γ) W
/-- .. that reads desks; its value is calm -/
def mRd (m : M) : MWE := fun Γ W => match m (upG W Γ) with
  | .ok d => if calm d = true then .ok d W else .no
  | .ex c => .ex c W
  | .no => .no
def mRdB (m : Gam → R Bool) : Gam → Wd → RW Bool := fun Γ W => RW.of (m (upG W Γ)) W
theorem tE_up {α β : Type} {Rl : Hp → α → β → Prop} {K mg} {E : XK} {m : Gam → R β} {σ H Q} (h : tE K Rl mg E (mU m) σ H Q) : tX K Rl mg E m σ H Q := by
  obtain ⟨G0, H0, G, Γ, W, qs, s, po⟩ := h
  exact ⟨H0, Γ, G, s.sz.sr, po.po s⟩
theorem tE_rd {K mg} {E : XK} {m : M} {σ H Q} (h : tE K (Dq K) mg E (mRd m) σ H Q) : tX K (Dq K) mg E m σ H Q := by
  obtain ⟨G0, H0, G, Γ, W, qs, s, po⟩ := h
  refine ⟨H0, upG W Γ, lif G H W qs, s.sr2, ?_⟩
  unfold mRd at po
  cases e : m (upG W Γ) with
  | no => rw [e] at po; exact po
  | ex c => rw [e] at po; exact fun H' l => PoE.exc (β := PyData) po s l
  | ok d =>
    rw [e] at po
    dsimp only at po
    split at po
    · rename_i hc
      intro x G' H' g dx
      obtain ⟨g1, g2⟩ := s.back g
      exact po x _ H' qs g1.g (s.go g1) (calm_dq g2 dx hc)
    · exact po.elim
theorem tE_rdB {K mg} {E : XK} {m : Gam → R Bool} {σ H Q} (h : tE K RB mg E (mRdB m) σ H Q) : tX K RB mg E m σ H Q := by
  obtain ⟨G0, H0, G, Γ, W, qs, s, po⟩ := h
  refine ⟨H0, upG W Γ, lif G H W qs, s.sr2, ?_⟩
  unfold mRdB at po
  cases e : m (upG W Γ) with
  | no => rw [e] at po; exact po
  | ex c => rw [e] at po; exact fun H' l => PoE.exc (β := Bool) po s l
  | ok d =>
    rw [e] at po
    intro x G' H' g dx
    obtain ⟨g1, g2⟩ := s.back g
    exact po x _ H' qs g1.g (s.go g1) dx
section
variable {X : Cx} {E : XK} {e a b : Expr} {es : List Expr} {m : M} {ma mb : MWE} {pos : Pos}
abbrev WE (X : Cx) (E : XK) (e : Expr) (m : MWE) : Prop := PE X e (tE X.K (Dq X.K) X.mg E m)
abbrev WT (X : Cx) (E : XK) (e : Expr) (m : Gam → Wd → RW Bool) : Prop := PT X e (tE X.K RB X.mg E m)
abbrev WA (X : Cx) (E : XK) (es : List Expr) (m : Gam → Wd → RW (List PyData)) : Prop := PA X es (tE X.K (DqAll X.K) X.mg E m)
theorem we_up (h : SE X E e m) : WE X E e (mU m) := pe_of h fun σ H Q q => tE_up q
theorem we_rd (h : SE X E e m) : WE X E e (mRd m) := pe_of h fun σ H Q q => tE_rd q
theorem wt_up {m : Gam → R Bool} (h : ST X E e m) : WT X E e (mU m) := pt_of h fun σ H Q q => tE_up q
theorem wt_rd {m : Gam → R Bool} (h : ST X E e m) : WT X E e (mRdB m) := pt_of h fun σ H Q q => tE_rdB q
def mOpW (g : PyData → PyData → R PyData) (a b : MWE) : MWE := fun Γ W => (a Γ W).bind fun x W1 => (b Γ W1).bind fun y W2 => RW.of (g x y) W2
def mBW (a : MWE) : Gam → Wd → RW Bool := fun Γ W => (a Γ W).bind fun d W1 => RW.of (asB d) W1
theorem tOpW {r : R2} {g : PyData → PyData → R PyData} {σ H Q} (hr : r = rD X.K X.mg E g) (h : tE X.K (Dq X.K) X.mg E (mOpW g ma mb) σ H Q) : tOp r (tE X.K (Dq X.K) X.mg E ma) (tE X.K (Dq X.K) X.mg E mb) σ H Q := by
  subst hr
  obtain ⟨G0, H0, G, Γ, W, qs, s, po⟩ := h
  refine ⟨G0, H0, G, Γ, W, qs, s, PoE.bind po fun d x G1 H1 W1 q1 l1 s1 dx po1 => ⟨G0, H0, G1, Γ, W1, q1, s1, PoE.bind po1 fun e y G2 H2 W2 q2 l2 s2 dy po2 => ⟨G2, d, e, s2.sz.sr.sub, dp_le l2 dx, dy, po2.po s2⟩⟩⟩
theorem we_bin {op : Operator} {g : PyData → PyData → R PyData} (ho : OD X E (binaryOp op) g) (ha : WE X E a ma) (hb : WE X E b mb) : WE X E (.BinOp a op b pos) (mOpW g ma mb) :=
  pe_of (pe_op ho ha hb) fun σ H Q h => tOpW rfl h
theorem we_cmp {op : CmpOp} {g : PyData → PyData → R PyData} (ho : OD X E (compareOp op) g) (ha : WE X E a ma) (hb : WE X E b mb) (hm : behindInMarks op b = false := by first | exact nomark _ | rfl) : WE X E (.Compare a [op] [b] pos) (mOpW g ma mb) :=
  pe_of (pe_cmpR ho ha hb hm) fun σ H Q h => tOpW rfl h
theorem tTestW {m : MWE} {σ H Q} (h : tE X.K RB X.mg E (mBW m) σ H Q) : tE X.K (Dq X.K) X.mg E m σ H fun x H1 => ∃ k, x = .bl k ∧ Q k H1 := by
  obtain ⟨G0, H0, G, Γ, W, qs, s, po⟩ := h
  refine ⟨G0, H0, G, Γ, W, qs, s, PoE.bind po fun d x G1 H1 W1 q1 l1 s1 dx po1 => ?_⟩
  cases dx with
  | bl b => exact ⟨b, rfl, PoE.ok (β := Bool) po1 s1 rfl⟩
  | _ => exact po1.elim
theorem wt_cmp {op : CmpOp} {g : PyData → PyData → R PyData} (ho : OD X E (compareOp op) g) (ha : WE X E a ma) (hb : WE X E b mb) (hm : behindInMarks op b = false := by first | exact nomark _ | rfl) : WT X E (.Compare a [op] [b] pos) (mBW (mOpW g ma mb)) :=
  pt_of (pt_cmpR ho ha hb hm) fun σ H Q h => tOpW rfl (tTestW h)
/-- a if t else b -/
def mIfW (t : Gam → Wd → RW Bool) (a b : MWE) : MWE := fun Γ W => (t Γ W).bind fun c W1 => if c = true then a Γ W1 else b Γ W1
theorem we_if {c : Expr} {t : Gam → Wd → RW Bool} (hc : WT X E c t) (ha : WE X E a ma) (hb : WE X E b mb) : WE X E (.IfExp c a b pos) (mIfW t ma mb) :=
  pe_of (pe_ifExp hc ha hb) fun σ H Q ⟨G0, H0, G, Γ, W, qs, s, po⟩ => ⟨G0, H0, G, Γ, W, qs, s, PoE.bind po fun c x G1 H1 W1 q1 l1 s1 dx po1 => by
    cases dx
    cases c with
    | true => exact ⟨G0, H0, G1, Γ, W1, q1, s1, po1⟩
    | false => exact ⟨G0, H0, G1, Γ, W1, q1, s1, po1⟩⟩
/-! argument lists, displays -/
def mNilW : Gam → Wd → RW (List PyData) := fun _ W => .ok [] W
def mConsW (m : MWE) (r : Gam → Wd → RW (List PyData)) : Gam → Wd → RW (List PyData) := fun Γ W => (m Γ W).bind fun d W1 => (r Γ W1).bind fun ds W2 => .ok (d :: ds) W2
theorem wa_nil : WA X E [] mNilW := pa_of pa_nil fun σ H Q ⟨G0, H0, G, Γ, W, qs, s, po⟩ => PoE.ok (β := List PyData) (d := []) po s .nil
theorem wa_cons {m : MWE} {r : Gam → Wd → RW (List PyData)} (ha : WE X E e m) (hr : WA X E es r) (hs : starEach (e :: es) X.env = (false, eval e X.env) :: starEach es X.env := by rfl) : WA X E (e :: es) (mConsW m r) :=
  pa_of (pa_cons ha hr hs) fun σ H Q ⟨G0, H0, G, Γ, W, qs, s, po⟩ => ⟨G0, H0, G, Γ, W, qs, s, PoE.bind po fun d x G1 H1 W1 q1 l1 s1 dx po1 => ⟨G0, H0, G1, Γ, W1, q1, s1, PoE.bind po1 fun ds xs G2 H2 W2 q2 l2 s2 dxs po2 =>
    PoE.ok (β := List PyData) (d := d :: ds) po2 s2 (.cons (dp_le l2 dx) dxs)⟩⟩
def mLstW (m : Gam → Wd → RW (List PyData)) : MWE := fun Γ W => (m Γ W).bind fun ds W1 => if ds.length ≤ 100000 then .ok (.list ds) W1 else .no
theorem we_lst {m : Gam → Wd → RW (List PyData)} (h : WA X E es m) : WE X E (.List es pos) (mLstW m) :=
  pe_of (pe_lst h) fun σ H Q ⟨G0, H0, G, Γ, W, qs, s, po⟩ => ⟨G0, H0, G, Γ, W, qs, s, PoE.bind po fun ds xs G1 H1 W1 q1 l1 s1 dx po1 => by
    split at po1
    · rename_i hz
      refine ⟨sz_of (by rw [dpa_len dx]; exact hz), fun p hp => ?_⟩
      have g := Gr.new (o := .lst xs) s1.sz.sr.sub hp
      exact po1 (.ref p) _ _ q1 g.g (s1.go g) (.lst upd_same (dpa_le g.g dx))
    · exact po1.elim⟩
/-! ### calls that get desks -/
inductive DA where
  | d (x : PyData)
  | a (p : Addr)
inductive RAl (K : PySem.W.Frag) (G : Hp) : List V → List DA → Prop
  | nil : RAl K G [] []
  | d {v : V} {x : PyData} {vs : List V} {ds : List DA} : Dq K G v x → RAl K G vs ds → RAl K G (v :: vs) (.d x :: ds)
  | a {p : Addr} {vs : List V} {ds : List DA} : RAl K G vs ds → RAl K G (.ref p :: vs) (.a p :: ds)
theorem ral_len {K : PySem.W.Frag} {G : Hp} {vs : List V} {ds : List DA} (h : RAl K G vs ds) : vs.length = ds.length := by
  induction h with
  | nil => rfl
  | d _ _ ih => simp [ih]
  | a _ ih => simp [ih]
theorem ral_le {K : PySem.W.Frag} {G G' : Hp} (l : Le G G') {vs : List V} {ds : List DA} (h : RAl K G vs ds) : RAl K G' vs ds := by
  induction h with
  | nil => exact .nil
  | d h _ ih => exact .d (dp_le l h) ih
  | a _ ih => exact .a ih
abbrev SDA (X : Cx) (E : XK) (es : List Expr) (m : Gam → R (List DA)) : Prop := PA X es (tX X.K (RAl X.K) X.mg E m)
def mNilA : Gam → R (List DA) := fun _ => .ok []
def mConsD (m : M) (r : Gam → R (List DA)) : Gam → R (List DA) := fun Γ => (m Γ).bind fun d => (r Γ).bind fun ds => .ok (.d d :: ds)
def mConsA (i : Nat) (r : Gam → R (List DA)) : Gam → R (List DA) := fun Γ => match gat Γ i with
  | .ad a => (r Γ).bind fun ds => .ok (.a a :: ds)
  | _ => .no
theorem sda_nil : SDA X E [] mNilA := pa_of pa_nil fun σ H Q ⟨B0, Γ, G, sr, po⟩ => Po.ok (d := ([] : List DA)) po sr.sub .nil
theorem sda_d {r : Gam → R (List DA)} (ha : SE X E e m) (hr : SDA X E es r) (hs : starEach (e :: es) X.env = (false, eval e X.env) :: starEach es X.env := by rfl) : SDA X E (e :: es) (mConsD m r) :=
  pa_of (pa_cons ha hr hs) fun σ H Q ⟨B0, Γ, G, sr, po⟩ => ⟨B0, Γ, G, sr, Po.bind po fun d x G1 H1 _ g1 dx po1 => ⟨B0, Γ, G1, sr.gr g1, Po.bind po1 fun ds xs G2 H2 _ g2 dxs po2 => Po.ok (d := DA.d d :: ds) po2 g2.s (.d (dp_le g2.g dx) dxs)⟩⟩
theorem sda_a (i : Nat) {x : Str} {p : Pos} {r : Gam → R (List DA)} (hr : SDA X E es r) (hN : X.N[i]? = some x := by rfl) (hv : Vis X.env.scope x := by first | exact Or.inl rfl | exact Or.inr (Or.inl rfl) | exact Or.inr (Or.inr rfl)) (hd : (x == ("__debug__" : Str)) = false := by decide) (hcd : (x == ("__classdict__" : Str)) = false := by decide)
    (hs : starEach (.Name x p :: es) X.env = (false, eval (.Name x p) X.env) :: starEach es X.env := by rfl) : SDA X E (.Name x p :: es) (mConsA i r) :=
  pa_of (pa_cons (pe_var (i := i) hN hv hd hcd) hr hs) fun σ H Q ⟨B0, Γ, G, sr, po⟩ => by
    unfold mConsA at po
    cases e : gat Γ i with
    | ad c =>
      rw [e] at po
      exact ⟨.ref c, sr.adr i c e, B0, Γ, G, sr, Po.bind po fun ds xs G2 H2 _ g2 dxs po2 => Po.ok (d := DA.a c :: ds) po2 g2.s (.a dxs)⟩
    | no => rw [e] at po; exact po.elim
    | v d => rw [e] at po; exact po.elim
    | own d => rw [e] at po; exact po.elim
abbrev GW := List DA → Wd → RW PyData
def PoC (K : PySem.W.Frag) (mg : Str → Option Value) (E : XK) (G B : Hp) (Q : VK) : RW PyData → Prop
  | .ok d W => ∀ x G' H' qs, Gr G B G' H' → Dq K G' x d → Dks K G' H' W qs → (∀ b, InC W qs b → B b = none) → Q x H'
  | .ex c W => ∀ G' H' qs, Gr G B G' H' → Dks K G' H' W qs → (∀ b, InC W qs b → B b = none) → E (cV mg c) none H'
  | .al W f => ∀ a, (∀ p ∈ W, p.1 ≠ a) → PoC K mg E G B Q (f a)
  | .no => False
def spW (K : PySem.W.Frag) (mg : Str → Option Value) (n : Nat) (g : GW) : Sp := fun vs H Q E => ∃ G ds W qs, Le G H ∧ RAl K G vs ds ∧ ds.length = n ∧ Dks K G H W qs ∧ PoC K mg E G (drp H W qs) Q (g ds W)
theorem spW_len {K mg n g vs H Q E} (h : spW K mg n g vs H Q E) : vs.length = n := by
  obtain ⟨G, ds, W, qs, _, d, e, _⟩ := h
  rw [ral_len d, e]
theorem poC_of {K mg} {E : XK} {G0 H0 G H : Hp} {σ Γ W qs} {Q : VK} {r : RW PyData} (s : SWd K G0 H0 G H σ Γ W qs) (po : PoE K (Dq K) mg E G0 H0 G σ Γ Q r) : PoC K mg E G (drp H W qs) Q r := by
  induction r with
  | al W f ih => exact fun a ha => ih a (po a ha)
  | ok d W' => exact fun x G' H' qs' g dx dks b => po x G' H' qs' g.g (s.call g dks b) dx
  | ex c W' => exact fun G' H' qs' g dks b => po G' H' qs' (s.call g dks b).sz.gr dks (s.call g dks b).base
  | no => exact po
/-- a def, a method, as callers have it -/
structure DnW (P : Program) (w : World) (K : PySem.W.Frag) (mg : Str → Option Value) (base : Heap) (k : Nat) (x : Str) (n : Nat) (g : GW) : Prop where
  ex : ∃ f fd ps, mg x = some (.ref f) ∧ ps.length = n ∧ FnOk P w K mg base (L2.CX P w) k f fd ps (spW K mg n g) ∧ PySem.W.keepIn K (.ref f) = true ∧ Binds K fd ps []
structure MnW (P : Program) (w : World) (K : PySem.W.Frag) (mg : Str → Option Value) (base : Heap) (k : Nat) (x : Str) (n : Nat) (g : GW) : Prop where
  ex : ∃ f fd ps, Meth K (dkC K) x f ∧ ps.length = n ∧ FnOk P w K mg base (L2.CX P w) k f fd ps (spW K mg n g) ∧ Binds K fd ps []
theorem DnW.mono {P w K mg base} {j k : Nat} {x n g} (h : DnW P w K mg base j x n g) (l : j ≤ k) : DnW P w K mg base k x n g := by
  obtain ⟨f, fd, ps, a, b, c, d⟩ := h.ex
  exact ⟨f, fd, ps, a, b, c.mono l, d⟩
theorem MnW.mono {P w K mg base} {j k : Nat} {x n g} (h : MnW P w K mg base j x n g) (l : j ≤ k) : MnW P w K mg base k x n g := by
  obtain ⟨f, fd, ps, a, b, c, d⟩ := h.ex
  exact ⟨f, fd, ps, a, b, c.mono l, d⟩
def mCallW (n : Nat) (g : GW) (m : Gam → R (List DA)) : MWE := fun Γ W => (RW.of (m Γ) W).bind fun ds W1 => if ds.length = n then g ds W1 else .no
theorem we_call {x : Str} {p : Pos} {k n : Nat} {g : GW} {m : Gam → R (List DA)} (D : DnW X.prog X.w X.K X.mg X.base k x n g) (hr : Room k X.A) (hx : Passes (L2.CX X.prog X.w) X E) (ha : SDA X E (e :: es) m)
    (hg : Gl X x := by exact rfl)
    (he : starEach (e :: es) X.env = (false, eval e X.env) :: starEach es X.env := by rfl) (hpl : (backTo pos (starEach es X.env)).any (·.1) = false := by rfl) (hd : (x == ("__debug__" : Str)) = false := by decide) :
    WE X E (.Call (.Name x p) (e :: es) [] pos) (mCallW n g m) := by
  obtain ⟨f, fd, ps, hm, hl, F, kp, hb⟩ := D.ex
  refine pe_of (pe_call F hr hg hm kp hb .nil hx ha (hdb := hd) (he := he) (hpl := hpl)) fun σ H Q ⟨G0, H0, G, Γ, W, qs, s, po⟩ => ?_
  refine tE_up ⟨G0, H0, G, Γ, W, qs, s, PoE.bind po fun ds xs G1 H1 W1 q1 l1 s1 dx po1 => ?_⟩
  rw [List.append_nil]
  split at po1
  · rename_i hn
    exact ⟨G1, ds, W1, q1, s1.sz.sr.sub, dx, hn, s1.ds, poC_of s1 po1⟩
  · exact po1.elim
theorem fsD_no {tp : V} {l1 l2 : Addr} {m : Str} (h1 : ¬ m = "present") (h2 : ¬ m = "done") (h3 : ¬ m = "undone") : (fsD tp l1 l2).lookup m = none := by
  unfold fsD
  rw [List.lookup_cons, beq_eq_false_iff_ne.mpr h1, List.lookup_cons, beq_eq_false_iff_ne.mpr h2, List.lookup_cons, beq_eq_false_iff_ne.mpr h3]
  rfl
/-- self.m(..), self a name that holds a desk -/
def mMethW (i n : Nat) (g : GW) (m : Gam → R (List DA)) : MWE := fun Γ W => match gat Γ i with
  | .ad a => match W.lookup a with
    | some _ => (RW.of (m Γ) W).bind fun ds W1 => if ds.length + 1 = n then g (.a a :: ds) W1 else .no
    | none => .no
  | _ => .no
theorem tMethW {i n : Nat} {g : GW} {m : Gam → R (List DA)} {x : Str} {σ H Q} (h1 : ¬ x = "present") (h2 : ¬ x = "done") (h3 : ¬ x = "undone") (h : tE X.K (Dq X.K) X.mg E (mMethW i n g m) σ H Q) :
    tMeth (dkC X.K) x (spW X.K X.mg n g) [] E (fun σ H Q => ∃ v, σ[i]? = some (some v) ∧ Q v H) (tX X.K (RAl X.K) X.mg E m) σ H Q := by
  obtain ⟨G0, H0, G, Γ, W, qs, s, po⟩ := h
  unfold mMethW at po
  cases ei : gat Γ i with
  | no => rw [ei] at po; exact po.elim
  | v d => rw [ei] at po; exact po.elim
  | own d => rw [ei] at po; exact po.elim
  | ad a =>
    rw [ei] at po
    dsimp only at po
    cases el : W.lookup a with
    | none => rw [el] at po; exact po.elim
    | some D0 =>
      rw [el] at po
      dsimp only at po
      obtain ⟨tp, e1, _⟩ := (s.ds.dk _ (lookup_mem el)).ins
      refine ⟨.ref a, s.sz.sr.adr i a ei, a, _, _, rfl, e1, fsD_no h1 h2 h3, ?_⟩
      refine tE_up ⟨G0, H0, G, Γ, W, qs, s, PoE.bind po fun ds xs G1 H1 W1 q1 l1 s1 dx po1 => ?_⟩
      rw [List.append_nil]
      split at po1
      · rename_i hn
        exact ⟨G1, .a a :: ds, W1, q1, s1.sz.sr.sub, .a dx, by simp [hn], s1.ds, poC_of s1 po1⟩
      · exact po1.elim
theorem we_meth (i : Nat) {pl : Sem Bool} {x y : Str} {p apos : Pos} {k n : Nat} {g : GW} {m : Gam → R (List DA)} (D : MnW X.prog X.w X.K X.mg X.base k x n g) (hc : Cls X.K (dkC X.K)) (hr : Room k X.A) (hx : Passes (L2.CX X.prog X.w) X E) (ha : SDA X E (e :: es) m)
    (h1 : ¬ x = "present" := by decide +kernel) (h2 : ¬ x = "done" := by decide +kernel) (h3 : ¬ x = "undone" := by decide +kernel)
    (hN : X.N[i]? = some y := by rfl) (hv : Vis X.env.scope y := by first | exact Or.inl rfl | exact Or.inr (Or.inl rfl) | exact Or.inr (Or.inr rfl)) (hd : (y == ("__debug__" : Str)) = false := by decide) (hcd : (y == ("__classdict__" : Str)) = false := by decide)
    (hst : starEach (e :: es) X.env = (false, eval e X.env) :: starEach es X.env := by rfl) (hpl : (backTo pos (starEach es X.env)).any (·.1) = false := by rfl)
    (ht : eval (.Call (.Attribute (.Name y p) x apos) (e :: es) [] pos) X.env = (do
      let ov ← eval (.Name y p) X.env
      standAt apos.atName
      let (f, first) ← holding [ov] (getMethod ov x pl)
      callWith pos f first (backTo pos (starEach (e :: es) X.env)) (backToKw pos (keywordEach [] X.env))) := by rfl) :
    WE X E (.Call (.Attribute (.Name y p) x apos) (e :: es) [] pos) (mMethW i n g m) := by
  obtain ⟨f, fd, ps, hm, hl, F, hb⟩ := D.ex
  exact pe_of (pe_meth (pl := pl) (pe_var (i := i) hN hv hd hcd) hc hm F hr hb .nil hx ha hst hpl ht) fun σ H Q h => tMethW h1 h2 h3 h
theorem we_meth0 (i : Nat) {pl : Sem Bool} {x y : Str} {p apos : Pos} {k n : Nat} {g : GW} (D : MnW X.prog X.w X.K X.mg X.base k x n g) (hc : Cls X.K (dkC X.K)) (hr : Room k X.A) (hx : Passes (L2.CX X.prog X.w) X E)
    (h1 : ¬ x = "present" := by decide +kernel) (h2 : ¬ x = "done" := by decide +kernel) (h3 : ¬ x = "undone" := by decide +kernel)
    (hN : X.N[i]? = some y := by rfl) (hv : Vis X.env.scope y := by first | exact Or.inl rfl | exact Or.inr (Or.inl rfl) | exact Or.inr (Or.inr rfl)) (hd : (y == ("__debug__" : Str)) = false := by decide) (hcd : (y == ("__classdict__" : Str)) = false := by decide)
    (ht : eval (.Call (.Attribute (.Name y p) x apos) [] [] pos) X.env = (do
      let ov ← eval (.Name y p) X.env
      standAt apos.atName
      let (f, first) ← holding [ov] (getMethod ov x pl)
      callWith pos f first (backTo pos (starEach [] X.env)) (backToKw pos (keywordEach [] X.env))) := by rfl) :
    WE X E (.Call (.Attribute (.Name y p) x apos) [] [] pos) (mMethW i n g mNilA) := by
  obtain ⟨f, fd, ps, hm, hl, F, hb⟩ := D.ex
  exact pe_of (pe_meth0 (pl := pl) (pe_var (i := i) hN hv hd hcd) hc hm F hr hb .nil hx ht) fun σ H Q h => by
    obtain ⟨v, e1, a, dx, fs, e2, e3, e4, q⟩ := tMethW (m := mNilA) h1 h2 h3 h
    refine ⟨v, e1, a, dx, fs, e2, e3, e4, ?_⟩
    obtain ⟨B0, Γ, G, sr, po⟩ := q
    exact Po.ok (d := ([] : List DA)) po sr.sub .nil
end
end PD

/-! The data layer: statements with desks. -/
namespace PD
open PySem PySem.Spec PyProof.Rows L2
/-! ### one desk is changed -/
def setD (W : Wd) (a : Addr) (D : ObD) : Wd := W.map fun p => if p.1 = a then (a, D) else p
def setQ (qs : Addr → Q3) (a : Addr) (q : Q3) : Addr → Q3 := fun x => if x = a then q else qs x
@[simp] theorem setD_nil (a : Addr) (D : ObD) : setD [] a D = [] := rfl
@[simp] theorem setD_cons (p : Addr × ObD) (W : Wd) (a : Addr) (D : ObD) : setD (p :: W) a D = (if p.1 = a then (a, D) else p) :: setD W a D := rfl
section
variable {K : PySem.W.Frag} {G0 H0 G H G' H' : Hp} {W W' : Wd} {qs qs' : Addr → Q3} {σ σ' : L2.St} {Γ Γ' : Gam} {b a : Addr} {D D' : ObD} {q' : Q3}
theorem SWd.chg2 (s : SWd K G0 H0 G H σ Γ W qs) (ha : (a, D) ∈ W) (k : Dk K G H' a D' q') (hc : ∀ b, Cell a q' b → Cell a (qs a) b ∨ (H0 b = none ∧ (∀ p ∈ W, ¬ Cell p.1 (qs p.1) b) ∧ ∀ i es q, gat Γ i = .own es → σ[i]? = some (some (.ref q)) → q ≠ b)) (hk : ∀ b, ¬ Cell a (qs a) b → H b ≠ none → H' b = H b) : SWd K G0 H0 G H' σ Γ (setD W a D') (setQ qs a q') := by
  have mem : ∀ {p}, p ∈ setD W a D' → ∃ p0 ∈ W, (p0.1 = a ∧ p = (a, D')) ∨ (p0.1 ≠ a ∧ p = p0) := fun {p} h => by
    obtain ⟨p0, h0, e⟩ := List.mem_map.mp h
    by_cases z : p0.1 = a
    · exact ⟨p0, h0, .inl ⟨z, by rw [← e, if_pos z]⟩⟩
    · exact ⟨p0, h0, .inr ⟨z, by rw [← e, if_neg z]⟩⟩
  have qa : setQ qs a q' a = q' := if_pos rfl
  have qn : ∀ {x}, x ≠ a → setQ qs a q' x = qs x := fun h => if_neg h
  have inc : ∀ {b}, InC (setD W a D') (setQ qs a q') b → InC W qs b ∨ (H0 b = none ∧ (∀ p ∈ W, ¬ Cell p.1 (qs p.1) b) ∧ ∀ i es q, gat Γ i = .own es → σ[i]? = some (some (.ref q)) → q ≠ b) := fun {b} ⟨p, hp, hcl⟩ => by
    obtain ⟨p0, h0, ⟨z, e⟩ | ⟨z, e⟩⟩ := mem hp
    · subst e
      rw [qa] at hcl
      rcases hc b hcl with h | h
      · exact .inl ⟨_, ha, h⟩
      · exact .inr h
    · subst e
      rw [qn z] at hcl
      exact .inl ⟨_, h0, hcl⟩
  have old : ∀ b, ¬ InC W qs b → H b ≠ none → H' b = H b := fun b h1 h2 => hk b (fun h => h1 ⟨_, ha, h⟩) h2
  have dis : ∀ p0 ∈ W, p0.1 ≠ a → ∀ b, Cell p0.1 (qs p0.1) b → ¬ Cell a (qs a) b := fun p0 h0 z b h1 => s.ds.dj p0 h0 (a, D) ha z b h1
  refine ⟨⟨⟨fun b u e => ?_, s.sz.sr.len, s.sz.sr.val, fun i es h => ?_, s.sz.sr.inj, s.sz.sr.nw, s.sz.sr.adr⟩, ⟨s.sz.gr.g, fun b u e => ?_, fun b u e => ?_, s.sz.gr.fr⟩⟩, ⟨fun p hp => ?_, fun p hp p2 hp2 ne b h1 h2 => ?_⟩, fun b h => ?_, fun i es p h1 h2 h => ?_⟩
  · rw [old b (fun h => by rw [s.ds.off h] at e; cases e) (by rw [s.sz.sr.sub b u e]; simp)]
    exact s.sz.sr.sub b u e
  · obtain ⟨p, xs, e1, e2, e3, e4⟩ := s.sz.sr.own i es h
    exact ⟨p, xs, e1, by rw [old p (s.far i es p h e1) (by rw [e2]; simp)]; exact e2, e3, e4⟩
  · have e2 := s.sz.gr.h b u e
    rw [old b (fun h => by rw [s.base b h] at e; cases e) (by rw [e2]; simp)]
    exact e2
  · rw [old b (fun h => by rw [s.ds.off h] at e; cases e) (by rw [s.sz.sr.sub b u e]; simp)]
    exact s.sz.sr.sub b u e
  · obtain ⟨p0, h0, ⟨z, e⟩ | ⟨z, e⟩⟩ := mem hp
    · subst e
      show Dk K G H' a D' (setQ qs a q' a)
      rw [qa]; exact k
    · subst e
      rw [qn z]
      exact (s.ds.dk _ h0).stay (fun _ _ e => e) (fun b hb => hk b (dis _ h0 z b hb) ((s.ds.dk _ h0).on hb)) (s.ds.dk _ h0).off
  · obtain ⟨p0, h0, ⟨z, e⟩ | ⟨z, e⟩⟩ := mem hp
    · obtain ⟨p3, h3, ⟨z3, e3⟩ | ⟨z3, e3⟩⟩ := mem hp2
      · exact ne (by rw [e, e3])
      · subst e e3
        rw [qa] at h1
        rw [qn z3] at h2
        rcases hc b h1 with h | h
        · exact dis _ h3 z3 b h2 h
        · exact h.2.1 _ h3 h2
    · obtain ⟨p3, h3, ⟨z3, e3⟩ | ⟨z3, e3⟩⟩ := mem hp2
      · subst e e3
        rw [qa] at h2
        rw [qn z] at h1
        rcases hc b h2 with h | h
        · exact dis _ h0 z b h1 h
        · exact h.2.1 _ h0 h1
      · subst e e3
        rw [qn z] at h1
        rw [qn z3] at h2
        exact s.ds.dj _ h0 _ h3 ne b h1 h2
  · rcases inc h with h | h
    · exact s.base b h
    · exact h.1
  · rcases inc h with h | h
    · exact s.far i es p h1 h2 h
    · exact h.2.2 i es p h1 h2 rfl
theorem SWd.chg (s : SWd K G0 H0 G H σ Γ W qs) (ha : (a, D) ∈ W) (k : Dk K G H' a D' q') (hc : ∀ b, Cell a q' b → Cell a (qs a) b ∨ H b = none) (hk : ∀ b, ¬ Cell a (qs a) b → H b ≠ none → H' b = H b) : SWd K G0 H0 G H' σ Γ (setD W a D') (setQ qs a q') :=
  s.chg2 ha k (fun b hb => (hc b hb).imp id fun h => ⟨le_none s.sz.gr.h h, fun p hp hcl => (s.ds.dk p hp).on hcl h, fun i es q h1 h2 z => by
    obtain ⟨p', xs, e1, e2, _⟩ := s.sz.sr.own i es h1
    rw [h2] at e1; cases e1
    rw [z, h] at e2; cases e2⟩) hk
theorem SWd.setV (s : SWd K G0 H0 G H σ Γ W qs) {i : Nat} {x : V} {d : PyData} (h : Dq K G x d) : SWd K G0 H0 G H (σ.set i (some x)) (Γ.set i (.v d)) W qs := s.up (s.low.setV h)
/-- slots that hold less -/
theorem SWd.low2 (s : SWd K G0 H0 G H σ Γ W qs) : SR K (lay G0 H0 G H W qs) G H σ Γ := s.low.sr
end
/-! ### blocks -/
def OutW.thn : OutW → MW → OutW
  | .nx Γ W, k => k Γ W
  | .al W f, k => .al W fun a => (f a).thn k
  | .bk Γ W, _ => .bk Γ W
  | .ct Γ W, _ => .ct Γ W
  | .rt d W, _ => .rt d W
  | .ex c W, _ => .ex c W
  | .no, _ => .no
def RW.out {α : Type} : RW α → (α → Wd → OutW) → OutW
  | .ok d W, k => k d W
  | .ex c W, _ => .ex c W
  | .al W f, k => .al W fun a => (f a).out k
  | .no, _ => .no
def mSeqW (a b : MW) : MW := fun Γ W => (a Γ W).thn b
def mSkipW : MW := fun Γ W => .nx Γ W
def mEvE (m : MWE) (Γ : Gam) (W : Wd) (k : PyData → Wd → OutW) : OutW := (m Γ W).out k
def mEvEB (m : Gam → Wd → RW Bool) (Γ : Gam) (W : Wd) (k : Bool → Wd → OutW) : OutW := (m Γ W).out k
section
variable {K : PySem.W.Frag} {mg : Str → Option Value} {E : XK} {G0 H0 G H : Hp} {D : Ends} {σ : L2.St} {Γ : Gam} {W : Wd} {qs : Addr → Q3}
theorem ev_coreW {m : MWE} {k : PyData → Wd → OutW} (s : SWd K G0 H0 G H σ Γ W qs) (po : PoW K mg E G0 H0 D (mEvE m Γ W k)) {Q : VK}
    (q : ∀ x H' d W1 G' qs1, SWd K G0 H0 G' H' σ Γ W1 qs1 → Dq K G' x d → PoW K mg E G0 H0 D (k d W1) → Q x H') : tE K (Dq K) mg E m σ H Q := by
  refine ⟨G0, H0, G, Γ, W, qs, s, ?_⟩
  unfold mEvE at po
  generalize m Γ W = r at po
  induction r with
  | no => exact po
  | ex c W1 => exact po
  | al W f ih => exact fun a ha => ih a (po a ha)
  | ok d W1 => exact fun x G' H' qs1 l s1 dx => q x H' d W1 G' qs1 s1 dx po
theorem ev_coreWB {m : Gam → Wd → RW Bool} {k : Bool → Wd → OutW} (s : SWd K G0 H0 G H σ Γ W qs) (po : PoW K mg E G0 H0 D (mEvEB m Γ W k)) {Q : Bool → Hp → Prop}
    (q : ∀ c H' W1 G' qs1, SWd K G0 H0 G' H' σ Γ W1 qs1 → PoW K mg E G0 H0 D (k c W1) → Q c H') : tE K RB mg E m σ H Q := by
  refine ⟨G0, H0, G, Γ, W, qs, s, ?_⟩
  unfold mEvEB at po
  generalize m Γ W = r at po
  induction r with
  | no => exact po
  | ex c W1 => exact po
  | al W f ih => exact fun a ha => ih a (po a ha)
  | ok d W1 =>
    intro x G' H' qs1 l s1 dx
    have dx : x = d := dx
    subst dx
    exact q x H' W1 G' qs1 s1 po
end
section
variable {X : Cx} {E : XK} {st : Stmt} {rest body : List Stmt} {e c : Expr} {m : MWE} {pos : Pos} {ma mb : MW}
theorem wb_nil : WB X E [] mSkipW := pss_of pss_nil fun D σ H ⟨G0, H0, G, Γ, W, qs, s, po⟩ => po σ G H qs s
theorem wb_one {a : MW} (h : WS X E st a) : WB X E [st] a := pss_one h
theorem wb_cons {a b : MW} (h1 : WS X E st a) (h2 : WB X E rest b) : WB X E (st :: rest) (mSeqW a b) := pss_of (pss_cons h1 h2) fun D σ H ⟨G0, H0, G, Γ, W, qs, s, po⟩ => ⟨G0, H0, G, Γ, W, qs, s, by
  unfold mSeqW at po
  generalize a Γ W = o at po
  induction o with
  | nx Γ1 W1 => exact fun σ' G' H' qs' s' => ⟨G0, H0, G', Γ1, W1, qs', s', po⟩
  | al W1 f ih => exact fun c hc => ih c (po c hc)
  | bk Γ1 W1 => exact po
  | ct Γ1 W1 => exact po
  | rt d W1 => exact po
  | ex c W1 => exact po
  | no => exact po⟩
def mDoW (m : MWE) : MW := fun Γ W => mEvE m Γ W fun _ W1 => .nx Γ W1
theorem ws_expr (he : WE X E e m) (hs : swapsWith e none pos.line X.env = pure false := by rfl) : WS X E (.Expr e pos) (mDoW m) :=
  ps_of (ps_expr he hs) fun D σ H ⟨G0, H0, G, Γ, W, qs, s, po⟩ => ev_coreW s po fun x H' d W1 G' qs1 s1 dx po1 => po1 σ G' H' qs1 s1
def mRetW (m : MWE) : MW := fun Γ W => mEvE m Γ W .rt
theorem ws_ret (he : WE X E e m) : WS X E (.Return (some e) pos) (mRetW m) :=
  ps_of (ps_ret he) fun D σ H ⟨G0, H0, G, Γ, W, qs, s, po⟩ => ev_coreW s po fun x H' d W1 G' qs1 s1 dx po1 => po1 x G' H' qs1 s1.sz.gr dx s1.ds s1.base
def mSetW (i : Nat) (m : MWE) : MW := fun Γ W => mEvE m Γ W fun d W1 => .nx (Γ.set i (.v d)) W1
theorem ws_set (i : Nat) {x : Str} {p : Pos} (he : WE X E e m) (hN : X.N.Nodup) (hi : X.N[i]? = some x := by rfl) (hx : Loc X.env.scope x := by first | exact .inl rfl | exact .inr rfl) (hs : swapsWith e (some (.Name x p)) pos.line X.env = pure false := by rfl)
    (hf : X.fn x = true ∨ X.env.scope.names.lookup x = some .local := by first | exact .inl rfl | exact .inr rfl | assumption) : WS X E (.Assign [.Name x p] e pos) (mSetW i m) :=
  ps_of (ps_set hN hi hx he hs hf) fun D σ H ⟨G0, H0, G, Γ, W, qs, s, po⟩ => ev_coreW s po fun x H' d W1 G' qs1 s1 dx po1 => po1 _ G' H' qs1 (s1.setV dx)
def mAsgW (b : Bd) (m : MWE) : MW := fun Γ W => mEvE m Γ W fun d W1 => match b d Γ with
  | some Γ2 => .nx Γ2 W1
  | none => .no
theorem ws_asg {tg : Expr} {is : List Nat} {b : Bd} (he : WE X E e m) (hg : SG X tg is b) (hs : swapsWithSole [tg] e pos.line X.env = pure false := by rfl) (hw : swappedStores [tg] e X.env = pure none := by rfl)
    (h1 : (assignEach [tg] X.env).map (·.2) = [assign tg X.env] := by rfl) : WS X E (.Assign [tg] e pos) (mAsgW b m) :=
  ps_of (ps_asg he hg hs hw h1) fun D σ H ⟨G0, H0, G, Γ, W, qs, s, po⟩ => ev_coreW s po fun x H' d W1 G' qs1 s1 dx po1 => by
    refine ⟨_, Γ, G', d, s1.low.sr, dx, ?_⟩
    cases e : b d Γ with
    | none => rw [e] at po1; exact po1.elim
    | some Γ2 => rw [e] at po1; exact fun σ' sr' _ => po1 σ' G' H' qs1 (s1.up ⟨sr', s1.low.gr⟩)
def mIfSW (t : Gam → Wd → RW Bool) (a b : MW) : MW := fun Γ W => mEvEB t Γ W fun c W1 => if c = true then a Γ W1 else b Γ W1
theorem ws_if {a b : List Stmt} {t : Gam → Wd → RW Bool} (hc : WT X E c t) (ha : WB X E a ma) (hb : WB X E b mb) : WS X E (.If c a b pos) (mIfSW t ma mb) :=
  ps_of (ps_if hc ha hb) fun D σ H ⟨G0, H0, G, Γ, W, qs, s, po⟩ => ev_coreWB s po fun c H' W1 G' qs1 s1 po1 => by
    cases c with
    | true => exact ⟨G0, H0, G', Γ, W1, qs1, s1, po1⟩
    | false => exact ⟨G0, H0, G', Γ, W1, qs1, s1, po1⟩
/-! for, while -/
def forGoW (b : Bd) (body : MW) : List PyData → MW
  | [], Γ, W => .nx Γ W
  | d :: ds, Γ, W => match b d Γ with
    | none => .no
    | some Γ1 => match body Γ1 W with
      | .nx Γ2 W2 => forGoW b body ds Γ2 W2
      | .ct Γ2 W2 => forGoW b body ds Γ2 W2
      | .bk Γ2 W2 => .nx Γ2 W2
      | .al _ _ => .no
      | o => o
def mForW (ms : Gam → R (List PyData)) (b : Bd) (body : MW) : MW := fun Γ W => match ms Γ with
  | .ok ds => forGoW b body ds Γ W
  | .ex c => .ex c W
  | .no => .no
theorem ws_for {tg iter : Expr} {is : List Nat} {ms : Gam → R (List PyData)} {b : Bd} (hp : PassesOwn (model X.prog X.w) X.A X.env X.xe) (hc : X.calm = true) (hi : SI X E tg iter ms) (hg : SG X tg is b) (hb : WB X E body mb)
    (hs : ∀ x, foldedSetIterable iter X.env x = pure x := by intro _; rfl) : WS X E (.For tg iter body [] pos) (mForW ms b mb) :=
  ps_of (ps_for hp hc hi hg hb hs) fun D σ H ⟨G0, H0, G, Γ, W, qs, s, po⟩ => by
    unfold mForW at po
    refine ⟨H0, Γ, G, s.sz.sr, ?_⟩
    cases q : ms Γ with
    | no => rw [q] at po; exact po.elim
    | ex c => rw [q] at po; exact fun H' lh => let t := s.grow lh; po G H' qs t.sz.gr t.ds t.base
    | ok ds =>
      rw [q] at po
      intro J G2 H2 g2 it
      refine ⟨fun i m σ H => m = ds.length - i ∧ i ≤ ds.length ∧ ∃ G Γ W qs, SWd X.K G0 H0 G H σ Γ W qs ∧ Le G2 G ∧ PoW X.K X.mg E G0 H0 D (forGoW b mb (ds.drop i) Γ W), ⟨ds.length, by simp, Nat.zero_le _, G2, Γ, W, qs, s.go g2, fun _ _ z => z, by simpa using po⟩, ?_⟩
      rintro i m σ3 H3 ⟨rfl, hi, G3, Γ3, W3, qs3, s3, l3, po3⟩
      by_cases hlt : i < ds.length
      · obtain ⟨d, hd⟩ : ∃ d, ds[i]? = some d := ⟨ds[i], by simp [hlt]⟩
        have hdrop : ds.drop i = d :: ds.drop (i + 1) := by
          rw [List.drop_eq_getElem_cons hlt]
          have : ds[i] = d := by simpa [hlt] using hd
          rw [this]
        rw [hdrop] at po3
        unfold forGoW at po3
        refine .inr ⟨it.go i G3 H3 l3 s3.sz.sr.sub hlt, fun σ H => ∃ G Γ W qs, SWd X.K G0 H0 G H σ Γ W qs ∧ Le G2 G ∧ PoW X.K X.mg E G0 H0 D (forGoW b mb (ds.drop (i + 1)) Γ W), fun σ' H' w => ⟨ds.length - (i + 1), by omega, rfl, hlt, w⟩, fun x H' hy => ?_⟩
        obtain ⟨G4, g4, dx⟩ := it.yld i G3 H3 x H' d l3 s3.sz.sr.sub hd hy
        have s4 := s3.go g4
        refine ⟨_, Γ3, G4, d, s4.low.sr, dx, ?_⟩
        cases eb : b d Γ3 with
        | none => rw [eb] at po3; exact po3.elim
        | some Γ5 =>
          rw [eb] at po3
          dsimp only at po3
          have gb := (s.go g2).sz.gr
          have up : ∀ {G H : Hp}, Gr G2 H0 G H → Gr G0 H0 G H := fun {G H} g => ⟨le_trans gb.g g.g, g.h, g.s, fun a h1 h2 => g.fr a h1 (gb.fr a h1 h2)⟩
          intro σ' sr' _
          have s5 := s4.up ⟨sr', s4.low.gr⟩
          have s6 : SWd X.K G2 H0 G4 H' σ' Γ5 W3 qs3 := ⟨⟨s5.sz.sr, le_trans l3 g4.g, s5.sz.gr.h, s5.sz.gr.s, fun a h1 h2 => s5.sz.gr.fr a h1 (le_none gb.g h2)⟩, s5.ds, s5.base, s5.far⟩
          refine ⟨G2, H0, G4, Γ5, W3, qs3, s6, ?_⟩
          cases q2 : mb Γ5 W3 with
          | nx Γ6 W6 => rw [q2] at po3; exact fun σ' G' H' qs' s' => ⟨G', Γ6, W6, qs', ⟨⟨s'.sz.sr, up s'.sz.gr⟩, s'.ds, s'.base, s'.far⟩, s'.sz.gr.g, po3⟩
          | ct Γ6 W6 => rw [q2] at po3; exact fun σ' G' H' qs' s' => ⟨G', Γ6, W6, qs', ⟨⟨s'.sz.sr, up s'.sz.gr⟩, s'.ds, s'.base, s'.far⟩, s'.sz.gr.g, po3⟩
          | bk Γ6 W6 => rw [q2] at po3; exact fun σ' G' H' qs' s' => po3 σ' G' H' qs' ⟨⟨s'.sz.sr, up s'.sz.gr⟩, s'.ds, s'.base, s'.far⟩
          | rt d W6 => rw [q2] at po3; exact fun x G' H' qs' g dx ds bs => po3 x G' H' qs' (up g) dx ds bs
          | ex c W6 => rw [q2] at po3; exact fun G' H' qs' g ds bs => po3 G' H' qs' (up g) ds bs
          | al W6 f => rw [q2] at po3; exact po3.elim
          | no => rw [q2] at po3; exact po3
      · have ei : i = ds.length := by omega
        subst ei
        rw [List.drop_length] at po3
        exact .inl ⟨it.stop G3 H3 l3 s3.sz.sr.sub, po3 σ3 G3 H3 qs3 s3⟩
def mWhW (t : Gam → Wd → RW Bool) (b : MW) : Nat → MW
  | 0, _, _ => .no
  | n + 1, Γ, W => mEvEB t Γ W fun c W1 => if c = true then (match b Γ W1 with
    | .nx Γ1 W2 => mWhW t b n Γ1 W2
    | .ct Γ1 W2 => mWhW t b n Γ1 W2
    | .bk Γ1 W2 => .nx Γ1 W2
    | .al _ _ => .no
    | o => o) else .nx Γ W1
theorem ws_while (n : Nat) {t : Gam → Wd → RW Bool} (hp : PassesOwn (model X.prog X.w) X.A X.env X.xe) (hc : WT X E c t) (hb : WB X E body mb) : WS X E (.While c body [] pos) (mWhW t mb n) :=
  ps_of (ps_while hp hc hb) fun D σ H ⟨G0, H0, G, Γ, W, qs, s, po⟩ => by
    refine ⟨fun k σ H => ∃ G Γ W qs, SWd X.K G0 H0 G H σ Γ W qs ∧ PoW X.K X.mg E G0 H0 D (mWhW t mb k Γ W), ⟨n, G, Γ, W, qs, s, po⟩, ?_⟩
    rintro k σ1 H1 ⟨G1, Γ1, W1, qs1, s1, po1⟩
    cases k with
    | zero => exact po1.elim
    | succ k =>
      refine ev_coreWB s1 po1 fun c H' W2 G2 qs2 s2 po2 => ?_
      cases c with
      | false => exact po2 σ1 G2 H' qs2 s2
      | true =>
        refine ⟨fun σ H => ∃ G Γ W qs, SWd X.K G0 H0 G H σ Γ W qs ∧ PoW X.K X.mg E G0 H0 D (mWhW t mb k Γ W), fun σ' H' w => ⟨k, Nat.lt_succ_self k, w⟩, G0, H0, G2, Γ1, W2, qs2, s2, ?_⟩
        rw [if_pos rfl] at po2
        cases q : mb Γ1 W2 with
        | nx Γ2 W3 => rw [q] at po2; exact fun σ' G' H' qs' s' => ⟨G', Γ2, W3, qs', s', po2⟩
        | ct Γ2 W3 => rw [q] at po2; exact fun σ' G' H' qs' s' => ⟨G', Γ2, W3, qs', s', po2⟩
        | bk Γ2 W3 => rw [q] at po2; exact po2
        | rt d W3 => rw [q] at po2; exact po2
        | ex c W3 => rw [q] at po2; exact po2
        | al W6 f => rw [q] at po2; exact po2.elim
        | no => rw [q] at po2; exact po2
end
/-! ### fields -/
theorem ne_pd : ¬ (PySem.Str.ofString "present" = PySem.Str.ofString "done") := by decide +kernel
theorem ne_pu : ¬ (PySem.Str.ofString "present" = PySem.Str.ofString "undone") := by decide +kernel
theorem ne_du : ¬ (PySem.Str.ofString "done" = PySem.Str.ofString "undone") := by decide +kernel
theorem put_p {tp y : V} {l1 l2 : Addr} : putF (PySem.Str.ofString "present") y (fsD tp l1 l2) = fsD y l1 l2 := by
  unfold fsD putF
  rw [if_pos rfl]
theorem put_u {tp : V} {l1 l2 l : Addr} : putF (PySem.Str.ofString "undone") (.ref l) (fsD tp l1 l2) = fsD tp l1 l := by
  unfold fsD putF
  rw [if_neg ne_pu]
  unfold putF
  rw [if_neg ne_du]
  unfold putF
  rw [if_pos rfl]
theorem put_d {tp : V} {l1 l2 l : Addr} : putF (PySem.Str.ofString "done") (.ref l) (fsD tp l1 l2) = fsD tp l l2 := by
  unfold fsD putF
  rw [if_neg ne_pd]
  unfold putF
  rw [if_pos rfl]
theorem get_p {tp : V} {l1 l2 : Addr} : (fsD tp l1 l2).lookup (PySem.Str.ofString "present") = some tp := by
  unfold fsD
  rw [List.lookup_cons, beq_self_eq_true]
theorem get_d {tp : V} {l1 l2 : Addr} : (fsD tp l1 l2).lookup (PySem.Str.ofString "done") = some (.ref l1) := by
  unfold fsD
  rw [List.lookup_cons, beq_eq_false_iff_ne.mpr (Ne.symm ne_pd), List.lookup_cons, beq_self_eq_true]
theorem get_u {tp : V} {l1 l2 : Addr} : (fsD tp l1 l2).lookup (PySem.Str.ofString "undone") = some (.ref l2) := by
  unfold fsD
  rw [List.lookup_cons, beq_eq_false_iff_ne.mpr (Ne.symm ne_pu), List.lookup_cons, beq_eq_false_iff_ne.mpr (Ne.symm ne_du), List.lookup_cons, beq_self_eq_true]
section
variable {K : PySem.W.Frag} {G H : Hp} {a : Addr} {D : ObD} {q : Q3}
/-- present is set -/
theorem Dk.setP (k : Dk K G H a D q) {tp y : V} {d : PyData} (hp : H a = some (.ins (dkC K) q.1 (fsD tp q.2.1 q.2.2))) (dy : Dq K G y d) : Dk K G (upd H a (.ins (dkC K) q.1 (fsD y q.2.1 q.2.2))) a { D with p := d } q := by
  obtain ⟨xs, e1, d1⟩ := k.l1
  obtain ⟨ys, e2, d2⟩ := k.l2
  have n0 : q.1 ≠ a := fun z => by have := k.own; rw [z, hp] at this; cases this
  have n1 : q.2.1 ≠ a := fun z => by rw [z, hp] at e1; cases e1
  have n2 : q.2.2 ≠ a := fun z => by rw [z, hp] at e2; cases e2
  exact ⟨k.cl, ⟨y, upd_same, dy⟩, by rw [upd_ne n0]; exact k.own, ⟨xs, by rw [upd_ne n1]; exact e1, d1⟩, ⟨ys, by rw [upd_ne n2]; exact e2, d2⟩, k.ne, k.off⟩
/-- a list gets other items -/
theorem Dk.setL1 (k : Dk K G H a D q) {xs : List V} {ds : List PyData} (dx : DqAll K G xs ds) : Dk K G (upd H q.2.1 (.lst xs)) a { D with dn := ds } q := by
  obtain ⟨tp, e, dp⟩ := k.ins
  obtain ⟨xs0, e1, d1⟩ := k.l1
  obtain ⟨ys, e2, d2⟩ := k.l2
  have n0 : a ≠ q.2.1 := fun z => by rw [z, e1] at e; cases e
  have n1 : q.1 ≠ q.2.1 := fun z => by have := k.own; rw [z, e1] at this; cases this
  exact ⟨k.cl, ⟨tp, by rw [upd_ne n0]; exact e, dp⟩, by rw [upd_ne n1]; exact k.own, ⟨xs, upd_same, dx⟩, ⟨ys, by rw [upd_ne (Ne.symm k.ne)]; exact e2, d2⟩, k.ne, k.off⟩
theorem Dk.setL2 (k : Dk K G H a D q) {xs : List V} {ds : List PyData} (dx : DqAll K G xs ds) : Dk K G (upd H q.2.2 (.lst xs)) a { D with un := ds } q := by
  obtain ⟨tp, e, dp⟩ := k.ins
  obtain ⟨ys, e2, d2⟩ := k.l1
  obtain ⟨xs0, e1, d1⟩ := k.l2
  have n0 : a ≠ q.2.2 := fun z => by rw [z, e1] at e; cases e
  have n1 : q.1 ≠ q.2.2 := fun z => by have := k.own; rw [z, e1] at this; cases this
  exact ⟨k.cl, ⟨tp, by rw [upd_ne n0]; exact e, dp⟩, by rw [upd_ne n1]; exact k.own, ⟨ys, by rw [upd_ne k.ne]; exact e2, d2⟩, ⟨xs, upd_same, dx⟩, k.ne, k.off⟩
end
section
variable {X : Cx} {E : XK} {e : Expr} {y : Str} {p p2 p3 p4 p5 p6 pos : Pos}
/-- self.present = e -/
def mFsP (i : Nat) (m : M) : MW := fun Γ W => match gat Γ i with
  | .ad a => match W.lookup a with
    | some D => match m Γ with
      | .ok d => .nx Γ (setD W a { D with p := d })
      | .ex c => .ex c W
      | .no => .no
    | none => .no
  | _ => .no
/-- what stands at a desk's name -/
theorem SWd.at_ {K : PySem.W.Frag} {G0 H0 G H : Hp} {σ : L2.St} {Γ : Gam} {W : Wd} {qs : Addr → Q3} (s : SWd K G0 H0 G H σ Γ W qs) {i : Nat} {a : Addr} {D : ObD} (e1 : gat Γ i = .ad a) (e2 : W.lookup a = some D) : σ[i]? = some (some (.ref a)) ∧ Dk K G H a D (qs a) ∧ (a, D) ∈ W :=
  ⟨s.sz.sr.adr i a e1, s.ds.dk _ (lookup_mem e2), lookup_mem e2⟩
theorem ws_fsP (i : Nat) {m : M} (he : SE X E e m) (hN : X.N[i]? = some y := by rfl) (hv : Vis X.env.scope y := by first | exact Or.inl rfl | exact Or.inr (Or.inl rfl) | exact Or.inr (Or.inr rfl)) (hd : (y == ("__debug__" : Str)) = false := by decide) (hcd : (y == ("__classdict__" : Str)) = false := by decide)
    (hs : swapsWith e (some (.Attribute (.Name y p) (PySem.Str.ofString "present") p2)) pos.line X.env = pure false := by rfl) : WS X E (.Assign [.Attribute (.Name y p) (PySem.Str.ofString "present") p2] e pos) (mFsP i m) :=
  ps_of (ps_fld (pe_var (i := i) hN hv hd hcd) he hs) fun D σ H ⟨G0, H0, G, Γ, W, qs, s, po⟩ => by
    unfold mFsP at po
    cases e1 : gat Γ i with
    | no => rw [e1] at po; exact po.elim
    | v d => rw [e1] at po; exact po.elim
    | own d => rw [e1] at po; exact po.elim
    | ad a =>
      rw [e1] at po
      dsimp only at po
      cases e2 : W.lookup a with
      | none => rw [e2] at po; exact po.elim
      | some D0 =>
        rw [e2] at po
        dsimp only at po
        refine ⟨H0, Γ, G, s.sz.sr, ?_⟩
        cases e3 : m Γ with
        | no => rw [e3] at po; exact po
        | ex c => rw [e3] at po; exact fun H' l => let t := s.grow l; po G H' qs t.sz.gr t.ds t.base
        | ok d =>
          rw [e3] at po
          intro x G1 H1 g dx
          have s1 := s.go g
          obtain ⟨f1, k, hm⟩ := s1.at_ e1 e2
          obtain ⟨tp, g1, _⟩ := k.ins
          refine ⟨.ref a, f1, a, _, _, _, rfl, g1, k.cl.cl, k.cl.n1, (by show 3 < 1000; decide), ?_⟩
          rw [put_p]
          exact po σ G1 _ (setQ qs a (qs a)) (s1.chg hm (k.setP g1 dx) (fun b h => .inl h) fun b h1 h2 => upd_ne fun z => h1 (.inl z))
/-- self.undone = a new list -/
def mFsU (i : Nat) (ml : Gam → R (List PyData)) : MW := fun Γ W => match gat Γ i with
  | .ad a => match W.lookup a with
    | some D => match ml Γ with
      | .ok ds => .nx Γ (setD W a { D with un := ds })
      | .ex c => .ex c W
      | .no => .no
    | none => .no
  | _ => .no
theorem ws_fsU (i : Nat) {ml : Gam → R (List PyData)} (he : SL X E e ml) (hN : X.N[i]? = some y := by rfl) (hv : Vis X.env.scope y := by first | exact Or.inl rfl | exact Or.inr (Or.inl rfl) | exact Or.inr (Or.inr rfl)) (hd : (y == ("__debug__" : Str)) = false := by decide) (hcd : (y == ("__classdict__" : Str)) = false := by decide)
    (hs : swapsWith e (some (.Attribute (.Name y p) (PySem.Str.ofString "undone") p2)) pos.line X.env = pure false := by rfl) : WS X E (.Assign [.Attribute (.Name y p) (PySem.Str.ofString "undone") p2] e pos) (mFsU i ml) :=
  ps_of (ps_fld (pe_var (i := i) hN hv hd hcd) he hs) fun D σ H ⟨G0, H0, G, Γ, W, qs, s, po⟩ => by
    unfold mFsU at po
    cases e1 : gat Γ i with
    | no => rw [e1] at po; exact po.elim
    | v d => rw [e1] at po; exact po.elim
    | own d => rw [e1] at po; exact po.elim
    | ad a =>
      rw [e1] at po
      dsimp only at po
      cases e2 : W.lookup a with
      | none => rw [e2] at po; exact po.elim
      | some D0 =>
        rw [e2] at po
        dsimp only at po
        refine ⟨H0, Γ, G, s.sz.sr, ?_⟩
        cases e3 : ml Γ with
        | no => rw [e3] at po; exact po
        | ex c => rw [e3] at po; exact fun H' l => let t := s.grow l; po G H' qs t.sz.gr t.ds t.base
        | ok ds =>
          rw [e3] at po
          intro l xs G1 H1 g hl hl1 hg dx
          obtain ⟨f1, k0, hm⟩ := s.at_ e1 e2
          have s1 := s.go g
          obtain ⟨_, k, _⟩ := s1.at_ e1 e2
          obtain ⟨tp, g1, dp⟩ := k.ins
          obtain ⟨ys, g2, dy⟩ := k.l1
          have fresh : ∀ b, Cell a (qs a) b → b ≠ l := fun b hb z => by subst z; exact k0.on hb hl
          have na : l ≠ a := (fresh a (.inl rfl)).symm
          refine ⟨.ref a, f1, a, _, _, _, rfl, g1, k.cl.cl, k.cl.n3, (by show 3 < 1000; decide), ?_⟩
          rw [put_u]
          have kk : Dk X.K G1 (upd H1 a (.ins (dkC X.K) (qs a).1 (fsD tp (qs a).2.1 l))) a { D0 with un := ds } ((qs a).1, (qs a).2.1, l) := by
            have n0 : (qs a).1 ≠ a := fun z => by have := k.own; rw [z, g1] at this; cases this
            have n1 : (qs a).2.1 ≠ a := fun z => by rw [z, g1] at g2; cases g2
            exact ⟨k.cl, ⟨tp, upd_same, dp⟩, by rw [upd_ne n0]; exact k.own, ⟨ys, by rw [upd_ne n1]; exact g2, dy⟩, ⟨xs, by rw [upd_ne na]; exact hl1, dx⟩, fresh _ (.inr (.inr (.inl rfl))), fun b hb => by
              rcases hb with z | z | z | z
              · exact k.off b (.inl z)
              · exact k.off b (.inr (.inl z))
              · exact k.off b (.inr (.inr (.inl z)))
              · subst z; exact hg⟩
          refine po σ G1 _ (setQ qs a ((qs a).1, (qs a).2.1, l)) ?_
          exact s1.chg2 hm kk (fun b hb => by
              rcases hb with z | z | z | z
              · exact .inl (.inl z)
              · exact .inl (.inr (.inl z))
              · exact .inl (.inr (.inr (.inl z)))
              · subst z; exact .inr ⟨le_none s.sz.gr.h hl, fun p hp h => (s.ds.dk p hp).on h hl, fun j es q h1 h2 z => by
                  obtain ⟨p', xs', w1, w2, _⟩ := s.sz.sr.own j es h1
                  rw [h2] at w1; cases w1
                  rw [z, hl] at w2; cases w2⟩) fun b h1 h2 => upd_ne fun z => h1 (.inl z)
/-- self.done.append(self.present) -/
def mFaD (i : Nat) : MW := fun Γ W => match gat Γ i with
  | .ad a => match W.lookup a with
    | some D => if D.dn.length < 100000 then .nx Γ (setD W a { D with dn := D.dn ++ [D.p] }) else .no
    | none => .no
  | _ => .no
theorem ws_faD (i : Nat) (hN : X.N[i]? = some y := by rfl) (hv : Vis X.env.scope y := by first | exact Or.inl rfl | exact Or.inr (Or.inl rfl) | exact Or.inr (Or.inr rfl)) (hd : (y == ("__debug__" : Str)) = false := by decide) (hcd : (y == ("__classdict__" : Str)) = false := by decide)
    (hbase : attributeBase (.Attribute (.Name y p) (PySem.Str.ofString "done") p2) "append" X.env (eval (.Attribute (.Name y p) (PySem.Str.ofString "done") p2) X.env) = eval (.Attribute (.Name y p) (PySem.Str.ofString "done") p2) X.env := by rfl)
    (hb1 : attributeBase (.Name y p) (PySem.Str.ofString "done") X.env (eval (.Name y p) X.env) = eval (.Name y p) X.env := by rfl)
    (hb2 : attributeBase (.Name y p4) (PySem.Str.ofString "present") X.env (eval (.Name y p4) X.env) = eval (.Name y p4) X.env := by rfl)
    (hfew : ((backTo p6 (starEach [.Attribute (.Name y p4) (PySem.Str.ofString "present") p5] X.env)).all (fun x => !x.1) && (backToKw p6 (keywordEach [] X.env)).all (fun x => x.1.isSome)
      && decide ([Expr.Attribute (.Name y p4) (PySem.Str.ofString "present") p5].length + ([] : List Keyword).length + (if ([] : List Keyword).isEmpty then 0 else 1) < 30)) = true := by rfl)
    (hline : (p3.endLine == p6.line) = true := by rfl) (hst : starEach [.Attribute (.Name y p4) (PySem.Str.ofString "present") p5] X.env = (false, eval (.Attribute (.Name y p4) (PySem.Str.ofString "present") p5) X.env) :: starEach [] X.env := by rfl) (hplain : (backTo p6 (starEach [] X.env)).any (·.1) = false := by rfl)
    (hs : swapsWith (.Call (.Attribute (.Attribute (.Name y p) (PySem.Str.ofString "done") p2) "append" p3) [.Attribute (.Name y p4) (PySem.Str.ofString "present") p5] [] p6) none pos.line X.env = pure false := by rfl) :
    WS X E (.Expr (.Call (.Attribute (.Attribute (.Name y p) (PySem.Str.ofString "done") p2) "append" p3) [.Attribute (.Name y p4) (PySem.Str.ofString "present") p5] [] p6) pos) (mFaD i) :=
  ps_of (ps_expr (pe_bm PySem.F.plainAttrs_list PySem.F.slot_list_append PySem.F.type_list_append mt_append (pe_fld (pe_var (i := i) hN hv hd hcd) hb1) (pa_cons (pe_fld (pe_var (i := i) hN hv hd hcd) hb2) pa_nil hst) hbase hfew hline hst hplain) hs) fun D σ H ⟨G0, H0, G, Γ, W, qs, s, po⟩ => by
    unfold mFaD at po
    cases e1 : gat Γ i with
    | no => rw [e1] at po; exact po.elim
    | v d => rw [e1] at po; exact po.elim
    | own d => rw [e1] at po; exact po.elim
    | ad a =>
      rw [e1] at po
      dsimp only at po
      cases e2 : W.lookup a with
      | none => rw [e2] at po; exact po.elim
      | some D0 =>
        rw [e2] at po
        dsimp only at po
        split at po
        · rename_i hz
          obtain ⟨f1, k, hm⟩ := s.at_ e1 e2
          obtain ⟨tp, g1, dp⟩ := k.ins
          obtain ⟨xs, g2, dx⟩ := k.l1
          refine ⟨.ref a, f1, a, _, _, _, _, rfl, g1, k.cl.cl, k.cl.n2, get_d, .inl ⟨rfl, xs, .inl (.inl g2)⟩, .ref a, f1, a, _, _, _, _, rfl, g1, k.cl.cl, k.cl.n1, get_p, _, xs, tp, rfl, rfl, g2, Nat.lt_of_lt_of_le (by rw [dpa_len dx]; exact hz) (by decide : 100000 ≤ sizeLine), ?_⟩
          exact po σ G _ (setQ qs a (qs a)) (s.chg hm (k.setL1 (dpa_append dx (dpa_one dp))) (fun b h => .inl h) fun b h1 h2 => upd_ne fun z => h1 (by rw [z]; exact .inr (.inr (.inl rfl))))
        · exact po.elim
/-- self.present = self.done.pop() -/
def mFpD (i : Nat) : MW := fun Γ W => match gat Γ i with
  | .ad a => match W.lookup a with
    | some D => match D.dn.getLast? with
      | some d => .nx Γ (setD W a { D with p := d, dn := D.dn.dropLast })
      | none => .no
    | none => .no
  | _ => .no
theorem ws_fpD (i : Nat) (hN : X.N[i]? = some y := by rfl) (hv : Vis X.env.scope y := by first | exact Or.inl rfl | exact Or.inr (Or.inl rfl) | exact Or.inr (Or.inr rfl)) (hd : (y == ("__debug__" : Str)) = false := by decide) (hcd : (y == ("__classdict__" : Str)) = false := by decide)
    (hbase : attributeBase (.Attribute (.Name y p3) (PySem.Str.ofString "done") p4) "pop" X.env (eval (.Attribute (.Name y p3) (PySem.Str.ofString "done") p4) X.env) = eval (.Attribute (.Name y p3) (PySem.Str.ofString "done") p4) X.env := by rfl)
    (hb1 : attributeBase (.Name y p3) (PySem.Str.ofString "done") X.env (eval (.Name y p3) X.env) = eval (.Name y p3) X.env := by rfl)
    (hline : (p5.endLine == p6.line) = true := by rfl)
    (hs : swapsWith (.Call (.Attribute (.Attribute (.Name y p3) (PySem.Str.ofString "done") p4) "pop" p5) [] [] p6) (some (.Attribute (.Name y p) (PySem.Str.ofString "present") p2)) pos.line X.env = pure false := by rfl) :
    WS X E (.Assign [.Attribute (.Name y p) (PySem.Str.ofString "present") p2] (.Call (.Attribute (.Attribute (.Name y p3) (PySem.Str.ofString "done") p4) "pop" p5) [] [] p6) pos) (mFpD i) :=
  ps_of (ps_fld (pe_var (i := i) hN hv hd hcd) (pe_bm0 PySem.F.plainAttrs_list PySem.F.slot_list_pop PySem.F.type_list_pop mt_pop (pe_fld (pe_var (i := i) hN hv hd hcd) hb1) hbase hline) hs) fun D σ H ⟨G0, H0, G, Γ, W, qs, s, po⟩ => by
    unfold mFpD at po
    cases e1 : gat Γ i with
    | no => rw [e1] at po; exact po.elim
    | v d => rw [e1] at po; exact po.elim
    | own d => rw [e1] at po; exact po.elim
    | ad a =>
      rw [e1] at po
      dsimp only at po
      cases e2 : W.lookup a with
      | none => rw [e2] at po; exact po.elim
      | some D0 =>
        rw [e2] at po
        dsimp only at po
        cases e3 : D0.dn.getLast? with
        | none => rw [e3] at po; exact po.elim
        | some d =>
          rw [e3] at po
          obtain ⟨f1, k, hm⟩ := s.at_ e1 e2
          obtain ⟨tp, g1, dp⟩ := k.ins
          obtain ⟨xs, g2, dx⟩ := k.l1
          rw [List.getLast?_eq_getElem?] at e3
          obtain ⟨z, ez, dz⟩ := dpa_get dx e3
          have na : a ≠ (qs a).2.1 := fun w => by rw [w, g2] at g1; cases g1
          have k1 := k.setL1 (xs := xs.dropLast) (ds := D0.dn.dropLast) (by rw [List.dropLast_eq_take, List.dropLast_eq_take, dpa_len dx]; exact dpa_take _ dx)
          have g3 : upd H (qs a).2.1 (.lst xs.dropLast) a = some (.ins (dkC X.K) (qs a).1 (fsD tp (qs a).2.1 (qs a).2.2)) := by rw [upd_ne na]; exact g1
          refine ⟨.ref a, f1, a, _, _, _, _, rfl, g1, k.cl.cl, k.cl.n2, get_d, .inl ⟨rfl, xs, .inl (.inl g2)⟩, _, xs, z, rfl, rfl, g2, by rw [dpa_len dx]; exact ez, .ref a, f1, a, _, _, _, rfl, g3, k.cl.cl, k.cl.n1, (by show 3 < 1000; decide), ?_⟩
          rw [put_p]
          exact po σ G _ (setQ qs a (qs a)) (s.chg hm (k1.setP g3 dz) (fun b h => .inl h) fun b h1 h2 => by
            rw [upd_ne (fun z => h1 (.inl z)), upd_ne fun z => h1 (by rw [z]; exact .inr (.inr (.inl rfl)))])
/-- self.undone.append(self.present) -/
def mFaU (i : Nat) : MW := fun Γ W => match gat Γ i with
  | .ad a => match W.lookup a with
    | some D => if D.un.length < 100000 then .nx Γ (setD W a { D with un := D.un ++ [D.p] }) else .no
    | none => .no
  | _ => .no
theorem ws_faU (i : Nat) (hN : X.N[i]? = some y := by rfl) (hv : Vis X.env.scope y := by first | exact Or.inl rfl | exact Or.inr (Or.inl rfl) | exact Or.inr (Or.inr rfl)) (hd : (y == ("__debug__" : Str)) = false := by decide) (hcd : (y == ("__classdict__" : Str)) = false := by decide)
    (hbase : attributeBase (.Attribute (.Name y p) (PySem.Str.ofString "undone") p2) "append" X.env (eval (.Attribute (.Name y p) (PySem.Str.ofString "undone") p2) X.env) = eval (.Attribute (.Name y p) (PySem.Str.ofString "undone") p2) X.env := by rfl)
    (hb1 : attributeBase (.Name y p) (PySem.Str.ofString "undone") X.env (eval (.Name y p) X.env) = eval (.Name y p) X.env := by rfl)
    (hb2 : attributeBase (.Name y p4) (PySem.Str.ofString "present") X.env (eval (.Name y p4) X.env) = eval (.Name y p4) X.env := by rfl)
    (hfew : ((backTo p6 (starEach [.Attribute (.Name y p4) (PySem.Str.ofString "present") p5] X.env)).all (fun x => !x.1) && (backToKw p6 (keywordEach [] X.env)).all (fun x => x.1.isSome)
      && decide ([Expr.Attribute (.Name y p4) (PySem.Str.ofString "present") p5].length + ([] : List Keyword).length + (if ([] : List Keyword).isEmpty then 0 else 1) < 30)) = true := by rfl)
    (hline : (p3.endLine == p6.line) = true := by rfl) (hst : starEach [.Attribute (.Name y p4) (PySem.Str.ofString "present") p5] X.env = (false, eval (.Attribute (.Name y p4) (PySem.Str.ofString "present") p5) X.env) :: starEach [] X.env := by rfl) (hplain : (backTo p6 (starEach [] X.env)).any (·.1) = false := by rfl)
    (hs : swapsWith (.Call (.Attribute (.Attribute (.Name y p) (PySem.Str.ofString "undone") p2) "append" p3) [.Attribute (.Name y p4) (PySem.Str.ofString "present") p5] [] p6) none pos.line X.env = pure false := by rfl) :
    WS X E (.Expr (.Call (.Attribute (.Attribute (.Name y p) (PySem.Str.ofString "undone") p2) "append" p3) [.Attribute (.Name y p4) (PySem.Str.ofString "present") p5] [] p6) pos) (mFaU i) :=
  ps_of (ps_expr (pe_bm PySem.F.plainAttrs_list PySem.F.slot_list_append PySem.F.type_list_append mt_append (pe_fld (pe_var (i := i) hN hv hd hcd) hb1) (pa_cons (pe_fld (pe_var (i := i) hN hv hd hcd) hb2) pa_nil hst) hbase hfew hline hst hplain) hs) fun D σ H ⟨G0, H0, G, Γ, W, qs, s, po⟩ => by
    unfold mFaU at po
    cases e1 : gat Γ i with
    | no => rw [e1] at po; exact po.elim
    | v d => rw [e1] at po; exact po.elim
    | own d => rw [e1] at po; exact po.elim
    | ad a =>
      rw [e1] at po
      dsimp only at po
      cases e2 : W.lookup a with
      | none => rw [e2] at po; exact po.elim
      | some D0 =>
        rw [e2] at po
        dsimp only at po
        split at po
        · rename_i hz
          obtain ⟨f1, k, hm⟩ := s.at_ e1 e2
          obtain ⟨tp, g1, dp⟩ := k.ins
          obtain ⟨xs, g2, dx⟩ := k.l2
          refine ⟨.ref a, f1, a, _, _, _, _, rfl, g1, k.cl.cl, k.cl.n3, get_u, .inl ⟨rfl, xs, .inl (.inl g2)⟩, .ref a, f1, a, _, _, _, _, rfl, g1, k.cl.cl, k.cl.n1, get_p, _, xs, tp, rfl, rfl, g2, Nat.lt_of_lt_of_le (by rw [dpa_len dx]; exact hz) (by decide : 100000 ≤ sizeLine), ?_⟩
          exact po σ G _ (setQ qs a (qs a)) (s.chg hm (k.setL2 (dpa_append dx (dpa_one dp))) (fun b h => .inl h) fun b h1 h2 => upd_ne fun z => h1 (by rw [z]; exact .inr (.inr (.inr rfl))))
        · exact po.elim
/-- self.present = self.undone.pop() -/
def mFpU (i : Nat) : MW := fun Γ W => match gat Γ i with
  | .ad a => match W.lookup a with
    | some D => match D.un.getLast? with
      | some d => .nx Γ (setD W a { D with p := d, un := D.un.dropLast })
      | none => .no
    | none => .no
  | _ => .no
theorem ws_fpU (i : Nat) (hN : X.N[i]? = some y := by rfl) (hv : Vis X.env.scope y := by first | exact Or.inl rfl | exact Or.inr (Or.inl rfl) | exact Or.inr (Or.inr rfl)) (hd : (y == ("__debug__" : Str)) = false := by decide) (hcd : (y == ("__classdict__" : Str)) = false := by decide)
    (hbase : attributeBase (.Attribute (.Name y p3) (PySem.Str.ofString "undone") p4) "pop" X.env (eval (.Attribute (.Name y p3) (PySem.Str.ofString "undone") p4) X.env) = eval (.Attribute (.Name y p3) (PySem.Str.ofString "undone") p4) X.env := by rfl)
    (hb1 : attributeBase (.Name y p3) (PySem.Str.ofString "undone") X.env (eval (.Name y p3) X.env) = eval (.Name y p3) X.env := by rfl)
    (hline : (p5.endLine == p6.line) = true := by rfl)
    (hs : swapsWith (.Call (.Attribute (.Attribute (.Name y p3) (PySem.Str.ofString "undone") p4) "pop" p5) [] [] p6) (some (.Attribute (.Name y p) (PySem.Str.ofString "present") p2)) pos.line X.env = pure false := by rfl) :
    WS X E (.Assign [.Attribute (.Name y p) (PySem.Str.ofString "present") p2] (.Call (.Attribute (.Attribute (.Name y p3) (PySem.Str.ofString "undone") p4) "pop" p5) [] [] p6) pos) (mFpU i) :=
  ps_of (ps_fld (pe_var (i := i) hN hv hd hcd) (pe_bm0 PySem.F.plainAttrs_list PySem.F.slot_list_pop PySem.F.type_list_pop mt_pop (pe_fld (pe_var (i := i) hN hv hd hcd) hb1) hbase hline) hs) fun D σ H ⟨G0, H0, G, Γ, W, qs, s, po⟩ => by
    unfold mFpU at po
    cases e1 : gat Γ i with
    | no => rw [e1] at po; exact po.elim
    | v d => rw [e1] at po; exact po.elim
    | own d => rw [e1] at po; exact po.elim
    | ad a =>
      rw [e1] at po
      dsimp only at po
      cases e2 : W.lookup a with
      | none => rw [e2] at po; exact po.elim
      | some D0 =>
        rw [e2] at po
        dsimp only at po
        cases e3 : D0.un.getLast? with
        | none => rw [e3] at po; exact po.elim
        | some d =>
          rw [e3] at po
          obtain ⟨f1, k, hm⟩ := s.at_ e1 e2
          obtain ⟨tp, g1, dp⟩ := k.ins
          obtain ⟨xs, g2, dx⟩ := k.l2
          rw [List.getLast?_eq_getElem?] at e3
          obtain ⟨z, ez, dz⟩ := dpa_get dx e3
          have na : a ≠ (qs a).2.2 := fun w => by rw [w, g2] at g1; cases g1
          have k1 := k.setL2 (xs := xs.dropLast) (ds := D0.un.dropLast) (by rw [List.dropLast_eq_take, List.dropLast_eq_take, dpa_len dx]; exact dpa_take _ dx)
          have g3 : upd H (qs a).2.2 (.lst xs.dropLast) a = some (.ins (dkC X.K) (qs a).1 (fsD tp (qs a).2.1 (qs a).2.2)) := by rw [upd_ne na]; exact g1
          refine ⟨.ref a, f1, a, _, _, _, _, rfl, g1, k.cl.cl, k.cl.n3, get_u, .inl ⟨rfl, xs, .inl (.inl g2)⟩, _, xs, z, rfl, rfl, g2, by rw [dpa_len dx]; exact ez, .ref a, f1, a, _, _, _, rfl, g3, k.cl.cl, k.cl.n1, (by show 3 < 1000; decide), ?_⟩
          rw [put_p]
          exact po σ G _ (setQ qs a (qs a)) (s.chg hm (k1.setP g3 dz) (fun b h => .inl h) fun b h1 h2 => by
            rw [upd_ne (fun z => h1 (.inl z)), upd_ne fun z => h1 (by rw [z]; exact .inr (.inr (.inr rfl)))])
end
end PD

/-! The data layer: defs that get desks; desks read as data: fields, methods, len. -/
namespace PD
open PySem PySem.Spec PyProof.Rows L2
/-! ### a def that gets desks -/
def slA : DA → Sl
  | .d x => .v x
  | .a p => .ad p
def OutW.toR : OutW → RW PyData
  | .rt d W => .ok d W
  | .nx _ W => .ok .none W
  | .ex c W => .ex c W
  | .al W f => .al W fun a => (f a).toR
  | _ => .no
def mDefW (m : MW) (n : Nat) : GW := fun ds W => (m (ds.map slA ++ List.replicate (n - ds.length) .no) W).toR
theorem gat_rep : ∀ (k i : Nat), gat (List.replicate k .no) i = .no
  | 0, i => rfl
  | k + 1, 0 => rfl
  | k + 1, i + 1 => gat_rep k i
theorem gat_startA : ∀ (ss : List Sl) (k i : Nat), gat (ss ++ List.replicate k .no) i = (ss[i]?).getD .no
  | [], k, i => by simp [gat_rep]
  | s :: r, k, 0 => rfl
  | s :: r, k, i + 1 => by simpa using gat_startA r k i
theorem ral_get {K : PySem.W.Frag} {G : Hp} : ∀ {vs : List V} {ds : List DA} {i : Nat} {d : DA}, RAl K G vs ds → ds[i]? = some d → ∃ v, vs[i]? = some v ∧ match d with
    | .d x => Dq K G v x
    | .a p => v = .ref p
  | _, _, i, d, .nil, h => by simp at h
  | _, _, 0, d, .d h1 h2, h => by simp at h; subst h; exact ⟨_, rfl, h1⟩
  | _, _, i + 1, d, .d h1 h2, h => by
    obtain ⟨v, e, q⟩ := ral_get h2 (i := i) (by simpa using h)
    exact ⟨v, by simpa using e, q⟩
  | _, _, 0, d, .a h2, h => by simp at h; subst h; exact ⟨_, rfl, rfl⟩
  | _, _, i + 1, d, .a h2, h => by
    obtain ⟨v, e, q⟩ := ral_get h2 (i := i) (by simpa using h)
    exact ⟨v, by simpa using e, q⟩
theorem sw_start {K : PySem.W.Frag} {G H : Hp} {vs : List V} {ds : List DA} {N : List Str} {W : Wd} {qs : Addr → Q3} (l : Le G H) (r : RAl K G vs ds) (h : ds.length ≤ N.length) (d : Dks K G H W qs) :
    SWd K G (drp H W qs) G H (L2.start N vs) (ds.map slA ++ List.replicate (N.length - ds.length) .no) W qs := by
  have hl := ral_len r
  have own : ∀ {i es}, gat (ds.map slA ++ List.replicate (N.length - ds.length) .no) i ≠ .own es := fun {i es} e => by
    rw [gat_startA, List.getElem?_map] at e
    cases q : ds[i]? with
    | none => rw [q] at e; cases e
    | some x => rw [q] at e; cases x <;> cases e
  have at_ : ∀ {i : Nat} {v : V}, vs[i]? = some v → (L2.start N vs)[i]? = some (some v) := fun {i v} e => by
    have hi := (List.getElem?_eq_some_iff.mp e).1
    unfold L2.start
    rw [List.getElem?_append_left (by simpa using hi), List.getElem?_map, e]
    rfl
  refine ⟨⟨⟨l, by simp [L2.start]; omega, fun i e q => ?_, fun i es q => absurd q own, fun i j es fs p q => absurd q own, fun i es p q => absurd q own, fun i a q => ?_⟩, ⟨fun _ _ e => e, fun b u e => (drp_some e).2, l, fun _ _ e => e⟩⟩, d, fun b hb => drp_in hb, fun i es p q => absurd q own⟩
  · rw [gat_startA, List.getElem?_map] at q
    cases z : ds[i]? with
    | none => rw [z] at q; cases q
    | some x =>
      rw [z] at q
      cases x with
      | d x =>
        cases q
        obtain ⟨v, e1, e2⟩ := ral_get r z
        exact ⟨v, at_ e1, e2⟩
      | a p => cases q
  · rw [gat_startA, List.getElem?_map] at q
    cases z : ds[i]? with
    | none => rw [z] at q; cases q
    | some x =>
      rw [z] at q
      cases x with
      | d x => cases q
      | a p =>
        obtain ⟨v, e1, e2⟩ := ral_get r z
        have e2 : v = .ref p := e2
        rw [e2] at e1
        cases q
        exact at_ e1
section
variable {P : Program} {w : World} {K : PySem.W.Frag} {mg : Str → Option Value} {base : Heap}
/-- how a method of the text stands behind the top -/
abbrev FnM (K : PySem.W.Frag) (x qual : Str) (st : Stmt) (f : Addr) (fd : FuncData) : Prop := FunD K x qual (defArgs st) (defBody st) (defScope st) [] [] f fd
theorem fnW_mk {x qual : Str} {st : Stmt} {f : Addr} {fd : FuncData} {N ps : List Str} {k : Nat} {m : MW} (F : FnM K x qual st f fd) (S : FnScope N ps (defScope st)) (hl : ps.length ≤ N.length)
    (body : ∀ (cdv : Value) (A : Around) (outer : List Env) (s : Shared) (H : Hp) (E : XK), Room k (A.deeper (envOfC qual (defScope st) s.heap.objs.size f cdv)) →
      WB (cxOf (L2.CX P w) P w K mg base N qual (defScope st) f cdv A outer s H E) E (defBody st) m) : FnOk P w K mg base (L2.CX P w) (k + 1) f fd ps (spW K mg ps.length (mDefW m N.length)) :=
  F.ok S (fun vs H Q E h => spW_len h) (fun cdv A outer s H vs Q E hr ⟨G, ds, W, qs, l, dx, hn, dk, po⟩ => ⟨_, body cdv A outer s H E hr, G, drp H W qs, G, _, W, qs, sw_start (N := N) l dx (by rw [hn]; exact hl) dk, by
    unfold mDefW at po
    generalize m (ds.map slA ++ List.replicate (N.length - ds.length) .no) W = o at po
    induction o with
    | nx Γ W1 => exact fun σ' G' H' qs' s' => po .non G' H' qs' s'.sz.gr .non s'.ds s'.base
    | rt d W1 => exact fun x G' H' qs' g dx ds b => po x G' H' qs' g dx ds b
    | ex c W1 => exact po
    | al W1 f ih => exact fun a ha => ih a (po a ha)
    | bk Γ W1 => exact po.elim
    | ct Γ W1 => exact po.elim
    | no => exact po.elim⟩)
theorem dnW_mk {x : Str} {st : Stmt} {f : Addr} {fd : FuncData} {N ps : List Str} {k : Nat} {m : MW} (F : FnM K x x st f fd) (S : FnScope N ps (defScope st)) (hg : mg x = some (.ref f)) (hb : L2.Binds K fd ps []) (hl : ps.length ≤ N.length)
    (body : ∀ (cdv : Value) (A : Around) (outer : List Env) (s : Shared) (H : Hp) (E : XK), Room k (A.deeper (envOfC x (defScope st) s.heap.objs.size f cdv)) →
      WB (cxOf (L2.CX P w) P w K mg base N x (defScope st) f cdv A outer s H E) E (defBody st) m) : DnW P w K mg base (k + 1) x ps.length (mDefW m N.length) :=
  ⟨f, fd, ps, hg, rfl, fnW_mk F S hl body, F.kp, hb⟩
theorem mnW_mk {x qual : Str} {st : Stmt} {f : Addr} {fd : FuncData} {N ps : List Str} {k : Nat} {m : MW} (F : FnM K x qual st f fd) (S : FnScope N ps (defScope st)) (hg : Meth K (dkC K) x f) (hb : L2.Binds K fd ps []) (hl : ps.length ≤ N.length)
    (body : ∀ (cdv : Value) (A : Around) (outer : List Env) (s : Shared) (H : Hp) (E : XK), Room k (A.deeper (envOfC qual (defScope st) s.heap.objs.size f cdv)) →
      WB (cxOf (L2.CX P w) P w K mg base N qual (defScope st) f cdv A outer s H E) E (defBody st) m) : MnW P w K mg base (k + 1) x ps.length (mDefW m N.length) :=
  ⟨f, fd, ps, hg, rfl, fnW_mk F S hl body, hb⟩
/-- a method that only reads: the desk as a datum -/
structure Mn (P : Program) (w : World) (K : PySem.W.Frag) (mg : Str → Option Value) (base : Heap) (k : Nat) (x : Str) (n : Nat) (g : List PyData → R PyData) : Prop where
  ex : ∃ f fd ps, Meth K (dkC K) x f ∧ ps.length = n ∧ FnOk P w K mg base (L2.CX P w) k f fd ps (spD K mg n g) ∧ Binds K fd ps []
theorem Mn.mono {j k : Nat} {x n g} (h : Mn P w K mg base j x n g) (l : j ≤ k) : Mn P w K mg base k x n g := by
  obtain ⟨f, fd, ps, a, b, c, d⟩ := h.ex
  exact ⟨f, fd, ps, a, b, c.mono l, d⟩
theorem fnM_mk {x qual : Str} {st : Stmt} {f : Addr} {fd : FuncData} {N ps : List Str} {k : Nat} {m : MS} (F : FnM K x qual st f fd) (S : FnScope N ps (defScope st)) (hl : ps.length ≤ N.length)
    (body : ∀ (cdv : Value) (A : Around) (outer : List Env) (s : Shared) (H : Hp) (E : XK), Room k (A.deeper (envOfC qual (defScope st) s.heap.objs.size f cdv)) →
      SB (cxOf (L2.CX P w) P w K mg base N qual (defScope st) f cdv A outer s H E) E (defBody st) m) : FnOk P w K mg base (L2.CX P w) (k + 1) f fd ps (spD K mg ps.length (mDef m N.length)) :=
  F.ok S (fun vs H Q E h => spD_len h) (fun cdv A outer s H vs Q E hr ⟨G, ds, l, dx, hn, po⟩ => ⟨_, body cdv A outer s H E hr, G, H, G, _, sr_start (N := N) l dx (by rw [hn]; exact hl), by
    replace po : Po (Dq K) mg E G H Q (mDef m N.length ds) := po
    unfold mDef at po
    show PoS K mg E G H { nx := fun _ H' => Q .non H', rt := Q } (m (ds.map .v ++ List.replicate (N.length - ds.length) .no))
    cases e : m (ds.map .v ++ List.replicate (N.length - ds.length) .no) with
    | nx Γ => rw [e] at po; exact fun σ' G' H' s' => po .non G' H' s'.gr .non
    | rt d => rw [e] at po; exact po
    | ex c => rw [e] at po; exact po
    | bk Γ => rw [e] at po; exact po.elim
    | ct Γ => rw [e] at po; exact po.elim
    | no => rw [e] at po; exact po.elim⟩)
theorem mn_mk {x qual : Str} {st : Stmt} {f : Addr} {fd : FuncData} {N ps : List Str} {k : Nat} {m : MS} (F : FnM K x qual st f fd) (S : FnScope N ps (defScope st)) (hg : Meth K (dkC K) x f) (hb : L2.Binds K fd ps []) (hl : ps.length ≤ N.length)
    (body : ∀ (cdv : Value) (A : Around) (outer : List Env) (s : Shared) (H : Hp) (E : XK), Room k (A.deeper (envOfC qual (defScope st) s.heap.objs.size f cdv)) →
      SB (cxOf (L2.CX P w) P w K mg base N qual (defScope st) f cdv A outer s H E) E (defBody st) m) : Mn P w K mg base (k + 1) x ps.length (mDef m N.length) :=
  ⟨f, fd, ps, hg, rfl, fnM_mk F S hl body, hb⟩
end
/-! ### fields of a desk as a datum -/
def lgtD (p : PyData) : PyData := .dict [(.bool false, p)]
def dFldP : PyData → R PyData
  | .dict [(.bool true, .list [p, _, _])] => .ok p
  | .dict [(.bool false, p)] => .ok p
  | _ => .no
def dFldD : PyData → R PyData
  | .dict [(.bool true, .list [_, p, _])] => .ok p
  | _ => .no
def dFldU : PyData → R PyData
  | .dict [(.bool true, .list [_, _, p])] => .ok p
  | _ => .no
@[simp] theorem dFldP_lgt (p : PyData) : dFldP (lgtD p) = .ok p := rfl
@[simp] theorem dFldP_dsk (D : ObD) : dFldP (dskD D) = .ok D.p := rfl
@[simp] theorem dFldD_dsk (D : ObD) : dFldD (dskD D) = .ok (.list D.dn) := rfl
@[simp] theorem dFldU_dsk (D : ObD) : dFldU (dskD D) = .ok (.list D.un) := rfl
def mFld (g : PyData → R PyData) (m : M) : M := fun Γ => (m Γ).bind g
@[simp] theorem ap_Fld (g : PyData → R PyData) (m : M) (Γ : Gam) : mFld g m Γ = (m Γ).bind g := rfl
section
variable {X : Cx} {E : XK} {e a : Expr} {es : List Expr} {m : M} {pos : Pos}
/-- a datum of the kind is a desk -/
theorem dq_dsk {K : PySem.W.Frag} {G : Hp} {x : V} {ds : List PyData} (h : Dq K G x (.dict [(.bool true, .list ds)])) : ∃ a dx l1 l2 tp, x = .ref a ∧ DskC K ∧ G a = some (.ins (dkC K) dx (fsD tp l1 l2)) ∧ DqAll K G [tp, .ref l1, .ref l2] ds := by
  generalize q : PyData.dict [(PyData.bool true, PyData.list ds)] = z at h
  cases h with
  | dsk hc h1 h2 h3 => cases q; exact ⟨_, _, _, _, _, rfl, hc, h1, h3⟩
  | @scr a ns h1 => cases ns <;> cases q
  | dct h1 => cases q
  | _ => cases q
theorem po_no {K : PySem.W.Frag} {mg} {E : XK} {G H : Hp} {Q : VK} {r : R PyData} (h : r = .no) (po : Po (Dq K) mg E G H Q r) : False := by rw [h] at po; exact po
theorem dFldP_cases (d : PyData) : (∃ p q r, d = .dict [(.bool true, .list [p, q, r])] ∧ dFldD d = .ok q ∧ dFldU d = .ok r) ∨ (dFldD d = .no ∧ dFldU d = .no) := by
  by_cases h : ∃ p q r, d = .dict [(.bool true, .list [p, q, r])]
  · obtain ⟨p, q, r, rfl⟩ := h
    exact .inl ⟨p, q, r, rfl, rfl, rfl⟩
  · refine .inr ⟨?_, ?_⟩
    · unfold dFldD; split
      · exact absurd ⟨_, _, _, rfl⟩ h
      · rfl
    · unfold dFldU; split
      · exact absurd ⟨_, _, _, rfl⟩ h
      · rfl
theorem se_fldP (he : SE X E e m) (hb : attributeBase e (PySem.Str.ofString "present") X.env (eval e X.env) = eval e X.env := by rfl) : SE X E (.Attribute e (PySem.Str.ofString "present") pos) (mFld dFldP m) :=
  pe_of (pe_fld he hb) fun σ H Q ⟨B0, Γ, G, sr, po⟩ => ⟨B0, Γ, G, sr, Po.bind po fun d x G1 H1 _ g1 dx po1 => by
    cases dx with
    | @dsl a dx' l1 l2 tp p hc hi h2 ha => exact ⟨a, _, _, _, tp, rfl, g1.s _ _ hi, hc.cl, hc.n1, get_p, Po.ok (d := p) po1 g1.s ha⟩
    | @dsk a dx' l1 l2 tp ds hc hi h2 ha =>
      cases ha with
      | @cons v vs d ds a1 a2 =>
        cases a2 with
        | cons a2 a3 =>
          cases a3 with
          | cons a3 a4 =>
            cases a4
            exact ⟨a, _, _, _, tp, rfl, g1.s _ _ hi, hc.cl, hc.n1, get_p, Po.ok (d := d) po1 g1.s a1⟩
    | @scr a ns h1 => cases ns <;> exact po1.elim
    | _ => exact po1.elim⟩
theorem se_fldD (he : SE X E e m) (hb : attributeBase e (PySem.Str.ofString "done") X.env (eval e X.env) = eval e X.env := by rfl) : SE X E (.Attribute e (PySem.Str.ofString "done") pos) (mFld dFldD m) :=
  pe_of (pe_fld he hb) fun σ H Q ⟨B0, Γ, G, sr, po⟩ => ⟨B0, Γ, G, sr, Po.bind po fun d x G1 H1 _ g1 dx po1 => by
    rcases dFldP_cases d with ⟨p, q, r, rfl, h2, h3⟩ | ⟨h2, h3⟩
    · obtain ⟨a, dx', l1, l2, tp, rfl, hc, hi, ha⟩ := dq_dsk dx
      cases ha with
      | cons a1 a2 =>
        cases a2 with
        | cons a2 a3 => exact ⟨a, _, _, _, .ref l1, rfl, g1.s _ _ hi, hc.cl, hc.n2, get_d, po1.ok g1.s a2⟩
    · exact (po_no h2 po1).elim⟩
theorem se_fldU (he : SE X E e m) (hb : attributeBase e (PySem.Str.ofString "undone") X.env (eval e X.env) = eval e X.env := by rfl) : SE X E (.Attribute e (PySem.Str.ofString "undone") pos) (mFld dFldU m) :=
  pe_of (pe_fld he hb) fun σ H Q ⟨B0, Γ, G, sr, po⟩ => ⟨B0, Γ, G, sr, Po.bind po fun d x G1 H1 _ g1 dx po1 => by
    rcases dFldP_cases d with ⟨p, q, r, rfl, h2, h3⟩ | ⟨h2, h3⟩
    · obtain ⟨a, dx', l1, l2, tp, rfl, hc, hi, ha⟩ := dq_dsk dx
      cases ha with
      | cons a1 a2 =>
        cases a2 with
        | cons a2 a3 =>
          cases a3 with
          | cons a3 a4 => exact ⟨a, _, _, _, .ref l2, rfl, g1.s _ _ hi, hc.cl, hc.n3, get_u, po1.ok g1.s a3⟩
    · exact (po_no h3 po1).elim⟩
/-- o.m() that only reads -/
def isDsk : PyData → Bool
  | .dict [(.bool true, .list _)] => true
  | .dict [(.bool false, _)] => true
  | _ => false
def mMeth (g : List PyData → R PyData) (m : M) : M := fun Γ => (m Γ).bind fun d => if isDsk d = true then g [d] else .no
@[simp] theorem ap_Meth (g : List PyData → R PyData) (m : M) (Γ : Gam) : mMeth g m Γ = (m Γ).bind fun d => if isDsk d = true then g [d] else .no := rfl
@[simp] theorem isDsk_dsk (D : ObD) : isDsk (dskD D) = true := rfl
@[simp] theorem isDsk_lgt (p : PyData) : isDsk (lgtD p) = true := rfl
theorem dq_isDsk {K : PySem.W.Frag} {G : Hp} {x : V} {d : PyData} (h : Dq K G x d) (hd : isDsk d = true) : ∃ a dx l1 l2 tp, x = .ref a ∧ DskC K ∧ G a = some (.ins (dkC K) dx (fsD tp l1 l2)) := by
  cases h with
  | dsl hc h1 h2 h3 => exact ⟨_, _, _, _, _, rfl, hc, h1⟩
  | dsk hc h1 h2 h3 => exact ⟨_, _, _, _, _, rfl, hc, h1⟩
  | @scr a ns h1 => cases ns <;> cases hd
  | _ => cases hd
theorem se_meth0 {pl : Sem Bool} {x : Str} {apos : Pos} {k : Nat} {g : List PyData → R PyData} (D : Mn X.prog X.w X.K X.mg X.base k x 1 g) (hc : Cls X.K (dkC X.K)) (hr : Room k X.A) (hx : Passes (L2.CX X.prog X.w) X E) (he : SE X E e m)
    (h1 : ¬ x = "present" := by decide +kernel) (h2 : ¬ x = "done" := by decide +kernel) (h3 : ¬ x = "undone" := by decide +kernel)
    (ht : eval (.Call (.Attribute e x apos) [] [] pos) X.env = (do
      let ov ← eval e X.env
      standAt apos.atName
      let (f, first) ← holding [ov] (getMethod ov x pl)
      callWith pos f first (backTo pos (starEach [] X.env)) (backToKw pos (keywordEach [] X.env))) := by rfl) :
    SE X E (.Call (.Attribute e x apos) [] [] pos) (mMeth g m) := by
  obtain ⟨f, fd, ps, hm, hl, F, hb⟩ := D.ex
  exact pe_of (pe_meth0 (pl := pl) he hc hm F hr hb .nil hx ht) fun σ H Q ⟨B0, Γ, G, sr, po⟩ => ⟨B0, Γ, G, sr, Po.bind po fun d x G1 H1 _ g1 dx po1 => by
    split at po1
    · rename_i hd
      obtain ⟨a, dx', l1, l2, tp, rfl, hcc, hi⟩ := dq_isDsk dx hd
      exact ⟨a, _, _, rfl, g1.s _ _ hi, fsD_no h1 h2 h3, G1, _, g1.s, .cons dx .nil, rfl, po1⟩
    · exact po1.elim⟩
end
/-! ### len of a desk -/
section
variable {prog : Program} {w : World} {A : Around} {E : Value → Shared → Prop} {s : Shared} {K : PySem.W.Frag} {x C D f : Addr} {ox od : Obj} {odd : Option Obj}
/-- len(x), by an own __len__ that answers a small int -/
theorem len_own {Q : Value → Shared → Prop} (X : K.In s.heap) (I : PySem.W.InstAt s.heap x ox C odd) (hs : PySem.W.findIn K (.ref C) "__len__" = some (some (.ref f))) (hf : PySem.W.isFn K (.ref f) = true)
    (h : wpAny (model prog w) A.in1 (call (.ref f) [.ref x]) (fun r s₁ => ∃ (n : Nat) (u : Tok), r = Value.int (n : Int) u ∧ n < 100000 ∧ ∀ t, Q (.int (n : Int) t) { s₁ with toks := s₁.toks + 1 }) E s) : wpAny (model prog w) A (call (.builtin "len") [.ref x]) Q E s := by
  refine Calls.call_function_entry kind_len plain_len entry_len (args_len1 _) ?_
  unfold Builtin.«len»
  refine wpAny_bind (m := oneArg "len" _) (wpAny_pure ?_)
  refine wpAny_bind (m := callSpecial? (.ref x) (PySem.Str.ofString "__len__")) (PySem.W.special_fn X I hs (beq_iff_eq.mp hf) (wpAny_mono h (fun r s' hr => ?_) fun _ _ y => y))
  obtain ⟨n, u, rfl, hn, hq⟩ := hr
  refine wpAny_bind (wpAny_holding (wpAny_pure ?_))
  refine wpAny_bind (wpAny_letGo ?_)
  show wpAny _ _ (if ((n : Nat) : Int) < 0 then _ else _) _ _ _
  rw [if_neg (by omega)]
  show wpAny _ _ (if ((n : Nat) : Int) ≥ 2 ^ 63 then _ else _) _ _ _
  rw [if_neg (by omega)]
  exact wpAny_bind (wpAny_mkInt (wpAny_pure ⟨_, rfl, hq _⟩))
end
section
variable {X : Cx} {E : XK} {e : Expr} {m : M} {pos : Pos}
def rLenD (K : PySem.W.Frag) (sp : Sp) (E : XK) : List V → Hp → VK → Prop := fun xs H Q => ∃ a dx fs, xs = [V.ref a] ∧ H a = some (.ins (dkC K) dx fs) ∧ sp [.ref a] H (fun z H' => ∃ n : Nat, z = .int (n : Int) ∧ n < 100000 ∧ Q (.int (n : Int)) H') E
theorem call_lenD {CX : CXT} {n : Nat} {g : Addr} {sp : Sp} (hm : Meth X.K (dkC X.K) "__len__" g) (F : FnR X.prog X.w X.K X.mg X.base CX n g sp) (hr : Room (n + 1) X.A) (hx : Passes CX X E) : CallR X (.builtin "len") (rLenD X.K sp E) := by
  intro pins s σ H xs us Q I r h
  obtain ⟨a, dx, fs, rfl, ha, q⟩ := h
  obtain ⟨u, rfl, ru⟩ := r.one
  cases (show u = Value.ref a from ru)
  obtain ⟨mA, O, _⟩ := ins_get I.hok ha
  obtain ⟨od, J, _⟩ := O.look
  refine len_own I.kIn J hm.at_ hm.fn (wpAny_mono (wpAny_call (SlX.run_at (us := [.ref a]) (ws := [.ref a]) F hr.in1 I.env0.in1 hx I (.cons rfl .nil) q)) (fun w s' z => ?_) fun _ _ x => x)
  obtain ⟨z', H', I', rz, i, ei, hi, qz⟩ := z
  subst ei
  obtain ⟨t, e⟩ := (show ∃ t, w = Value.int (i : Int) t from rz)
  cases e
  exact ⟨i, t, rfl, hi, fun t2 => ⟨.int (i : Int), H', I'.tok _, ⟨t2, rfl⟩, qz⟩⟩
def mLenD (g : List PyData → R PyData) (m : M) : M := fun Γ => (m Γ).bind fun d => if isDsk d = true then (g [d]).bind fun e => match e with
  | .int i => if 0 ≤ i ∧ i < 100000 then .ok (.int i) else .no
  | _ => .no
  else .no
@[simp] theorem ap_LenD (g : List PyData → R PyData) (m : M) (Γ : Gam) : mLenD g m Γ = (m Γ).bind fun d => if isDsk d = true then (g [d]).bind fun e => match e with
  | .int i => if 0 ≤ i ∧ i < 100000 then .ok (.int i) else .no
  | _ => .no
  else .no := rfl
theorem se_lenD {p : Pos} {k : Nat} {g : List PyData → R PyData} (D : Mn X.prog X.w X.K X.mg X.base k "__len__" 1 g) (hr : Room (k + 1) X.A) (hx : Passes (L2.CX X.prog X.w) X E) (he : SE X E e m) (hm : X.mg "len" = none) (hg : Gl X "len" := by exact rfl)
    (hst : starEach [e] X.env = (false, eval e X.env) :: starEach [] X.env := by rfl) (hpl : (backTo pos (starEach [] X.env)).any (·.1) = false := by rfl) :
    SE X E (.Call (.Name "len" p) [e] [] pos) (mLenD g m) := by
  obtain ⟨f, fd, ps, hmm, hl, F, hb⟩ := D.ex
  exact pe_of (pe_callB (call_lenD (sp := spD X.K X.mg 1 g) hmm ((FnOk.raw F hb .nil).imp fun vs H Q E h => by rw [List.append_nil]; exact h) hr hx) hg hm boot_len (pa_cons he pa_nil hst) (he := hst) (hpl := hpl)) fun σ H Q ⟨B0, Γ, G, sr, po⟩ => ⟨B0, Γ, G, sr, Po.bind po fun d x G1 H1 _ g1 dx po1 => by
    split at po1
    · rename_i hd
      obtain ⟨a, dx', l1, l2, tp, rfl, hcc, hi⟩ := dq_isDsk dx hd
      refine ⟨a, _, _, rfl, g1.s _ _ hi, G1, _, g1.s, .cons dx .nil, rfl, Po.bind po1 fun d2 y G2 H2 _ g2 dy po2 => ?_⟩
      cases dy with
      | int i =>
        dsimp only at po2
        split at po2
        · rename_i hi
          refine ⟨i.toNat, by rw [Int.toNat_of_nonneg hi.1], by omega, ?_⟩
          rw [Int.toNat_of_nonneg hi.1]
          exact Po.ok (d := PyData.int i) po2 g2.s (.int i)
        · exact po2.elim
      | _ => exact po2.elim
    · exact po1.elim⟩
end
end PD

/-! The data layer: a desk is made; try with desks. -/
namespace PD
open PySem PySem.Spec PyProof.Rows L2
/-! ### __init__ -/
def deskOf (d : PyData) : ObD := ⟨.tuple [d, .tuple []], [], []⟩
def PoN (K : PySem.W.Frag) (mg : Str → Option Value) (E : XK) (G B : Hp) (x : Addr) (d : PyData) (Q : Hp → Prop) : R PyData → Prop
  | .ok _ => ∀ G' H' q, Gr G B G' H' → Dk K G' H' x (deskOf d) q → (∀ b, Cell x q b → B b = none) → Q H'
  | .ex c => ∀ H', Le B H' → E (cV mg c) none H'
  | .no => False
def InitAt (K : PySem.W.Frag) (G B H : Hp) (x dx : Addr) (v : V) (d : PyData) : Prop :=
  Le G B ∧ Le B H ∧ B x = none ∧ B dx = none ∧ H x = some (.ins (dkC K) dx []) ∧ H dx = some (.own x) ∧ Dq K G v d ∧ DskC K
def spInit (K : PySem.W.Frag) (mg : Str → Option Value) (chk : List PyData → R PyData) : Sp := fun vs H Q E => ∃ G B x dx v d, vs = [.ref x, v] ∧ InitAt K G B H x dx v d ∧ PoN K mg E G B x d (fun H' => Q .non H') (chk [d])
theorem put_nil {y : V} : putF (PySem.Str.ofString "present") y [] = [(PySem.Str.ofString "present", y)] := rfl
theorem put_one {y : V} {l : Addr} : putF (PySem.Str.ofString "done") (.ref l) [(PySem.Str.ofString "present", y)] = [(PySem.Str.ofString "present", y), (PySem.Str.ofString "done", .ref l)] := by
  unfold putF
  rw [if_neg ne_pd]
  rfl
theorem put_two {y : V} {l l2 : Addr} : putF (PySem.Str.ofString "undone") (.ref l2) [(PySem.Str.ofString "present", y), (PySem.Str.ofString "done", .ref l)] = fsD y l l2 := by
  unfold putF
  rw [if_neg ne_pu]
  unfold putF
  rw [if_neg ne_du]
  rfl
theorem sr_nono {K : PySem.W.Frag} {B G H : Hp} {σ : L2.St} (l : Le G H) (h : σ.length = 2) : SR K B G H σ [.no, .no] := by
  have nn : ∀ i, gat [Sl.no, Sl.no] i = .no := fun i => by
    match i with
    | 0 => rfl
    | 1 => rfl
    | i + 2 => rfl
  refine ⟨l, h, fun i e q => ?_, fun i es q => ?_, fun i j es fs p q => ?_, fun i es p q => ?_, fun i c q => ?_⟩
  all_goals (rw [nn] at q; cases q)
section
variable {X : Cx} {E : XK}
theorem init_run {chk : List PyData → R PyData} {st1 st2 st3 st4 : Stmt} (h1 : SS X E st1 (mDo [] (mCall chk (mCons (mVar 1) mNil)))) (h2 : PS X st2 (sFld X.K (tVar 0) (tX X.K (Dq X.K) X.mg E (mTup (mCons (mVar 1) (mCons (mTup mNil) mNil)))) (PySem.Str.ofString "present")))
    (h3 : PS X st3 (sFld X.K (tVar 0) (tL X.K X.mg E mNil) (PySem.Str.ofString "done"))) (h4 : PS X st4 (sFld X.K (tVar 0) (tL X.K X.mg E mNil) (PySem.Str.ofString "undone"))) :
    PSs X [st1, st2, st3, st4] (fun D σ H => ∃ G B x dx v d, σ = [some (.ref x), some v] ∧ InitAt X.K G B H x dx v d ∧ PoN X.K X.mg E G B x d (fun H' => ∀ σ', D.nx σ' H') (chk [d])) :=
  pss_of (pss_cons h1 (pss_cons h2 (pss_cons h3 (pss_one h4)))) fun D σ H ⟨G, B, x, dx, v, d, e, ⟨i1, i2, i3, i4, i5, i6, i7, i8⟩, po⟩ => by
    subst e
    have gx : G x = none := le_none i1 i3
    have gdx : G dx = none := le_none i1 i4
    have ndx : dx ≠ x := fun z => by rw [z, i5] at i6; cases i6
    have s0 : SZ X.K G H G H [some (.ref x), some v] [.ad x, .v d] := by
      refine ⟨⟨le_trans i1 i2, rfl, fun i e h => ?_, fun i es h => ?_, fun i j es fs p h => ?_, fun i es p h => ?_, fun i c h => ?_⟩, Gr.refl (le_trans i1 i2)⟩
      · match i, h with
        | 0, h => cases h
        | 1, h => cases h; exact ⟨v, rfl, i7⟩
        | i + 2, h => cases h
      · match i, h with
        | 0, h => cases h
        | 1, h => cases h
        | i + 2, h => cases h
      · match i, h with
        | 0, h => cases h
        | 1, h => cases h
        | i + 2, h => cases h
      · match i, h with
        | 0, h => cases h
        | 1, h => cases h
        | i + 2, h => cases h
      · match i, h with
        | 0, h => cases h; rfl
        | 1, h => cases h
        | i + 2, h => cases h
    refine ⟨G, H, G, _, s0, ?_⟩
    have em : (mCall chk (mCons (mVar 1) mNil)) [.ad x, .v d] = chk [d] := rfl
    show PoS X.K X.mg E G H _ (mEv [] (mCall chk (mCons (mVar 1) mNil)) [.ad x, .v d] fun _ Γ1 => .nx Γ1)
    rw [mEv_nil, em]
    cases ec : chk [d] with
    | no => rw [ec] at po; exact po.elim
    | ex c => rw [ec] at po; exact fun H' l => po H' (le_trans i2 l)
    | ok r =>
      rw [ec] at po
      intro σ' G' H' s'
      have a0 := s'.sr.adr 0 x rfl
      have gx' : G' x = none := s'.gr.fr x (by rw [i5]; simp) gx
      refine ⟨H, _, G', s'.sr, ?_⟩
      show Po (Dq X.K) X.mg E G' H' _ (.ok (.tuple [d, .tuple []]))
      intro y G1 H1 g1 dy
      have lH1 : Le H H1 := le_trans s'.gr.h g1.h
      have gx1 : G1 x = none := g1.fr x (by rw [s'.gr.h _ _ i5]; simp) gx'
      refine ⟨.ref x, a0, x, dkC X.K, dx, [], rfl, lH1 _ _ i5, i8.cl, i8.n1, (by show 0 < 1000; decide), ?_⟩
      rw [put_nil]
      generalize eH2 : upd H1 x (.ins (dkC X.K) dx [(PySem.Str.ofString "present", y)]) = H2
      have x2 : H2 x = some (.ins (dkC X.K) dx [(PySem.Str.ofString "present", y)]) := by rw [← eH2]; exact upd_same
      have n2 : ∀ b, b ≠ x → H2 b = H1 b := fun b h => by rw [← eH2]; exact upd_ne h
      have l2 : Le G1 H2 := fun b u e => by rw [n2 b fun z => by rw [z, gx1] at e; cases e]; exact g1.s b u e
      have len' : σ'.length = 2 := s'.sr.len
      have sr2 : SR X.K H G1 H2 σ' [.no, .no] := sr_nono l2 len'
      refine ⟨H, [.no, .no], G1, sr2, ?_⟩
      intro p xs G2 H3 g2 hp hp1 hg2 dxs
      have px : p ≠ x := fun z => by rw [z, x2] at hp; cases hp
      have gx2 : G2 x = none := g2.fr x (by rw [x2]; simp) gx1
      refine ⟨.ref x, a0, x, dkC X.K, dx, _, rfl, g2.h _ _ x2, i8.cl, i8.n2, (by show 1 < 1000; decide), ?_⟩
      rw [put_one]
      generalize eH4 : upd H3 x (.ins (dkC X.K) dx [(PySem.Str.ofString "present", y), (PySem.Str.ofString "done", .ref p)]) = H4
      have x4 : H4 x = some (.ins (dkC X.K) dx [(PySem.Str.ofString "present", y), (PySem.Str.ofString "done", .ref p)]) := by rw [← eH4]; exact upd_same
      have n4 : ∀ b, b ≠ x → H4 b = H3 b := fun b h => by rw [← eH4]; exact upd_ne h
      have l4 : Le G2 H4 := fun b u e => by rw [n4 b fun z => by rw [z, gx2] at e; cases e]; exact g2.s b u e
      have sr4 : SR X.K H G2 H4 σ' [.no, .no] := sr_nono l4 len'
      refine ⟨H, [.no, .no], G2, sr4, ?_⟩
      intro p2 xs2 G3 H5 g3 hq hq1 hg3 dxs2
      have qx : p2 ≠ x := fun z => by rw [z, x4] at hq; cases hq
      have gx3 : G3 x = none := g3.fr x (by rw [x4]; simp) gx2
      have p4 : H4 p = some (.lst xs) := by rw [n4 p px]; exact hp1
      have npq : p ≠ p2 := fun z => by rw [z, hq] at p4; cases p4
      refine ⟨.ref x, a0, x, dkC X.K, dx, _, rfl, g3.h _ _ x4, i8.cl, i8.n3, (by show 2 < 1000; decide), ?_⟩
      rw [put_two]
      generalize eH6 : upd H5 x (.ins (dkC X.K) dx (fsD y p p2)) = H6
      have x6 : H6 x = some (.ins (dkC X.K) dx (fsD y p p2)) := by rw [← eH6]; exact upd_same
      have n6 : ∀ b, b ≠ x → H6 b = H5 b := fun b h => by rw [← eH6]; exact upd_ne h
      have keep : ∀ b u, b ≠ x → H b = some u → H6 b = some u := fun b u hb e => by
        rw [n6 b hb]; refine g3.h b u ?_
        rw [n4 b hb]; refine g2.h b u ?_
        rw [n2 b hb]; exact lH1 b u e
      have lg : Le G G3 := le_trans (le_trans s'.gr.g g1.g) (le_trans g2.g g3.g)
      have bp : ∀ b, b ≠ x → H2 b = none → B b = none := fun b hb e => by
        rw [n2 b hb] at e
        exact le_none i2 (le_none lH1 e)
      have bq : B p2 = none := by
        have e := hq
        rw [n4 p2 qx] at e
        exact bp p2 qx (le_none g2.h e)
      have frn : ∀ b, b ≠ x → H b ≠ none → G b = none → G3 b = none := fun b hb e1 e2 => by
        have f1 := s'.gr.fr b e1 e2
        have h1 : H' b ≠ none := fun z => e1 (le_none s'.gr.h z)
        have f2 := g1.fr b h1 f1
        have h2 : H2 b ≠ none := fun z => by rw [n2 b hb] at z; exact h1 (le_none g1.h z)
        have f3 := g2.fr b h2 f2
        have h4 : H4 b ≠ none := fun z => by rw [n4 b hb] at z; exact h2 (le_none g2.h z)
        exact g3.fr b h4 f3
      refine po G3 H6 (dx, p, p2) ⟨lg, fun b u e => ?_, fun b u e => ?_, fun b e1 e2 => ?_⟩ ⟨i8, ⟨y, x6, dp_le (le_trans g2.g g3.g) dy⟩, keep dx _ ndx i6, ⟨xs, ?_, ?_⟩, ⟨xs2, ?_, dxs2⟩, npq, fun b hb => ?_⟩ (fun b hb => ?_) σ'
      · exact keep b u (fun z => by rw [z, i3] at e; cases e) (i2 b u e)
      · rw [n6 b fun z => by rw [z, gx3] at e; cases e]
        exact g3.s b u e
      · have hb : b ≠ x := fun z => e1 (by rw [z]; exact i3)
        exact frn b hb (fun z => e1 (le_none i2 z)) e2
      · show H6 p = some (.lst xs)
        rw [n6 p px]; exact g3.h _ _ p4
      · exact dpa_le g3.g dxs
      · show H6 p2 = some (.lst xs2)
        rw [n6 p2 qx]; exact hq1
      · rcases hb with z | z | z | z
        · rw [z]; exact gx3
        · rw [z]; exact frn dx ndx (by rw [i6]; simp) gdx
        · rw [z]; exact g3.fr p (by rw [p4]; simp) hg2
        · rw [z]; exact hg3
      · rcases hb with z | z | z | z
        · rw [z]; exact i3
        · rw [z]; exact i4
        · rw [z]; exact bp p px hp
        · rw [z]; exact bq
end
/-- the class as callers have it -/
structure MkD (P : Program) (w : World) (K : PySem.W.Frag) (mg : Str → Option Value) (base : Heap) (k : Nat) (chk : List PyData → R PyData) : Prop where
  ex : ∃ f fd ps, Mk K (dkC K) f ∧ mg "Desk" = some (.ref (dkC K)) ∧ FnOk P w K mg base (L2.CX P w) k f fd ps (spInit K mg chk) ∧ Binds K fd ps []
  dc : DskC K
theorem mkD_mk {P : Program} {w : World} {K : PySem.W.Frag} {mg : Str → Option Value} {base : Heap} {qual : Str} {st : Stmt} {f : Addr} {fd : FuncData} {a0 a1 : Str} {k : Nat} {chk : List PyData → R PyData} {st1 st2 st3 st4 : Stmt} (F : FnM K "__init__" qual st f fd) (S : FnScope [a0, a1] [a0, a1] (defScope st)) (hb : L2.Binds K fd [a0, a1] []) (hm : Mk K (dkC K) f) (hg : mg "Desk" = some (.ref (dkC K))) (dc : DskC K)
    (hbd : defBody st = [st1, st2, st3, st4])
    (body : ∀ (cdv : Value) (A : Around) (outer : List Env) (s : Shared) (H : Hp) (E : XK), Room k (A.deeper (envOfC qual (defScope st) s.heap.objs.size f cdv)) →
      PSs (cxOf (L2.CX P w) P w K mg base [a0, a1] qual (defScope st) f cdv A outer s H E) [st1, st2, st3, st4] (fun D σ H => ∃ G B x dx v d, σ = [some (.ref x), some v] ∧ InitAt K G B H x dx v d ∧ PoN K mg E G B x d (fun H' => ∀ σ', D.nx σ' H') (chk [d]))) : MkD P w K mg base (k + 1) chk := by
  refine ⟨⟨f, fd, [a0, a1], hm, hg, ?_, hb⟩, dc⟩
  refine F.ok (sp := spInit K mg chk) S (fun vs H Q E h => ?_) (fun cdv A outer s H vs Q E hr h => ?_)
  · obtain ⟨G, B, x, dx, v, d, e, _⟩ := h
    rw [e]; rfl
  · obtain ⟨G, B, x, dx, v, d, e, i, po⟩ := h
    have z := body cdv A outer s H E hr
    rw [← hbd] at z
    refine ⟨_, z, G, B, x, dx, v, d, by rw [e]; rfl, i, ?_⟩
    cases q : chk [d] with
    | no => rw [q] at po; exact po
    | ex c => rw [q] at po; exact po
    | ok r => rw [q] at po; exact fun G' H' q g k b _ => po G' H' q g k b
theorem MkD.mono {P w K mg base} {j k : Nat} {chk} (h : MkD P w K mg base j chk) (l : j ≤ k) : MkD P w K mg base k chk := by
  obtain ⟨f, fd, ps, a, b, c, d⟩ := h.ex
  exact ⟨⟨f, fd, ps, a, b, c.mono l, d⟩, h.dc⟩
/-- Desk(e) -/
def PoD (K : PySem.W.Frag) (mg : Str → Option Value) (E : XK) (G H : Hp) (Q : VK) : R PyData → Prop
  | .ok d => ∀ a G' H' q, Gr G H G' H' → Dk K G' H' a (deskOf d) q → (∀ b, Cell a q b → H b = none) → Q (.ref a) H'
  | .ex c => ∀ H', Le H H' → E (cV mg c) none H'
  | .no => False
def mNewD (chk : List PyData → R PyData) (m : M) : M := fun Γ => (m Γ).bind fun d => (chk [d]).bind fun _ => .ok d
section
variable {X : Cx} {E : XK} {e : Expr} {m : M} {pos : Pos}
theorem pe_newD {k : Nat} {chk : List PyData → R PyData} {p : Pos} (D : MkD X.prog X.w X.K X.mg X.base k chk) (hr : Room (k + 1) X.A) (hx : Passes (L2.CX X.prog X.w) X E) (he : SE X E e m) (hg : Gl X "Desk" := by exact rfl)
    (hst : starEach [e] X.env = (false, eval e X.env) :: starEach [] X.env := by rfl) (hpl : (backTo pos (starEach [] X.env)).any (·.1) = false := by rfl) :
    PE X (.Call (.Name "Desk" p) [e] [] pos) (fun σ H Q => ∃ B Γ G, SR X.K B G H σ Γ ∧ PoD X.K X.mg E G H Q (mNewD chk m Γ)) := by
  obtain ⟨f, fd, ps, hm, hmg, F, hb⟩ := D.ex
  refine pe_of (pe_make hm F hr hg hmg hb .nil hx (pa_cons he pa_nil hst) (he := hst) (hpl := hpl)) fun σ H Q ⟨B, Γ, G, sr, po⟩ => ?_
  refine ⟨B, Γ, G, sr, ?_⟩
  unfold mNewD at po
  cases e1 : m Γ with
  | no => rw [e1] at po; exact po.elim
  | ex c => rw [e1] at po; exact po
  | ok d =>
    rw [e1, R.bind_ok] at po
    intro v G1 H1 g1 dv x dx hx hdx ne
    have l1 : Le H1 (upd (upd H1 dx (.own x)) x (.ins (dkC X.K) dx [])) := fun b u eb => by
      have n1 : b ≠ x := fun z => by rw [z, hx] at eb; cases eb
      have n2 : b ≠ dx := fun z => by rw [z, hdx] at eb; cases eb
      rw [upd_ne n1, upd_ne n2]
      exact eb
    refine ⟨G1, H1, x, dx, v, d, rfl, ⟨g1.s, l1, hx, hdx, upd_same, by rw [upd_ne ne, upd_same], dv, D.dc⟩, ?_⟩
    cases e2 : chk [d] with
    | no => rw [e2] at po; exact po.elim
    | ex c => rw [e2] at po; exact fun H' l => po H' (le_trans g1.h l)
    | ok r =>
      rw [e2] at po
      exact fun G' H' q g k b => ⟨rfl, po x G' H' q (g1.trans g) k fun c hc => le_none g1.h (b c hc)⟩
/-- .. known to all at once -/
def mMakeD (chk : List PyData → R PyData) (m : M) : M := fun Γ => (mNewD chk m Γ).bind fun d => .ok (dskD (deskOf d))
theorem Dk.alone {K : PySem.W.Frag} {G H : Hp} {a : Addr} {D : ObD} {q : Q3} (k : Dk K G H a D q) : Dks K G H [(a, D)] (fun _ => q) :=
  ⟨fun p hp => by rw [List.mem_singleton.mp hp]; exact k, fun p hp p2 hp2 ne => absurd (by rw [List.mem_singleton.mp hp, List.mem_singleton.mp hp2]) ne⟩
theorem inC_alone {a : Addr} {D : ObD} {q : Q3} {b : Addr} : InC [(a, D)] (fun _ => q) b ↔ Cell a q b :=
  ⟨fun ⟨p, hp, h⟩ => by rw [List.mem_singleton.mp hp] at h; exact h, fun h => ⟨_, List.mem_singleton.mpr rfl, h⟩⟩
theorem se_makeD {k : Nat} {chk : List PyData → R PyData} {p : Pos} (D : MkD X.prog X.w X.K X.mg X.base k chk) (hr : Room (k + 1) X.A) (hx : Passes (L2.CX X.prog X.w) X E) (he : SE X E e m) (hg : Gl X "Desk" := by exact rfl)
    (hst : starEach [e] X.env = (false, eval e X.env) :: starEach [] X.env := by rfl) (hpl : (backTo pos (starEach [] X.env)).any (·.1) = false := by rfl) :
    SE X E (.Call (.Name "Desk" p) [e] [] pos) (mMakeD chk m) :=
  pe_of (pe_newD D hr hx he hg hst hpl) fun σ H Q ⟨B, Γ, G, sr, po⟩ => ⟨B, Γ, G, sr, by
    unfold mMakeD at po
    cases e1 : mNewD chk m Γ with
    | no => rw [e1] at po; exact po
    | ex c => rw [e1] at po; exact po
    | ok d =>
      rw [e1] at po
      intro a G' H' q g k hb
      have dk := k.alone
      refine po (.ref a) (lif G' H' [(a, deskOf d)] fun _ => q) H' ⟨le_trans g.g dk.lif_le, g.h, fun b u eb => ?_, fun b h1 h2 => ?_⟩ (dk.dsk (List.mem_singleton.mpr rfl))
      · by_cases hc : InC [(a, deskOf d)] (fun _ => q) b
        · rw [lif_in hc] at eb; exact eb
        · rw [lif_out hc] at eb; exact g.s b u eb
      · rw [lif_out fun z => h1 (hb b (inC_alone.mp z))]
        exact g.fr b h1 h2⟩
end
/-! ### try .. except X as e: return (w, the class) -/
def mTryW (names : List Str) (wd : Str) (k : Str → Nat) (mb : MW) : MW := fun Γ W => match mb Γ W with
  | .ex c W1 => if c ∈ names then .rt (.tuple [.str wd, .int (k c : Nat)]) W1 else .no
  | .nx Γ1 W1 => .nx Γ1 W1
  | .rt d W1 => .rt d W1
  | _ => .no
abbrev TT (wd : Str) (j : Nat) : (V → Hp → Prop) → Hp → Prop := fun rt H => ∀ H' p, Le H H' → H p = none → H' p = some (.tup [.str wd, .int (j : Nat)]) → rt (.ref p) H'
theorem tt_mono {wd : Str} {j : Nat} (D : V → Hp → Prop) (H H' : Hp) (h : TT wd j D H) (l : Le H H') : TT wd j D H' := fun H2 p l2 hp e => h H2 p (le_trans l l2) (le_none l hp) e
section
variable {X : Cx} {E : XK} {names : List Str} {i : Nat} {n x wd : Str} {b₀ : Stmt} {body suite : List Stmt} {mb : MW} {k : Str → Nat} {np pos pos' : Pos}
theorem hd_retT {e : Expr} {kk k2 : Nat} {p1 p2 : Pos} {P : L2.St → Hp → Prop} {j : Nat} (h : PE X e (fun σ H Q => P σ H ∧ ∀ H', Le H H' → Q (.int (j : Nat)) H'))
    (hs : starEach [.Constant (.str wd) kk p1, e] X.env = (false, eval (.Constant (.str wd) kk p1) X.env) :: starEach [e] X.env := by rfl) (hs2 : starEach [e] X.env = (false, eval e X.env) :: starEach [] X.env := by rfl) :
    PSs X [.Return (some (.Tuple [.Constant (.str wd) kk p1, e] k2 p2)) pos] (fun D σ H => P σ H ∧ TT wd j D.rt H) :=
  pss_of (pss_one (ps_ret (pe_tup (pa_cons pe_str (pa_cons h pa_nil hs2) hs)))) fun D σ H ⟨q1, q2⟩ => by
    refine ⟨q1, fun H' l => ⟨sz_of (by show 2 ≤ 100000; decide), fun p hp => ?_⟩⟩
    exact q2 _ p (le_trans l (le_upd hp)) (le_none l hp) upd_same
theorem ws_try (hex : Exs X.K X.mg x names) (hs : X.stack = X.env :: X.outer) (hf : X.env.frame = some X.env.locals) (hN : X.N.Nodup) (hi : X.N[i]? = some n) (hln : X.env.kindOf n = some .local) (hg : Gl X x) (hd : (x == ("__debug__" : Str)) = false)
    (tk : Takes X (fun _ _ _ _ => False))
    (hb : ∀ (E' : XK) (pn : List (Addr × Obj)) (xe : Value → Shared → Prop), Takes (X.tr pn xe) (fun cls d _ H => E' cls d H) → PassesOwn (model X.prog X.w) X.A X.env xe → WB (X.tr pn xe) E' body mb)
    (hh : ∀ c ∈ names, ∀ (a : Addr) (oe : Obj) (pn : List (Addr × Obj)), InS X oe names c → PSs (X.suite a ((a, oe) :: pn)) (b₀ :: suite) (fun D σ H => P0 a i X.N.length σ H ∧ TT wd (k c) D.rt H)) :
    WS X E (.Try body [.ExceptHandler (some (.Name x np)) (some n) (b₀ :: suite) pos'] [] [] pos) (mTryW names wd k mb) := by
  obtain ⟨B, hB, hx⟩ := hex.ex
  refine ps_of (ps_try_as (c := .ref B) (i := i) (tb := fun W D σ H => tSW X.K X.mg (fun cls d H => ∀ σ : L2.St, σ.length = X.N.length → W cls d σ H) mb D σ H) (Wout := fun _ _ _ _ => False)
    (ts := fun a cls d D σ H => ∃ c, c ∈ names ∧ cls = cV X.mg c ∧ d = none ∧ P0 a i X.N.length σ H ∧ TT wd (k c) D.rt H) hs hf hN hi hln ⟨hg, hd, .inl hB⟩ tk ?_ ?_) ?_
  · intro W pn xe t po
    exact hb _ pn xe (fun u s' ⟨a, B', sI, pins, σ, H, cls, d, e, I, nb, up, sky, na, os, ag, w⟩ => t u s' ⟨a, B', sI, pins, σ, H, cls, d, e, I, nb, up, sky, na, os, ag, w σ I.len⟩) po
  · intro a oe cls d pn hz hfl
    refine ⟨fun pins s σ H D I q => ?_⟩
    obtain ⟨c, hc, rfl, rfl, q1, q2⟩ := q
    obtain ⟨Dc, g1, g2, g3, g4⟩ := hx c hc
    have e1 : cV X.mg c = .ref Dc := by unfold cV; rw [g1]; rfl
    rw [e1] at hz
    exact (hh c hc a oe pn ⟨Dc, g2, hz, hfl, g4⟩).run pins s σ H D I ⟨q1, q2⟩
  · rintro D σ H ⟨G0, H0, G, Γ, W, qs, s, po⟩
    unfold mTryW at po
    refine ⟨G0, H0, G, Γ, W, qs, s, ?_⟩
    cases e : mb Γ W with
    | nx Γ1 W1 => rw [e] at po; exact po
    | rt d W1 => rw [e] at po; exact po
    | bk Γ1 W1 => rw [e] at po; exact po.elim
    | ct Γ1 W1 => rw [e] at po; exact po.elim
    | al W1 f => rw [e] at po; exact po.elim
    | no => rw [e] at po; exact po.elim
    | ex c W1 =>
      rw [e] at po
      dsimp only at po
      split at po
      · rename_i hc
        intro G' H' qs' g dks bs σ2 hl
        obtain ⟨Dc, g1, g2, g3, g4⟩ := hx c hc
        have e1 : cV X.mg c = .ref Dc := by unfold cV; rw [g1]; rfl
        have hlt : i < σ2.length := by
          rw [hl]
          exact (List.getElem?_eq_some_iff.mp hi).1
        refine ⟨true, by rw [e1]; exact g3, fun _ a ha => ⟨c, hc, rfl, rfl, ⟨List.getElem?_set_self hlt, by rw [List.length_set]; exact hl⟩, fun H2 p l2 hp0 hp => ?_⟩, fun z => nomatch z⟩
        have gp : G' p = none := le_none g.s hp0
        have lg : Le G' (upd G' p (.tup [.str wd, .int (k c : Nat)])) := le_upd gp
        refine po (.ref p) (upd G' p (.tup [.str wd, .int (k c : Nat)])) H2 qs' ⟨le_trans g.g lg, le_trans g.h l2, (le_trans g.s l2).share hp, fun b h1 h2 => ?_⟩ (.tup (.inl (.inl upd_same)) (.cons (.str _) (.cons (.int _) .nil))) (dks.stay lg (fun b hb => ?_) fun b hb => ?_) bs
        · rw [upd_ne fun z => by rw [z] at h1; exact h1 (le_none g.h hp0)]
          exact g.fr b h1 h2
        · cases eb : H' b with
          | none => exact absurd eb (dks.on hb)
          | some u => exact l2 b u eb
        · rw [upd_ne fun z => dks.on hb (by rw [z]; exact hp0)]
          exact dks.off hb
      · exact po.elim
end
end PD

/-! The data layer: a new desk among several stores; two lists under second names. -/
namespace PD
open PySem PySem.Spec PyProof.Rows L2
section
variable {K : PySem.W.Frag} {B G0 H0 G H G' H' : Hp} {σ : L2.St} {Γ : Gam} {W : Wd} {qs : Addr → Q3}
/-- a slot of which nothing is known any more -/
theorem SR.setX (s : SR K B G H σ Γ) (i : Nat) (x : Option V) : SR K B G H (σ.set i x) (Γ.set i .no) := by
  have old : ∀ j, gat (Γ.set i .no) j ≠ .no → j ≠ i ∧ gat (Γ.set i .no) j = gat Γ j ∧ (σ.set i x)[j]? = σ[j]? := fun j h => by
    have ji : j ≠ i := fun e => by
      subst e
      rw [gat_set] at h
      split at h
      · exact h rfl
      · rename_i z
        by_cases l : j < Γ.length
        · exact z ⟨rfl, l⟩
        · exact h (gat_ge (Nat.le_of_not_lt l))
    refine ⟨ji, ?_, List.getElem?_set_ne (Ne.symm ji)⟩
    rw [gat_set, if_neg (fun z => ji z.1)]
  refine ⟨s.sub, by simp [s.len], fun j d h => ?_, fun j ds h => ?_, fun j l ds es p h1 h2 a1 a2 => ?_, fun j ds p h a => ?_, fun j u h => ?_⟩
  · obtain ⟨_, e1, e2⟩ := old j (by rw [h]; simp)
    rw [e2]; exact s.val j d (e1 ▸ h)
  · obtain ⟨_, e1, e2⟩ := old j (by rw [h]; simp)
    rw [e2]; exact s.own j ds (e1 ▸ h)
  · obtain ⟨_, e1, e2⟩ := old j (by rw [h1]; simp)
    obtain ⟨_, e3, e4⟩ := old l (by rw [h2]; simp)
    rw [e2] at a1; rw [e4] at a2
    exact s.inj j l ds es p (e1 ▸ h1) (e3 ▸ h2) a1 a2
  · obtain ⟨_, e1, e2⟩ := old j (by rw [h]; simp)
    rw [e2] at a
    exact s.nw j ds p (e1 ▸ h) a
  · obtain ⟨_, e1, e2⟩ := old j (by rw [h]; simp)
    rw [e2]
    exact s.adr j u (e1 ▸ h)
/-- a slot that holds an address -/
theorem SR.setA (s : SR K B G H σ Γ) (i : Nat) (a : Addr) : SR K B G H (σ.set i (some (.ref a))) (Γ.set i (.ad a)) := by
  have t := s.setX i (some (.ref a))
  have gg : ∀ j, gat (Γ.set i (.ad a)) j = gat (Γ.set i .no) j ∨ (j = i ∧ i < Γ.length ∧ gat (Γ.set i (.ad a)) j = .ad a) := fun j => by
    rw [gat_set, gat_set]
    split
    · rename_i z; exact .inr ⟨z.1, z.2, rfl⟩
    · exact .inl rfl
  refine ⟨t.sub, by rw [t.len]; simp, fun j d h => ?_, fun j ds h => ?_, fun j l ds es p h1 h2 a1 a2 => ?_, fun j ds p h a1 => ?_, fun j u h => ?_⟩
  · rcases gg j with e | ⟨_, _, e⟩
    · exact t.val j d (e ▸ h)
    · rw [e] at h; cases h
  · rcases gg j with e | ⟨_, _, e⟩
    · exact t.own j ds (e ▸ h)
    · rw [e] at h; cases h
  · rcases gg j with e | ⟨_, _, e⟩
    · rcases gg l with e' | ⟨_, _, e'⟩
      · exact t.inj j l ds es p (e ▸ h1) (e' ▸ h2) a1 a2
      · rw [e'] at h2; cases h2
    · rw [e] at h1; cases h1
  · rcases gg j with e | ⟨_, _, e⟩
    · exact t.nw j ds p (e ▸ h) a1
    · rw [e] at h; cases h
  · rcases gg j with e | ⟨e1, e2, e⟩
    · exact t.adr j u (e ▸ h)
    · rw [e] at h; cases h
      subst e1
      exact List.getElem?_set_self (by rw [s.len]; exact e2)
theorem SWd.setA (s : SWd K G0 H0 G H σ Γ W qs) (i : Nat) (a : Addr) : SWd K G0 H0 G H (σ.set i (some (.ref a))) (Γ.set i (.ad a)) W qs := s.up ⟨s.low.sr.setA i a, s.low.gr⟩
theorem SWd.mut (s : SWd K G0 H0 G H σ Γ W qs) {i : Nat} {p : Addr} {ys : List V} {ds es : List PyData} (hi : gat Γ i = .own ds) (hp : σ[i]? = some (some (.ref p))) (d : DqAll K G ys es) : SWd K G0 H0 G (upd H p (.lst ys)) σ (Γ.set i (.own es)) W qs :=
  s.up (own_mut (xs := []) s.low hi hp d)
end
theorem ssetAll_comm (i : Nat) (x : Option V) : ∀ (is : List Nat) (xs : List V) (σ : L2.St), i ∉ is → ssetAll is xs (σ.set i x) = (ssetAll is xs σ).set i x
  | [], _, _, _ => rfl
  | j :: is, [], _, _ => rfl
  | j :: is, y :: xs, σ, h => by
    have hj : i ≠ j := fun e => h (by rw [e]; exact List.mem_cons_self)
    show ssetAll is xs ((σ.set i x).set j (some y)) = _
    rw [List.set_comm _ _ hj, ssetAll_comm i x is xs _ fun m => h (List.mem_cons_of_mem _ m)]
    rfl
theorem gsetAll_comm (i : Nat) (x : Sl) : ∀ (is : List Nat) (xs : List Sl) (σ : Gam), i ∉ is → gsetAll is xs (σ.set i x) = (gsetAll is xs σ).set i x
  | [], _, _, _ => by simp [gsetAll]
  | j :: is, [], _, _ => by simp [gsetAll]
  | j :: is, y :: xs, σ, h => by
    have hj : i ≠ j := fun e => h (by rw [e]; exact List.mem_cons_self)
    show gsetAll is xs ((σ.set i x).set j y) = _
    rw [List.set_comm _ _ hj, gsetAll_comm i x is xs _ fun m => h (List.mem_cons_of_mem _ m)]
    rfl
/-! ### a, b, c = Desk(e), .. -/
def tSN (K : PySem.W.Frag) (mg : Str → Option Value) (E : XK) (chk : List PyData → R PyData) (m : M) (its : List Pi) (i0 : Nat) (is : List Nat) (mr : MW) : TS := fun D σ H => ∃ G0 H0 G Γ, SZ K G0 H0 G H σ Γ ∧ ∃ d ss, mNewD chk m Γ = .ok d ∧ mPis its Γ = .ok ss ∧
  ∀ a, PoW K mg E G0 H0 D (mr (gsetAll (i0 :: is) (.ad a :: ss) Γ) [(a, deskOf d)])
section
variable {X : Cx} {E : XK} {e : Expr} {m : M} {pos : Pos}
theorem wb_newpar {k : Nat} {chk : List PyData → R PyData} {i0 : Nat} {is : List Nat} {ts vs : List Expr} {its : List Pi} {rest : List Stmt} {mr : MW} {p dpos pt : Pos} {kt k2 pt2} (D : MkD X.prog X.w X.K X.mg X.base k chk) (hr : Room (k + 1) X.A) (hx : Passes (L2.CX X.prog X.w) X E) (he : SE X E e m)
    (hc : X.calm = true) (hgs : SNs X ts (i0 :: is)) (ha : SP2 X E vs its) (hl2 : its.length = is.length) (hni : i0 ∉ is) (hz : is.length ≤ 1000) (hr2 : WB X E rest mr) (hg : Gl X "Desk" := by exact rfl)
    (hst : starEach [e] X.env = (false, eval e X.env) :: starEach [] X.env := by rfl) (hpl : (backTo dpos (starEach [] X.env)).any (·.1) = false := by rfl)
    (hsA : starEach (.Call (.Name "Desk" p) [e] [] dpos :: vs) X.env = (false, eval (.Call (.Name "Desk" p) [e] [] dpos) X.env) :: starEach vs X.env := by rfl)
    (hn : (assignEach ts X.env).length = (i0 :: is).length := by rfl) (hstt : (assignEach ts X.env).findIdx? (·.1) = none := by rfl)
    (hs : swapsWithSole [.Tuple ts kt pt] (.Tuple (.Call (.Name "Desk" p) [e] [] dpos :: vs) k2 pt2) pos.line X.env = pure false := by rfl) (hw : swappedStores [.Tuple ts kt pt] (.Tuple (.Call (.Name "Desk" p) [e] [] dpos :: vs) k2 pt2) X.env = pure none := by rfl)
    (h1 : (assignEach [.Tuple ts kt pt] X.env).map (·.2) = [assign (.Tuple ts kt pt) X.env] := by rfl) :
    PSs X (.Assign [.Tuple ts kt pt] (.Tuple (.Call (.Name "Desk" p) [e] [] dpos :: vs) k2 pt2) pos :: rest) (tSN X.K X.mg E chk m its i0 is mr) :=
  pss_of (pss_cons (ps_asg (pe_tup (pa_cons (pe_newD D hr hx he hg hst hpl) ha hsA)) (pg_tup hc hgs.pg hn hstt) hs hw h1) hr2) fun D σ H ⟨G0, H0, G, Γ, s, d, ss, em, ei, po⟩ => by
    refine ⟨H0, Γ, G, s.sr, ?_⟩
    rw [em]
    intro a G1 H1 q g k hb
    have sw : SWd X.K G0 H0 G1 H1 σ Γ [(a, deskOf d)] (fun _ => q) := by
      refine ⟨s.go g, k.alone, fun b hc => le_none s.gr.h (hb b (inC_alone.mp hc)), fun i es p h1 h2 hc => ?_⟩
      obtain ⟨p', xs, e1, e2, _⟩ := s.sr.own i es h1
      rw [h2] at e1; cases e1
      rw [hb p (inC_alone.mp hc)] at e2; cases e2
    have t : tS X.K X.mg E (mPar is [] its) { nx := fun σ' H' => ∃ G' qs, SWd X.K G0 H0 G' H' σ' (gsetAll is ss Γ) [(a, deskOf d)] qs, rt := fun _ _ => False } σ H1 := by
      refine tS_up ⟨G0, H0, G1, Γ, [(a, deskOf d)], fun _ => q, sw, ?_⟩
      unfold mUp mPar
      rw [fz_nil, ei]
      exact fun σ' G' H' qs' s' => ⟨G', qs', s'⟩
    refine tPi_len (tPi_mono (par_core t) fun xs H2 q2 el => ?_)
    refine ⟨sz_of (by show xs.length + 1 ≤ 100000; omega), fun pp hp => ?_⟩
    obtain ⟨G', qs', s'⟩ := q2 _ (le_upd hp) el
    refine ⟨pp, .ref a :: xs, rfl, .inl (.inl upd_same), by simp; omega, by simp; omega, ?_⟩
    have e1 : ssetAll (i0 :: is) (.ref a :: xs) σ = (ssetAll is xs σ).set i0 (some (.ref a)) := ssetAll_comm i0 _ is xs σ hni
    have e2 : gsetAll (i0 :: is) (.ad a :: ss) Γ = (gsetAll is ss Γ).set i0 (.ad a) := gsetAll_comm i0 _ is ss Γ hni
    have po := po a
    rw [e1]
    rw [e2] at po
    exact ⟨G0, H0, G', _, _, qs', s'.setA i0 a, po⟩
end
/-! ### two own lists under second names -/
def calmW (W : Wd) : Bool := W.all fun p => calm p.2.p && (calmA p.2.dn && calmA p.2.un)
def soleOwn (Γ : Gam) (i j : Nat) : Bool := (List.range Γ.length).all fun n => match gat Γ n with
  | .own _ => n == i || n == j
  | _ => true
theorem soleOwn_of {Γ : Gam} {i j n : Nat} {es : List PyData} (h : soleOwn Γ i j = true) (e : gat Γ n = .own es) : n = i ∨ n = j := by
  have hn := gat_lt (Γ := Γ) (i := n) (by rw [e]; simp)
  have := List.all_eq_true.mp h n (List.mem_range.mpr hn)
  rw [e] at this
  simpa using this
def als (Γ : Gam) (id iu ku kk : Nat) (us ks : List PyData) : Gam := ((fz [id, iu] Γ).set ku (.v (.list us))).set kk (.v (.list ks))
def mAlias (t : Gam → R Bool) (t2 : Gam → Wd → RW Bool) (t3 : Gam → R Bool) (id iu ku kk ip : Nat) : MW := fun Γ W => match t Γ, gat Γ id, gat Γ iu, gat Γ ip with
  | .ok b, .own dd, .own du, .v pr => if (soleOwn Γ id iu && (decide (ku < Γ.length) && decide (kk < Γ.length))) = true then (match t2 (als Γ id iu ku kk (if b = true then dd else du) (if b = true then du else dd)) W with
    | .ok true W1 => .rt (.bool false) W1
    | .ok false W1 => if calmW W1 = true then (match t3 (als Γ id iu ku kk (if b = true then dd else du) (if b = true then du else dd)) with
      | .ok false => .nx ((Γ.set ku .no).set kk .no) W1
      | .ok true => match (if b = true then dd else du).getLast? with
        | some x => if (if b = true then du else dd).length < 100000 then .nx (((((Γ.set ku .no).set kk .no).set (if b = true then iu else id) (.own ((if b = true then du else dd) ++ [pr]))).set (if b = true then id else iu) (.own (if b = true then dd else du).dropLast)).set ip (.v x)) W1 else .no
        | none => .no
      | _ => .no) else .no
    | _ => .no) else .no
  | _, _, _, _ => .no
section
variable {K : PySem.W.Frag} {G0 H0 G H G' H' : Hp} {σ : L2.St} {Γ Γ2 : Gam} {W W1 : Wd} {qs qs1 : Addr → Q3}
/-- the lists are the slots' own again -/
theorem SWd.unfz (s : SWd K G0 H0 G H σ Γ W qs) {σ2 : L2.St} (t : SWd K G0 H0 G' H' σ2 Γ2 W1 qs1) (l : Le G G') {id iu ku kk : Nat} {x y : Option V} (hσ : σ2 = (σ.set ku x).set kk y) (so : soleOwn Γ id iu = true) {pd pu : Addr} {xd xu : List V} {dd du : List PyData}
    (hd : gat Γ id = .own dd) (hu : gat Γ iu = .own du) (sd : σ[id]? = some (some (.ref pd))) (su : σ[iu]? = some (some (.ref pu))) (gd : G' pd = some (.lst xd)) (gu : G' pu = some (.lst xu)) (ad : DqAll K G xd dd) (au : DqAll K G xu du) (hc : calmW W1 = true) :
    ∃ G3, SWd K G0 H0 G3 H' σ2 ((Γ.set ku .no).set kk .no) W1 qs1 := by
  classical
  refine ⟨fun b => if b = pd ∨ b = pu then none else G' b, ?_⟩
  generalize eG : (fun b => if b = pd ∨ b = pu then none else G' b : Hp) = G3
  have gin : ∀ {b}, b = pd ∨ b = pu → G3 b = none := fun {b} h => by rw [← eG]; exact if_pos h
  have gout : ∀ {b}, ¬ (b = pd ∨ b = pu) → G3 b = G' b := fun {b} h => by rw [← eG]; exact if_neg h
  obtain ⟨pd', _, d1, d2, d3, _⟩ := s.sz.sr.own id dd hd
  rw [sd] at d1; cases d1
  obtain ⟨pu', _, u1, u2, u3, _⟩ := s.sz.sr.own iu du hu
  rw [su] at u1; cases u1
  have lg : Le G G3 := fun b u e => by
    rw [gout fun z => by rcases z with z | z <;> rw [z] at e
                         · rw [d3] at e; cases e
                         · rw [u3] at e; cases e]
    exact l b u e
  have l3 : Le G3 G' := fun b u e => by
    by_cases z : b = pd ∨ b = pu
    · rw [gin z] at e; cases e
    · rw [gout z] at e; exact e
  have sx := (s.sz.sr.setX ku x).setX kk y
  rw [← hσ] at sx
  have old : ∀ {j es}, gat ((Γ.set ku .no).set kk .no) j = .own es → gat Γ j = .own es := fun {j es} h => by
    rw [gat_set] at h
    split at h
    · cases h
    · rw [gat_set] at h
      split at h
      · cases h
      · exact h
  have same : ∀ {j es p}, gat ((Γ.set ku .no).set kk .no) j = .own es → σ2[j]? = some (some (.ref p)) → (p = pd ∧ es = dd) ∨ (p = pu ∧ es = du) := fun {j es p} h1 h2 => by
    obtain ⟨p', xs, e1, e2, _⟩ := sx.own j es h1
    rw [h2] at e1; cases e1
    have e3 : σ[j]? = some (some (.ref p)) := by
      have nk : j ≠ kk := fun z => by
        subst z
        rw [gat_set] at h1
        split at h1
        · cases h1
        · rename_i w
          have := gat_lt (Γ := Γ.set ku .no) (i := j) (by rw [h1]; simp)
          exact w ⟨rfl, this⟩
      have nu : j ≠ ku := fun z => by
        subst z
        rw [gat_set, if_neg (fun z => nk z.1), gat_set] at h1
        split at h1
        · cases h1
        · rename_i w
          have := gat_lt (Γ := Γ) (i := j) (by rw [h1]; simp)
          exact w ⟨rfl, this⟩
      rw [hσ, List.getElem?_set_ne (Ne.symm nk), List.getElem?_set_ne (Ne.symm nu)] at h2
      exact h2
    have h0 := old h1
    rcases soleOwn_of so h0 with z | z
    · subst z
      rw [hd] at h0; cases h0
      rw [sd] at e3; cases e3
      exact .inl ⟨rfl, rfl⟩
    · subst z
      rw [hu] at h0; cases h0
      rw [su] at e3; cases e3
      exact .inr ⟨rfl, rfl⟩
  have cal : ∀ {v d}, Dq K G' v d → calm d = true → Dq K G3 v d := fun h c => calm_dq (fun b u e hh => by
    rw [gout fun z => by rcases z with z | z <;> rw [z] at e
                         · rw [gd] at e; cases e; cases hh
                         · rw [gu] at e; cases e; cases hh]
    exact e) h c
  have cala : ∀ {v d}, DqAll K G' v d → calmA d = true → DqAll K G3 v d := fun h c => calm_dqa (fun b u e hh => by
    rw [gout fun z => by rcases z with z | z <;> rw [z] at e
                         · rw [gd] at e; cases e; cases hh
                         · rw [gu] at e; cases e; cases hh]
    exact e) h c
  refine ⟨⟨⟨le_trans l3 t.sz.sr.sub, by rw [sx.len], fun j d h => ?_, fun j es h => ?_, sx.inj, sx.nw, sx.adr⟩, ⟨le_trans s.sz.gr.g lg, t.sz.gr.h, le_trans l3 t.sz.sr.sub, fun b h1 h2 => ?_⟩⟩, ⟨fun p hp => ?_, t.ds.dj⟩, t.base, fun j es p h1 h2 h => ?_⟩
  · obtain ⟨v, e1, e2⟩ := sx.val j d h
    exact ⟨v, e1, dp_le lg e2⟩
  · obtain ⟨p, xs, e1, _⟩ := sx.own j es h
    rcases same h e1 with ⟨z1, z2⟩ | ⟨z1, z2⟩
    · subst z1 z2
      exact ⟨p, xd, e1, t.sz.sr.sub _ _ gd, gin (.inl rfl), dpa_le lg ad⟩
    · subst z1 z2
      exact ⟨p, xu, e1, t.sz.sr.sub _ _ gu, gin (.inr rfl), dpa_le lg au⟩
  · exact le_none l3 (t.sz.gr.fr b h1 h2)
  · have k := t.ds.dk p hp
    have c := List.all_eq_true.mp hc p hp
    obtain ⟨c1, c2⟩ := Bool.and_eq_true_iff.mp c
    obtain ⟨c2, c3⟩ := Bool.and_eq_true_iff.mp c2
    obtain ⟨tp, e1, e2⟩ := k.ins
    obtain ⟨xs, e3, e4⟩ := k.l1
    obtain ⟨ys, e5, e6⟩ := k.l2
    exact ⟨k.cl, ⟨tp, e1, cal e2 c1⟩, k.own, ⟨xs, e3, cala e4 c2⟩, ⟨ys, e5, cala e6 c3⟩, k.ne, fun b hb => le_none l3 (k.off b hb)⟩
  · rcases same h1 h2 with ⟨z1, _⟩ | ⟨z1, _⟩
    · rw [z1] at h; rw [t.ds.off h] at gd; cases gd
    · rw [z1] at h; rw [t.ds.off h] at gu; cases gu
end
theorem alias_end {K : PySem.W.Frag} {mg : Str → Option Value} {E : XK} {G0 H0 G H : Hp} {σ : L2.St} {Γ : Gam} {W : Wd} {qs : Addr → Q3} {D : Ends} {a c ip : Nat} {dd du : List PyData} {pr x : PyData} {pd pu : Addr} (u : SWd K G0 H0 G H σ Γ W qs) (hu : gat Γ a = .own dd) (hk : gat Γ c = .own du) (hp : gat Γ ip = .v pr)
    (sa : σ[a]? = some (some (.ref pd))) (sc : σ[c]? = some (some (.ref pu))) (nac : a ≠ c) (hx : dd.getLast? = some x) (hz : du.length < 100000)
    (po : PoW K mg E G0 H0 D (.nx (((Γ.set c (.own (du ++ [pr]))).set a (.own dd.dropLast)).set ip (.v x)) W)) :
    ∃ xk xu xv y, σ[ip]? = some (some xv) ∧ H pu = some (.lst xk) ∧ xk.length < sizeLine ∧ pu ≠ pd ∧ H pd = some (.lst xu) ∧ xu[xu.length - 1]? = some y ∧ D.nx (σ.set ip (some y)) (upd (upd H pu (.lst (xk ++ [xv]))) pd (.lst xu.dropLast)) := by
  obtain ⟨pd', xd, d1, d2, d3, d4⟩ := u.sz.sr.own a dd hu
  rw [sa] at d1; cases d1
  obtain ⟨pu', xk, u1, u2, u3, u4⟩ := u.sz.sr.own c du hk
  rw [sc] at u1; cases u1
  obtain ⟨xv, v1, v2⟩ := u.sz.sr.val ip pr hp
  rw [List.getLast?_eq_getElem?] at hx
  obtain ⟨y, y1, y2⟩ := dpa_get d4 hx
  refine ⟨xk, xd, xv, y, v1, u2, Nat.lt_of_lt_of_le (by rw [dpa_len u4]; exact hz) (by decide : 100000 ≤ sizeLine), fun z => nac (u.sz.sr.inj a c dd du pd hu hk sa (by rw [sc, z])), d2, by rw [dpa_len d4]; exact y1, ?_⟩
  have m1 := u.mut (ys := xk ++ [xv]) (es := du ++ [pr]) hk sc (dpa_append u4 (dpa_one v2))
  have hu2 : gat (Γ.set c (.own (du ++ [pr]))) a = .own dd := by rw [gat_set, if_neg fun z => nac z.1]; exact hu
  have m2 := m1.mut (ys := xd.dropLast) (es := dd.dropLast) hu2 sa (by rw [List.dropLast_eq_take, List.dropLast_eq_take, dpa_len d4]; exact dpa_take _ d4)
  exact po _ _ _ _ (m2.setV (i := ip) y2)
section
variable {X : Cx} {E : XK} {mg : Str → Option Value} {t : Gam → R Bool} {t2 : Gam → Wd → RW Bool} {t3 : Gam → R Bool} {id iu ku kk ip : Nat} {c2 c3 : Expr} {st1 sa sb : Stmt} {pos pos2 pos3 pos4 : Pos} {q4 : Nat}
theorem wb_alias (h1 : PS X st1 (fun D σ H => ∃ pd pu, σ[id]? = some (some (.ref pd)) ∧ σ[iu]? = some (some (.ref pu)) ∧ tX X.K RB X.mg E t σ H fun b H1 => ∀ H', Le H1 H' → D.nx ((σ.set ku (some (.ref (if b = true then pd else pu)))).set kk (some (.ref (if b = true then pu else pd)))) H'))
    (h2 : WT X E c2 t2) (h3 : ST X E c3 t3)
    (hb : PSs X [sa, sb] (fun D σ H => ∃ pk pu xk xu x y, σ[kk]? = some (some (.ref pk)) ∧ σ[ku]? = some (some (.ref pu)) ∧ σ[ip]? = some (some x) ∧ H pk = some (.lst xk) ∧ xk.length < sizeLine ∧ pk ≠ pu ∧ H pu = some (.lst xu) ∧ xu[xu.length - 1]? = some y ∧
      D.nx (σ.set ip (some y)) (upd (upd H pk (.lst (xk ++ [x]))) pu (.lst xu.dropLast))))
    (n1 : id ≠ iu) (n2 : id ≠ ku) (n3 : id ≠ kk) (n4 : iu ≠ ku) (n5 : iu ≠ kk) (n6 : ku ≠ kk) (n7 : ip ≠ id) (n8 : ip ≠ iu) (n9 : ip ≠ ku) (n10 : ip ≠ kk) :
    WB X E [st1, .If c2 [.Return (some (.Constant (.bool false) q4 pos3)) pos2] [] pos, .If c3 [sa, sb] [] pos4] (mAlias t t2 t3 id iu ku kk ip) :=
  pss_of (pss_cons h1 (pss_cons (ps_if h2 (pss_one (ps_ret pe_bl)) pss_nil) (pss_one (ps_if (wt_up h3) hb pss_nil)))) fun D σ H ⟨G0, H0, G, Γ, W, qs, s, po⟩ => by
    unfold mAlias at po
    cases e1 : t Γ with
    | no => rw [e1] at po; exact po.elim
    | ex c => rw [e1] at po; exact po.elim
    | ok b =>
    cases e2 : gat Γ id with
    | no => rw [e1, e2] at po; exact po.elim
    | v d => rw [e1, e2] at po; exact po.elim
    | ad d => rw [e1, e2] at po; exact po.elim
    | own dd =>
    cases e3 : gat Γ iu with
    | no => rw [e1, e2, e3] at po; exact po.elim
    | v d => rw [e1, e2, e3] at po; exact po.elim
    | ad d => rw [e1, e2, e3] at po; exact po.elim
    | own du =>
    cases e4 : gat Γ ip with
    | no => rw [e1, e2, e3, e4] at po; exact po.elim
    | own d => rw [e1, e2, e3, e4] at po; exact po.elim
    | ad d => rw [e1, e2, e3, e4] at po; exact po.elim
    | v pr =>
      rw [e1, e2, e3, e4] at po
      dsimp only at po
      split at po
      rotate_left
      · exact po.elim
      rename_i so
      obtain ⟨so, lks⟩ := Bool.and_eq_true_iff.mp so
      obtain ⟨lku, lkk⟩ := Bool.and_eq_true_iff.mp lks
      have lku : ku < σ.length := by rw [s.sz.sr.len]; exact of_decide_eq_true lku
      have lkk : kk < σ.length := by rw [s.sz.sr.len]; exact of_decide_eq_true lkk
      obtain ⟨pd, xd, f1, f2, f3, f4⟩ := s.sz.sr.own id dd e2
      obtain ⟨pu, xu, g1, g2, g3, g4⟩ := s.sz.sr.own iu du e3
      have npu : pd ≠ pu := fun z => n1 (s.sz.sr.inj id iu dd du pd e2 e3 f1 (by rw [g1, z]))
      refine ⟨pd, pu, f1, g1, H0, Γ, G, s.sz.sr, ?_⟩
      rw [e1]
      intro b' Ga Ha ga eb Hb lb
      have eb : b' = b := eb
      subst eb
      have s1 := (s.go ga).grow lb
      obtain ⟨G1, lg1, tz⟩ := s1.low.fzs [id, iu]
      have s2 := s1.up tz
      have gid : gat (fz [id, iu] Γ) id = .v (.list dd) := by
        have a1 : fz1 id Γ = Γ.set id (.v (.list dd)) := by unfold fz1; rw [e2]
        have hl := gat_lt (Γ := Γ) (i := id) (by rw [e2]; simp)
        show gat (fz1 iu (fz1 id Γ)) id = _
        rw [a1]
        have a2 : gat (Γ.set id (.v (.list dd))) iu = .own du := by rw [gat_set, if_neg fun z => n1 z.1.symm]; exact e3
        have a3 : fz1 iu (Γ.set id (.v (.list dd))) = (Γ.set id (.v (.list dd))).set iu (.v (.list du)) := by
          conv => lhs; unfold fz1
          rw [a2]
        rw [a3, gat_set, if_neg fun z => n1 z.1, gat_set, if_pos ⟨rfl, hl⟩]
      have giu : gat (fz [id, iu] Γ) iu = .v (.list du) := by
        have a1 : fz1 id Γ = Γ.set id (.v (.list dd)) := by unfold fz1; rw [e2]
        have hl := gat_lt (Γ := Γ) (i := iu) (by rw [e3]; simp)
        show gat (fz1 iu (fz1 id Γ)) iu = _
        rw [a1]
        have a2 : gat (Γ.set id (.v (.list dd))) iu = .own du := by rw [gat_set, if_neg fun z => n1 z.1.symm]; exact e3
        have a3 : fz1 iu (Γ.set id (.v (.list dd))) = (Γ.set id (.v (.list dd))).set iu (.v (.list du)) := by
          conv => lhs; unfold fz1
          rw [a2]
        rw [a3, gat_set, if_pos ⟨rfl, by simpa using hl⟩]
      obtain ⟨vd, w1, w2⟩ := s2.sz.sr.val id _ gid
      rw [f1] at w1; cases w1
      obtain ⟨vu, w3, w4⟩ := s2.sz.sr.val iu _ giu
      rw [g1] at w3; cases w3
      have du1 : Dq X.K G1 (.ref (if b' = true then pd else pu)) (.list (if b' = true then dd else du)) := by
        cases b' with
        | true => exact w2
        | false => exact w4
      have dk1 : Dq X.K G1 (.ref (if b' = true then pu else pd)) (.list (if b' = true then du else dd)) := by
        cases b' with
        | true => exact w4
        | false => exact w2
      have hg1 : ∃ xs, G1 pd = some (.lst xs) ∧ DqAll X.K G1 xs dd := by
        cases w2 with
        | lst z1 z2 => exact ⟨_, z1, z2⟩
      have hg2 : ∃ xs, G1 pu = some (.lst xs) ∧ DqAll X.K G1 xs du := by
        cases w4 with
        | lst z1 z2 => exact ⟨_, z1, z2⟩
      obtain ⟨xd1, hd1, _⟩ := hg1
      obtain ⟨xu1, hu1, _⟩ := hg2
      -- the cells are as they were
      have kd : xd1 = xd := by
        have := s2.sz.sr.sub _ _ hd1
        have z := lb _ _ (ga.h _ _ f2)
        rw [z] at this; cases this; rfl
      have ku_ : xu1 = xu := by
        have := s2.sz.sr.sub _ _ hu1
        have z := lb _ _ (ga.h _ _ g2)
        rw [z] at this; cases this; rfl
      subst kd ku_
      have s3 := (s2.setV (i := ku) du1).setV (i := kk) dk1
      refine ⟨G0, H0, G1, _, W, qs, s3, ?_⟩
      have lGa : Le Ga G1 := lg1
      change PoE X.K RB X.mg E G0 H0 G1 _ (als Γ id iu ku kk (if b' = true then dd else du) (if b' = true then du else dd)) _ (t2 (als Γ id iu ku kk (if b' = true then dd else du) (if b' = true then du else dd)) W)
      change SWd X.K G0 H0 G1 Hb _ (als Γ id iu ku kk (if b' = true then dd else du) (if b' = true then du else dd)) W qs at s3
      cases q1 : t2 (als Γ id iu ku kk (if b' = true then dd else du) (if b' = true then du else dd)) W with
      | no => rw [q1] at po; exact po.elim
      | ex c W1 => rw [q1] at po; exact po.elim
      | al W1 f => rw [q1] at po; exact po.elim
      | ok c W1 =>
        rw [q1] at po
        intro c' G2 H2 qs2 l2 s4 ec
        have ec : c' = c := ec
        subst ec
        cases c' with
        | true =>
          rw [if_pos rfl]
          exact po (.bl false) G2 H2 qs2 s4.sz.gr (.bl false) s4.ds s4.base
        | false =>
          rw [if_neg Bool.false_ne_true]
          dsimp only at po
          split at po
          rotate_left
          · exact po.elim
          rename_i hcw
          show tE X.K RB X.mg E (mU t3) _ H2 _
          refine ⟨G0, H0, G2, _, W1, qs2, s4, ?_⟩
          unfold mU
          cases q2 : t3 (als Γ id iu ku kk (if b' = true then dd else du) (if b' = true then du else dd)) with
          | no => rw [q2] at po; exact po.elim
          | ex c => rw [q2] at po; exact po.elim
          | ok c3 =>
            rw [q2] at po
            intro c' G5 H5 qs5 l5 s5 ec
            have ec : c' = c3 := ec
            subst ec
            obtain ⟨G3, u⟩ := (s.go ga).unfz s5 (le_trans lGa (le_trans l2 l5)) rfl so e2 e3 f1 g1 (l5 _ _ (l2 _ _ hd1)) (l5 _ _ (l2 _ _ hu1)) (dpa_le ga.g f4) (dpa_le ga.g g4) hcw
            cases c' with
            | false =>
              rw [if_neg Bool.false_ne_true]
              exact po _ G3 H5 qs5 u
            | true =>
              rw [if_pos rfl]
              dsimp only at po
              cases q3 : (if b' = true then dd else du).getLast? with
              | none => rw [q3] at po; exact po.elim
              | some x =>
                rw [q3] at po
                dsimp only at po
                by_cases hz : (if b' = true then du else dd).length < 100000
                rotate_left
                · rw [if_neg hz] at po; exact po.elim
                rw [if_pos hz] at po
                have gk : ∀ {j : Nat} {z : Sl}, j ≠ ku → j ≠ kk → gat Γ j = z → gat ((Γ.set ku .no).set kk .no) j = z := fun {j z} h1 h2 h3 => by
                  rw [gat_set, if_neg fun w => h2 w.1, gat_set, if_neg fun w => h1 w.1]; exact h3
                have sk : ∀ {j : Nat} {x y : Option V}, j ≠ ku → j ≠ kk → ((σ.set ku x).set kk y)[j]? = σ[j]? := fun {j x y} h1 h2 => by
                  rw [List.getElem?_set_ne (Ne.symm h2), List.getElem?_set_ne (Ne.symm h1)]
                have hkk : ∀ {x y : Option V}, ((σ.set ku x).set kk y)[kk]? = some y := fun {x y} => List.getElem?_set_self (by simpa using lkk)
                have hku : ∀ {x y : Option V}, ((σ.set ku x).set kk y)[ku]? = some x := fun {x y} => by
                  rw [List.getElem?_set_ne (Ne.symm n6)]; exact List.getElem?_set_self lku
                cases b' with
                | true =>
                  obtain ⟨xk, xu, xv, y, z1, z2, z3, z4, z5, z6, z7⟩ := alias_end (ip := ip) u (gk n2 n3 e2) (gk n4 n5 e3) (gk n9 n10 e4) (by rw [sk n2 n3]; exact f1) (by rw [sk n4 n5]; exact g1) n1 q3 hz po
                  exact ⟨pu, pd, xk, xu, xv, y, hkk, hku, z1, z2, z3, z4, z5, z6, z7⟩
                | false =>
                  obtain ⟨xk, xu, xv, y, z1, z2, z3, z4, z5, z6, z7⟩ := alias_end (ip := ip) u (gk n4 n5 e3) (gk n2 n3 e2) (gk n9 n10 e4) (by rw [sk n4 n5]; exact g1) (by rw [sk n2 n3]; exact f1) (Ne.symm n1) q3 hz po
                  exact ⟨pd, pu, xk, xu, xv, y, hkk, hku, z1, z2, z3, z4, z5, z6, z7⟩
theorem ps_alias1 {c : Expr} {xd xu xk xs : Str} {p1 p2 p3 p4 p5 p6 p7 p8 p9 : Pos} {k1 k2 k3 : Nat} (hc : X.calm = true) (hN : X.N.Nodup) (ht : ST X E c t) (hgs : SNs X [.Name xs p1, .Name xk p2] [ku, kk])
    (hNid : X.N[id]? = some xd := by rfl) (hvid : Vis X.env.scope xd := by first | exact Or.inl rfl | exact Or.inr (Or.inl rfl) | exact Or.inr (Or.inr rfl)) (hdid : (xd == ("__debug__" : Str)) = false := by decide) (hcdid : (xd == ("__classdict__" : Str)) = false := by decide) (hNiu : X.N[iu]? = some xu := by rfl) (hviu : Vis X.env.scope xu := by first | exact Or.inl rfl | exact Or.inr (Or.inl rfl) | exact Or.inr (Or.inr rfl)) (hdiu : (xu == ("__debug__" : Str)) = false := by decide) (hcdiu : (xu == ("__classdict__" : Str)) = false := by decide)
    (hs1 : starEach [.Name xd p4, .Name xu p5] X.env = (false, eval (.Name xd p4) X.env) :: starEach [.Name xu p5] X.env := by rfl) (hs2 : starEach [.Name xu p5] X.env = (false, eval (.Name xu p5) X.env) :: starEach [] X.env := by rfl)
    (hs3 : starEach [.Name xu p7, .Name xd p8] X.env = (false, eval (.Name xu p7) X.env) :: starEach [.Name xd p8] X.env := by rfl) (hs4 : starEach [.Name xd p8] X.env = (false, eval (.Name xd p8) X.env) :: starEach [] X.env := by rfl)
    (hn : (assignEach [.Name xs p1, .Name xk p2] X.env).length = 2 := by rfl) (hst : (assignEach [.Name xs p1, .Name xk p2] X.env).findIdx? (·.1) = none := by rfl)
    (hs : swapsWithSole [.Tuple [.Name xs p1, .Name xk p2] k1 p3] (.IfExp c (.Tuple [.Name xd p4, .Name xu p5] k2 p6) (.Tuple [.Name xu p7, .Name xd p8] k3 p9) pos2) pos.line X.env = pure false := by rfl)
    (hw : swappedStores [.Tuple [.Name xs p1, .Name xk p2] k1 p3] (.IfExp c (.Tuple [.Name xd p4, .Name xu p5] k2 p6) (.Tuple [.Name xu p7, .Name xd p8] k3 p9) pos2) X.env = pure none := by rfl)
    (h1 : (assignEach [.Tuple [.Name xs p1, .Name xk p2] k1 p3] X.env).map (·.2) = [assign (.Tuple [.Name xs p1, .Name xk p2] k1 p3) X.env] := by rfl) :
    PS X (.Assign [.Tuple [.Name xs p1, .Name xk p2] k1 p3] (.IfExp c (.Tuple [.Name xd p4, .Name xu p5] k2 p6) (.Tuple [.Name xu p7, .Name xd p8] k3 p9) pos2) pos)
      (fun D σ H => ∃ pd pu, σ[id]? = some (some (.ref pd)) ∧ σ[iu]? = some (some (.ref pu)) ∧ tX X.K RB X.mg E t σ H fun b H1 => ∀ H', Le H1 H' → D.nx ((σ.set ku (some (.ref (if b = true then pd else pu)))).set kk (some (.ref (if b = true then pu else pd)))) H') :=
  ps_of (ps_asg (pe_ifExp ht (pe_tup (pa_cons (pe_var (i := id) hNid hvid hdid hcdid) (pa_cons (pe_var (i := iu) hNiu hviu hdiu hcdiu) pa_nil hs2) hs1)) (pe_tup (pa_cons (pe_var (i := iu) hNiu hviu hdiu hcdiu) (pa_cons (pe_var (i := id) hNid hvid hdid hcdid) pa_nil hs4) hs3))) (pg_tup hc hgs.pg hn hst) hs hw h1) fun D σ H ⟨pd, pu, e1, e2, B, Γ, G, sr, po⟩ => by
    refine ⟨B, Γ, G, sr, ?_⟩
    have z2 : (2 : Nat) ≤ sizeLine := sz_of (by decide)
    cases q : t Γ with
    | no => rw [q] at po; exact po
    | ex c => rw [q] at po; exact po
    | ok b =>
      rw [q] at po
      intro c G1 H1 g ec
      have ec : c = b := ec
      subst ec
      have po := po c G1 H1 g rfl
      cases c with
      | true =>
        rw [if_pos rfl]
        exact ⟨_, e1, _, e2, z2, fun p hp => ⟨p, _, rfl, .inl (.inl upd_same), rfl, rfl, po _ (le_upd hp)⟩⟩
      | false =>
        rw [if_neg Bool.false_ne_true]
        exact ⟨_, e2, _, e1, z2, fun p hp => ⟨p, _, rfl, .inl (.inl upd_same), rfl, rfl, po _ (le_upd hp)⟩⟩
theorem pss_alias3 {xs xk xp : Str} {p1 p2 p3 p4 p5 p6 p7 p8 : Pos} (hN : X.N.Nodup) (hu : ip ≠ kk)
    (hNkk : X.N[kk]? = some xk := by rfl) (hvkk : Vis X.env.scope xk := by first | exact Or.inl rfl | exact Or.inr (Or.inl rfl) | exact Or.inr (Or.inr rfl)) (hdkk : (xk == ("__debug__" : Str)) = false := by decide) (hcdkk : (xk == ("__classdict__" : Str)) = false := by decide) (hNku : X.N[ku]? = some xs := by rfl) (hvku : Vis X.env.scope xs := by first | exact Or.inl rfl | exact Or.inr (Or.inl rfl) | exact Or.inr (Or.inr rfl)) (hdku : (xs == ("__debug__" : Str)) = false := by decide) (hcdku : (xs == ("__classdict__" : Str)) = false := by decide) (hNip : X.N[ip]? = some xp := by rfl) (hvip : Vis X.env.scope xp := by first | exact Or.inl rfl | exact Or.inr (Or.inl rfl) | exact Or.inr (Or.inr rfl)) (hdip : (xp == ("__debug__" : Str)) = false := by decide) (hcdip : (xp == ("__classdict__" : Str)) = false := by decide) (hx : Loc X.env.scope xp := by first | exact .inl rfl | exact .inr rfl) (hf : X.fn xp = true ∨ X.env.scope.names.lookup xp = some .local := by first | exact .inl rfl | exact .inr rfl | assumption)
    (hbase : attributeBase (.Name xk p1) "append" X.env (eval (.Name xk p1) X.env) = eval (.Name xk p1) X.env := by rfl)
    (hfew : ((backTo p4 (starEach [.Name xp p3] X.env)).all (fun x => !x.1) && (backToKw p4 (keywordEach [] X.env)).all (fun x => x.1.isSome)
      && decide ([Expr.Name xp p3].length + ([] : List Keyword).length + (if ([] : List Keyword).isEmpty then 0 else 1) < 30)) = true := by rfl)
    (hline : (p2.endLine == p4.line) = true := by rfl) (hst : starEach [.Name xp p3] X.env = (false, eval (.Name xp p3) X.env) :: starEach [] X.env := by rfl) (hplain : (backTo p4 (starEach [] X.env)).any (·.1) = false := by rfl)
    (hs : swapsWith (.Call (.Attribute (.Name xk p1) "append" p2) [.Name xp p3] [] p4) none pos.line X.env = pure false := by rfl)
    (hbase2 : attributeBase (.Name xs p6) "pop" X.env (eval (.Name xs p6) X.env) = eval (.Name xs p6) X.env := by rfl)
    (hline2 : (p7.endLine == p8.line) = true := by rfl)
    (hs2 : swapsWith (.Call (.Attribute (.Name xs p6) "pop" p7) [] [] p8) (some (.Name xp p5)) pos2.line X.env = pure false := by rfl) :
    PSs X [.Expr (.Call (.Attribute (.Name xk p1) "append" p2) [.Name xp p3] [] p4) pos, .Assign [.Name xp p5] (.Call (.Attribute (.Name xs p6) "pop" p7) [] [] p8) pos2]
      (fun D σ H => ∃ pk pu xk xu x y, σ[kk]? = some (some (.ref pk)) ∧ σ[ku]? = some (some (.ref pu)) ∧ σ[ip]? = some (some x) ∧ H pk = some (.lst xk) ∧ xk.length < sizeLine ∧ pk ≠ pu ∧ H pu = some (.lst xu) ∧ xu[xu.length - 1]? = some y ∧
      D.nx (σ.set ip (some y)) (upd (upd H pk (.lst (xk ++ [x]))) pu (.lst xu.dropLast))) :=
  pss_of (pss_cons (ps_expr (pe_bm PySem.F.plainAttrs_list PySem.F.slot_list_append PySem.F.type_list_append mt_append (pe_var (i := kk) hNkk hvkk hdkk hcdkk) (pa_cons (pe_var (i := ip) hNip hvip hdip hcdip) pa_nil hst) hbase hfew hline hst hplain) hs)
    (pss_one (ps_set hN hNip hx (pe_bm0 PySem.F.plainAttrs_list PySem.F.slot_list_pop PySem.F.type_list_pop mt_pop (pe_var (i := ku) hNku hvku hdku hcdku) hbase2 hline2) hs2 hf))) fun D σ H ⟨pk, pu, xk, xu, x, y, e1, e2, e3, h1, h2, h3, h4, h5, q⟩ => by
    refine ⟨.ref pk, e1, .inl ⟨rfl, xk, .inl (.inl h1)⟩, x, e3, pk, xk, x, rfl, rfl, h1, h2, ?_⟩
    have h6 : upd H pk (.lst (xk ++ [x])) pu = some (.lst xu) := by rw [upd_ne (Ne.symm h3)]; exact h4
    exact ⟨.ref pu, e2, .inl ⟨rfl, xu, .inl (.inl h6)⟩, pu, xu, y, rfl, rfl, h6, h5, q⟩
end
end PD

/-! The data layer: what the head tells of the class Desk; a law with one desk. -/
namespace PD
open PySem PySem.Spec PyProof.Rows L2
def dskB (K : PySem.W.Frag) : Bool :=
  (PySem.W.findIn K (.ref (dkC K)) "__class__" == some (some (.builtin "object.__class__"))) && ((PySem.W.specialIn K (.builtin "object.__class__") "__get__" == some (some (.builtin "getset_descriptor.__get__"))) && ((PySem.W.takesIn K (.builtin "object.__class__") == some true) &&
  ((PySem.W.mroIn K (dkC K) (.type "object") == some true) && ((["int", "bool", "str", "tuple", "list"].all fun n => PySem.W.kitOne K (.ref (dkC K)) (.type n) == some false) && ((PySem.W.kitOne K (.ref (dkC K)) (.ref (dkC K)) == some true) && ((PySem.W.kitOne K (.type "tuple") (.ref (dkC K)) == some false) &&
  ((PySem.W.findIn K (.ref (dkC K)) "__ne__" == some (some (.builtin "object.__ne__"))) && (PySem.W.subIn K (.type "tuple") (.ref (dkC K)) == some false))))))))
theorem dsk_of {K : PySem.W.Frag} (cl : Cls K (dkC K)) (n1 : NoAttr K (dkC K) "present") (n2 : NoAttr K (dkC K) "done") (n3 : NoAttr K (dkC K) "undone") (h : dskB K = true) : DskC K := by
  unfold dskB at h
  simp only [Bool.and_eq_true, beq_iff_eq] at h
  obtain ⟨h1, h2, h3, h4, h5, h6, h7, h8, h9⟩ := h
  exact ⟨cl, n1, n2, n3, h1, h2, h3, h4, fun n hn => by simpa using List.all_eq_true.mp h5 n hn, h6, h7, h8, h9⟩
/-- all ends return True -/
def AllT : OutW → Prop
  | .rt d _ => d = .bool true
  | .al W f => ∀ a, (∀ p ∈ W, p.1 ≠ a) → AllT (f a)
  | _ => False
/-! ### a law: a first statement, a desk and others, the rest -/
def spN (K : PySem.W.Frag) (mg : Str → Option Value) (N : Nat) (m1 : MS) (chk : List PyData → R PyData) (m : M) (its : List Pi) (i0 : Nat) (is : List Nat) (mr : MW) : Sp := fun vs H Q E => ∃ G ds, Le G H ∧ DqAll K G vs ds ∧ ds.length = 1 ∧
  ∃ Γ1, m1 (ds.map .v ++ List.replicate (N - ds.length) .no) = .nx Γ1 ∧ ∃ d ss, mNewD chk m Γ1 = .ok d ∧ mPis its Γ1 = .ok ss ∧ (∀ a, AllT (mr (gsetAll (i0 :: is) (.ad a :: ss) Γ1) [(a, deskOf d)])) ∧ ∀ H', Q (.bl true) H'
theorem fnN_mk {P : Program} {w : World} {K : PySem.W.Frag} {mg : Str → Option Value} {base : Heap} {x : Str} {st st1 : Stmt} {rest : List Stmt} {f : Addr} {fd : FuncData} {N : List Str} {p0 : Str} {k : Nat} {m1 : MS} {chk : List PyData → R PyData} {m : M} {its : List Pi} {i0 : Nat} {is : List Nat} {mr : MW} (F : FnP K x st f fd) (S : FnScope N [p0] (defScope st)) (hl : 1 ≤ N.length)
    (hbd : defBody st = st1 :: rest)
    (h1 : ∀ (cdv : Value) (A : Around) (outer : List Env) (s : Shared) (H : Hp) (E : XK), Room k (A.deeper (envOfC x (defScope st) s.heap.objs.size f cdv)) → SS (cxOf (L2.CX P w) P w K mg base N x (defScope st) f cdv A outer s H E) E st1 m1)
    (h2 : ∀ (cdv : Value) (A : Around) (outer : List Env) (s : Shared) (H : Hp) (E : XK), Room k (A.deeper (envOfC x (defScope st) s.heap.objs.size f cdv)) → PSs (cxOf (L2.CX P w) P w K mg base N x (defScope st) f cdv A outer s H E) rest (tSN K mg E chk m its i0 is mr)) :
    FnOk P w K mg base (L2.CX P w) (k + 1) f fd [p0] (spN K mg N.length m1 chk m its i0 is mr) := by
  refine F.ok (sp := spN K mg N.length m1 chk m its i0 is mr) S (fun vs H Q E h => ?_) (fun cdv A outer s H vs Q E hr h => ?_)
  · obtain ⟨G, ds, _, d, e, _⟩ := h
    rw [dpa_len d, e]; rfl
  · obtain ⟨G, ds, l, dx, hn, Γ1, e1, d, ss, e2, e3, po, q⟩ := h
    have z := pss_cons (h1 cdv A outer s H E hr) (h2 cdv A outer s H E hr)
    rw [← hbd] at z
    refine ⟨_, z, G, H, G, _, sr_start (N := N) l dx (by rw [hn]; exact hl), ?_⟩
    rw [e1]
    intro σ' G' H' s'
    refine ⟨G, H, G', Γ1, s', d, ss, e2, e3, fun a => ?_⟩
    have po := po a
    generalize mr (gsetAll (i0 :: is) (.ad a :: ss) Γ1) [(a, deskOf d)] = o at po
    induction o with
    | rt d W =>
      have po : d = .bool true := po
      subst po
      intro x G2 H2 qs g dx2 _ _
      cases dx2
      exact q H2
    | al W f ih => exact fun c hc => ih c (po c hc)
    | nx Γ W => exact po.elim
    | bk Γ W => exact po.elim
    | ct Γ W => exact po.elim
    | ex c W => exact po.elim
    | no => exact po.elim
theorem sp_lawN {K : PySem.W.Frag} {mg : Str → Option Value} {N : Nat} {m1 : MS} {chk : List PyData → R PyData} {m : M} {its : List Pi} {i0 : Nat} {is : List Nat} {mr : MW} (H : Hp) (a : Addr) (ns : List Int) (hS : SqL K H a (ns.map V.int))
    (h : ∃ Γ1, m1 (.v (.dict (ns.map fun n => (.int n, .none))) :: List.replicate (N - 1) .no) = .nx Γ1 ∧ ∃ d ss, mNewD chk m Γ1 = .ok d ∧ mPis its Γ1 = .ok ss ∧ ∀ a, AllT (mr (gsetAll (i0 :: is) (.ad a :: ss) Γ1) [(a, deskOf d)])) :
    spN K mg N m1 chk m its i0 is mr [.ref a] H (fun v _ => v = .bl true) fun _ _ _ => False := by
  obtain ⟨Γ1, e1, d, ss, e2, e3, po⟩ := h
  refine ⟨H, [.dict (ns.map fun n => (.int n, .none))], fun _ _ e => e, .cons (.scr hS) .nil, rfl, Γ1, e1, d, ss, e2, e3, po, fun _ => rfl⟩
end PD

/-! The data layer: == and != of desks, isinstance(x, Desk). -/
namespace PD
open PySem PySem.Spec PyProof.Rows L2
/-! ### != by an own == -/
section
variable {prog : Program} {w : World} {A : Around} {E : Value → Shared → Prop} {s : Shared} {K : PySem.W.Frag} {x C L f : Addr} {h₀ : Heap} {m : Str → Option Value} {ox : Obj} {od : Option Obj} {b tb : Value}
theorem ifBound_ne {M : Model} {args : List Value} {Q : Option Value → Shared → Prop} (X : K.In s.heap) (I : PySem.W.InstAt s.heap x ox C od) (hs : PySem.W.findIn K (.ref C) "__ne__" = some (some (.builtin "object.__ne__")))
    (h : wpAny M A (call (.builtin "object.__ne__") (.ref x :: args)) (fun v => Q (some v)) E s) : wpAny M A (callSpecialIfBound? (.ref x) "__ne__" args) Q E s := by
  simp only [callSpecialIfBound?, bindSpecialIfBound?]
  refine wpAny_holding (wpAny_bind (wpAny_bind (wpAny_bind (I.type.here ((PySem.W.looks_findIn X hs).here ?_)))))
  refine wpAny_bind (wpAny_askSetting (wpAny_ite ?_))
  have fin : wpAny M A (call (.builtin "object.__ne__") ([.ref x] ++ args) >>= fun v => pure (some v)) Q E s := wpAny_bind (wpAny_mono h (fun v s' h' => wpAny_pure h') fun _ _ h' => h')
  split
  · exact wpAny_bind (wpAny_of_eq (F.cmp_object.ne.bind _) (wpAny_pure (by exact fin)))
  · exact wpAny_tryCatch (wpAny_bind (wpAny_of_eq (F.cmp_object.ne.bind _) (wpAny_pure (by exact fin))))
theorem entry_ne {M : Model} {Q : Fin → Shared → Prop} (hu : A.units < cLine) (X : K.In s.heap) (I : PySem.W.InstAt s.heap x ox C od) (hs : PySem.W.findIn K (.ref C) "__eq__" = some (some (.ref f))) (hf : PySem.W.isFn K (.ref f) = true)
    (h : wpAny M A (call (.ref f) [.ref x, b]) (fun v s' => ∃ c, v = .bool c ∧ Q (.done (.ret (.bool (!c)))) s') E s) : wpAny M A (Builtin.«object.__ne__» ⟨[.ref x, b], []⟩) Q E s := by
  unfold Builtin.«object.__ne__»
  refine wpAny_bind (wpAny_pure ?_)
  refine wpAny_bind (wpAny_cRoomFor hu ?_)
  refine wpAny_bind (m := callSpecialIfBound? (.ref x) (Str.ofString "__eq__") [b]) (PySem.W.ifBound_K X I hs hf (wpAny_mono h (fun v s' hv => ?_) fun _ _ e => e))
  obtain ⟨c, rfl, hq⟩ := hv
  refine wpAny_bind (m := truthy (.bool c)) (wpAny_truthy_bool ?_)
  exact wpAny_pure hq
theorem ne_K {Q : Value → Shared → Prop} (hu : A.units + 1 < cLine) (X : K.In s.heap) (I : PySem.W.InstAt s.heap x ox C od) (hb : PySem.W.Looks (model prog w) s.heap (typeOf b) tb) (hn : PySem.W.notFirst K C tb = true)
    (hne : PySem.W.findIn K (.ref C) "__ne__" = some (some (.builtin "object.__ne__"))) (hm : PySem.W.mroIn K C (.type "object") = some true)
    (hs : PySem.W.findIn K (.ref C) "__eq__" = some (some (.ref f))) (hf : PySem.W.isFn K (.ref f) = true)
    (h : wpAny (model prog w) A.in1 (call (.ref f) [.ref x, b]) (fun v s' => ∃ c, v = .bool c ∧ Q (.bool (!c)) s') E s) : wpAny (model prog w) A (richCompare .NotEq (.ref x) b) Q E s := by
  have one : wpAny (model prog w) A (tryCompare (.ref x) "__ne__" b) (fun r s' => ∃ c, r = some (.bool c) ∧ Q (.bool c) s') E s := by
    unfold tryCompare
    refine wpAny_bind (ifBound_ne X I hne (wpAny_call (codeAny_call_builtin PySem.F.cmp_object.ne.plain PySem.F.cmpEntry_ne (PySem.W.check_slot PySem.F.cmpKind_ne PySem.F.cmpSplit_ne (I.type.andThen (PySem.W.looks_mroIn X hm)) (PySem.F.cmpArgs_ne _ _) (entry_ne (A := A.in1) (by show A.units + 1 < cLine; exact hu) X I hs hf ?_)))))
    refine wpAny_mono h (fun v s' hv => ?_) fun _ _ e => e
    obtain ⟨c, rfl, hq⟩ := hv
    exact ⟨c, rfl, wpAny_pure ⟨_, rfl, hq⟩⟩
  unfold richCompare
  simp only [oneThing_ref, cmpInfo_NotEq]
  refine wpAny_holding (wpAny_bind (wpAny_cRoomFor (Nat.lt_of_succ_lt hu) ?_))
  refine wpAny_bind (I.type.here (wpAny_bind (hb.here ?_)))
  split
  · rename_i q
    have e : PySem.W.subIn K tb (.ref C) = some false := by
      rcases Bool.or_eq_true_iff.mp hn with e | e
      · rw [beq_iff_eq.mp e] at q; simp at q
      · exact beq_iff_eq.mp e
    refine wpAny_bind ((PySem.W.looks_subIn X e).here ?_)
    simp only [Bool.false_eq_true, if_false]
    refine wpAny_bind (wpAny_mono one (fun r s' z => ?_) fun _ _ e => e)
    obtain ⟨v, rfl, hq⟩ := z
    exact wpAny_pure hq
  · refine wpAny_bind (wpAny_pure ?_)
    simp only [Bool.false_eq_true, if_false]
    refine wpAny_bind (wpAny_mono one (fun r s' z => ?_) fun _ _ e => e)
    obtain ⟨v, rfl, hq⟩ := z
    exact wpAny_pure hq
end
/-! ### rules -/
/-- the own == of the class, with plain data -/
structure EqD (P : Program) (w : World) (K : PySem.W.Frag) (mg : Str → Option Value) (base : Heap) (k : Nat) (g : List PyData → R PyData) : Prop where
  m : Mn P w K mg base k "__eq__" 2 g
  dc : DskC K
theorem EqD.mono {P w K mg base} {j k : Nat} {g} (h : EqD P w K mg base j g) (l : j ≤ k) : EqD P w K mg base k g := ⟨h.m.mono l, h.dc⟩
/-- x == y, x a desk, y a desk or a tuple -/
def isTup : PyData → Bool
  | .tuple _ => true
  | _ => false
def dEqK (g : List PyData → R PyData) : PyData → PyData → R PyData := fun d e => if isDsk d = true ∧ (isDsk e = true ∨ isTup e = true) then (g [d, e]).bind fun r => (asB r).bind fun c => .ok (.bool c) else .no
def dNeK (g : List PyData → R PyData) : PyData → PyData → R PyData := fun d e => if isDsk d = true ∧ (isDsk e = true ∨ isTup e = true) then (g [d, e]).bind fun r => (asB r).bind fun c => .ok (.bool (!c)) else .no
section
variable {X : Cx} {E : XK}
/-- the type of such a y -/
theorem ty_second {pins : List (Addr × Obj)} {σ : L2.St} {G H : Hp} {s : Shared} {y : V} {v : Value} {e : PyData} (dc : DskC X.K) (I : Inv X pins σ H s) (ry : RelV y v) (l : Le G H) (dy : Dq X.K G y e) (h : isDsk e = true ∨ isTup e = true) :
    ∃ tb, PySem.W.Looks (model X.prog X.w) s.heap (typeOf v) tb ∧ PySem.W.notFirst X.K (dkC X.K) tb = true := by
  by_cases hd : isDsk e = true
  · obtain ⟨b, dx, l1, l2, tp, rfl, _, hi⟩ := dq_isDsk dy hd
    cases (show v = Value.ref b from ry)
    obtain ⟨mA, O, _⟩ := ins_get I.hok (l _ _ hi)
    obtain ⟨od, J, _⟩ := O.look
    exact ⟨_, J.type, by simp [PySem.W.notFirst]⟩
  · have ht : isTup e = true := by rcases h with h | h; exact absurd h hd; exact h
    cases dy with
    | @tup a xs ds h1 a1 =>
      cases (show v = Value.ref a from ry)
      obtain ⟨its, r, e1, z⟩ := I.tuple (sqt_le l h1)
      refine ⟨.type "tuple", ?_, ?_⟩
      · obtain ⟨o, e2, e3, _⟩ := e1
        exact (PySem.W.Looks.ld e2).andThen (by rw [e3]; exact .now)
      · simp [PySem.W.notFirst, dc.sT]
    | _ => cases ht
theorem od_eqK {k : Nat} {g : List PyData → R PyData} (D : EqD X.prog X.w X.K X.mg X.base k g) (hr : Room k X.A) (hx : Passes (L2.CX X.prog X.w) X E) : OD X E (compareOp .Eq) (dEqK g) := by
  intro pins s σ H x y v u Q I rx ry q
  obtain ⟨G, d, e, l, dx, dy, po⟩ := q
  obtain ⟨f, fd, ps, hm, hl, F, hb⟩ := D.m.ex
  unfold dEqK at po
  split at po
  rotate_left
  · exact po.elim
  rename_i hde
  obtain ⟨hd, he⟩ := hde
  obtain ⟨a, dx', l1, l2, tp, rfl, hcc, hi⟩ := dq_isDsk dx hd
  cases (show v = Value.ref a from rx)
  obtain ⟨mA, O, _⟩ := ins_get I.hok (l _ _ hi)
  obtain ⟨od, J, _⟩ := O.look
  obtain ⟨tb, t1, t2⟩ := ty_second D.dc I ry l dy he
  obtain ⟨m, hF⟩ := I.fr
  have sp : spD X.K X.mg 2 g [.ref a, y] H (fun z H' => ∃ c, z = .bl c ∧ Q (.bl c) H') E := by
    refine ⟨G, [d, e], l, .cons dx (.cons dy .nil), rfl, Po.bind po fun r z G2 H2 _ g2 dz po2 => ?_⟩
    cases dz with
    | bl c => exact ⟨c, rfl, Po.ok (d := PyData.bool c) po2 g2.s (.bl c)⟩
    | _ => exact po2.elim
  have FR := (FnOk.raw F hb .nil).imp fun vs H Q E (h : spD X.K X.mg 2 g vs H Q E) => by rw [List.append_nil]; exact h
  show wpAny _ _ (richCompare .Eq (.ref a) u) _ _ _
  refine PySem.W.cmp_K (op := .Eq) hr.units0 hF I.ok.mod.kin J t1 t2 hm.at_ hm.fn ?_
  refine wpAny_mono (wpAny_call (run_fnR (us := [.ref a, u]) (vs := [.ref a, y]) FR hr hx I (.cons rfl (.cons ry .nil)) sp)) (fun w' s' z => ?_) fun _ _ x => x
  obtain ⟨z', H', I', rz, c, rfl, qz⟩ := z
  cases (show w' = Value.bool c from rz)
  exact ⟨.bl c, H', I', rfl, qz⟩
theorem od_neK {k : Nat} {g : List PyData → R PyData} (D : EqD X.prog X.w X.K X.mg X.base k g) (hr : Room (k + 1) X.A) (hx : Passes (L2.CX X.prog X.w) X E) : OD X E (compareOp .NotEq) (dNeK g) := by
  intro pins s σ H x y v u Q I rx ry q
  obtain ⟨G, d, e, l, dx, dy, po⟩ := q
  obtain ⟨f, fd, ps, hm, hl, F, hb⟩ := D.m.ex
  unfold dNeK at po
  split at po
  rotate_left
  · exact po.elim
  rename_i hde
  obtain ⟨hd, he⟩ := hde
  obtain ⟨a, dx', l1, l2, tp, rfl, hcc, hi⟩ := dq_isDsk dx hd
  cases (show v = Value.ref a from rx)
  obtain ⟨mA, O, _⟩ := ins_get I.hok (l _ _ hi)
  obtain ⟨od, J, _⟩ := O.look
  obtain ⟨tb, t1, t2⟩ := ty_second D.dc I ry l dy he
  have sp : spD X.K X.mg 2 g [.ref a, y] H (fun z H' => ∃ c, z = .bl c ∧ Q (.bl (!c)) H') E := by
    refine ⟨G, [d, e], l, .cons dx (.cons dy .nil), rfl, Po.bind po fun r z G2 H2 _ g2 dz po2 => ?_⟩
    cases dz with
    | bl c => exact ⟨c, rfl, Po.ok (d := PyData.bool (!c)) po2 g2.s (.bl _)⟩
    | _ => exact po2.elim
  have FR := (FnOk.raw F hb .nil).imp fun vs H Q E (h : spD X.K X.mg 2 g vs H Q E) => by rw [List.append_nil]; exact h
  show wpAny _ _ (richCompare .NotEq (.ref a) u) _ _ _
  have hu : X.A.units + 1 < cLine := hu_of hr
  refine ne_K hu I.kIn J t1 t2 D.dc.ne D.dc.hm hm.at_ hm.fn ?_
  refine wpAny_mono (wpAny_call (SlX.run_at (us := [.ref a, u]) (ws := [.ref a, y]) FR hr.in1 I.env0.in1 hx I (.cons rfl (.cons ry .nil)) sp)) (fun w' s' z => ?_) fun _ _ x => x
  obtain ⟨z', H', I', rz, c, rfl, qz⟩ := z
  cases (show w' = Value.bool c from rz)
  exact ⟨c, rfl, .bl (!c), H', I', rfl, qz⟩
end
/-! isinstance(x, Desk) -/
section
variable {X : Cx} {E : XK} {e : Expr} {m : M} {pos : Pos}
def mIsiD (m : M) : M := fun Γ => (m Γ).bind fun d => if isDsk d = true ∨ isTup d = true then .ok (.bool (isDsk d)) else .no
@[simp] theorem ap_IsiD (m : M) (Γ : Gam) : mIsiD m Γ = (m Γ).bind fun d => if isDsk d = true ∨ isTup d = true then .ok (.bool (isDsk d)) else .no := rfl
theorem se_isiD {p p2 : Pos} (dc : DskC X.K) (hmg : X.mg "Desk" = some (.ref (dkC X.K))) (ha : SE X E e m) (hm : X.mg "isinstance" = none) (hg : Gl X "isinstance" := by exact rfl) (hg2 : Gl X "Desk" := by exact rfl)
    (he : starEach [e, .Name "Desk" p2] X.env = (false, eval e X.env) :: starEach [.Name "Desk" p2] X.env := by rfl) (he2 : starEach [.Name "Desk" p2] X.env = (false, eval (.Name "Desk" p2) X.env) :: starEach [] X.env := by rfl) (hpl : (backTo pos (starEach [.Name "Desk" p2] X.env)).any (·.1) = false := by rfl) :
    SE X E (.Call (.Name "isinstance" p) [e, .Name "Desk" p2] [] pos) (mIsiD m) :=
  pe_of (pe_callB call_isi hg hm PyProof.Rows.boot_isinstance (pa_cons ha (pa_cons (pe_glob (v := V.ref (dkC X.K)) hg2 hmg rfl (by decide)) pa_nil he2) he) (he := he) (hpl := hpl)) fun σ H Q ⟨B0, Γ, G, sr, po⟩ => ⟨B0, Γ, G, sr, Po.bind po fun d x G1 H1 _ g1 dx po1 => by
    split at po1
    rotate_left
    · exact po1.elim
    rename_i hd
    by_cases h : isDsk d = true
    · obtain ⟨a, dx', l1, l2, tp, rfl, hcc, hi⟩ := dq_isDsk dx h
      rw [h] at po1
      exact ⟨.ref a, .ref (dkC X.K), .ref (dkC X.K), .ref (dkC X.K), true, rfl, .own _, .base (.ins (g1.s _ _ hi) dc.cl dc.ha dc.hn dc.htk dc.hm), dc.kD, Po.ok (d := PyData.bool true) po1 g1.s (.bl _)⟩
    · have hf : isDsk d = false := by simpa using h
      rw [hf] at po1 hd
      have ht : isTup d = true := by simpa using hd
      have nd : isDk d = false := by
        cases dx with
        | tup h1 a1 => rfl
        | _ => cases ht
      have ty := tyx_d g1.s dx nd
      have et : tyS d = "tuple" := by
        cases dx with
        | tup h1 a1 => rfl
        | _ => cases ht
      rw [et] at ty
      exact ⟨x, .ref (dkC X.K), .type "tuple", .ref (dkC X.K), false, rfl, .own _, ty, dc.kT, Po.ok (d := PyData.bool false) po1 g1.s (.bl _)⟩⟩
end
end PD

/-! The data layer: new desks as values of expressions; desks read without their lists; slots shared for a time. -/
namespace PD
open PySem PySem.Spec PyProof.Rows L2
section
variable {K : PySem.W.Frag} {G0 H0 G H G' H' : Hp} {W : Wd} {qs : Addr → Q3} {σ : L2.St} {Γ : Gam} {a : Addr} {D : ObD} {q : Q3}
/-- a new desk -/
theorem SWd.fresh (s : SWd K G0 H0 G H σ Γ W qs) (hb : ∀ b, Cell a q b → H b = none) : ∀ p ∈ W, p.1 ≠ a := fun p hp e => (s.ds.dk p hp).on (.inl rfl) (by rw [e]; exact hb a (.inl rfl))
theorem SWd.add (s : SWd K G0 H0 G H σ Γ W qs) (g : Gr G H G' H') (k : Dk K G' H' a D q) (hb : ∀ b, Cell a q b → H b = none) : SWd K G0 H0 G' H' σ Γ ((a, D) :: W) (setQ qs a q) := by
  have fr := s.fresh hb
  have t := s.go g
  have qa : setQ qs a q a = q := if_pos rfl
  have qn : ∀ p ∈ W, setQ qs a q p.1 = qs p.1 := fun p hp => if_neg (fr p hp)
  have inc : ∀ {b}, InC ((a, D) :: W) (setQ qs a q) b → Cell a q b ∨ InC W qs b := fun {b} ⟨p, hp, hc⟩ => by
    rcases List.mem_cons.mp hp with e | hp
    · subst e; rw [qa] at hc; exact .inl hc
    · rw [qn p hp] at hc; exact .inr ⟨p, hp, hc⟩
  refine ⟨t.sz, ⟨fun p hp => ?_, fun p hp p2 hp2 ne b h1 h2 => ?_⟩, fun b h => ?_, fun i es p h1 h2 h => ?_⟩
  · rcases List.mem_cons.mp hp with e | hp
    · subst e; rw [qa]; exact k
    · rw [qn p hp]; exact t.ds.dk p hp
  · rcases List.mem_cons.mp hp with e | hp
    · rcases List.mem_cons.mp hp2 with e2 | hp2
      · exact ne (by rw [e, e2])
      · subst e
        rw [qa] at h1
        rw [qn p2 hp2] at h2
        exact (s.ds.dk p2 hp2).on h2 (hb b h1)
    · rcases List.mem_cons.mp hp2 with e2 | hp2
      · subst e2
        rw [qa] at h2
        rw [qn p hp] at h1
        exact (s.ds.dk p hp).on h1 (hb b h2)
      · rw [qn p hp] at h1
        rw [qn p2 hp2] at h2
        exact t.ds.dj p hp p2 hp2 ne b h1 h2
  · rcases inc h with h | h
    · exact le_none s.sz.gr.h (hb b h)
    · exact t.base b h
  · rcases inc h with h | h
    · obtain ⟨p', xs, e1, e2, _⟩ := s.sz.sr.own i es h1
      rw [h2] at e1; cases e1
      rw [hb p h] at e2; cases e2
    · exact t.far i es p h1 h2 h
/-- slots are shared -/
theorem SWd.fzs (s : SWd K G0 H0 G H σ Γ W qs) (l : List Nat) : ∃ G1, Le G G1 ∧ SWd K G0 H0 G1 H σ (fz l Γ) W qs := by
  obtain ⟨G1, l1, t⟩ := s.low.fzs l
  exact ⟨G1, l1, s.up t⟩
end
/-! ### values and addresses -/
def RAd : Hp → V → Addr → Prop := fun _ x a => x = .ref a
def RSl (K : PySem.W.Frag) : Hp → V → Sl → Prop := fun G x s => match s with
  | .v d => Dq K G x d
  | .ad a => x = .ref a
  | _ => False
section
variable {X : Cx} {E : XK} {e : Expr} {es : List Expr} {m : M} {pos : Pos}
abbrev WX (X : Cx) (E : XK) (e : Expr) (m : Gam → Wd → RW Addr) : Prop := PE X e (tE X.K RAd X.mg E m)
abbrev WI (X : Cx) (E : XK) (e : Expr) (m : Gam → Wd → RW Sl) : Prop := PE X e (tE X.K (RSl X.K) X.mg E m)
abbrev WDA (X : Cx) (E : XK) (es : List Expr) (m : Gam → Wd → RW (List DA)) : Prop := PA X es (tE X.K (RAl X.K) X.mg E m)
def mNewX (chk : List PyData → R PyData) (m : M) : Gam → Wd → RW Addr := fun Γ W => match mNewD chk m Γ with
  | .ok d => .al W fun a => .ok a ((a, deskOf d) :: W)
  | .ex c => .ex c W
  | .no => .no
theorem wx_new {k : Nat} {chk : List PyData → R PyData} {p : Pos} (D : MkD X.prog X.w X.K X.mg X.base k chk) (hr : Room (k + 1) X.A) (hx : Passes (L2.CX X.prog X.w) X E) (he : SE X E e m) (hg : Gl X "Desk" := by exact rfl)
    (hst : starEach [e] X.env = (false, eval e X.env) :: starEach [] X.env := by rfl) (hpl : (backTo pos (starEach [] X.env)).any (·.1) = false := by rfl) :
    WX X E (.Call (.Name "Desk" p) [e] [] pos) (mNewX chk m) :=
  pe_of (pe_newD D hr hx he hg hst hpl) fun σ H Q ⟨G0, H0, G, Γ, W, qs, s, po⟩ => by
    unfold mNewX at po
    refine ⟨H0, Γ, G, s.sz.sr, ?_⟩
    cases e1 : mNewD chk m Γ with
    | no => rw [e1] at po; exact po
    | ex c => rw [e1] at po; exact fun H' l => PoE.exc (β := Addr) po s l
    | ok d =>
      rw [e1] at po
      exact fun a G' H' q g k hb => po a (s.fresh hb) (.ref a) G' H' _ g.g (s.add g k hb) rfl
theorem wi_v {m : MWE} (h : WE X E e m) : WI X E e (fun Γ W => (m Γ W).bind fun d W1 => .ok (.v d) W1) := pe_of h fun σ H Q ⟨G0, H0, G, Γ, W, qs, s, po⟩ => ⟨G0, H0, G, Γ, W, qs, s, PoE.bind po fun d x G1 H1 W1 q1 l1 s1 dx po1 => PoE.ok (β := Sl) po1 s1 dx⟩
theorem wi_a {m : Gam → Wd → RW Addr} (h : WX X E e m) : WI X E e (fun Γ W => (m Γ W).bind fun a W1 => .ok (.ad a) W1) := pe_of h fun σ H Q ⟨G0, H0, G, Γ, W, qs, s, po⟩ => ⟨G0, H0, G, Γ, W, qs, s, PoE.bind po fun d x G1 H1 W1 q1 l1 s1 dx po1 => PoE.ok (β := Sl) po1 s1 dx⟩
/-! argument lists -/
def mNilX : Gam → Wd → RW (List DA) := fun _ W => .ok [] W
def mConsX (m : Gam → Wd → RW Sl) (r : Gam → Wd → RW (List DA)) : Gam → Wd → RW (List DA) := fun Γ W => (m Γ W).bind fun s W1 => (r Γ W1).bind fun ds W2 => match s with
  | .v d => .ok (.d d :: ds) W2
  | .ad a => .ok (.a a :: ds) W2
  | _ => .no
theorem wda_nil : WDA X E [] mNilX := pa_of pa_nil fun σ H Q ⟨G0, H0, G, Γ, W, qs, s, po⟩ => PoE.ok (β := List DA) (d := []) po s .nil
theorem rsl_le {K : PySem.W.Frag} {G G' : Hp} (l : Le G G') {x : V} {s : Sl} (h : RSl K G x s) : RSl K G' x s := by
  cases s with
  | v d => exact dp_le l h
  | ad a => exact h
  | _ => exact h
theorem wda_cons {m : Gam → Wd → RW Sl} {r : Gam → Wd → RW (List DA)} (ha : WI X E e m) (hr : WDA X E es r) (hs : starEach (e :: es) X.env = (false, eval e X.env) :: starEach es X.env := by rfl) : WDA X E (e :: es) (mConsX m r) :=
  pa_of (pa_cons ha hr hs) fun σ H Q ⟨G0, H0, G, Γ, W, qs, s, po⟩ => ⟨G0, H0, G, Γ, W, qs, s, PoE.bind po fun d x G1 H1 W1 q1 l1 s1 dx po1 => ⟨G0, H0, G1, Γ, W1, q1, s1, PoE.bind po1 fun ds xs G2 H2 W2 q2 l2 s2 dxs po2 => by
    cases d with
    | v d => exact PoE.ok (β := List DA) (d := .d d :: ds) po2 s2 (.d (dp_le l2 dx) dxs)
    | ad a =>
      have dx : x = .ref a := dx
      subst dx
      exact PoE.ok (β := List DA) (d := .a a :: ds) po2 s2 (.a dxs)
    | no => exact po2.elim
    | own d => exact po2.elim⟩⟩
def mCallX (n : Nat) (g : GW) (m : Gam → Wd → RW (List DA)) : MWE := fun Γ W => (m Γ W).bind fun ds W1 => if ds.length = n then g ds W1 else .no
theorem we_callX {x : Str} {p : Pos} {k n : Nat} {g : GW} {m : Gam → Wd → RW (List DA)} (D : DnW X.prog X.w X.K X.mg X.base k x n g) (hr : Room k X.A) (hx : Passes (L2.CX X.prog X.w) X E) (ha : WDA X E (e :: es) m)
    (hg : Gl X x := by exact rfl)
    (he : starEach (e :: es) X.env = (false, eval e X.env) :: starEach es X.env := by rfl) (hpl : (backTo pos (starEach es X.env)).any (·.1) = false := by rfl) (hd : (x == ("__debug__" : Str)) = false := by decide) :
    WE X E (.Call (.Name x p) (e :: es) [] pos) (mCallX n g m) := by
  obtain ⟨f, fd, ps, hm, hl, F, kp, hb⟩ := D.ex
  refine pe_of (pe_call F hr hg hm kp hb .nil hx ha (hdb := hd) (he := he) (hpl := hpl)) fun σ H Q ⟨G0, H0, G, Γ, W, qs, s, po⟩ => ?_
  refine ⟨G0, H0, G, Γ, W, qs, s, PoE.bind po fun ds xs G1 H1 W1 q1 l1 s1 dx po1 => ?_⟩
  rw [List.append_nil]
  split at po1
  · rename_i hn
    exact ⟨G1, ds, W1, q1, s1.sz.sr.sub, dx, hn, s1.ds, poC_of s1 po1⟩
  · exact po1.elim
/-! stores -/
theorem SWd.setS {K : PySem.W.Frag} {G0 H0 G H : Hp} {W : Wd} {qs : Addr → Q3} {σ : L2.St} {Γ : Gam} (s : SWd K G0 H0 G H σ Γ W qs) {i : Nat} {x : V} {t : Sl} (h : RSl K G x t) : SWd K G0 H0 G H (σ.set i (some x)) (Γ.set i t) W qs := by
  cases t with
  | v d => exact s.setV h
  | ad a =>
    have h : x = .ref a := h
    subst h
    exact s.setA i a
  | no => exact h.elim
  | own d => exact h.elim
def mSetS (i : Nat) (m : Gam → Wd → RW Sl) : MW := fun Γ W => (m Γ W).out fun t W1 => .nx (Γ.set i t) W1
theorem ev_coreS {α β : Type} {K : PySem.W.Frag} {Rl : Hp → α → β → Prop} {mg : Str → Option Value} {E : XK} {G0 H0 G : Hp} {D : Ends} {σ : L2.St} {Γ : Gam} {r : RW β} {k : β → Wd → OutW} (po : PoW K mg E G0 H0 D (r.out k)) {Q : α → Hp → Prop}
    (q : ∀ x H' d W1 G' qs1, Le G G' → SWd K G0 H0 G' H' σ Γ W1 qs1 → Rl G' x d → PoW K mg E G0 H0 D (k d W1) → Q x H') : PoE K Rl mg E G0 H0 G σ Γ Q r := by
  induction r with
  | no => exact po
  | ex c W1 => exact po
  | al W f ih => exact fun a ha => ih a (po a ha)
  | ok d W1 => exact fun x G' H' qs1 l s1 dx => q x H' d W1 G' qs1 l s1 dx po
theorem ws_setS (i : Nat) {x : Str} {p : Pos} {m : Gam → Wd → RW Sl} (he : WI X E e m) (hN : X.N.Nodup) (hi : X.N[i]? = some x := by rfl) (hx : Loc X.env.scope x := by first | exact .inl rfl | exact .inr rfl) (hs : swapsWith e (some (.Name x p)) pos.line X.env = pure false := by rfl)
    (hf : X.fn x = true ∨ X.env.scope.names.lookup x = some .local := by first | exact .inl rfl | exact .inr rfl | assumption) : WS X E (.Assign [.Name x p] e pos) (mSetS i m) :=
  ps_of (ps_set hN hi hx he hs hf) fun D σ H ⟨G0, H0, G, Γ, W, qs, s, po⟩ => ⟨G0, H0, G, Γ, W, qs, s, ev_coreS po fun x H' d W1 G' qs1 l s1 dx po1 => po1 _ G' H' qs1 (s1.setS dx)⟩
def mPar2S (i j : Nat) (p q : Gam → Wd → RW Sl) : MW := fun Γ W => (p Γ W).out fun s W1 => (q Γ W1).out fun t W2 => .nx ((Γ.set i s).set j t) W2
theorem ws_par2 (i j : Nat) {x y : Str} {a b : Expr} {ma mb : Gam → Wd → RW Sl} {px py pt : Pos} {kt k2 pt2} (hc : X.calm = true) (hN : X.N.Nodup) (h1 : WI X E a ma) (h2 : WI X E b mb) (hi : X.N[i]? = some x := by rfl) (hj : X.N[j]? = some y := by rfl) (hij : i ≠ j := by decide)
    (hx : X.env.scope.names.lookup x = some .local := by rfl) (hy : X.env.scope.names.lookup y = some .local := by rfl)
    (hs1 : starEach [a, b] X.env = (false, eval a X.env) :: starEach [b] X.env := by rfl) (hs2 : starEach [b] X.env = (false, eval b X.env) :: starEach [] X.env := by rfl)
    (hw : swappedStores [.Tuple [.Name x px, .Name y py] kt pt] (.Tuple [a, b] k2 pt2) X.env = pure (some [x, y]) := by rfl)
    (hs : swapsWithSole [.Tuple [.Name x px, .Name y py] kt pt] (.Tuple [a, b] k2 pt2) pos.line X.env = pure false := by rfl) :
    WS X E (.Assign [.Tuple [.Name x px, .Name y py] kt pt] (.Tuple [a, b] k2 pt2) pos) (mPar2S i j ma mb) :=
  ps_of (ps_par hc hN hi hj hij hx hy (pa_cons h1 (pa_cons h2 pa_nil hs2) hs1) hw hs) fun D σ H ⟨G0, H0, G, Γ, W, qs, s, po⟩ => ⟨G0, H0, G, Γ, W, qs, s, ev_coreS po fun u H1 su W1 G1 q1 l1 s1 du po1 => ⟨G0, H0, G1, Γ, W1, q1, s1, ev_coreS po1 fun v H2 sv W2 G2 q2 l2 s2 dv po2 => ⟨u, v, rfl, po2 _ G2 H2 q2 ((s2.setS (rsl_le l2 du)).setS dv)⟩⟩⟩
end
/-! ### desks read without their lists -/
def InI (W : Wd) (qs : Addr → Q3) (b : Addr) : Prop := ∃ p ∈ W, b = p.1 ∨ b = (qs p.1).1
open Classical in
noncomputable def lifI (G H : Hp) (W : Wd) (qs : Addr → Q3) : Hp := fun b => if InI W qs b then H b else G b
open Classical in
noncomputable def drpI (G : Hp) (W : Wd) (qs : Addr → Q3) : Hp := fun b => if InI W qs b then none else G b
def upL1 (W : Wd) : Sl → Sl
  | .ad a => match W.lookup a with
    | some D => .v (lgtD D.p)
    | none => .no
  | s => s
def upL (W : Wd) (Γ : Gam) : Gam := Γ.map (upL1 W)
theorem gat_upL (W : Wd) : ∀ (Γ : Gam) (i : Nat), gat (upL W Γ) i = upL1 W (gat Γ i)
  | [], i => rfl
  | s :: r, 0 => rfl
  | s :: r, i + 1 => gat_upL W r i
mutual
def dfr : PyData → Bool
  | .dict ((.bool _, _) :: _) => false
  | .list ds => dfrA ds
  | .tuple ds => dfrA ds
  | _ => true
def dfrA : List PyData → Bool
  | [] => true
  | d :: ds => dfr d && dfrA ds
end
def insO : HO → Bool
  | .ins _ _ _ => true
  | .own _ => true
  | _ => false
mutual
theorem dfr_dq {K : PySem.W.Frag} {G G' : Hp} (hg : ∀ b u, G b = some u → insO u = false → G' b = some u) : ∀ {d : PyData} {v : V}, Dq K G v d → dfr d = true → Dq K G' v d
  | _, _, .non, _ => .non
  | _, _, .bl b, _ => .bl b
  | _, _, .int i, _ => .int i
  | _, _, .str x, _ => .str x
  | _, _, .lst h a, c => .lst (hg _ _ h rfl) (dfr_dqa hg a (by simpa [dfr] using c))
  | _, _, .tup h a, c => .tup (match h with
    | .inl (.inl h) => .inl (.inl (hg _ _ h rfl))
    | .inl (.inr ⟨o, h⟩) => .inl (.inr ⟨o, hg _ _ h rfl⟩)
    | .inr h => .inr h) (dfr_dqa hg a (by simpa [dfr] using c))
  | _, _, .scr h, c => .scr (match h with
    | .inl (.inl h) => .inl (.inl (hg _ _ h rfl))
    | .inl (.inr ⟨o, h⟩) => .inl (.inr ⟨o, hg _ _ h rfl⟩)
    | .inr h => .inr h)
  | _, _, .dct h, c => .dct (hg _ _ h rfl)
  | _, _, .dsk _ _ _ _, c => nomatch c
  | _, _, .dsl _ _ _ _, c => nomatch c
theorem dfr_dqa {K : PySem.W.Frag} {G G' : Hp} (hg : ∀ b u, G b = some u → insO u = false → G' b = some u) : ∀ {ds : List PyData} {vs : List V}, DqAll K G vs ds → dfrA ds = true → DqAll K G' vs ds
  | _, _, .nil, _ => .nil
  | _, _, .cons h1 h2, c => .cons (dfr_dq hg h1 (Bool.and_eq_true_iff.mp c).1) (dfr_dqa hg h2 (Bool.and_eq_true_iff.mp c).2)
end
section
variable {K : PySem.W.Frag} {G0 H0 G H G' H' : Hp} {W : Wd} {qs : Addr → Q3} {σ : L2.St} {Γ : Gam} {b a : Addr} {D : ObD}
theorem InI.c (h : InI W qs b) : InC W qs b := by
  obtain ⟨p, hp, h | h⟩ := h
  · exact ⟨p, hp, .inl h⟩
  · exact ⟨p, hp, .inr (.inl h)⟩
theorem lifI_in (h : InI W qs b) : lifI G H W qs b = H b := by unfold lifI; rw [if_pos h]
theorem lifI_out (h : ¬ InI W qs b) : lifI G H W qs b = G b := by unfold lifI; rw [if_neg h]
theorem drpI_in (h : InI W qs b) : drpI G W qs b = none := by unfold drpI; rw [if_pos h]
theorem drpI_out (h : ¬ InI W qs b) : drpI G W qs b = G b := by unfold drpI; rw [if_neg h]
theorem drpI_some {u : HO} (h : drpI G W qs b = some u) : G b = some u := by
  by_cases e : InI W qs b
  · rw [drpI_in e] at h; cases h
  · rw [drpI_out e] at h; exact h
theorem Dks.lifI_le (d : Dks K G H W qs) : Le G (lifI G H W qs) := fun b u e => by
  rw [lifI_out fun h => by rw [d.off h.c] at e; cases e]; exact e
theorem Dks.dsl (d : Dks K G H W qs) (h : (a, D) ∈ W) : Dq K (lifI G H W qs) (.ref a) (lgtD D.p) := by
  have k := d.dk _ h
  obtain ⟨tp, e, dq⟩ := k.ins
  exact .dsl k.cl ((lifI_in ⟨_, h, .inl rfl⟩).trans e) ((lifI_in ⟨_, h, .inr rfl⟩).trans k.own) (dp_le d.lifI_le dq)
theorem upL_v {s : Sl} {d : PyData} (h : upL1 W s = .v d) : s = .v d ∨ ∃ a D, s = .ad a ∧ W.lookup a = some D ∧ d = lgtD D.p := by
  cases s with
  | v e => exact .inl h
  | own e => cases h
  | no => cases h
  | ad a =>
    have h : (match W.lookup a with
      | some D => Sl.v (lgtD D.p)
      | none => Sl.no) = Sl.v d := h
    split at h
    · rename_i D hl; cases h; exact .inr ⟨a, D, rfl, hl, rfl⟩
    · cases h
theorem upL_own {s : Sl} {d : List PyData} (h : upL1 W s = .own d) : s = .own d := by
  cases s with
  | v e => cases h
  | own e => exact h
  | no => cases h
  | ad a =>
    have h : (match W.lookup a with
      | some D => Sl.v (lgtD D.p)
      | none => Sl.no) = Sl.own d := h
    split at h <;> cases h
theorem upL_ad {s : Sl} {c : Addr} : upL1 W s ≠ .ad c := fun h => by
  cases s with
  | v e => cases h
  | own e => cases h
  | no => cases h
  | ad a =>
    have h : (match W.lookup a with
      | some D => Sl.v (lgtD D.p)
      | none => Sl.no) = Sl.ad c := h
    split at h <;> cases h
theorem SWd.sr3 (s : SWd K G0 H0 G H σ Γ W qs) : SR K H0 (lifI G H W qs) H σ (upL W Γ) := by
  refine ⟨fun b u e => ?_, by rw [s.sz.sr.len]; simp [upL], fun i d h => ?_, fun i es h => ?_, fun i j ds es p h1 h2 => s.sz.sr.inj i j ds es p (upL_own (gat_upL W Γ i ▸ h1)) (upL_own (gat_upL W Γ j ▸ h2)), fun i ds p h => s.sz.sr.nw i ds p (upL_own (gat_upL W Γ i ▸ h)), fun i c h => absurd (gat_upL W Γ i ▸ h) upL_ad⟩
  · by_cases hb : InI W qs b
    · rw [lifI_in hb] at e; exact e
    · rw [lifI_out hb] at e; exact s.sz.sr.sub b u e
  · rw [gat_upL] at h
    rcases upL_v h with e | ⟨a, D, e, hl, rfl⟩
    · obtain ⟨x, e1, e2⟩ := s.sz.sr.val i _ e
      exact ⟨x, e1, dp_le s.ds.lifI_le e2⟩
    · exact ⟨_, s.sz.sr.adr i a e, s.ds.dsl (lookup_mem hl)⟩
  · have ho := upL_own (gat_upL W Γ i ▸ h)
    obtain ⟨p, xs, e1, e2, e3, e4⟩ := s.sz.sr.own i es ho
    exact ⟨p, xs, e1, e2, by rw [lifI_out fun h => s.far i es p ho e1 h.c]; exact e3, dpa_le s.ds.lifI_le e4⟩
theorem SWd.back3 (s : SWd K G0 H0 G H σ Γ W qs) (g : Gr (lifI G H W qs) H G' H') : Gr G H (drpI G' W qs) H' ∧ ∀ b u, G' b = some u → insO u = false → drpI G' W qs b = some u := by
  refine ⟨⟨fun b u e => ?_, g.h, fun b u e => g.s b u (drpI_some e), fun b h1 h2 => ?_⟩, fun b u e hu => ?_⟩
  · rw [drpI_out fun h => by rw [s.ds.off h.c] at e; cases e]
    exact g.g b u (s.ds.lifI_le b u e)
  · by_cases hb : InI W qs b
    · exact drpI_in hb
    · rw [drpI_out hb]; exact g.fr b h1 (by rw [lifI_out hb]; exact h2)
  · rw [drpI_out fun h => ?_]
    · exact e
    · obtain ⟨p, hp, hc | hc⟩ := h
      · obtain ⟨tp, e1, _⟩ := (s.ds.dk p hp).ins
        subst hc
        have := g.s _ u e
        rw [g.h _ _ e1] at this
        cases this
        cases hu
      · subst hc
        have := g.s _ u e
        rw [g.h _ _ (s.ds.dk p hp).own] at this
        cases this
        cases hu
end
def mRl (m : M) : MWE := fun Γ W => match m (upL W Γ) with
  | .ok d => if dfr d = true then .ok d W else .no
  | .ex c => .ex c W
  | .no => .no
theorem tE_rl {K mg} {E : XK} {m : M} {σ H Q} (h : tE K (Dq K) mg E (mRl m) σ H Q) : tX K (Dq K) mg E m σ H Q := by
  obtain ⟨G0, H0, G, Γ, W, qs, s, po⟩ := h
  refine ⟨H0, upL W Γ, lifI G H W qs, s.sr3, ?_⟩
  unfold mRl at po
  cases e : m (upL W Γ) with
  | no => rw [e] at po; exact po
  | ex c => rw [e] at po; exact fun H' l => PoE.exc (β := PyData) po s l
  | ok d =>
    rw [e] at po
    dsimp only at po
    split at po
    · rename_i hc
      intro x G' H' g dx
      obtain ⟨g1, g2⟩ := s.back3 g
      exact po x _ H' qs g1.g (s.go g1) (dfr_dq g2 dx hc)
    · exact po.elim
section
variable {X : Cx} {E : XK} {st : Stmt} {e : Expr} {m : M} {pos : Pos}
theorem we_rl (h : SE X E e m) : WE X E e (mRl m) := pe_of h fun σ H Q q => tE_rl q
/-- x = a new list -/
def mOwnW (i : Nat) (ml : Gam → R (List PyData)) : MW := fun Γ W => match ml (upL W Γ) with
  | .ok ds => if dfrA ds = true then .nx (Γ.set i (.own ds)) W else .no
  | .ex c => .ex c W
  | .no => .no
theorem ws_own (i : Nat) {x : Str} {p : Pos} {ml : Gam → R (List PyData)} (he : SL X E e ml) (hN : X.N.Nodup) (hi : X.N[i]? = some x := by rfl) (hx : Loc X.env.scope x := by first | exact .inl rfl | exact .inr rfl) (hs : swapsWith e (some (.Name x p)) pos.line X.env = pure false := by rfl)
    (hf : X.fn x = true ∨ X.env.scope.names.lookup x = some .local := by first | exact .inl rfl | exact .inr rfl | assumption) : WS X E (.Assign [.Name x p] e pos) (mOwnW i ml) :=
  ps_of (ps_set hN hi hx he hs hf) fun D σ H ⟨G0, H0, G, Γ, W, qs, s, po⟩ => by
    refine ⟨H0, upL W Γ, lifI G H W qs, s.sr3, ?_⟩
    unfold mOwnW at po
    cases e1 : ml (upL W Γ) with
    | no => rw [e1] at po; exact po
    | ex c => rw [e1] at po; exact fun H' l => let t := s.grow l; po G H' qs t.sz.gr t.ds t.base
    | ok ds =>
      rw [e1] at po
      dsimp only at po
      split at po
      · rename_i hc
        intro p xs G' H' g hp hp1 hg dx
        obtain ⟨g1, g2⟩ := s.back3 g
        have t := s.go g1
        have hg' : drpI G' W qs p = none := by
          cases q : drpI G' W qs p with
          | none => rfl
          | some u => rw [drpI_some q] at hg; cases hg
        have hlay : lay G0 H0 G H W qs p = none := by
          by_cases hc : InC W qs p
          · exact absurd hp (s.ds.on hc)
          · have e2 : G p = none := le_none s.sz.sr.sub hp
            rw [lay_out hc e2]
            exact le_none s.sz.gr.h hp
        have low : SZ X.K G (lay G0 H0 G H W qs) (drpI G' W qs) H' σ Γ := s.low.go g1
        refine po _ _ H' qs (s.up ⟨low.sr.setO hp1 hg' hlay (dfr_dqa g2 dx hc) (fun j es _ h1 h2 => ?_), low.gr⟩)
        obtain ⟨p2, xs2, e1, e2, _⟩ := s.sz.sr.own j es h1
        rw [h2] at e1; cases e1
        rw [hp] at e2; cases e2
      · exact po.elim
/-- l.append(e), e reads desks -/
def mAppW (i : Nat) (m : M) : MW := fun Γ W => match gat Γ i with
  | .own ds => match m (upL W Γ) with
    | .ok d => if dfr d = true ∧ ds.length < 100000 then .nx (Γ.set i (.own (ds ++ [d]))) W else .no
    | .ex c => .ex c W
    | .no => .no
  | _ => .no
theorem ws_app (i : Nat) {x : Str} {p ap cp : Pos} (he : SE X E e m) (hN : X.N[i]? = some x := by rfl) (hv : Vis X.env.scope x := by first | exact Or.inl rfl | exact Or.inr (Or.inl rfl) | exact Or.inr (Or.inr rfl)) (hd : (x == ("__debug__" : Str)) = false := by decide) (hcd : (x == ("__classdict__" : Str)) = false := by decide)
    (hbase : attributeBase (.Name x p) "append" X.env (eval (.Name x p) X.env) = eval (.Name x p) X.env := by rfl)
    (hfew : ((backTo cp (starEach [e] X.env)).all (fun x => !x.1) && (backToKw cp (keywordEach [] X.env)).all (fun x => x.1.isSome)
      && decide ([e].length + ([] : List Keyword).length + (if ([] : List Keyword).isEmpty then 0 else 1) < 30)) = true := by rfl)
    (hline : (ap.endLine == cp.line) = true := by rfl) (hst : starEach [e] X.env = (false, eval e X.env) :: starEach [] X.env := by rfl) (hplain : (backTo cp (starEach [] X.env)).any (·.1) = false := by rfl)
    (hs : swapsWith (.Call (.Attribute (.Name x p) "append" ap) [e] [] cp) none pos.line X.env = pure false := by rfl) : WS X E (.Expr (.Call (.Attribute (.Name x p) "append" ap) [e] [] cp) pos) (mAppW i m) :=
  ps_of (ps_expr (pe_bm PySem.F.plainAttrs_list PySem.F.slot_list_append PySem.F.type_list_append mt_append (pe_var (i := i) hN hv hd hcd) (pa_cons he pa_nil hst) hbase hfew hline hst hplain) hs) fun D σ H ⟨G0, H0, G, Γ, W, qs, s, po⟩ => by
    unfold mAppW at po
    cases hi : gat Γ i with
    | no => rw [hi] at po; exact po.elim
    | ad _ => rw [hi] at po; exact po.elim
    | v d => rw [hi] at po; exact po.elim
    | own ds =>
      rw [hi] at po
      dsimp only at po
      obtain ⟨a, xs, e1, e2, e3, e4⟩ := s.sz.sr.own i ds hi
      refine ⟨.ref a, e1, .inl ⟨rfl, xs, .inl (.inl e2)⟩, H0, upL W Γ, lifI G H W qs, s.sr3, ?_⟩
      cases em : m (upL W Γ) with
      | no => rw [em] at po; exact po
      | ex c => rw [em] at po; exact fun H' l => let t := s.grow l; po G H' qs t.sz.gr t.ds t.base
      | ok d =>
        rw [em] at po
        dsimp only at po
        split at po
        · rename_i hz
          intro x G' H' g dx
          obtain ⟨g1, g2⟩ := s.back3 g
          have t := s.go g1
          have dx2 := dfr_dq g2 dx hz.1
          have e2' : H' a = some (.lst xs) := g1.h _ _ e2
          refine ⟨a, xs, x, rfl, rfl, e2', Nat.lt_of_lt_of_le (by rw [dpa_len e4]; exact hz.2) (by decide : 100000 ≤ sizeLine), ?_⟩
          exact po σ _ _ qs (t.mut (ys := xs ++ [x]) hi e1 (dpa_append (dpa_le g1.g e4) (dpa_one dx2)))
        · exact po.elim
/-! ### slots shared for a time -/
def mFzT (l : List Nat) (t : Gam → R Bool) : Gam → Wd → RW Bool := fun Γ W => RW.of (t (upL W (fz l Γ))) W
theorem wt_fz (l : List Nat) {t : Gam → R Bool} (h : ST X E e t) : WT X E e (mFzT l t) := pt_of h fun σ H Q ⟨G0, H0, G, Γ, W, qs, s, po⟩ => by
  obtain ⟨G1, l1, s1⟩ := s.fzs l
  refine ⟨H0, upL W (fz l Γ), lifI G1 H W qs, s1.sr3, ?_⟩
  unfold mFzT at po
  cases e : t (upL W (fz l Γ)) with
  | no => rw [e] at po; exact po
  | ex c => rw [e] at po; exact fun H' l => PoE.exc (β := Bool) po s l
  | ok b =>
    rw [e] at po
    intro x G' H' g dx
    exact po x G H' qs (fun _ _ e => e) (s.grow g.h) dx
/-- shared for good, then .. -/
theorem ws_fz (l : List Nat) {m : MW} (h : WS X E st m) : WS X E st (fun Γ W => m (fz l Γ) W) := ps_of h fun D σ H ⟨G0, H0, G, Γ, W, qs, s, po⟩ => by
  obtain ⟨G1, l1, s1⟩ := s.fzs l
  exact ⟨G0, H0, G1, _, W, qs, s1, po⟩
end
end PD

/-! The data layer: copy of a desk; list(x) as a new list; x[::-1]. -/
namespace PD
open PySem PySem.Spec PyProof.Rows L2
section
variable {X : Cx} {E : XK} {e : Expr} {m : M} {pos : Pos}
/-! ### list(x), new -/
def dListL : PyData → R (List PyData)
  | .list ds => .ok ds
  | .tuple ds => .ok ds
  | _ => .no
theorem sl_list {p : Pos} (he : SE X E e m) (hm : X.mg "list" = none) (hg : Gl X "list" := by exact rfl)
    (hst : starEach [e] X.env = (false, eval e X.env) :: starEach [] X.env := by rfl) (hpl : (backTo pos (starEach [] X.env)).any (·.1) = false := by rfl) : SL X E (.Call (.Name "list" p) [e] [] pos) (fun Γ => (m Γ).bind dListL) :=
  pe_of (pe_callTy call_list_of hg hm boot_list (pa_cons he pa_nil hst) (he := hst) (hpl := hpl)) fun σ H Q ⟨B, Γ, G, sr, po⟩ => ⟨B, Γ, G, sr, by
    replace po : PoL X.K X.mg E G H Q ((m Γ).bind dListL) := po
    cases e1 : m Γ with
    | no => rw [e1] at po; exact po
    | ex c => rw [e1] at po; exact po
    | ok d =>
      rw [e1, R.bind_ok] at po
      intro x G1 H1 g1 dx
      cases dx with
      | @lst a xs ds h1 a1 =>
        exact ⟨a, xs, rfl, .inl (sq1 g1.s h1), fun p hp => po p xs G1 _ ⟨g1.g, le_trans g1.h (le_upd hp), le_trans g1.s (le_upd hp), g1.fr⟩ (le_none g1.h hp) upd_same (le_none g1.s hp) a1⟩
      | @tup a xs ds h1 a1 =>
        exact ⟨a, xs, rfl, .inr (sqt_le g1.s h1), fun p hp => po p xs G1 _ ⟨g1.g, le_trans g1.h (le_upd hp), le_trans g1.s (le_upd hp), g1.fr⟩ (le_none g1.h hp) upd_same (le_none g1.s hp) a1⟩
      | @scr a ns h1 => cases ns <;> exact po.elim
      | _ => exact po.elim⟩
/-! ### x[::-1] -/
def dRevL : PyData → R (List PyData)
  | .list ds => .ok ds.reverse
  | _ => .no
theorem sl_rev {k : Nat} {p1 p2 p3 : Pos} (he : SE X E e m) : SL X E (.Subscript e (.Slice none none (some (.UnaryOp .USub (.Constant (.int 1) k p1) p2)) p3) pos) (fun Γ => (m Γ).bind dRevL) :=
  pe_of (pe_revL he) fun σ H Q ⟨B, Γ, G, sr, po⟩ => ⟨B, Γ, G, sr, by
    replace po : PoL X.K X.mg E G H Q ((m Γ).bind dRevL) := po
    cases e1 : m Γ with
    | no => rw [e1] at po; exact po
    | ex c => rw [e1] at po; exact po
    | ok d =>
      rw [e1, R.bind_ok] at po
      intro x G1 H1 g1 dx
      cases dx with
      | @lst a xs ds h1 a1 =>
        exact ⟨a, xs, rfl, sq1 g1.s h1, fun p hp => po p xs.reverse G1 _ ⟨g1.g, le_trans g1.h (le_upd hp), le_trans g1.s (le_upd hp), g1.fr⟩ (le_none g1.h hp) upd_same (le_none g1.s hp) (dpa_rev a1)⟩
      | @scr a ns h1 => cases ns <;> exact po.elim
      | _ => exact po.elim⟩
/-! ### o.f = .. among several -/
def gFld (K : PySem.W.Frag) (ta : TE) (f : Str) : TG := fun y σ H Q => ta σ H fun x H2 => ∃ a C dx fs, x = .ref a ∧ H2 a = some (.ins C dx fs) ∧ Cls K C ∧ NoAttr K C f ∧ fs.length < 1000 ∧ Q σ (upd H2 a (.ins C dx (putF f y fs)))
theorem pg_fld {o : Expr} {ta : TE} {f : Str} (ha : PE X o ta) : PG X (.Attribute o f pos) (gFld X.K ta f) := by
  refine ⟨fun pins s σ H v u Q I r h => ?_⟩
  rw [PySem.assign_Attribute]
  refine wpAny_bind (wpAny_holding (thn (ha.run pins s σ H _ I h) fun ov s1 ⟨x, H2, I2, rx, a, C, dx, fs, ex, ea, c, n, l, q2⟩ => ?_))
  subst ex
  obtain rfl : ov = Value.ref a := rx
  refine wpAny_bind (wpAny_standAt (wpAny_bind (wpAny_holding (setattr_ok I2 ea c n l r fun s3 I3 => ?_))))
  exact wpAny_release ⟨σ, _, I3, q2⟩
end
/-! ### copy -/
def spCp (K : PySem.W.Frag) (chk : List PyData → R PyData) : Sp := fun vs H Q _ => ∃ G x D d r, vs = [x] ∧ Le G H ∧ Dq K G x (dskD D) ∧ dIx D.p (.int 0) = .ok d ∧ chk [d] = .ok r ∧
  ∀ c G' H' q, Gr G H G' H' → Dk K G' H' c D q → (∀ b, Cell c q b → H b = none) → Q (.ref c) H'
abbrev cpV : M := mOp dIx (mFld dFldP (mVar 0)) (mC (.int 0))
section
variable {X : Cx} {E : XK}
theorem sr_two {K : PySem.W.Frag} {B G H : Hp} {x : V} {d : PyData} {y : Option V} (l : Le G H) (dx : Dq K G x d) : SR K B G H [some x, y] [.v d, .no] := by
  refine ⟨l, rfl, fun i e h => ?_, fun i es h => ?_, fun i j es fs p h => ?_, fun i es p h => ?_, fun i c h => ?_⟩
  · match i, h with
    | 0, h => cases h; exact ⟨x, rfl, dx⟩
    | 1, h => cases h
    | i + 2, h => cases h
  · match i, h with
    | 0, h => cases h
    | 1, h => cases h
    | i + 2, h => cases h
  · match i, h with
    | 0, h => cases h
    | 1, h => cases h
    | i + 2, h => cases h
  · match i, h with
    | 0, h => cases h
    | 1, h => cases h
    | i + 2, h => cases h
  · match i, h with
    | 0, h => cases h
    | 1, h => cases h
    | i + 2, h => cases h
theorem copy_run {chk : List PyData → R PyData} {s1 s2 s3 : Stmt} (h1 : PS X s1 (tAsg (fun σ H Q => ∃ B Γ G, SR X.K B G H σ Γ ∧ PoD X.K X.mg E G H Q (mNewD chk cpV Γ)) (gName 1)))
    (h2 : PS X s2 (tAsg (tTup (tCons (tX X.K (Dq X.K) X.mg E (mFld dFldP (mVar 0))) (tCons (tL X.K X.mg E (fun Γ => (mFld dFldD (mVar 0) Γ).bind dListL)) (tCons (tL X.K X.mg E (fun Γ => (mFld dFldU (mVar 0) Γ).bind dListL)) tNil))))
      (gTup X.K 3 (gCons (gFld X.K (tVar 1) (PySem.Str.ofString "present")) (gCons (gFld X.K (tVar 1) (PySem.Str.ofString "done")) (gCons (gFld X.K (tVar 1) (PySem.Str.ofString "undone")) gNil))))))
    (h3 : PS X s3 (tRet (tVar 1))) :
    PSs X [s1, s2, s3] (fun D σ H => ∃ G x D0 d r, σ = [some x, none] ∧ Le G H ∧ Dq X.K G x (dskD D0) ∧ dIx D0.p (.int 0) = .ok d ∧ chk [d] = .ok r ∧
      ∀ c G' H' q, Gr G H G' H' → Dk X.K G' H' c D0 q → (∀ b, Cell c q b → H b = none) → D.rt (.ref c) H') :=
  pss_of (pss_cons h1 (pss_cons h2 (pss_one h3))) fun D σ H ⟨G, x, D0, d, r, e, l, dx, e1, e2, po⟩ => by
    subst e
    refine ⟨H, _, G, sr_two l dx, ?_⟩
    have em : mNewD chk cpV [.v (dskD D0), .no] = .ok d := by
      show ((dIx D0.p (.int 0)).bind fun d => (chk [d]).bind fun _ => .ok d) = .ok d
      rw [e1, R.bind_ok, e2, R.bind_ok]
    rw [em]
    intro c G1 H1 q g1 k1 fr1
    obtain ⟨tp0, c1, _⟩ := k1.ins
    have dx1 := dp_le g1.g dx
    refine ⟨H, _, G1, sr_two g1.s dx1, ?_⟩
    show Po (Dq X.K) X.mg E G1 H1 _ (.ok D0.p)
    intro y G2 H2 g2 dy
    refine ⟨H, _, G2, sr_two g2.s (dp_le g2.g dx1), ?_⟩
    show PoL X.K X.mg E G2 H2 _ (.ok D0.dn)
    intro p xs G3 H3 g3 hp hp1 hg3 dxs
    refine ⟨H, _, G3, sr_two g3.s (dp_le g3.g (dp_le g2.g dx1)), ?_⟩
    show PoL X.K X.mg E G3 H3 _ (.ok D0.un)
    intro p2 ys G4 H4 g4 hq hq1 hg4 dys
    refine ⟨sz_of (by show 3 ≤ 100000; decide), fun T hT => ?_⟩
    have c2 := g2.h _ _ c1
    have c3 := g3.h _ _ c2
    have c4 := g4.h _ _ c3
    have nTc : c ≠ T := fun z => by rw [z, hT] at c4; cases c4
    have npc : p ≠ c := fun z => by rw [z, c2] at hp; cases hp
    have npc2 : p2 ≠ c := fun z => by rw [z, c3] at hq; cases hq
    have npp : p ≠ p2 := fun z => by rw [z, hq] at hp1; cases hp1
    have p4 : H4 p = some (.lst xs) := g4.h _ _ hp1
    have npT : p ≠ T := fun z => by rw [z, hT] at p4; cases p4
    have npT2 : p2 ≠ T := fun z => by rw [z, hT] at hq1; cases hq1
    have o1 : H1 q.1 = some (.own c) := k1.own
    have o4 : H4 q.1 = some (.own c) := g4.h _ _ (g3.h _ _ (g2.h _ _ o1))
    have noc : q.1 ≠ c := fun z => by rw [z, c4] at o4; cases o4
    have noT : q.1 ≠ T := fun z => by rw [z, hT] at o4; cases o4
    refine ⟨T, [y, .ref p, .ref p2], rfl, .inl (.inl upd_same), rfl, y, _, rfl, .ref c, rfl, c, dkC X.K, q.1, _, rfl, by rw [upd_ne nTc]; exact c4, k1.cl.cl, k1.cl.n1, (by show 3 < 1000; decide), .ref p, _, rfl, .ref c, rfl, c, dkC X.K, q.1, _, rfl, upd_same, k1.cl.cl, k1.cl.n2, (by rw [put_p]; show 3 < 1000; decide),
      .ref p2, _, rfl, .ref c, rfl, c, dkC X.K, q.1, _, rfl, upd_same, k1.cl.cl, k1.cl.n3, (by rw [put_p, put_d]; show 3 < 1000; decide), rfl, .ref c, rfl, ?_⟩
    rw [put_p, put_d, put_u]
    generalize eH : upd (upd (upd (upd H4 T (.tup [y, .ref p, .ref p2])) c (.ins (dkC X.K) q.1 (fsD y q.2.1 q.2.2))) c (.ins (dkC X.K) q.1 (fsD y p q.2.2))) c (.ins (dkC X.K) q.1 (fsD y p p2)) = H8
    have h8 : ∀ b, b ≠ c → b ≠ T → H8 b = H4 b := fun b hb hb2 => by rw [← eH, upd_ne hb, upd_ne hb, upd_ne hb, upd_ne hb2]
    have c8 : H8 c = some (.ins (dkC X.K) q.1 (fsD y p p2)) := by rw [← eH]; exact upd_same
    have gall := (g1.trans g2).trans (g3.trans g4)
    have gc : ∀ b, Cell c q b → H1 b ≠ none := fun b hb => k1.on hb
    have off4 : ∀ b, H1 b ≠ none → G1 b = none → G4 b = none := fun b a1 a2 => (g2.trans (g3.trans g4)).fr b a1 a2
    have gc4 : G4 c = none := off4 c (k1.on (.inl rfl)) (k1.off c (.inl rfl))
    refine po c G4 H8 (q.1, p, p2) ⟨gall.g, fun b u eb => ?_, fun b u eb => ?_, gall.fr⟩ ⟨k1.cl, ⟨y, c8, dp_le g4.g (dp_le g3.g dy)⟩, ?_, ⟨xs, ?_, dpa_le g4.g dxs⟩, ⟨ys, ?_, dys⟩, npp, fun b hb => ?_⟩ fun b hb => ?_
    · have hbc : b ≠ c := fun z => by rw [z, fr1 c (.inl rfl)] at eb; cases eb
      have e4 := gall.h b u eb
      rw [h8 b hbc fun z => by rw [z, hT] at e4; cases e4]
      exact e4
    · have hbc : b ≠ c := fun z => by rw [z, gc4] at eb; cases eb
      have e4 := g4.s b u eb
      rw [h8 b hbc fun z => by rw [z, hT] at e4; cases e4]
      exact e4
    · show H8 q.1 = some (.own c)
      rw [h8 q.1 noc noT]; exact o4
    · show H8 p = some (.lst xs)
      rw [h8 p npc npT]; exact p4
    · show H8 p2 = some (.lst ys)
      rw [h8 p2 npc2 npT2]; exact hq1
    · rcases hb with z | z | z | z
      · rw [z]; exact gc4
      · rw [z]; exact off4 q.1 (k1.on (.inr (.inl rfl))) (k1.off q.1 (.inr (.inl rfl)))
      · rw [z]; exact g4.fr p (by rw [hp1]; simp) hg3
      · rw [z]; exact hg4
    · rcases hb with z | z | z | z
      · rw [z]; exact fr1 c (.inl rfl)
      · rw [z]; exact fr1 q.1 (.inr (.inl rfl))
      · rw [z]; exact le_none g1.h (le_none g2.h hp)
      · rw [z]; exact le_none g1.h (le_none g2.h (le_none g3.h hq))
end
/-- copy, as callers have it -/
structure CpD (P : Program) (w : World) (K : PySem.W.Frag) (mg : Str → Option Value) (base : Heap) (k : Nat) (chk : List PyData → R PyData) : Prop where
  ex : ∃ f fd ps, Meth K (dkC K) "copy" f ∧ FnOk P w K mg base (L2.CX P w) k f fd ps (spCp K chk) ∧ Binds K fd ps []
theorem CpD.mono {P w K mg base} {j k : Nat} {chk} (h : CpD P w K mg base j chk) (l : j ≤ k) : CpD P w K mg base k chk := by
  obtain ⟨f, fd, ps, a, b, c⟩ := h.ex
  exact ⟨f, fd, ps, a, b.mono l, c⟩
theorem cpD_mk {P : Program} {w : World} {K : PySem.W.Frag} {mg : Str → Option Value} {base : Heap} {qual : Str} {st : Stmt} {f : Addr} {fd : FuncData} {a0 a1 : Str} {k : Nat} {chk : List PyData → R PyData} {s1 s2 s3 : Stmt} (F : FnM K "copy" qual st f fd) (S : FnScope [a0, a1] [a0] (defScope st)) (hb : L2.Binds K fd [a0] []) (hm : Meth K (dkC K) "copy" f)
    (hbd : defBody st = [s1, s2, s3])
    (body : ∀ (cdv : Value) (A : Around) (outer : List Env) (s : Shared) (H : Hp) (E : XK), Room k (A.deeper (envOfC qual (defScope st) s.heap.objs.size f cdv)) →
      PSs (cxOf (L2.CX P w) P w K mg base [a0, a1] qual (defScope st) f cdv A outer s H E) [s1, s2, s3] (fun D σ H => ∃ G x D0 d r, σ = [some x, none] ∧ Le G H ∧ Dq K G x (dskD D0) ∧ dIx D0.p (.int 0) = .ok d ∧ chk [d] = .ok r ∧
      ∀ c G' H' q, Gr G H G' H' → Dk K G' H' c D0 q → (∀ b, Cell c q b → H b = none) → D.rt (.ref c) H')) : CpD P w K mg base (k + 1) chk := by
  refine ⟨⟨f, fd, [a0], hm, ?_, hb⟩⟩
  refine F.ok (sp := spCp K chk) S (fun vs H Q E h => ?_) (fun cdv A outer s H vs Q E hr h => ?_)
  · obtain ⟨G, x, D, d, r, e, _⟩ := h
    rw [e]; rfl
  · obtain ⟨G, x, D, d, r, e, l, dx, e1, e2, po⟩ := h
    have z := body cdv A outer s H E hr
    rw [← hbd] at z
    exact ⟨_, z, G, x, D, d, r, by rw [e]; rfl, l, dx, e1, e2, po⟩
def okR {α : Type} : R α → Bool
  | .ok _ => true
  | _ => false
/-- y.copy(), y a name -/
def mCopyX (i : Nat) (chk : List PyData → R PyData) : Gam → Wd → RW Addr := fun Γ W => match gat Γ i with
  | .ad a => match W.lookup a with
    | some D => if (calm D.p && (calmA D.dn && (calmA D.un && okR ((dIx D.p (.int 0)).bind fun d => chk [d])))) = true then .al W fun c => .ok c ((c, D) :: W) else .no
    | none => .no
  | _ => .no
section
variable {X : Cx} {E : XK}
theorem wx_copy (i : Nat) {pl : Sem Bool} {y : Str} {p apos pos : Pos} {k : Nat} {chk : List PyData → R PyData} (D : CpD X.prog X.w X.K X.mg X.base k chk) (hc : Cls X.K (dkC X.K)) (hr : Room k X.A) (hx : Passes (L2.CX X.prog X.w) X E)
    (hN : X.N[i]? = some y := by rfl) (hv : Vis X.env.scope y := by first | exact Or.inl rfl | exact Or.inr (Or.inl rfl) | exact Or.inr (Or.inr rfl)) (hd : (y == ("__debug__" : Str)) = false := by decide) (hcd : (y == ("__classdict__" : Str)) = false := by decide)
    (ht : eval (.Call (.Attribute (.Name y p) "copy" apos) [] [] pos) X.env = (do
      let ov ← eval (.Name y p) X.env
      standAt apos.atName
      let (f, first) ← holding [ov] (getMethod ov "copy" pl)
      callWith pos f first (backTo pos (starEach [] X.env)) (backToKw pos (keywordEach [] X.env))) := by rfl) :
    WX X E (.Call (.Attribute (.Name y p) "copy" apos) [] [] pos) (mCopyX i chk) := by
  obtain ⟨f, fd, ps, hm, F, hb⟩ := D.ex
  exact pe_of (pe_meth0 (pl := pl) (pe_var (i := i) hN hv hd hcd) hc hm F hr hb .nil hx ht) fun σ H Q ⟨G0, H0, G, Γ, W, qs, s, po⟩ => by
    unfold mCopyX at po
    cases ei : gat Γ i with
    | no => rw [ei] at po; exact po.elim
    | v d => rw [ei] at po; exact po.elim
    | own d => rw [ei] at po; exact po.elim
    | ad a =>
      rw [ei] at po
      dsimp only at po
      cases el : W.lookup a with
      | none => rw [el] at po; exact po.elim
      | some D0 =>
        rw [el] at po
        dsimp only at po
        split at po
        rotate_left
        · exact po.elim
        rename_i hcm
        obtain ⟨q1, hcm⟩ := Bool.and_eq_true_iff.mp hcm
        obtain ⟨q2, hcm⟩ := Bool.and_eq_true_iff.mp hcm
        obtain ⟨q3, q4⟩ := Bool.and_eq_true_iff.mp hcm
        obtain ⟨tp, e1, _⟩ := (s.ds.dk _ (lookup_mem el)).ins
        obtain ⟨d, r, e3, e4⟩ : ∃ d r, dIx D0.p (.int 0) = .ok d ∧ chk [d] = .ok r := by
          cases z1 : dIx D0.p (.int 0) with
          | ok d =>
            rw [z1, R.bind_ok] at q4
            cases z2 : chk [d] with
            | ok r => exact ⟨d, r, rfl, z2⟩
            | ex c => rw [z2] at q4; cases q4
            | no => rw [z2] at q4; cases q4
          | ex c => rw [z1] at q4; cases q4
          | no => rw [z1] at q4; cases q4
        refine ⟨.ref a, s.sz.sr.adr i a ei, a, _, _, rfl, e1, fsD_no (by decide +kernel) (by decide +kernel) (by decide +kernel), lif G H W qs, .ref a, D0, d, r, rfl, s.sr2.sub, s.ds.dsk (lookup_mem el), e3, e4, fun c G' H' q g k fr => ?_⟩
        obtain ⟨g1, g2⟩ := s.back g
        have k2 : Dk X.K (drp G' W qs) H' c D0 q := by
          obtain ⟨tp, f1, f2⟩ := k.ins
          obtain ⟨xs, f3, f4⟩ := k.l1
          obtain ⟨ys, f5, f6⟩ := k.l2
          refine ⟨k.cl, ⟨tp, f1, calm_dq g2 f2 q1⟩, k.own, ⟨xs, f3, calm_dqa g2 f4 q2⟩, ⟨ys, f5, calm_dqa g2 f6 q3⟩, k.ne, fun b hb => ?_⟩
          cases z : drp G' W qs b with
          | none => rfl
          | some u => have := (drp_some z).2; rw [k.off b hb] at this; cases this
        exact po c (s.fresh fr) (.ref c) _ H' _ g1.g (s.add g1 k2 fr) rfl
end
end PD

/-! The data layer: methods that return a new list; try whose handler reads a list of the frame. -/
namespace PD
open PySem PySem.Spec PyProof.Rows L2
/-! ### methods that return a new list -/
def spL (K : PySem.W.Frag) (mg : Str → Option Value) (n : Nat) (g : List PyData → R (List PyData)) : Sp := fun vs H Q E => ∃ G ds, Le G H ∧ DqAll K G vs ds ∧ ds.length = n ∧ PoL K mg E G H Q (g ds)
structure MnL (P : Program) (w : World) (K : PySem.W.Frag) (mg : Str → Option Value) (base : Heap) (k : Nat) (x : Str) (n : Nat) (g : List PyData → R (List PyData)) : Prop where
  ex : ∃ f fd ps, Meth K (dkC K) x f ∧ ps.length = n ∧ FnOk P w K mg base (L2.CX P w) k f fd ps (spL K mg n g) ∧ Binds K fd ps []
theorem MnL.mono {P w K mg base} {j k : Nat} {x n g} (h : MnL P w K mg base j x n g) (l : j ≤ k) : MnL P w K mg base k x n g := by
  obtain ⟨f, fd, ps, a, b, c, d⟩ := h.ex
  exact ⟨f, fd, ps, a, b, c.mono l, d⟩
def mDefL (ml : Gam → R (List PyData)) (n : Nat) : List PyData → R (List PyData) := fun ds => ml (ds.map .v ++ List.replicate (n - ds.length) .no)
theorem mnL_mk {P : Program} {w : World} {K : PySem.W.Frag} {mg : Str → Option Value} {base : Heap} {x qual : Str} {st : Stmt} {f : Addr} {fd : FuncData} {N ps : List Str} {k : Nat} {ml : Gam → R (List PyData)} {e : Expr} {pos : Pos} (F : FnM K x qual st f fd) (S : FnScope N ps (defScope st)) (hg : Meth K (dkC K) x f) (hb : L2.Binds K fd ps []) (hl : ps.length ≤ N.length)
    (hbd : defBody st = [.Return (some e) pos])
    (body : ∀ (cdv : Value) (A : Around) (outer : List Env) (s : Shared) (H : Hp) (E : XK), Room k (A.deeper (envOfC qual (defScope st) s.heap.objs.size f cdv)) →
      SL (cxOf (L2.CX P w) P w K mg base N qual (defScope st) f cdv A outer s H E) E e ml) : MnL P w K mg base (k + 1) x ps.length (mDefL ml N.length) := by
  refine ⟨⟨f, fd, ps, hg, rfl, ?_, hb⟩⟩
  refine F.ok (sp := spL K mg ps.length (mDefL ml N.length)) S (fun vs H Q E h => ?_) (fun cdv A outer s H vs Q E hr h => ?_)
  · obtain ⟨G, ds, _, d, e1, _⟩ := h
    rw [dpa_len d, e1]
  · obtain ⟨G, ds, l, dx, hn, po⟩ := h
    have z := pss_one (ps_ret (pos := pos) (body cdv A outer s H E hr))
    rw [← hbd] at z
    exact ⟨_, z, H, _, G, (sr_start (N := N) l dx (by rw [hn]; exact hl)).sr, po⟩
section
variable {X : Cx} {E : XK} {e : Expr} {m : M} {pos : Pos}
def mMethL (g : List PyData → R (List PyData)) (m : M) : Gam → R (List PyData) := fun Γ => (m Γ).bind fun d => if isDsk d = true then g [d] else .no
theorem PoL.gr {K : PySem.W.Frag} {mg} {E : XK} {G H G' H' : Hp} {Q : VK} {r : R (List PyData)} (h : PoL K mg E G H Q r) (g : Gr G H G' H') : PoL K mg E G' H' Q r := by
  cases r with
  | ok ds => exact fun p xs G2 H2 g2 hp => h p xs G2 H2 (g.trans g2) (le_none g.h hp)
  | ex c => exact fun H2 l => h H2 (le_trans g.h l)
  | no => exact h
theorem sl_meth0 {pl : Sem Bool} {x : Str} {apos : Pos} {k : Nat} {g : List PyData → R (List PyData)} (D : MnL X.prog X.w X.K X.mg X.base k x 1 g) (hc : Cls X.K (dkC X.K)) (hr : Room k X.A) (hx : Passes (L2.CX X.prog X.w) X E) (he : SE X E e m)
    (h1 : ¬ x = "present" := by decide +kernel) (h2 : ¬ x = "done" := by decide +kernel) (h3 : ¬ x = "undone" := by decide +kernel)
    (ht : eval (.Call (.Attribute e x apos) [] [] pos) X.env = (do
      let ov ← eval e X.env
      standAt apos.atName
      let (f, first) ← holding [ov] (getMethod ov x pl)
      callWith pos f first (backTo pos (starEach [] X.env)) (backToKw pos (keywordEach [] X.env))) := by rfl) :
    SL X E (.Call (.Attribute e x apos) [] [] pos) (mMethL g m) := by
  obtain ⟨f, fd, ps, hm, hl, F, hb⟩ := D.ex
  exact pe_of (pe_meth0 (pl := pl) he hc hm F hr hb .nil hx ht) fun σ H Q ⟨B0, Γ, G, sr, po⟩ => ⟨B0, Γ, G, sr, by
    replace po : PoL X.K X.mg E G H Q ((m Γ).bind fun d => if isDsk d = true then g [d] else .no) := po
    cases e1 : m Γ with
    | no => rw [e1] at po; exact po
    | ex c => rw [e1] at po; exact po
    | ok d =>
      rw [e1, R.bind_ok] at po
      intro x G1 H1 g1 dx
      split at po
      · rename_i hd
        obtain ⟨a, dx', l1, l2, tp, rfl, hcc, hi⟩ := dq_isDsk dx hd
        exact ⟨a, _, _, rfl, g1.s _ _ hi, fsD_no h1 h2 h3, G1, _, g1.s, .cons dx .nil, rfl, PoL.gr (r := g [d]) po g1⟩
      · exact po.elim⟩
end
/-! ### calls whose exceptions are caught in the frame -/
section
variable {α β : Type}
def PoEs (K : PySem.W.Frag) (mg : Str → Option Value) (Wx : L2.WX) (G0 H0 G : Hp) (σ : L2.St) (Γ : Gam) (Q : VK) : RW PyData → Prop
  | .ok d W => ∀ x G' H' qs, Le G G' → SWd K G0 H0 G' H' σ Γ W qs → Dq K G' x d → Q x H'
  | .ex c W => ∀ G' H' qs, SWd K G0 H0 G' H' σ Γ W qs → Wx (cV mg c) none σ H'
  | _ => False
def tEs (K : PySem.W.Frag) (mg : Str → Option Value) (Wx : L2.WX) (m : MWE) : TE := fun σ H Q => ∃ G0 H0 G Γ W qs, SWd K G0 H0 G H σ Γ W qs ∧ PoEs K mg Wx G0 H0 G σ Γ Q (m Γ W)
end
section
variable {X : Cx} {pos : Pos}
theorem pe_methS0 {CX : CXT} {k : Nat} {f C : Addr} {fd : FuncData} {ps : List Str} {sp : Sp} {E : L2.St → XK} {x : Str} {o : Expr} {ta : TE} {apos : Pos} {pl : Sem Bool} (he : PE X o ta) (c : Cls X.K C) (hm : Meth X.K C x f) (F : FnOk X.prog X.w X.K X.mg X.base CX k f fd ps sp) (hr : Room k X.A) (hb : Binds X.K fd ps []) (hx : ∀ σ, PassesAt CX X σ (E σ))
    (ht : eval (.Call (.Attribute o x apos) [] [] pos) X.env = (do
      let ov ← eval o X.env
      standAt apos.atName
      let (f, first) ← holding [ov] (getMethod ov x pl)
      callWith pos f first (backTo pos (starEach [] X.env)) (backToKw pos (keywordEach [] X.env))) := by rfl) :
    PE X (.Call (.Attribute o x apos) [] [] pos) (fun σ H Q => ta σ H fun y H1 => ∃ a dx fs, y = .ref a ∧ H1 a = some (.ins C dx fs) ∧ fs.lookup x = none ∧ sp [y] H1 Q (E σ)) := by
  refine ⟨fun pins s σ H Q I h => ?_⟩
  refine PySem.W.methodCall_KW (pl := pl) (thn (he.run pins s σ H _ I h) fun u s1 ⟨y, H1, I1, rx, a, dx, fs, ex, ea, l, q⟩ => ?_) ht
  subst ex
  obtain rfl : u = Value.ref a := rx
  refine getmeth_ok I1 ea c hm l ?_
  exact PySem.W.callWith_K0 (first := [.ref a]) I1.kIn hm.kp (run_fnS (us := [.ref a]) (vs := [.ref a]) F hr hb (hx σ) I1 (.cons rfl .nil) q)
theorem poCs_of {K : PySem.W.Frag} {mg} {Wx : L2.WX} {G0 H0 G H : Hp} {σ Γ W qs} {Q : VK} {r : RW PyData} (s : SWd K G0 H0 G H σ Γ W qs) (po : PoEs K mg Wx G0 H0 G σ Γ Q r) : PoC K mg (L2.WE Wx σ) G (drp H W qs) Q r := by
  cases r with
  | ok d W' => exact fun x G' H' qs' g dx dks b => po x G' H' qs' g.g (s.call g dks b) dx
  | ex c W' => exact fun G' H' qs' g dks b => po G' H' qs' (s.call g dks b)
  | al W f => exact po.elim
  | no => exact po
theorem es_meth0 (i : Nat) {Wx : L2.WX} {pl : Sem Bool} {x y : Str} {p apos : Pos} {k n : Nat} {g : GW} (D : MnW X.prog X.w X.K X.mg X.base k x n g) (hc : Cls X.K (dkC X.K)) (hr : Room k X.A) (hx : ∀ σ, PassesAt (L2.CX X.prog X.w) X σ (L2.WE Wx σ))
    (h1 : ¬ x = "present" := by decide +kernel) (h2 : ¬ x = "done" := by decide +kernel) (h3 : ¬ x = "undone" := by decide +kernel)
    (hN : X.N[i]? = some y := by rfl) (hv : Vis X.env.scope y := by first | exact Or.inl rfl | exact Or.inr (Or.inl rfl) | exact Or.inr (Or.inr rfl)) (hd : (y == ("__debug__" : Str)) = false := by decide) (hcd : (y == ("__classdict__" : Str)) = false := by decide)
    (ht : eval (.Call (.Attribute (.Name y p) x apos) [] [] pos) X.env = (do
      let ov ← eval (.Name y p) X.env
      standAt apos.atName
      let (f, first) ← holding [ov] (getMethod ov x pl)
      callWith pos f first (backTo pos (starEach [] X.env)) (backToKw pos (keywordEach [] X.env))) := by rfl) :
    PE X (.Call (.Attribute (.Name y p) x apos) [] [] pos) (tEs X.K X.mg Wx (mMethW i n g mNilA)) := by
  obtain ⟨f, fd, ps, hm, hl, F, hb⟩ := D.ex
  exact pe_of (pe_methS0 (pl := pl) (pe_var (i := i) hN hv hd hcd) hc hm F hr hb hx ht) fun σ H Q ⟨G0, H0, G, Γ, W, qs, s, po⟩ => by
    unfold mMethW at po
    cases ei : gat Γ i with
    | no => rw [ei] at po; exact po.elim
    | v d => rw [ei] at po; exact po.elim
    | own d => rw [ei] at po; exact po.elim
    | ad a =>
      rw [ei] at po
      dsimp only at po
      cases el : W.lookup a with
      | none => rw [el] at po; exact po.elim
      | some D0 =>
        rw [el] at po
        dsimp only [mNilA] at po
        rw [RW.of_ok, RW.bind_ok] at po
        obtain ⟨tp, e1, _⟩ := (s.ds.dk _ (lookup_mem el)).ins
        split at po
        · rename_i hn
          exact ⟨.ref a, s.sz.sr.adr i a ei, a, _, _, rfl, e1, fsD_no h1 h2 h3, G, [.a a], W, qs, s.sz.sr.sub, .a .nil, hn, s.ds, poCs_of s po⟩
        · exact po.elim
/-- try: if c: y.m1() else: y.m2() .. except X as e: return l if isinstance(e, C) else None -/
def mTryF (i fi : Nat) (nm : Str) (t : Gam → R Bool) (ma mb : MWE) (m2 : MW) : MW := fun Γ W => match t Γ with
  | .ok b => match (if b = true then ma Γ W else mb Γ W) with
    | .ok _ W1 => match m2 Γ W1 with
      | .nx Γ2 W2 => .nx Γ2 W2
      | _ => .no
    | .ex c W1 => if c = nm ∧ i < Γ.length then (match gat Γ fi with
      | .own ds => .rt (.list ds) W1
      | _ => .no) else .no
    | _ => .no
  | _ => .no
abbrev EF : XK := fun _ _ _ => False
theorem ws_tryF {E : XK} {nm x n : Str} {i fi : Nat} {c e1 e2 : Expr} {S2 b₀ : Stmt} {suite : List Stmt} {t : Gam → R Bool} {ma mb : MWE} {m2 : MW} {np pos' ip p1 p2 : Pos} (hex : Exs X.K X.mg x [nm]) (hs : X.stack = X.env :: X.outer) (hf : X.env.frame = some X.env.locals) (hN : X.N.Nodup) (hi : X.N[i]? = some n) (hln : X.env.kindOf n = some .local) (hg : Gl X x) (hd : (x == ("__debug__" : Str)) = false)
    (tk : Takes X (fun _ _ _ _ => False)) (hne : fi ≠ i)
    (hc : ∀ (pn : List (Addr × Obj)) (xe : Value → Shared → Prop), ST (X.tr pn xe) EF c t)
    (ha : ∀ (Wx : L2.WX) (pn : List (Addr × Obj)) (xe : Value → Shared → Prop), (∀ σ, PassesAt (L2.CX X.prog X.w) (X.tr pn xe) σ (L2.WE Wx σ)) → PE (X.tr pn xe) e1 (tEs X.K X.mg Wx ma))
    (hb : ∀ (Wx : L2.WX) (pn : List (Addr × Obj)) (xe : Value → Shared → Prop), (∀ σ, PassesAt (L2.CX X.prog X.w) (X.tr pn xe) σ (L2.WE Wx σ)) → PE (X.tr pn xe) e2 (tEs X.K X.mg Wx mb))
    (h2 : ∀ (pn : List (Addr × Obj)) (xe : Value → Shared → Prop), Takes (X.tr pn xe) (fun cls d _ H => EF cls d H) → PassesOwn (model X.prog X.w) X.A X.env xe → WS (X.tr pn xe) EF S2 m2)
    (hh : ∀ (a : Addr) (oe : Obj) (pn : List (Addr × Obj)), InS X oe [nm] nm → PSs (X.suite a ((a, oe) :: pn)) (b₀ :: suite) (fun D σ H => AtE a i σ ∧ ∃ p, σ[fi]? = some (some (.ref p)) ∧ D.rt (.ref p) H))
    (w1 : ∀ (pn : List (Addr × Obj)) (xe : Value → Shared → Prop), swapsWith e1 none p1.line (X.tr pn xe).env = pure false) (w2 : ∀ (pn : List (Addr × Obj)) (xe : Value → Shared → Prop), swapsWith e2 none p2.line (X.tr pn xe).env = pure false) :
    WS X E (.Try [.If c [.Expr e1 p1] [.Expr e2 p2] ip, S2] [.ExceptHandler (some (.Name x np)) (some n) (b₀ :: suite) pos'] [] [] pos) (mTryF i fi nm t ma mb m2) := by
  obtain ⟨B, hB, hx⟩ := hex.ex
  refine ps_of (ps_try_as (c := .ref B) (i := i) (Wout := fun _ _ _ _ => False)
    (tb := fun Wx D σ H => ∃ G0 H0 G Γ W qs b, SWd X.K G0 H0 G H σ Γ W qs ∧ t Γ = .ok b ∧ PoEs X.K X.mg Wx G0 H0 G σ Γ (fun _ H' => tSW X.K X.mg EF m2 D σ H') (if b = true then ma Γ W else mb Γ W))
    (ts := fun a cls d D σ H => cls = cV X.mg nm ∧ d = none ∧ AtE a i σ ∧ ∃ p, σ[fi]? = some (some (.ref p)) ∧ D.rt (.ref p) H) hs hf hN hi hln ⟨hg, hd, .inl hB⟩ tk ?_ ?_) ?_
  · intro Wx pn xe tk' po
    have ps : ∀ σ, PassesAt (L2.CX X.prog X.w) (X.tr pn xe) σ (L2.WE Wx σ) := fun σ => passAt tk' σ
    refine pss_of (pss_cons (ps_if (hc pn xe) (pss_one (ps_expr (ha Wx pn xe ps) (w1 pn xe))) (pss_one (ps_expr (hb Wx pn xe ps) (w2 pn xe)))) (pss_one (h2 pn xe (tk'.imp fun _ _ _ _ h => h.elim) po))) ?_
    rintro D σ H ⟨G0, H0, G, Γ, W, qs, b, s, et, po⟩
    refine ⟨H0, Γ, G, s.sz.sr, ?_⟩
    show Po RB X.mg EF G H _ (t Γ)
    rw [et]
    intro b' G' H' g eb
    have eb : b' = b := eb
    subst eb
    have s1 := s.go g
    cases b' with
    | true =>
      rw [if_pos rfl] at po ⊢
      refine ⟨G0, H0, G', Γ, W, qs, s1, ?_⟩
      generalize ma Γ W = r at po
      cases r with
      | ok d W1 => exact fun x G2 H2 q2 l2 s2 dx => po x G2 H2 q2 (le_trans g.g l2) s2 dx
      | ex c W1 => exact po
      | al W f => exact po
      | no => exact po
    | false =>
      rw [if_neg Bool.false_ne_true] at po ⊢
      refine ⟨G0, H0, G', Γ, W, qs, s1, ?_⟩
      generalize mb Γ W = r at po
      cases r with
      | ok d W1 => exact fun x G2 H2 q2 l2 s2 dx => po x G2 H2 q2 (le_trans g.g l2) s2 dx
      | ex c W1 => exact po
      | al W f => exact po
      | no => exact po
  · intro a oe cls d pn hz hfl
    refine ⟨fun pins s σ H D I q => ?_⟩
    obtain ⟨rfl, rfl, q1, q2⟩ := q
    obtain ⟨Dc, g1, g2, g3, g4⟩ := hx nm (List.mem_singleton.mpr rfl)
    have e1 : cV X.mg nm = .ref Dc := by unfold cV; rw [g1]; rfl
    rw [e1] at hz
    exact (hh a oe pn ⟨Dc, g2, hz, hfl, g4⟩).run pins s σ H D I ⟨q1, q2⟩
  · rintro D σ H ⟨G0, H0, G, Γ, W, qs, s, po⟩
    unfold mTryF at po
    cases et : t Γ with
    | no => rw [et] at po; exact po.elim
    | ex c => rw [et] at po; exact po.elim
    | ok b =>
      rw [et] at po
      dsimp only at po
      refine ⟨G0, H0, G, Γ, W, qs, b, s, et, ?_⟩
      cases er : (if b = true then ma Γ W else mb Γ W) with
      | no => rw [er] at po; exact po.elim
      | al W1 f => rw [er] at po; exact po.elim
      | ok d W1 =>
        rw [er] at po
        dsimp only at po
        intro x G' H' qs' l s' dx
        refine ⟨G0, H0, G', Γ, W1, qs', s', ?_⟩
        cases e2 : m2 Γ W1 with
        | nx Γ2 W2 => rw [e2] at po; exact po
        | bk Γ2 W2 => rw [e2] at po; exact po.elim
        | ct Γ2 W2 => rw [e2] at po; exact po.elim
        | rt d W2 => rw [e2] at po; exact po.elim
        | ex c W2 => rw [e2] at po; exact po.elim
        | al W2 f => rw [e2] at po; exact po.elim
        | no => rw [e2] at po; exact po.elim
      | ex c W1 =>
        rw [er] at po
        dsimp only at po
        split at po
        rotate_left
        · exact po.elim
        rename_i hcn
        obtain ⟨hcn, hil⟩ := hcn
        subst hcn
        intro G' H' qs' s'
        cases ef : gat Γ fi with
        | no => rw [ef] at po; exact po.elim
        | v d => rw [ef] at po; exact po.elim
        | ad d => rw [ef] at po; exact po.elim
        | own ds =>
          rw [ef] at po
          obtain ⟨p, xs, f1, f2, f3, f4⟩ := s'.sz.sr.own fi ds ef
          obtain ⟨Dc, g1, g2, g3, g4⟩ := hx c (List.mem_singleton.mpr rfl)
          have e1 : cV X.mg c = .ref Dc := by unfold cV; rw [g1]; rfl
          have hlt : i < σ.length := by rw [s'.sz.sr.len]; exact hil
          refine ⟨true, by rw [e1]; exact g3, fun _ a ha => ⟨rfl, rfl, List.getElem?_set_self hlt, p, by rw [List.getElem?_set_ne (Ne.symm hne)]; exact f1, ?_⟩, fun z => nomatch z⟩
          obtain ⟨G1, l1, s1⟩ := s'.fzs [fi]
          refine po (.ref p) G1 _ qs' s1.sz.gr ?_ s1.ds s1.base
          have hv : gat (fz [fi] Γ) fi = .v (.list ds) := by
            show gat (fz1 fi Γ) fi = _
            unfold fz1
            rw [ef]
            rw [gat_set, if_pos ⟨rfl, gat_lt (by rw [ef]; simp)⟩]
          obtain ⟨v, v1, v2⟩ := s1.sz.sr.val fi _ hv
          rw [f1] at v1
          cases v1
          exact v2
end
end PD

/-! The data layer: the last rules for laws with desks. -/
namespace PD
open PySem PySem.Spec PyProof.Rows L2
section
variable {X : Cx} {E : XK} {st : Stmt} {a b e : Expr} {m : M} {pos : Pos}
def mFzS (l : List Nat) (m : MW) : MW := fun Γ W => m (fz l Γ) W
theorem ws_fzS (l : List Nat) {m : MW} (h : WS X E st m) : WS X E st (mFzS l m) := ws_fz l h
abbrev SWW (X : Cx) (E : XK) (e : Expr) (m : Gam → Wd → RW Bool) : Prop := PW X e (tE X.K RB X.mg E m)
def mOrW (a b : Gam → Wd → RW Bool) : Gam → Wd → RW Bool := fun Γ W => (a Γ W).bind fun c W1 => if c = true then .ok true W1 else b Γ W1
variable {ta tb : Gam → Wd → RW Bool} {rest : List Expr}
theorem sww_or1 (ha : WT X E a ta) : SWW X E (.BoolOp .Or [a] pos) ta := pw_or1 ha
theorem sww_or (ha : WT X E a ta) (hb : SWW X E (.BoolOp .Or (b :: rest) pos) tb) : SWW X E (.BoolOp .Or (a :: b :: rest) pos) (mOrW ta tb) :=
  pw_of (pw_or ha hb) fun σ H Q ⟨G0, H0, G, Γ, W, qs, s, po⟩ => ⟨G0, H0, G, Γ, W, qs, s, PoE.bind po fun c x G1 H1 W1 q1 l1 s1 dx po1 => by
    have dx : x = c := dx
    subst dx
    cases x with
    | true => exact PoE.ok (β := Bool) po1 s1 rfl
    | false => exact ⟨G0, H0, G1, Γ, W1, q1, s1, po1⟩⟩
theorem wt_w {m : Gam → Wd → RW Bool} (h : SWW X E e m) : WT X E e m := h.pt
def mRevL (m : M) : Gam → R (List PyData) := fun Γ => (m Γ).bind dRevL
theorem sl_revM {k : Nat} {p1 p2 p3 : Pos} (he : SE X E e m) : SL X E (.Subscript e (.Slice none none (some (.UnaryOp .USub (.Constant (.int 1) k p1) p2)) p3) pos) (mRevL m) := sl_rev he
def mLstN (m : M) : Gam → R (List PyData) := fun Γ => (m Γ).bind dListL
theorem sl_listM {p : Pos} (he : SE X E e m) (hm : X.mg "list" = none) (hg : Gl X "list" := by exact rfl)
    (hst : starEach [e] X.env = (false, eval e X.env) :: starEach [] X.env := by rfl) (hpl : (backTo pos (starEach [] X.env)).any (·.1) = false := by rfl) : SL X E (.Call (.Name "list" p) [e] [] pos) (mLstN m) := sl_list he hm hg hst hpl
/-! ### a, b, c = Desk(e), .. by three stores -/
theorem wb_newpar3 {k : Nat} {chk : List PyData → R PyData} (i0 i1 i2 : Nat) {x y z : Str} {v1 v2 : Expr} {its : List Pi} {rest : List Stmt} {mr : MW} {p dpos px py pz pt : Pos} {kt k2 pt2} (D : MkD X.prog X.w X.K X.mg X.base k chk) (hr : Room (k + 1) X.A) (hx : Passes (L2.CX X.prog X.w) X E) (he : SE X E e m)
    (hc : X.calm = true) (hN : X.N.Nodup) (ha : SP2 X E [v1, v2] its) (hl2 : its.length = 2) (hr2 : WB X E rest mr) (hi : X.N[i0]? = some x := by rfl) (hj : X.N[i1]? = some y := by rfl) (hk : X.N[i2]? = some z := by rfl)
    (hij : i0 ≠ i1 := by decide) (hik : i0 ≠ i2 := by decide) (hjk : i1 ≠ i2 := by decide)
    (hxl : X.env.scope.names.lookup x = some .local := by rfl) (hyl : X.env.scope.names.lookup y = some .local := by rfl) (hzl : X.env.scope.names.lookup z = some .local := by rfl) (hg : Gl X "Desk" := by exact rfl)
    (hst : starEach [e] X.env = (false, eval e X.env) :: starEach [] X.env := by rfl) (hpl : (backTo dpos (starEach [] X.env)).any (·.1) = false := by rfl)
    (hsA : starEach (.Call (.Name "Desk" p) [e] [] dpos :: [v1, v2]) X.env = (false, eval (.Call (.Name "Desk" p) [e] [] dpos) X.env) :: starEach [v1, v2] X.env := by rfl)
    (hw : swappedStores [.Tuple [.Name x px, .Name y py, .Name z pz] kt pt] (.Tuple [.Call (.Name "Desk" p) [e] [] dpos, v1, v2] k2 pt2) X.env = pure (some [x, y, z]) := by rfl)
    (hs : swapsWithSole [.Tuple [.Name x px, .Name y py, .Name z pz] kt pt] (.Tuple [.Call (.Name "Desk" p) [e] [] dpos, v1, v2] k2 pt2) pos.line X.env = pure false := by rfl) :
    PSs X (.Assign [.Tuple [.Name x px, .Name y py, .Name z pz] kt pt] (.Tuple [.Call (.Name "Desk" p) [e] [] dpos, v1, v2] k2 pt2) pos :: rest) (tSN X.K X.mg E chk m its i0 [i1, i2] mr) :=
  pss_of (pss_cons (ps_par3 hc hN hi hj hk hij hik hjk hxl hyl hzl (pa_cons (pe_newD D hr hx he hg hst hpl) ha hsA) hw hs) hr2) fun D σ H ⟨G0, H0, G, Γ, s, d, ss, em, ei, po⟩ => by
    refine ⟨H0, Γ, G, s.sr, ?_⟩
    rw [em]
    intro a G1 H1 q g k hb
    have hni : i0 ∉ [i1, i2] := by simp [hij, hik]
    have sw : SWd X.K G0 H0 G1 H1 σ Γ [(a, deskOf d)] (fun _ => q) := by
      refine ⟨s.go g, k.alone, fun b hc => le_none s.gr.h (hb b (inC_alone.mp hc)), fun i es p h1 h2 hc => ?_⟩
      obtain ⟨p', xs, e1, e2, _⟩ := s.sr.own i es h1
      rw [h2] at e1; cases e1
      rw [hb p (inC_alone.mp hc)] at e2; cases e2
    have t : tS X.K X.mg E (mPar [i1, i2] [] its) { nx := fun σ' H' => ∃ G' qs, SWd X.K G0 H0 G' H' σ' (gsetAll [i1, i2] ss Γ) [(a, deskOf d)] qs, rt := fun _ _ => False } σ H1 := by
      refine tS_up ⟨G0, H0, G1, Γ, [(a, deskOf d)], fun _ => q, sw, ?_⟩
      unfold mUp mPar
      rw [fz_nil, ei]
      exact fun σ' G' H' qs' s' => ⟨G', qs', s'⟩
    refine tPi_len (tPi_mono (par_core t) fun xs H2 q2 el => ?_)
    rw [hl2] at el
    match xs, el with
    | [u, v], _ =>
      obtain ⟨G', qs', s'⟩ := q2 H2 (fun _ _ e => e) (by rw [hl2]; rfl)
      refine ⟨.ref a, u, v, rfl, ?_⟩
      have e1 : ((σ.set i0 (some (.ref a))).set i1 (some u)).set i2 (some v) = (ssetAll [i1, i2] [u, v] σ).set i0 (some (.ref a)) := ssetAll_comm i0 _ [i1, i2] [u, v] σ hni
      have e2 : gsetAll (i0 :: [i1, i2]) (.ad a :: ss) Γ = (gsetAll [i1, i2] ss Γ).set i0 (.ad a) := gsetAll_comm i0 _ [i1, i2] ss Γ hni
      have po := po a
      rw [e1]
      rw [e2] at po
      exact ⟨G0, H0, G', _, _, qs', s'.setA i0 a, po⟩
end
/-- return l if isinstance(e, C) else None -/
theorem hd_ifl {X : Cx} {a : Addr} {oe : Obj} {pn : List (Addr × Obj)} {i fi : Nat} {np pos : Pos} {t ea eb : Expr} {tb : TE} (h : PE (X.suite a ((a, oe) :: pn)) t (fun σ H Q => AtE a i σ ∧ Q (.bl true) H)) (ha : PE (X.suite a ((a, oe) :: pn)) ea (tVar fi)) (hb : PE (X.suite a ((a, oe) :: pn)) eb tb)
    (he : ∀ whole, isTrue t (X.suite a ((a, oe) :: pn)).env whole = (do let v ← whole; standAt t.pos; holding [v] (truthy v)) := by intro _; rfl) : PSs (X.suite a ((a, oe) :: pn)) [.Return (some (.IfExp t ea eb np)) pos] (fun D σ H => AtE a i σ ∧ ∃ p, σ[fi]? = some (some (.ref p)) ∧ D.rt (.ref p) H) :=
  pss_of (pss_one (ps_ret (pe_ifExp (pt_val h he) ha hb))) fun D σ H ⟨q1, p, q2, q3⟩ => ⟨q1, true, rfl, _, q2, q3⟩
end PD

namespace PD
open PySem L2
def m_is_int : MS := (mRet [] (mAndV (mIsi .int (mVar 0)) (mAndV (mNotV (mIsi .bool (mVar 0))) (mChain dLe dLe (mVar 1) (mVar 0) (mVar 2)))))
def m_is_bidder : MS := (mRet [] (mAndV (mIsi .str (mVar 0)) (mAndV (mOp dEq (mCall dLen (mCons (mVar 0) mNil)) (mC (.int 1))) (mOp dIn (mVar 0) (mC (.str (PySem.Str.ofString "abcdef")))))))
def m_step_up : MS := (mRet [] (mOp dAdd (mVar 1) (mOp dIx (mL (mLc [2, 3] (mItems (mOp dIx (mVar 0) (mC (.int 0)))) (bTup [(bName 2), (bName 3)]) (mB (mOp dLe (mVar 2) (mVar 1))) (mVar 3))) (mNeg (mC (.int 1))))))
def m_law_pick : MS := (mSeq (mSet 3 [] (mIf (mB (mOp dNe (mVar 0) (mL mNil))) (mOp dIx (mVar 0) (mOp dMod (mVar 1) (mCall dLen (mCons (mVar 0) mNil)))) (mC (.int 0))))
    (mSeq (mPar [5, 6] [] [.v (mOp dDiv (mVar 3) (mOp dPow (mC (.int 10)) (mC (.int 18)))), .v (mOp dDiv (mVar 1) (mCall dMax (mCons (mCall dLen (mCons (mVar 0) mNil)) (mCons (mC (.int 1)) mNil))))])
    (mSeq (mWh [] (mAnd (mB (mOp dGt (mVar 5) (mC (.int 0)))) (mB (mOp dGt (mVar 6) (mC (.int 0))))) (mPar [5, 6] [] [.v (mOp dDiv (mVar 5) (mC (.int 840))), .v (mOp dSub (mVar 6) (mC (.int 1)))]) 1000)
    (mSeq (mIfS [] (mB (mOp dGt (mVar 5) (mC (.int 0)))) (mRet [] (mOp dMod (mOp dMod (mVar 5) (mC (.int 840))) (mVar 2))) mSkip)
    (mSeq (mSet 4 [] (mOp dMod (mOp dMul (mOp dAdd (mOp dMul (mVar 3) (mC (.int 31))) (mOp dMul (mC (.int 6151)) (mOp dAdd (mVar 1) (mC (.int 1))))) (mC (.int 40692))) (mC (.int 2147483399))))
    (mRet [] (mOp dMod (mOp dMod (mOp dAdd (mOp dMul (mVar 4) (mVar 4)) (mOp dDiv (mVar 4) (mC (.int 31)))) (mC (.int 2147483629))) (mVar 2))))))))
def m_law_up : MS := (mSeq (mSet 2 [] (mL (mLc [3, 4] (mItems (mOp dIx (mVar 0) (mC (.int 0)))) (bTup [(bName 3), (bName 4)]) (mB (mOp dLe (mVar 3) (mVar 1))) (mVar 4))))
    (mRet [] (mOp dAdd (mVar 1) (mCall dMax (mCons (mVar 2) mNil)))))
def m_is_step : MS := (mSeq (mIfS [] (mOr (mNot (mB (mIsi .tuple (mVar 0)))) (mB (mOp dNe (mCall dLen (mCons (mVar 0) mNil)) (mC (.int 2))))) (mRet [] (mC (.bool false))) mSkip)
    (mRet [] (mAndV (mCall (mDef m_is_int 3) (mCons (mOp dIx (mVar 0) (mC (.int 0))) (mCons (mC (.int 0)) (mCons (mC (.int 200)) mNil)))) (mCall (mDef m_is_int 3) (mCons (mOp dIx (mVar 0) (mC (.int 1))) (mCons (mC (.int 1)) (mCons (mC (.int 50)) mNil)))))))
def m_is_bid : MS := (mSeq (mIfS [] (mOr (mNot (mB (mIsi .tuple (mVar 0)))) (mB (mOp dNe (mCall dLen (mCons (mVar 0) mNil)) (mC (.int 2))))) (mRet [] (mC (.bool false))) mSkip)
    (mRet [] (mAndV (mCall (mDef m_is_bidder 1) (mCons (mOp dIx (mVar 0) (mC (.int 0))) mNil)) (mCall (mDef m_is_int 3) (mCons (mOp dIx (mVar 0) (mC (.int 1))) (mCons (mC (.int 1)) (mCons (mC (.int 200)) mNil)))))))
def m_check_price : MS := (mIfS [] (mNot (mB (mCall (mDef m_is_int 3) (mCons (mVar 0) (mCons (mC (.int 0)) (mCons (mC (.int 200)) mNil)))))) (mRaise (PySem.Str.ofString "InvalidPrice")) mSkip)
def m_law_house : MS := (mSeq (mPar [4, 5, 6] [] [.o mNil, .v (mC (.int 0)), .v (mC (.int 0))])
    (mSeq (mFor [] (mRng (mCons (mOp dAdd (mC (.int 1)) (mCall (mDef m_law_pick 7) (mCons (mVar 0) (mCons (mVar 1) (mCons (mC (.int 3)) mNil))))) mNil)) (bName 2) (mSeq (mSet 6 [] (mOp dAdd (mOp dAdd (mVar 6) (mC (.int 1))) (mCall (mDef m_law_pick 7) (mCons (mVar 0) (mCons (mOp dAdd (mOp dAdd (mVar 1) (mC (.int 1))) (mOp dMul (mC (.int 2)) (mVar 2))) (mCons (mC (.int 3)) mNil))))))
    (mSeq (mApp 4 [] (mTup (mCons (mVar 5) (mCons (mVar 6) mNil))))
    (mSet 5 [] (mOp dAdd (mOp dAdd (mVar 5) (mC (.int 1))) (mCall (mDef m_law_pick 7) (mCons (mVar 0) (mCons (mOp dAdd (mOp dAdd (mVar 1) (mC (.int 2))) (mOp dMul (mC (.int 2)) (mVar 2))) (mCons (mC (.int 12)) mNil)))))))))
    (mSeq (mSet 3 [] (mOp dAdd (mC (.int 1)) (mCall (mDef m_law_pick 7) (mCons (mVar 0) (mCons (mOp dAdd (mVar 1) (mC (.int 9))) (mCons (mC (.int 8)) mNil))))))
    (mRet [4] (mTup (mCons (mCall dTuple (mCons (mVar 4) mNil)) (mCons (mVar 3) (mCons (mOp dAdd (mVar 3) (mOp dIx (mTup (mCons (mC (.int 0)) (mCons (mC (.int 0)) (mCons (mC (.int 3)) (mCons (mC (.int 9)) (mCons (mC (.int 20)) mNil)))))) (mCall (mDef m_law_pick 7) (mCons (mVar 0) (mCons (mOp dAdd (mVar 1) (mC (.int 10))) (mCons (mC (.int 5)) mNil)))))) mNil))))))))
def m_are_steps : MS := (mSeq (mIfS [] (mOr (mNot (mB (mIsi .tuple (mVar 0)))) (mOr (mNot (mB (mChain dLe dLe (mC (.int 1)) (mCall dLen (mCons (mVar 0) mNil)) (mC (.int 4))))) (mNot (mB (mCall dAll (mCons (mL (mLc [4] (mItems (mVar 0)) (bName 4) mT (mCall (mDef m_is_step 1) (mCons (mVar 4) mNil)))) mNil)))))) (mRet [] (mC (.bool false))) mSkip)
    (mSeq (mSet 1 [] (mL (mLc [2, 3] (mZip (mCons (mVar 0) (mCons (mSl (mVar 0) (mPS (mC (.int 1))) mPN) mNil))) (bTup [(bName 2), (bName 3)]) mT (mAndV (mOp dLt (mOp dIx (mVar 2) (mC (.int 0))) (mOp dIx (mVar 3) (mC (.int 0)))) (mOp dLt (mOp dIx (mVar 2) (mC (.int 1))) (mOp dIx (mVar 3) (mC (.int 1))))))))
    (mRet [] (mAndV (mOp dEq (mOp dIx (mOp dIx (mVar 0) (mC (.int 0))) (mC (.int 0))) (mC (.int 0))) (mCall dAll (mCons (mVar 1) mNil))))))
def m_are_bids : MS := (mSeq (mIfS [] (mOr (mNot (mB (mIsi .list (mVar 0)))) (mB (mOp dGt (mCall dLen (mCons (mVar 0) mNil)) (mC (.int 8))))) (mRet [] (mC (.bool false))) mSkip)
    (mRet [] (mCall dAll (mCons (mL (mLc [1] (mItems (mVar 0)) (bName 1) mT (mCall (mDef m_is_bid 1) (mCons (mVar 1) mNil)))) mNil))))
def m_is_sale : MS := (mSeq (mIfS [] (mOr (mNot (mB (mIsi .tuple (mVar 0)))) (mOr (mB (mOp dNe (mCall dLen (mCons (mVar 0) mNil)) (mC (.int 3)))) (mNot (mB (mCall (mDef m_are_steps 5) (mCons (mOp dIx (mVar 0) (mC (.int 0))) mNil)))))) (mRet [] (mC (.bool false))) mSkip)
    (mSeq (mAsg (bTup [(bName 1), (bName 2), (bName 3)]) [] (mVar 0))
    (mRet [] (mAndV (mCall (mDef m_is_int 3) (mCons (mVar 2) (mCons (mC (.int 1)) (mCons (mC (.int 100)) mNil)))) (mCall (mDef m_is_int 3) (mCons (mVar 3) (mCons (mVar 2) (mCons (mC (.int 200)) mNil))))))))
def m_check_sale : MS := (mIfS [] (mNot (mB (mCall (mDef m_is_sale 4) (mCons (mVar 0) mNil)))) (mRaise (PySem.Str.ofString "InvalidSale")) mSkip)
def m_next_price : MS := (mSeq (mDo [] (mCall (mDef m_check_sale 1) (mCons (mVar 0) mNil)))
    (mSeq (mDo [] (mCall (mDef m_check_price 1) (mCons (mVar 1) mNil)))
    (mRet [] (mCall (mDef m_step_up 4) (mCons (mVar 0) (mCons (mVar 1) mNil))))))
def m_climb : MS := (mSeq (mDo [] (mCall (mDef m_check_sale 1) (mCons (mVar 0) mNil)))
    (mSeq (mDo [] (mCall (mDef m_check_price 1) (mCons (mVar 1) mNil)))
    (mSeq (mDo [] (mCall (mDef m_check_price 1) (mCons (mVar 2) mNil)))
    (mSeq (mOwn 3 [] (mCons (mVar 1) mNil))
    (mSeq (mWh [] (mB (mOp dLe (mCall (mDef m_step_up 4) (mCons (mVar 0) (mCons (mIxO 3 (mNeg (mC (.int 1)))) mNil))) (mVar 2))) (mApp 3 [] (mCall (mDef m_step_up 4) (mCons (mVar 0) (mCons (mIxO 3 (mNeg (mC (.int 1)))) mNil)))) 1000)
    (mRet [3] (mVar 3)))))))
def m_with_reserve : MS := (mSeq (mAsg (bTup [(bName 2), (bName 3), (bName 4)]) [] (mVar 1))
    (mRet [] (mIf (mB (mOp dGe (mVar 4) (mOp dIx (mVar 0) (mC (.int 2))))) (mTup (mCons (mVar 2) (mCons (mCall dMax (mCons (mVar 3) (mCons (mOp dIx (mVar 0) (mC (.int 2))) mNil))) (mCons (mVar 4) mNil)))) (mVar 1))))
def m_find_winner : MS := (mRet [] (mIf (mAnd (mB (mOp dNe (mOp dIx (mVar 1) (mC (.int 0))) (mC (.str (PySem.Str.ofString ""))))) (mB (mOp dGe (mOp dIx (mVar 1) (mC (.int 2))) (mOp dIx (mVar 0) (mC (.int 2)))))) (mOp dIx (mVar 1) (mC (.int 0))) (mC .none)))
def m_is_refused : MS := (mSeq (mAsg (bTup [(bName 3), (bName 4), (bName 5)]) [] (mVar 1))
    (mSeq (mIfS [] (mB (mOp dEq (mVar 3) (mC (.str (PySem.Str.ofString ""))))) (mRet [] (mOp dLt (mOp dIx (mVar 2) (mC (.int 1))) (mOp dIx (mVar 0) (mC (.int 1))))) mSkip)
    (mSeq (mIfS [] (mB (mOp dEq (mOp dIx (mVar 2) (mC (.int 0))) (mVar 3))) (mRet [] (mOp dLe (mOp dIx (mVar 2) (mC (.int 1))) (mVar 5))) mSkip)
    (mRet [] (mOp dLt (mOp dIx (mVar 2) (mC (.int 1))) (mCall (mDef m_step_up 4) (mCons (mVar 0) (mCons (mVar 4) mNil))))))))
def m_law_offers : MS := (mSeq (mOwn 4 [] mNil)
    (mSeq (mFor [] (mRng (mCons (mCall (mDef m_law_pick 7) (mCons (mVar 0) (mCons (mVar 1) (mCons (mOp dAdd (mVar 2) (mC (.int 1))) mNil)))) mNil)) (bName 5) (mSeq (mSet 6 [] (mOp dIx (mC (.str (PySem.Str.ofString "abcdef"))) (mIf (mB (mVar 3)) (mVar 5) (mCall (mDef m_law_pick 7) (mCons (mVar 0) (mCons (mOp dAdd (mOp dAdd (mVar 1) (mC (.int 1))) (mOp dMul (mC (.int 3)) (mVar 5))) (mCons (mC (.int 4)) mNil)))))))
    (mSeq (mSet 7 [] (mOp dAdd (mC (.int 1)) (mCall (mDef m_law_pick 7) (mCons (mVar 0) (mCons (mOp dAdd (mOp dAdd (mVar 1) (mC (.int 2))) (mOp dMul (mC (.int 3)) (mVar 5))) (mCons (mC (.int 30)) mNil))))))
    (mSeq (mIfS [] (mAnd (mB (mOp dGt (mVar 5) (mC (.int 0)))) (mB (mOp dEq (mCall (mDef m_law_pick 7) (mCons (mVar 0) (mCons (mOp dAdd (mOp dAdd (mVar 1) (mC (.int 3))) (mOp dMul (mC (.int 3)) (mVar 5))) (mCons (mC (.int 3)) mNil)))) (mC (.int 0))))) (mSet 7 [] (mCall dMax (mCons (mC (.int 1)) (mCons (mOp dSub (mOp dAdd (mOp dIx (mIxO 4 (mNeg (mC (.int 1)))) (mC (.int 1))) (mCall (mDef m_law_pick 7) (mCons (mVar 0) (mCons (mOp dAdd (mOp dAdd (mVar 1) (mC (.int 2))) (mOp dMul (mC (.int 3)) (mVar 5))) (mCons (mC (.int 5)) mNil))))) (mC (.int 2))) mNil)))) mSkip)
    (mApp 4 [] (mTup (mCons (mVar 6) (mCons (mVar 7) mNil))))))))
    (mRet [4] (mVar 4))))
def m_law_run : MS := (mSeq (mAsg (bTup [(bName 3), (bName 4), (bName 5)]) [] (mVar 0))
    (mSeq (mPar [6, 7, 8, 9, 10] [] [.o mNil, .o mNil, .v (mC (.str (PySem.Str.ofString ""))), .v (mC (.int 0)), .v (mC (.int 0))])
    (mSeq (mFor [] (mRng (mCons (mCall dLen (mCons (mVar 1) mNil)) mNil)) (bName 2) (mSeq (mAsg (bTup [(bName 12), (bName 13)]) [] (mOp dIx (mVar 1) (mVar 2)))
    (mSeq (mSet 11 [] (mIf (mB (mOp dEq (mVar 8) (mC (.str (PySem.Str.ofString ""))))) (mVar 4) (mCall (mDef m_law_up 5) (mCons (mVar 0) (mCons (mVar 9) mNil)))))
    (mSeq (mIfS [] (mB (mOp dEq (mVar 12) (mVar 8))) (mSet 11 [] (mOp dAdd (mVar 10) (mC (.int 1)))) mSkip)
    (mSeq (mIfS [] (mB (mOp dLt (mVar 13) (mVar 11))) (mApp 7 [] (mVar 2)) (mIfS [] (mB (mOp dEq (mVar 8) (mC (.str (PySem.Str.ofString ""))))) (mPar [8, 9, 10] [] [.v (mVar 12), .v (mVar 4), .v (mVar 13)]) (mIfS [] (mB (mOp dEq (mVar 12) (mVar 8))) (mSet 10 [] (mVar 13)) (mSeq (mPar [14, 15] [] [.v (mCall dMin (mCons (mVar 13) (mCons (mVar 10) mNil))), .v (mCall dMax (mCons (mVar 13) (mCons (mVar 10) mNil)))])
    (mSeq (mSet 9 [] (mCall dMin (mCons (mVar 15) (mCons (mCall (mDef m_law_up 5) (mCons (mVar 0) (mCons (mVar 14) mNil))) mNil))))
    (mPar [8, 10] [] [.v (mIf (mB (mOp dGt (mVar 13) (mVar 10))) (mVar 12) (mVar 8)), .v (mVar 15)]))))))
    (mSeq (mIfS [] (mAnd (mB (mOp dGe (mVar 13) (mVar 11))) (mAnd (mB (mOp dGe (mVar 10) (mVar 5))) (mB (mOp dLt (mVar 9) (mVar 5))))) (mSet 9 [] (mVar 5)) mSkip)
    (mApp 6 [] (mTup (mCons (mVar 8) (mCons (mVar 9) (mCons (mVar 10) mNil)))))))))))
    (mRet [6, 7] (mTup (mCons (mVar 6) (mCons (mVar 7) mNil)))))))
def m_advance : MS := (mSeq (mIfS [] (mB (mCall (mDef m_is_refused 6) (mCons (mVar 0) (mCons (mVar 1) (mCons (mVar 2) mNil))))) (mRet [] (mVar 1)) mSkip)
    (mSeq (mAsg (bTup [(bName 3), (bName 4), (bName 5)]) [] (mVar 1))
    (mSeq (mIfS [] (mB (mOp dEq (mVar 3) (mC (.str (PySem.Str.ofString ""))))) (mRet [] (mCall (mDef m_with_reserve 5) (mCons (mVar 0) (mCons (mTup (mCons (mOp dIx (mVar 2) (mC (.int 0))) (mCons (mOp dIx (mVar 0) (mC (.int 1))) (mCons (mOp dIx (mVar 2) (mC (.int 1))) mNil)))) mNil)))) mSkip)
    (mSeq (mIfS [] (mB (mOp dEq (mOp dIx (mVar 2) (mC (.int 0))) (mVar 3))) (mRet [] (mCall (mDef m_with_reserve 5) (mCons (mVar 0) (mCons (mTup (mCons (mVar 3) (mCons (mVar 4) (mCons (mOp dIx (mVar 2) (mC (.int 1))) mNil)))) mNil)))) mSkip)
    (mSeq (mIfS [] (mB (mOp dLe (mOp dIx (mVar 2) (mC (.int 1))) (mVar 5))) (mRet [] (mCall (mDef m_with_reserve 5) (mCons (mVar 0) (mCons (mTup (mCons (mVar 3) (mCons (mCall dMin (mCons (mVar 5) (mCons (mCall (mDef m_step_up 4) (mCons (mVar 0) (mCons (mOp dIx (mVar 2) (mC (.int 1))) mNil))) mNil))) (mCons (mVar 5) mNil)))) mNil)))) mSkip)
    (mRet [] (mCall (mDef m_with_reserve 5) (mCons (mVar 0) (mCons (mTup (mCons (mOp dIx (mVar 2) (mC (.int 0))) (mCons (mCall dMin (mCons (mOp dIx (mVar 2) (mC (.int 1))) (mCons (mCall (mDef m_step_up 4) (mCons (mVar 0) (mCons (mVar 5) mNil))) mNil))) (mCons (mOp dIx (mVar 2) (mC (.int 1))) mNil)))) mNil)))))))))
def m_law_last : MS := (mSeq (mSet 2 [] (mOp dIx (mCall (mDef m_law_run 16) (mCons (mVar 0) (mCons (mVar 1) mNil))) (mC (.int 0))))
    (mRet [] (mIf (mB (mOp dNe (mVar 2) (mL mNil))) (mOp dIx (mVar 2) (mNeg (mC (.int 1)))) (mTup (mCons (mC (.str (PySem.Str.ofString ""))) (mCons (mC (.int 0)) (mCons (mC (.int 0)) mNil)))))))
def m_find_states : MS := (mSeq (mPar [3, 4] [] [.o mNil, .v (mC (.tuple [(.str (PySem.Str.ofString "")), (.int 0), (.int 0)]))])
    (mSeq (mFor [] (mItems (mVar 1)) (bName 2) (mSeq (mSet 4 [] (mCall (mDef m_advance 6) (mCons (mVar 0) (mCons (mVar 4) (mCons (mVar 2) mNil)))))
    (mApp 3 [] (mVar 4))))
    (mRet [3] (mVar 3))))
def m_find_result : MS := (mRet [] (mOp dIx (mOp dAdd (mL (mCons (mC (.tuple [(.str (PySem.Str.ofString "")), (.int 0), (.int 0)])) mNil)) (mCall (mDef m_find_states 5) (mCons (mVar 0) (mCons (mVar 1) mNil)))) (mNeg (mC (.int 1)))))
def m_find_refused : MS := (mSeq (mSet 2 [] (mOp dAdd (mL (mCons (mC (.tuple [(.str (PySem.Str.ofString "")), (.int 0), (.int 0)])) mNil)) (mCall (mDef m_find_states 5) (mCons (mVar 0) (mCons (mVar 1) mNil)))))
    (mRet [] (mL (mLc [3, 4] (mEnum (mCons (mVar 1) mNil)) (bTup [(bName 3), (bName 4)]) (mB (mCall (mDef m_is_refused 6) (mCons (mVar 0) (mCons (mOp dIx (mVar 2) (mVar 3)) (mCons (mVar 4) mNil))))) (mVar 3)))))
def m_check_bids : MS := (mSeq (mDo [] (mCall (mDef m_check_sale 1) (mCons (mVar 0) mNil)))
    (mIfS [] (mNot (mB (mCall (mDef m_are_bids 2) (mCons (mVar 1) mNil)))) (mRaise (PySem.Str.ofString "InvalidBids")) mSkip))
def m_result : MS := (mSeq (mDo [] (mCall (mDef m_check_bids 2) (mCons (mVar 0) (mCons (mVar 1) mNil))))
    (mRet [] (mCall (mDef m_find_result 2) (mCons (mVar 0) (mCons (mVar 1) mNil)))))
def m_states : MS := (mSeq (mDo [] (mCall (mDef m_check_bids 2) (mCons (mVar 0) (mCons (mVar 1) mNil))))
    (mRet [] (mCall (mDef m_find_states 5) (mCons (mVar 0) (mCons (mVar 1) mNil)))))
def m_refused : MS := (mSeq (mDo [] (mCall (mDef m_check_bids 2) (mCons (mVar 0) (mCons (mVar 1) mNil))))
    (mRet [] (mCall (mDef m_find_refused 5) (mCons (mVar 0) (mCons (mVar 1) mNil)))))
def m_winner : MS := (mSeq (mDo [] (mCall (mDef m_check_bids 2) (mCons (mVar 0) (mCons (mVar 1) mNil))))
    (mRet [] (mCall (mDef m_find_winner 2) (mCons (mVar 0) (mCons (mCall (mDef m_find_result 2) (mCons (mVar 0) (mCons (mVar 1) mNil))) mNil)))))
def m_leads : MS := (mSeq (mDo [] (mCall (mDef m_check_bids 2) (mCons (mVar 0) (mCons (mVar 1) mNil))))
    (mSeq (mPar [2, 3, 4] [] [.o mNil, .v (mC (.str (PySem.Str.ofString ""))), .v (mC (.int 0))])
    (mSeq (mFor [] (mItems (mCall (mDef m_find_states 5) (mCons (mVar 0) (mCons (mVar 1) mNil)))) (bTup [(bName 5), (bName 6), (bName 7)]) (mSeq (mSet 4 [] (mOp dAdd (mVar 4) (mIf (mB (mOp dNe (mVar 5) (mVar 3))) (mC (.int 1)) (mC (.int 0)))))
    (mSeq (mSet 3 [] (mVar 5))
    (mApp 2 [] (mVar 4)))))
    (mRet [2] (mVar 2)))))
def m_least_one : MS := (mRet [] (mIf (mB (mOp dNe (mVar 0) (mL mNil))) (mOp dIx (mVar 0) (mC (.int 0))) (mC .none)))
def m_check_bidder : MS := (mSeq (mDo [] (mCall (mDef m_check_bids 2) (mCons (mVar 0) (mCons (mVar 1) mNil))))
    (mIfS [] (mNot (mB (mCall (mDef m_is_bidder 1) (mCons (mVar 2) mNil)))) (mRaise (PySem.Str.ofString "InvalidBidder")) mSkip))
def m_price_with : MS := (mSeq (mDo [] (mCall (mDef m_check_bids 2) (mCons (mVar 0) (mCons (mVar 1) mNil))))
    (mSeq (mIfS [] (mNot (mB (mCall (mDef m_is_bid 1) (mCons (mVar 2) mNil)))) (mRaise (PySem.Str.ofString "InvalidBid")) mSkip)
    (mRet [] (mOp dIx (mCall (mDef m_advance 6) (mCons (mVar 0) (mCons (mCall (mDef m_find_result 2) (mCons (mVar 0) (mCons (mVar 1) mNil))) (mCons (mVar 2) mNil)))) (mC (.int 1))))))
def m_greatest_price : MS := (mSeq (mDo [] (mCall (mDef m_check_bids 2) (mCons (mVar 0) (mCons (mVar 1) mNil))))
    (mSeq (mAsg (bTup [(bName 2), (bName 3), (bName 4)]) [] (mCall (mDef m_find_result 2) (mCons (mVar 0) (mCons (mVar 1) mNil))))
    (mSeq (mIfS [] (mOr (mB (mOp dEq (mVar 2) (mC (.str (PySem.Str.ofString ""))))) (mB (mOp dGt (mCall (mDef m_step_up 4) (mCons (mVar 0) (mCons (mVar 3) mNil))) (mVar 4)))) (mRet [] (mC .none)) mSkip)
    (mRet [] (mVar 4)))))
def m_least_accepted : MS := (mSeq (mDo [] (mCall (mDef m_check_bidder 3) (mCons (mVar 0) (mCons (mVar 1) (mCons (mVar 2) mNil)))))
    (mSeq (mSet 3 [] (mCall (mDef m_find_result 2) (mCons (mVar 0) (mCons (mVar 1) mNil))))
    (mSeq (mSet 4 [] (mLstR (mCons (mC (.int 1)) (mCons (mOp dAdd (mC (.int 200)) (mC (.int 1))) mNil))))
    (mRet [] (mCall (mDef m_least_one 1) (mCons (mL (mLc [5] (mItems (mVar 4)) (bName 5) (mNot (mB (mCall (mDef m_is_refused 6) (mCons (mVar 0) (mCons (mVar 3) (mCons (mTup (mCons (mVar 2) (mCons (mVar 5) mNil))) mNil)))))) (mVar 5))) mNil))))))
def m_least_leading : MS := (mSeq (mDo [] (mCall (mDef m_check_bidder 3) (mCons (mVar 0) (mCons (mVar 1) (mCons (mVar 2) mNil)))))
    (mSeq (mSet 3 [] (mCall (mDef m_find_result 2) (mCons (mVar 0) (mCons (mVar 1) mNil))))
    (mSeq (mIfS [] (mB (mOp dEq (mOp dIx (mVar 3) (mC (.int 0))) (mVar 2))) (mRet [] (mC (.int 0))) mSkip)
    (mSeq (mSet 4 [] (mLstR (mCons (mC (.int 1)) (mCons (mOp dAdd (mC (.int 200)) (mC (.int 1))) mNil))))
    (mRet [] (mCall (mDef m_least_one 1) (mCons (mL (mLc [5] (mItems (mVar 4)) (bName 5) (mB (mOp dEq (mOp dIx (mCall (mDef m_advance 6) (mCons (mVar 0) (mCons (mVar 3) (mCons (mTup (mCons (mVar 2) (mCons (mVar 5) mNil))) mNil)))) (mC (.int 0))) (mVar 2))) (mVar 5))) mNil)))))))
def m_law_drawn : MS := (mSeq (mSet 3 [] (mOp dMul (mC (.int 7)) (mVar 1)))
    (mSeq (mIfS [] (mB (mOp dNe (mVar 0) (mL mNil))) (mSeq (mSet 3 [] (mOp dIx (mVar 0) (mOp dMod (mVar 1) (mCall dLen (mCons (mVar 0) mNil)))))
    (mSeq (mSet 4 [] (mOp dDiv (mVar 1) (mCall dLen (mCons (mVar 0) mNil))))
    (mSeq (mIfS [] (mAnd (mB (mOp dGe (mVar 3) (mOp dPow (mC (.int 10)) (mC (.int 18))))) (mB (mOp dLt (mVar 4) (mC (.int 60))))) (mSeq (mSet 5 [] (mOp dDiv (mVar 3) (mOp dPow (mC (.int 10)) (mC (.int 18)))))
    (mSeq (mWh [] (mAnd (mB (mOp dGt (mVar 5) (mC (.int 0)))) (mB (mOp dGt (mVar 4) (mC (.int 0))))) (mSeq (mSet 5 [] (mOp dDiv (mVar 5) (mC (.int 1000000))))
    (mSet 4 [] (mOp dSub (mVar 4) (mC (.int 1))))) 1000)
    (mIfS [] (mB (mOp dGt (mVar 5) (mC (.int 0)))) (mRet [] (mOp dMod (mOp dMod (mVar 5) (mC (.int 1000000))) (mVar 2))) mSkip))) mSkip)
    (mSet 3 [] (mOp dAdd (mVar 3) (mOp dMul (mC (.int 6553)) (mOp dDiv (mVar 1) (mCall dLen (mCons (mVar 0) mNil))))))))) mSkip)
    (mSeq (mSet 3 [] (mOp dMod (mOp dAdd (mOp dMul (mOp dMod (mVar 3) (mC (.int 2147483563))) (mC (.int 69069))) (mOp dMul (mC (.int 104723)) (mOp dAdd (mVar 1) (mC (.int 1))))) (mC (.int 2147483563))))
    (mSeq (mSet 3 [] (mOp dMod (mOp dAdd (mOp dMul (mVar 3) (mVar 3)) (mOp dDiv (mVar 3) (mC (.int 3)))) (mC (.int 2147483399))))
    (mRet [] (mOp dMod (mOp dDiv (mOp dMod (mOp dAdd (mOp dMul (mVar 3) (mVar 3)) (mOp dDiv (mVar 3) (mC (.int 7)))) (mC (.int 2147483647))) (mC (.int 11))) (mVar 2)))))))
def m_law_sale : MS := (mSeq (mOwn 2 [] (mCons (mTup (mCons (mC (.int 0)) (mCons (mOp dAdd (mC (.int 1)) (mCall (mDef m_law_drawn 6) (mCons (mVar 0) (mCons (mVar 1) (mCons (mC (.int 3)) mNil))))) mNil))) mNil))
    (mSeq (mFor [] (mRng (mCons (mCall (mDef m_law_drawn 6) (mCons (mVar 0) (mCons (mOp dAdd (mVar 1) (mC (.int 1))) (mCons (mC (.int 3)) mNil)))) mNil)) (bName 3) (mSeq (mSet 5 [] (mOp dAdd (mOp dAdd (mOp dIx (mIxO 2 (mNeg (mC (.int 1)))) (mC (.int 0))) (mC (.int 1))) (mCall (mDef m_law_drawn 6) (mCons (mVar 0) (mCons (mOp dAdd (mOp dAdd (mVar 1) (mC (.int 2))) (mVar 3)) (mCons (mC (.int 20)) mNil))))))
    (mApp 2 [] (mTup (mCons (mVar 5) (mCons (mOp dAdd (mOp dAdd (mOp dIx (mIxO 2 (mNeg (mC (.int 1)))) (mC (.int 1))) (mC (.int 1))) (mCall (mDef m_law_drawn 6) (mCons (mVar 0) (mCons (mOp dAdd (mOp dAdd (mVar 1) (mC (.int 5))) (mVar 3)) (mCons (mC (.int 5)) mNil))))) mNil))))))
    (mSeq (mSet 4 [] (mOp dAdd (mC (.int 1)) (mCall (mDef m_law_drawn 6) (mCons (mVar 0) (mCons (mOp dAdd (mVar 1) (mC (.int 8))) (mCons (mC (.int 15)) mNil))))))
    (mRet [2] (mTup (mCons (mCall dTuple (mCons (mVar 2) mNil)) (mCons (mVar 4) (mCons (mOp dAdd (mVar 4) (mOp dIx (mL (mCons (mC (.int 0)) (mCons (mCall (mDef m_law_drawn 6) (mCons (mVar 0) (mCons (mOp dAdd (mVar 1) (mC (.int 10))) (mCons (mC (.int 30)) mNil)))) mNil))) (mCall (mDef m_law_drawn 6) (mCons (mVar 0) (mCons (mOp dAdd (mVar 1) (mC (.int 9))) (mCons (mC (.int 2)) mNil)))))) mNil))))))))
def m_law_bids : MS := (mSeq (mOwn 3 [] mNil)
    (mSeq (mFor [] (mRng (mCons (mCall (mDef m_law_drawn 6) (mCons (mVar 0) (mCons (mVar 1) (mCons (mOp dAdd (mVar 2) (mC (.int 1))) mNil)))) mNil)) (bName 4) (mSeq (mSet 5 [] (mOp dAdd (mC (.int 1)) (mCall (mDef m_law_drawn 6) (mCons (mVar 0) (mCons (mOp dAdd (mOp dAdd (mVar 1) (mC (.int 1))) (mOp dMul (mC (.int 3)) (mVar 4))) (mCons (mOp dIx (mL (mCons (mC (.int 40)) (mCons (mC (.int 200)) (mCons (mC (.int 40)) mNil)))) (mCall (mDef m_law_drawn 6) (mCons (mVar 0) (mCons (mOp dAdd (mOp dAdd (mVar 1) (mC (.int 3))) (mOp dMul (mC (.int 3)) (mVar 4))) (mCons (mC (.int 3)) mNil))))) mNil))))))
    (mApp 3 [] (mTup (mCons (mOp dIx (mC (.str (PySem.Str.ofString "abcdef"))) (mCall (mDef m_law_drawn 6) (mCons (mVar 0) (mCons (mOp dAdd (mOp dAdd (mVar 1) (mC (.int 2))) (mOp dMul (mC (.int 3)) (mVar 4))) (mCons (mC (.int 6)) mNil))))) (mCons (mVar 5) mNil))))))
    (mRet [3] (mVar 3))))
def m_law_badsale : MS := (mSeq (mSet 2 [] (mL (mCons (mC .none) (mCons (mTup mNil) (mCons (mTup (mCons (mTup (mCons (mTup (mCons (mC (.int 0)) (mCons (mC (.int 1)) mNil))) mNil)) (mCons (mC (.int 5)) mNil))) (mCons (mTup (mCons (mTup (mCons (mTup (mCons (mC (.int 1)) (mCons (mC (.int 1)) mNil))) mNil)) (mCons (mC (.int 5)) (mCons (mC (.int 5)) mNil)))) (mCons (mTup (mCons (mTup (mCons (mTup (mCons (mC (.int 0)) (mCons (mC (.int 1)) mNil))) (mCons (mTup (mCons (mC (.int 0)) (mCons (mC (.int 2)) mNil))) mNil))) (mCons (mC (.int 5)) (mCons (mC (.int 5)) mNil)))) mNil)))))))
    (mSeq (mSet 2 [] (mOp dAdd (mVar 2) (mL (mCons (mTup (mCons (mTup (mCons (mTup (mCons (mC (.int 0)) (mCons (mC (.int 2)) mNil))) (mCons (mTup (mCons (mC (.int 9)) (mCons (mC (.int 2)) mNil))) mNil))) (mCons (mC (.int 5)) (mCons (mC (.int 5)) mNil)))) (mCons (mTup (mCons (mTup mNil) (mCons (mC (.int 5)) (mCons (mC (.int 5)) mNil)))) mNil)))))
    (mSeq (mSet 2 [] (mOp dAdd (mVar 2) (mL (mCons (mTup (mCons (mTup (mCons (mTup (mCons (mC (.int 0)) (mCons (mC (.int 0)) mNil))) mNil)) (mCons (mC (.int 5)) (mCons (mC (.int 5)) mNil)))) (mCons (mTup (mCons (mTup (mCons (mTup (mCons (mC (.int 0)) (mCons (mC (.int 51)) mNil))) mNil)) (mCons (mC (.int 5)) (mCons (mC (.int 5)) mNil)))) (mCons (mTup (mCons (mTup (mCons (mTup (mCons (mC (.int 0)) (mCons (mC (.int 1)) mNil))) mNil)) (mCons (mC (.int 0)) (mCons (mC (.int 5)) mNil)))) (mCons (mTup (mCons (mTup (mCons (mTup (mCons (mC (.int 0)) (mCons (mC (.int 1)) mNil))) mNil)) (mCons (mC (.int 101)) (mCons (mC (.int 101)) mNil)))) mNil)))))))
    (mSeq (mSet 2 [] (mOp dAdd (mVar 2) (mL (mCons (mTup (mCons (mTup (mCons (mTup (mCons (mC (.int 0)) (mCons (mC (.int 1)) mNil))) mNil)) (mCons (mC (.int 5)) (mCons (mC (.int 4)) mNil)))) mNil))))
    (mRet [] (mOp dIx (mOp dAdd (mVar 2) (mL (mCons (mTup (mCons (mTup (mCons (mTup (mCons (mC (.int 0)) (mCons (mC (.int 1)) mNil))) mNil)) (mCons (mC (.int 5)) (mCons (mC (.int 201)) mNil)))) (mCons (mL (mCons (mTup (mCons (mTup (mCons (mC (.int 0)) (mCons (mC (.int 1)) mNil))) mNil)) (mCons (mC (.int 5)) (mCons (mC (.int 5)) mNil)))) (mCons (mTup (mCons (mTup (mCons (mTup (mCons (mC (.int 0)) (mCons (mC (.int 1)) mNil))) mNil)) (mCons (mC (.bool true)) (mCons (mC (.int 5)) mNil)))) mNil))))) (mCall (mDef m_law_drawn 6) (mCons (mVar 0) (mCons (mVar 1) (mCons (mC (.int 15)) mNil))))))))))
def m_law_next : MS := (mRet [] (mOp dAdd (mVar 1) (mCall dMax (mCons (mL (mLc [2, 3] (mItems (mOp dIx (mVar 0) (mC (.int 0)))) (bTup [(bName 2), (bName 3)]) (mB (mOp dLe (mVar 2) (mVar 1))) (mVar 3))) mNil))))
def m_check_span : MS := (mIfS [] (mNot (mB (mCall (mDef m_is_int 3) (mCons (mVar 0) (mCons (mC (.int 0)) (mCons (mC (.int 20)) mNil)))))) (mRaise (PySem.Str.ofString "InvalidTime")) mSkip)
def m_law_after : MS := (mSeq (mAsg (bTup [(bName 3), (bName 4), (bName 5)]) [] (mVar 1))
    (mSeq (mIfS [] (mB (mOp dEq (mVar 3) (mC (.str (PySem.Str.ofString ""))))) (mSeq (mIfS [] (mB (mOp dLt (mOp dIx (mVar 2) (mC (.int 1))) (mOp dIx (mVar 0) (mC (.int 1))))) (mRet [] (mTup (mCons (mVar 1) (mCons (mC (.bool true)) mNil)))) mSkip)
    (mPar [3, 4, 5] [] [.v (mOp dIx (mVar 2) (mC (.int 0))), .v (mOp dIx (mVar 0) (mC (.int 1))), .v (mOp dIx (mVar 2) (mC (.int 1)))])) (mIfS [] (mB (mOp dEq (mVar 3) (mOp dIx (mVar 2) (mC (.int 0))))) (mSeq (mIfS [] (mB (mOp dLe (mOp dIx (mVar 2) (mC (.int 1))) (mVar 5))) (mRet [] (mTup (mCons (mVar 1) (mCons (mC (.bool true)) mNil)))) mSkip)
    (mSet 5 [] (mOp dIx (mVar 2) (mC (.int 1))))) (mSeq (mIfS [] (mB (mOp dLt (mOp dIx (mVar 2) (mC (.int 1))) (mCall (mDef m_law_next 4) (mCons (mVar 0) (mCons (mVar 4) mNil))))) (mRet [] (mTup (mCons (mVar 1) (mCons (mC (.bool true)) mNil)))) mSkip)
    (mIfS [] (mB (mOp dLe (mOp dIx (mVar 2) (mC (.int 1))) (mVar 5))) (mSet 4 [] (mCall dMin (mCons (mVar 5) (mCons (mCall (mDef m_law_next 4) (mCons (mVar 0) (mCons (mOp dIx (mVar 2) (mC (.int 1))) mNil))) mNil)))) (mPar [3, 4, 5] [] [.v (mOp dIx (mVar 2) (mC (.int 0))), .v (mCall dMin (mCons (mOp dIx (mVar 2) (mC (.int 1))) (mCons (mCall (mDef m_law_next 4) (mCons (mVar 0) (mCons (mVar 5) mNil))) mNil))), .v (mOp dIx (mVar 2) (mC (.int 1)))])))))
    (mRet [] (mTup (mCons (mTup (mCons (mVar 3) (mCons (mIf (mB (mOp dGe (mVar 5) (mOp dIx (mVar 0) (mC (.int 2))))) (mCall dMax (mCons (mVar 4) (mCons (mOp dIx (mVar 0) (mC (.int 2))) mNil))) (mVar 4)) (mCons (mVar 5) mNil)))) (mCons (mC (.bool false)) mNil))))))
def m_law_timed : MS := (mSeq (mPar [3, 4] [] [.o mNil, .v (mCall (mDef m_law_drawn 6) (mCons (mVar 0) (mCons (mVar 1) (mCons (mC (.int 12)) mNil))))])
    (mSeq (mFor [] (mEnum (mCons (mVar 2) mNil)) (bTup [(bName 5), (bName 6)]) (mSeq (mApp 3 [] (mOp dAdd (mTup (mCons (mVar 4) mNil)) (mVar 6)))
    (mSet 4 [] (mOp dAdd (mVar 4) (mCall (mDef m_law_drawn 6) (mCons (mVar 0) (mCons (mOp dAdd (mOp dAdd (mVar 1) (mC (.int 1))) (mVar 5)) (mCons (mC (.int 8)) mNil))))))))
    (mRet [3] (mVar 3))))
def m_is_timed : MS := (mSeq (mIfS [] (mOr (mNot (mB (mIsi .tuple (mVar 0)))) (mB (mOp dNe (mCall dLen (mCons (mVar 0) mNil)) (mC (.int 3))))) (mRet [] (mC (.bool false))) mSkip)
    (mRet [] (mAndV (mCall (mDef m_is_int 3) (mCons (mOp dIx (mVar 0) (mC (.int 0))) (mCons (mC (.int 0)) (mCons (mC (.int 100)) mNil)))) (mCall (mDef m_is_bid 1) (mCons (mSl (mVar 0) (mPS (mC (.int 1))) mPN) mNil)))))
def m_find_end : MS := (mSeq (mPar [4, 5] [] [.v (mC (.tuple [(.str (PySem.Str.ofString "")), (.int 0), (.int 0)])), .v (mC (.int 0))])
    (mSeq (mFor [] (mItems (mVar 1)) (bTup [(bName 6), (bName 7), (bName 8)]) (mSeq (mIfS [] (mB (mOp dGt (mVar 6) (mVar 2))) (mRet [] (mTup (mCons (mVar 2) (mCons (mVar 5) (mCons (mVar 4) mNil))))) mSkip)
    (mSeq (mSet 5 [] (mOp dAdd (mVar 5) (mC (.int 1))))
    (mIfS [] (mNot (mB (mCall (mDef m_is_refused 6) (mCons (mVar 0) (mCons (mVar 4) (mCons (mTup (mCons (mVar 7) (mCons (mVar 8) mNil))) mNil)))))) (mSeq (mSet 4 [] (mCall (mDef m_advance 6) (mCons (mVar 0) (mCons (mVar 4) (mCons (mTup (mCons (mVar 7) (mCons (mVar 8) mNil))) mNil)))))
    (mSet 2 [] (mIf (mB (mOp dLe (mOp dSub (mVar 2) (mVar 6)) (mVar 3))) (mCall dMax (mCons (mVar 2) (mCons (mOp dAdd (mVar 6) (mVar 3)) mNil))) (mVar 2)))) mSkip))))
    (mRet [] (mTup (mCons (mVar 2) (mCons (mVar 5) (mCons (mVar 4) mNil)))))))
def m_check_timed : MS := (mSeq (mDo [] (mCall (mDef m_check_sale 1) (mCons (mVar 0) mNil)))
    (mSeq (mIfS [] (mOr (mNot (mB (mIsi .list (mVar 1)))) (mOr (mB (mOp dGt (mCall dLen (mCons (mVar 1) mNil)) (mC (.int 8)))) (mNot (mB (mCall dAll (mCons (mL (mLc [3] (mItems (mVar 1)) (bName 3) mT (mCall (mDef m_is_timed 1) (mCons (mVar 3) mNil)))) mNil)))))) (mRaise (PySem.Str.ofString "InvalidTimed")) mSkip)
    (mSeq (mIfS [] (mNot (mB (mCall dAll (mCons (mL (mLc [3, 4] (mZip (mCons (mVar 1) (mCons (mSl (mVar 1) (mPS (mC (.int 1))) mPN) mNil))) (bTup [(bName 3), (bName 4)]) mT (mOp dLe (mOp dIx (mVar 3) (mC (.int 0))) (mOp dIx (mVar 4) (mC (.int 0)))))) mNil)))) (mRaise (PySem.Str.ofString "InvalidTimed")) mSkip)
    (mIfS [] (mNot (mB (mCall (mDef m_is_int 3) (mCons (mVar 2) (mCons (mC (.int 0)) (mCons (mC (.int 100)) mNil)))))) (mRaise (PySem.Str.ofString "InvalidTime")) mSkip))))
def m_check_all : MS := (mSeq (mDo [] (mCall (mDef m_check_timed 5) (mCons (mVar 0) (mCons (mVar 1) (mCons (mVar 2) mNil)))))
    (mDo [] (mCall (mDef m_check_span 1) (mCons (mVar 3) mNil))))
def m_least_span : MS := (mSeq (mDo [] (mCall (mDef m_check_timed 5) (mCons (mVar 0) (mCons (mVar 1) (mCons (mVar 2) mNil)))))
    (mSeq (mFor [] (mRng (mCons (mOp dAdd (mC (.int 20)) (mC (.int 1))) mNil)) (bName 3) (mIfS [] (mB (mOp dEq (mOp dIx (mCall (mDef m_find_end 9) (mCons (mVar 0) (mCons (mVar 1) (mCons (mVar 2) (mCons (mVar 3) mNil))))) (mC (.int 1))) (mCall dLen (mCons (mVar 1) mNil)))) (mRet [] (mVar 3)) mSkip))
    (mRet [] (mC .none))))
def m_closing_time : MS := (mSeq (mDo [] (mCall (mDef m_check_all 4) (mCons (mVar 0) (mCons (mVar 1) (mCons (mVar 2) (mCons (mVar 3) mNil))))))
    (mRet [] (mOp dIx (mCall (mDef m_find_end 9) (mCons (mVar 0) (mCons (mVar 1) (mCons (mVar 2) (mCons (mVar 3) mNil))))) (mC (.int 0)))))
def m_counted : MS := (mSeq (mDo [] (mCall (mDef m_check_all 4) (mCons (mVar 0) (mCons (mVar 1) (mCons (mVar 2) (mCons (mVar 3) mNil))))))
    (mRet [] (mLstR (mCons (mOp dIx (mCall (mDef m_find_end 9) (mCons (mVar 0) (mCons (mVar 1) (mCons (mVar 2) (mCons (mVar 3) mNil))))) (mC (.int 1))) mNil))))
def m_final : MS := (mSeq (mDo [] (mCall (mDef m_check_all 4) (mCons (mVar 0) (mCons (mVar 1) (mCons (mVar 2) (mCons (mVar 3) mNil))))))
    (mRet [] (mOp dIx (mCall (mDef m_find_end 9) (mCons (mVar 0) (mCons (mVar 1) (mCons (mVar 2) (mCons (mVar 3) mNil))))) (mC (.int 2)))))
def m_Desk___len__ : MS := (mRet [] (mCall dLen (mCons (mOp dIx (mFld dFldP (mVar 0)) (mC (.int 1))) mNil)))
def m_Desk___eq__ : MS := (mRet [] (mAndV (mIsiD (mVar 1)) (mOp dEq (mFld dFldP (mVar 0)) (mFld dFldP (mVar 1)))))
def m_Desk_bids : MS := (mRet [] (mCall dList (mCons (mOp dIx (mFld dFldP (mVar 0)) (mC (.int 1))) mNil)))
def m_Desk_result : MS := (mRet [] (mCall (mDef m_find_result 2) (mCons (mOp dIx (mFld dFldP (mVar 0)) (mC (.int 0))) (mCons (mMeth (mDef m_Desk_bids 1) (mVar 0)) mNil))))
def wm_Desk_change : MW := (mSeqW (mFaD 0)
    (mSeqW (mFsP 0 (mTup (mCons (mVar 1) (mCons (mVar 2) mNil))))
    (mFsU 0 mNil)))
def wm_Desk_undo : MW := (mSeqW (mIfSW (mRdB (mB (mOp dEq (mFld dFldD (mVar 0)) (mL mNil)))) (mUp (mRaise (PySem.Str.ofString "NothingToUndo"))) mSkipW)
    (mSeqW (mFaU 0)
    (mFpD 0)))
def wm_Desk_redo : MW := (mSeqW (mIfSW (mRdB (mB (mOp dEq (mFld dFldU (mVar 0)) (mL mNil)))) (mUp (mRaise (PySem.Str.ofString "NothingToUndo"))) mSkipW)
    (mSeqW (mFaD 0)
    (mFpU 0)))
def wm_Desk_bid : MW := (mSeqW (mAsgW (bTup [(bName 5), (bName 6)]) (mRd (mFld dFldP (mVar 0))))
    (mSeqW (mUp (mIfS [] (mNot (mB (mCall (mDef m_is_bid 1) (mCons (mTup (mCons (mVar 1) (mCons (mVar 2) mNil))) mNil)))) (mRaise (PySem.Str.ofString "InvalidBid")) mSkip))
    (mSeqW (mUp (mIfS [] (mB (mOp dGe (mCall dLen (mCons (mVar 6) mNil)) (mC (.int 8)))) (mRaise (PySem.Str.ofString "TooLarge")) mSkip))
    (mSeqW (mSetW 3 (mRd (mMeth (mDef m_Desk_result 1) (mVar 0))))
    (mSeqW (mDoW (mMethW 0 3 (mDefW wm_Desk_change 3) (mConsD (mVar 5) (mConsD (mOp dAdd (mVar 6) (mTup (mCons (mTup (mCons (mVar 1) (mCons (mVar 2) mNil))) mNil))) mNilA))))
    (mSeqW (mSetW 4 (mRd (mMeth (mDef m_Desk_result 1) (mVar 0))))
    (mSeqW (mUp (mIfS [] (mB (mCall (mDef m_is_refused 6) (mCons (mVar 5) (mCons (mVar 3) (mCons (mTup (mCons (mVar 1) (mCons (mVar 2) mNil))) mNil))))) (mRet [] (mC (.str (PySem.Str.ofString "refused")))) mSkip))
    (mSeqW (mUp (mIfS [] (mB (mOp dNe (mOp dIx (mVar 4) (mC (.int 0))) (mOp dIx (mVar 3) (mC (.int 0))))) (mRet [] (mC (.str (PySem.Str.ofString "leads")))) mSkip))
    (mUp (mRet [] (mIf (mB (mOp dGt (mOp dIx (mVar 4) (mC (.int 1))) (mOp dIx (mVar 3) (mC (.int 1))))) (mC (.str (PySem.Str.ofString "raised"))) (mC (.str (PySem.Str.ofString "kept"))))))))))))))
def wm_Desk_lower : MW := (mSeqW (mAsgW (bTup [(bTup [(bName 3), (bName 4), (bName 5)]), (bName 2)]) (mRd (mFld dFldP (mVar 0))))
    (mSeqW (mUp (mIfS [] (mNot (mB (mCall (mDef m_is_int 3) (mCons (mVar 1) (mCons (mVar 4) (mCons (mOp dSub (mVar 5) (mC (.int 1))) mNil)))))) (mRaise (PySem.Str.ofString "InvalidPrice")) mSkip))
    (mSeqW (mDoW (mMethW 0 3 (mDefW wm_Desk_change 3) (mConsD (mTup (mCons (mVar 3) (mCons (mVar 4) (mCons (mVar 1) mNil)))) (mConsD (mVar 2) mNilA))))
    (mRetW (mRd (mMeth (mDef m_Desk_result 1) (mVar 0)))))))
def wm_law_ends : MW := (mSeqW (mOwnW 2 (mCons (mTup (mCons (mMeth (mDef m_Desk_bids 1) (mVar 0)) (mCons (mMeth (mDef m_Desk_result 1) (mVar 0)) mNil))) mNil))
    (mSeqW (mWhW (mFzT [2] (mB (mOp dLt (mCall dLen (mCons (mVar 2) mNil)) (mC (.int 40))))) (mTryF 3 2 (PySem.Str.ofString "NothingToUndo") (mB (mOp dEq (mVar 1) (mC (.int 0)))) (mMethW 0 1 (mDefW wm_Desk_undo 1) mNilA) (mMethW 0 1 (mDefW wm_Desk_redo 1) mNilA) (mAppW 2 (mTup (mCons (mMeth (mDef m_Desk_bids 1) (mVar 0)) (mCons (mMeth (mDef m_Desk_result 1) (mVar 0)) mNil))))) 100)
    (mUp (mRet [] (mC .none)))))
def mwl_bids : Gam → R (List PyData) := mLstN (mOp dIx (mFld dFldP (mVar 0)) (mC (.int 1)))
def wm_law_back : MW := (mSeqW (mUp (mSet 4 [] (mCall (mDef m_law_drawn 6) (mCons (mVar 0) (mCons (mC (.int 2)) (mCons (mCall dLen (mCons (mVar 3) mNil)) mNil))))))
    (mSeqW (mForW (mRng (mCons (mVar 4) mNil)) (bName 5) (mDoW (mMethW 2 1 (mDefW wm_Desk_undo 1) mNilA)))
    (mSeqW (mPar2S 9 10 (fun Γ W => ((mU (mOp dSub (mOp dSub (mCall dLen (mCons (mVar 3) mNil)) (mC (.int 1))) (mVar 4))) Γ W).bind fun d W1 => .ok (.v d) W1) (fun Γ W => ((mCopyX 2 (mDef m_check_sale 1)) Γ W).bind fun a W1 => .ok (.ad a) W1))
    (mSeqW (mIfSW (mRdB (mOr (mB (mOp dNe (mTup (mCons (mMeth (mDef m_Desk_bids 1) (mVar 2)) (mCons (mMeth (mDef m_Desk_result 1) (mVar 2)) mNil))) (mOp dIx (mVar 3) (mVar 9)))) (mOr (mNot (mB (mOp (dEqK (mDef m_Desk___eq__ 2)) (mVar 10) (mVar 2)))) (mB (mOp (dNeK (mDef m_Desk___eq__ 2)) (mVar 10) (mVar 2)))))) (mUp (mRet [] (mC (.bool false)))) mSkipW)
    (mSeqW (mIfSW (mOrW (mBW (mOpW dNe (mCallW 2 (mDefW wm_law_ends 4) (mConsA 10 (mConsD (mC (.int 1)) mNilA))) (mU (mSl (mVar 3) (mPS (mVar 9)) mPN)))) (mBW (mOpW dNe (mCallW 2 (mDefW wm_law_ends 4) (mConsA 10 (mConsD (mC (.int 0)) mNilA))) (mU (mL (mRevL (mVar 3))))))) (mUp (mRet [] (mC (.bool false)))) mSkipW)
    (mSeqW (mIfSW (mRdB (mB (mOp (dNeK (mDef m_Desk___eq__ 2)) (mVar 10) (mMakeD (mDef m_check_sale 1) (mVar 1))))) (mUp (mRet [] (mC (.bool false)))) mSkipW)
    (mSeqW (mIfSW (mRdB (mOr (mB (mOp dNe (mTup (mCons (mMeth (mDef m_Desk_bids 1) (mVar 2)) (mCons (mMeth (mDef m_Desk_result 1) (mVar 2)) mNil))) (mOp dIx (mVar 3) (mVar 9)))) (mB (mOp dNe (mOp (dEqK (mDef m_Desk___eq__ 2)) (mVar 10) (mVar 2)) (mOp dEq (mVar 9) (mC (.int 0))))))) (mUp (mRet [] (mC (.bool false)))) mSkipW)
    (mSeqW (mIfSW (mRdB (mB (mOp (dEqK (mDef m_Desk___eq__ 2)) (mVar 2) (mOp dIx (mVar 3) (mVar 9))))) (mUp (mRet [] (mC (.bool false)))) mSkipW)
    (mSeqW (mIfSW (mBW (mOpW dNe (mCallX 2 (mDefW wm_law_ends 4) (mConsX (fun Γ W => ((mCopyX 2 (mDef m_check_sale 1)) Γ W).bind fun a W1 => .ok (.ad a) W1) (mConsX (fun Γ W => ((mU (mC (.int 0))) Γ W).bind fun d W1 => .ok (.v d) W1) mNilX))) (mU (mL (mRevL (mSl (mVar 3) mPN (mPS (mOp dAdd (mVar 9) (mC (.int 1)))))))))) (mUp (mRet [] (mC (.bool false)))) mSkipW)
    (mSeqW (mOwnW 6 (mMethL (mDefL mwl_bids 1) (mVar 2)))
    (mSeqW (mUp (mApp 6 [] (mTup (mCons (mC (.str (PySem.Str.ofString "a"))) (mCons (mC (.int 5)) mNil)))))
    (mSeqW (mIfSW (mFzT [6] (mB (mOp dEq (mMeth (mDef m_Desk_bids 1) (mVar 2)) (mVar 6)))) (mUp (mRet [] (mC (.bool false)))) mSkipW)
    (mSeqW (mSetS 7 (fun Γ W => ((mNewX (mDef m_check_sale 1) (mVar 1)) Γ W).bind fun a W1 => .ok (.ad a) W1))
    (mSeqW (mForW (mItems (mOp dIx (mOp dIx (mVar 3) (mVar 9)) (mC (.int 0)))) (bTup [(bName 11), (bName 12)]) (mDoW (mMethW 7 3 (mDefW wm_Desk_bid 7) (mConsD (mVar 11) (mConsD (mVar 12) mNilA)))))
    (mSeqW (mIfSW (mRdB (mOr (mB (mOp dNe (mLenD (mDef m_Desk___len__ 1) (mVar 7)) (mLenD (mDef m_Desk___len__ 1) (mVar 2)))) (mB (mOp dNe (mOp (dEqK (mDef m_Desk___eq__ 2)) (mVar 7) (mVar 2)) (mOp dLe (mVar 9) (mCall dLen (mCons (mOp dIx (mOp dIx (mVar 3) (mNeg (mC (.int 1)))) (mC (.int 0))) mNil))))))) (mUp (mRet [] (mC (.bool false)))) mSkipW)
    (mSeqW (mUp (mSet 8 [] (mTup (mCons (mTup (mCons (mTup (mCons (mC (.int 0)) (mCons (mC (.int 1)) mNil))) mNil)) (mCons (mC (.int 5)) (mCons (mC (.int 9)) mNil))))))
    (mSeqW (mPar2S 13 14 (fun Γ W => ((mNewX (mDef m_check_sale 1) (mVar 8)) Γ W).bind fun a W1 => .ok (.ad a) W1) (fun Γ W => ((mNewX (mDef m_check_sale 1) (mVar 8)) Γ W).bind fun a W1 => .ok (.ad a) W1))
    (mSeqW (mDoW (mMethW 13 2 (mDefW wm_Desk_lower 6) (mConsD (mC (.int 7)) mNilA)))
    (mRetW (mRd (mAndV (mOp dIs (mOp (dEqK (mDef m_Desk___eq__ 2)) (mVar 13) (mVar 14)) (mC (.bool false))) (mAndV (mOp dEq (mLenD (mDef m_Desk___len__ 1) (mVar 13)) (mC (.int 0))) (mOp (dEqK (mDef m_Desk___eq__ 2)) (mVar 14) (mMakeD (mDef m_check_sale 1) (mVar 8)))))))))))))))))))))))))
def wl1_k66 : MS := (mPar [1, 2] [] [.v (mCall (mDef m_law_sale 6) (mCons (mVar 0) (mCons (mC (.int 10)) mNil))), .v (mCall (mDef m_law_bids 6) (mCons (mVar 0) (mCons (mC (.int 30)) (mCons (mC (.int 8)) mNil))))])
def wla_k66 : M := (mVar 1)
def wli_k66 : List Pi := [.o (mCons (mTup (mCons (mL mNil) (mCons (mTup (mCons (mC (.str (PySem.Str.ofString ""))) (mCons (mC (.int 0)) (mCons (mC (.int 0)) mNil)))) mNil))) mNil), .v (mCall (mDef m_refused 2) (mCons (mVar 1) (mCons (mVar 2) mNil)))]
def wlr_k66 : MW := (mSeqW (mForW (mEnum (mCons (mVar 2) mNil)) (bTup [(bName 6), (bName 7)]) (mSeqW (mPar2S 10 11 (fun Γ W => ((mMethW 3 3 (mDefW wm_Desk_bid 7) (mConsD (mOp dIx (mVar 7) (mC (.int 0))) (mConsD (mOp dIx (mVar 7) (mC (.int 1))) mNilA))) Γ W).bind fun d W1 => .ok (.v d) W1) (fun Γ W => ((mU (mOp dIx (mIxO 4 (mNeg (mC (.int 1)))) (mC (.int 1)))) Γ W).bind fun d W1 => .ok (.v d) W1))
    (mSeqW (mAppW 4 (mTup (mCons (mMeth (mDef m_Desk_bids 1) (mVar 3)) (mCons (mMeth (mDef m_Desk_result 1) (mVar 3)) mNil))))
    (mSeqW (mUp (mSet 8 [] (mOp dIx (mIxO 4 (mNeg (mC (.int 1)))) (mC (.int 1)))))
    (mSeqW (mIfSW (mRdB (mOr (mB (mOp dNe (mMeth (mDef m_Desk_bids 1) (mVar 3)) (mSl (mVar 2) mPN (mPS (mOp dAdd (mVar 6) (mC (.int 1))))))) (mB (mOp dNe (mVar 8) (mOp dIx (mCall (mDef m_states 2) (mCons (mVar 1) (mCons (mVar 2) mNil))) (mVar 6)))))) (mUp (mRet [] (mC (.bool false)))) mSkipW)
    (mSeqW (mUp (mIfS [] (mB (mOp dNe (mOp dEq (mVar 10) (mC (.str (PySem.Str.ofString "refused")))) (mOp dIn (mVar 6) (mVar 5)))) (mRet [] (mC (.bool false))) mSkip))
    (mSeqW (mUp (mIfS [] (mB (mOp dNe (mOp dEq (mVar 10) (mC (.str (PySem.Str.ofString "leads")))) (mOp dNe (mOp dIx (mVar 8) (mC (.int 0))) (mOp dIx (mVar 11) (mC (.int 0)))))) (mRet [] (mC (.bool false))) mSkip))
    (mSeqW (mUp (mIfS [] (mB (mOp dNe (mOp dEq (mVar 10) (mC (.str (PySem.Str.ofString "raised")))) (mAndV (mOp dEq (mOp dIx (mVar 8) (mC (.int 0))) (mOp dIx (mVar 11) (mC (.int 0)))) (mOp dGt (mOp dIx (mVar 8) (mC (.int 1))) (mOp dIx (mVar 11) (mC (.int 1))))))) (mRet [] (mC (.bool false))) mSkip))
    (mSeqW (mUp (mIfS [] (mB (mOp dNotInTu (mVar 10) (mTup (mCons (mC (.str (PySem.Str.ofString "refused"))) (mCons (mC (.str (PySem.Str.ofString "leads"))) (mCons (mC (.str (PySem.Str.ofString "raised"))) (mCons (mC (.str (PySem.Str.ofString "kept"))) mNil))))))) (mRet [] (mC (.bool false))) mSkip))
    (mUp (mIfS [] (mAnd (mB (mOp dEq (mVar 10) (mC (.str (PySem.Str.ofString "refused"))))) (mB (mOp dNe (mVar 8) (mVar 11)))) (mRet [] (mC (.bool false))) mSkip)))))))))))
    (mSeqW (mIfSW (mU (mB (mOp dGt (mOp dIx (mVar 1) (mC (.int 2))) (mOp dIx (mVar 1) (mC (.int 1)))))) (mSeqW (mUp (mSet 9 [] (mTup (mCons (mOp dIx (mVar 1) (mC (.int 0))) (mCons (mOp dIx (mVar 1) (mC (.int 1))) (mCons (mOp dAdd (mOp dIx (mVar 1) (mC (.int 1))) (mCall (mDef m_law_drawn 6) (mCons (mVar 0) (mCons (mC (.int 1)) (mCons (mOp dSub (mOp dIx (mVar 1) (mC (.int 2))) (mOp dIx (mVar 1) (mC (.int 1)))) mNil))))) mNil))))))
    (mSeqW (mIfSW (mBW (mOpW dNe (mMethW 3 2 (mDefW wm_Desk_lower 6) (mConsD (mOp dIx (mVar 9) (mC (.int 2))) mNilA)) (mU (mCall (mDef m_result 2) (mCons (mVar 9) (mCons (mVar 2) mNil)))))) (mUp (mRet [] (mC (.bool false)))) mSkipW)
    (mSeqW (mIfSW (mRdB (mOr (mB (mOp dNe (mMeth (mDef m_Desk_result 1) (mVar 3)) (mCall (mDef m_result 2) (mCons (mVar 9) (mCons (mVar 2) mNil))))) (mB (mOp dNe (mMeth (mDef m_Desk_bids 1) (mVar 3)) (mVar 2))))) (mUp (mRet [] (mC (.bool false)))) mSkipW)
    (mAppW 4 (mTup (mCons (mVar 2) (mCons (mMeth (mDef m_Desk_result 1) (mVar 3)) mNil))))))) mSkipW)
    (mFzS [4] (mRetW (mCallW 4 (mDefW wm_law_back 15) (mConsD (mVar 0) (mConsD (mVar 1) (mConsA 3 (mConsD (mVar 4) mNilA)))))))))
end PD
/-! The mathematics, first part: sales, bids, draws. -/
namespace PD
open PySem L2

/-! ### loops over mapped lists -/
theorem lcGo_map {α : Type} (enc : α → PyData) (p : α → Bool) (f : α → PyData) {b : Bd} {mt : Gam → R Bool} {me : M} {Γ : Gam} : ∀ (xs : List α),
    (∀ x ∈ xs, ∃ Γ1, b (enc x) Γ = some Γ1 ∧ mt Γ1 = .ok (p x) ∧ (p x = true → me Γ1 = .ok (f x))) → lcGo b mt me Γ (xs.map enc) = .ok ((xs.filter p).map f)
  | [], _ => rfl
  | x :: xs, h => by
    obtain ⟨Γ1, h1, h2, h3⟩ := h x (by simp)
    have ih := lcGo_map enc p f xs fun y hy => h y (by simp [hy])
    rw [List.map_cons]
    unfold lcGo
    rw [h1]
    dsimp only
    rw [h2]
    cases hp : p x with
    | true => dsimp only; rw [h3 hp, ih, List.filter_cons_of_pos hp]; rfl
    | false => dsimp only; rw [ih, List.filter_cons_of_neg (by simp [hp])]
theorem lcGo_all {α : Type} (enc : α → PyData) (f : α → PyData) {b : Bd} {mt : Gam → R Bool} {me : M} {Γ : Gam} (xs : List α)
    (h : ∀ x ∈ xs, ∃ Γ1, b (enc x) Γ = some Γ1 ∧ mt Γ1 = .ok true ∧ me Γ1 = .ok (f x)) : lcGo b mt me Γ (xs.map enc) = .ok (xs.map f) := by
  rw [lcGo_map enc (fun _ => true) f xs fun x hx => by
    obtain ⟨Γ1, h1, h2, h3⟩ := h x hx
    exact ⟨Γ1, h1, h2, fun _ => h3⟩]
  rw [List.filter_eq_self.mpr (by simp)]
/-- a for loop: the state is a function of a fold -/
theorem forGo_fold {α β : Type} (enc : α → PyData) (st : β → Gam → Prop) (f : β → α → β) {b : Bd} {body : MS} : ∀ (xs : List α) (y : β) (Γ : Gam), st y Γ →
    (∀ x ∈ xs, ∀ y Γ, st y Γ → ∃ Γ1 Γ2, b (enc x) Γ = some Γ1 ∧ (body Γ1 = .nx Γ2 ∨ body Γ1 = .ct Γ2) ∧ st (f y x) Γ2) → ∃ Γ', forGo b body (xs.map enc) Γ = .nx Γ' ∧ st (xs.foldl f y) Γ'
  | [], y, Γ, h, _ => ⟨Γ, rfl, h⟩
  | x :: xs, y, Γ, h, hs => by
    obtain ⟨Γ1, Γ2, h1, h2, h3⟩ := hs x (by simp) y Γ h
    obtain ⟨Γ', e, q⟩ := forGo_fold enc st f xs (f y x) Γ2 h3 fun z hz => hs z (by simp [hz])
    refine ⟨Γ', ?_, q⟩
    rw [List.map_cons]
    unfold forGo
    rw [h1]
    dsimp only
    rcases h2 with h2 | h2 <;> rw [h2] <;> exact e
/-- .. with an invariant alone -/
theorem forGo_inv {b : Bd} {body : MS} (st : Gam → Prop) (ds : List PyData) (Γ : Gam) (h : st Γ)
    (hs : ∀ d ∈ ds, ∀ Γ, st Γ → ∃ Γ1 Γ2, b d Γ = some Γ1 ∧ (body Γ1 = .nx Γ2 ∨ body Γ1 = .ct Γ2) ∧ st Γ2) : ∃ Γ', forGo b body ds Γ = .nx Γ' ∧ st Γ' := by
  have := forGo_fold (α := PyData) (β := Unit) id (fun _ => st) (fun _ _ => ()) (b := b) (body := body) ds () Γ h fun x hx _ Γ hΓ => hs x hx Γ hΓ
  simpa using this
/-- a while loop -/
theorem mWh_step {l : List Nat} {t : Gam → R Bool} {b : MS} {n : Nat} {Γ : Gam} (ht : t (fz l Γ) = .ok true) {Γ1 : Gam} (hb : b Γ = .nx Γ1) : mWh l t b (n + 1) Γ = mWh l t b n Γ1 := by
  show mEvB l t Γ _ = _
  rw [mEvB_eq, ht]
  dsimp only
  rw [if_pos rfl, hb]
theorem mWh_end {l : List Nat} {t : Gam → R Bool} {b : MS} {n : Nat} {Γ : Gam} (ht : t (fz l Γ) = .ok false) : mWh l t b (n + 1) Γ = .nx Γ := by
  show mEvB l t Γ _ = _
  rw [mEvB_eq, ht]
  dsimp only
  rw [if_neg Bool.false_ne_true]
/-! ### defs -/
theorem def_rt {m : MS} {n : Nat} {ds : List PyData} {d : PyData} (h : m (ds.map .v ++ List.replicate (n - ds.length) .no) = .rt d) : mDef m n ds = .ok d := by unfold mDef; rw [h]
theorem def_nx {m : MS} {n : Nat} {ds : List PyData} {Γ : Gam} (h : m (ds.map .v ++ List.replicate (n - ds.length) .no) = .nx Γ) : mDef m n ds = .ok .none := by unfold mDef; rw [h]
theorem def_ex {m : MS} {n : Nat} {ds : List PyData} {c : Str} (h : m (ds.map .v ++ List.replicate (n - ds.length) .no) = .ex c) : mDef m n ds = .ex c := by unfold mDef; rw [h]

/-! ### judging -/
def isInt (d : PyData) (lo hi : Int) : Bool := match d with
  | .int i => decide (lo ≤ i) && decide (i ≤ hi)
  | _ => false
theorem f_is_int (d : PyData) (lo hi : Int) : mDef m_is_int 3 [d, .int lo, .int hi] = .ok (.bool (isInt d lo hi)) := by
  apply def_rt
  cases d with
  | int i =>
    by_cases h : lo ≤ i <;> simp [m_is_int, isInt, h]
  | _ => simp [m_is_int, isInt, isiD]
abbrev Steps := List (Int × Int)
def eStep (p : Int × Int) : PyData := .tuple [.int p.1, .int p.2]
def eSteps (st : Steps) : PyData := .tuple (st.map eStep)
structure Sale where
  steps : Steps
  start : Int
  res : Int
def Sale.d (s : Sale) : PyData := .tuple [eSteps s.steps, .int s.start, .int s.res]
def asc : Steps → Bool
  | a :: b :: r => decide (a.1 < b.1) && decide (a.2 < b.2) && asc (b :: r)
  | _ => true
structure Sale.Ok (s : Sale) : Prop where
  len : s.steps.length ≤ 4
  zero : ∃ p r, s.steps = (0, p) :: r
  rng : ∀ q ∈ s.steps, (0 ≤ q.1 ∧ q.1 ≤ 200) ∧ 1 ≤ q.2 ∧ q.2 ≤ 50
  up : asc s.steps = true
  st : 1 ≤ s.start ∧ s.start ≤ 100
  rs : s.start ≤ s.res ∧ s.res ≤ 200
theorem f_is_step {q : Int × Int} (h : (0 ≤ q.1 ∧ q.1 ≤ 200) ∧ 1 ≤ q.2 ∧ q.2 ≤ 50) : mDef m_is_step 1 [eStep q] = .ok (.bool true) := by
  apply def_rt
  obtain ⟨⟨h1, h2⟩, h3, h4⟩ := h
  simp [m_is_step, eStep, f_is_int, isInt, h1, h2, h3, h4]
theorem zip_asc : ∀ st : Steps, zipL (st.map eStep) ((st.map eStep).drop 1) = (st.zip (st.drop 1)).map fun p => .tuple [eStep p.1, eStep p.2]
  | [] => rfl
  | [a] => rfl
  | a :: b :: r => by
    have ih := zip_asc (b :: r)
    simp only [List.map_cons, List.drop_succ_cons, List.drop_zero] at ih ⊢
    simp only [zipL, ih, List.zip_cons_cons, List.map_cons]
theorem asc_zip : ∀ st : Steps, asc st = (st.zip (st.drop 1)).all fun p => decide (p.1.1 < p.2.1) && decide (p.1.2 < p.2.2)
  | [] => rfl
  | [a] => rfl
  | a :: b :: r => by
    have ih := asc_zip (b :: r)
    simp only [asc, ih, List.drop_succ_cons, List.drop_zero, List.zip_cons_cons, List.all_cons]
theorem cutG_1 {α : Type} (xs : List α) : cutG xs (some 1) none = xs.drop 1 := by
  unfold cutG
  rw [show HT.sIx xs.length 0 (some 1) = min 1 xs.length from HT.sIx_nat xs.length 0 1, HT.sIx_none]
  cases xs with
  | nil => rfl
  | cons x r =>
    rw [show min 1 (x :: r).length = 1 by simp]
    rw [List.take_of_length_le (by simp)]
theorem f_are_steps {s : Sale} (h : s.Ok) : mDef m_are_steps 5 [eSteps s.steps] = .ok (.bool true) := by
  apply def_rt
  obtain ⟨p, r, e⟩ := h.zero
  have hl : 1 ≤ s.steps.length := by rw [e]; simp
  have hl2 := h.len
  have e1 : lcGo (bName 4) mT (mCall (mDef m_is_step 1) (mCons (mVar 4) mNil)) [.v (eSteps s.steps), .no, .no, .no, .no] (s.steps.map eStep) = .ok (s.steps.map fun _ => .bool true) :=
    lcGo_all eStep _ _ fun x hx => ⟨_, rfl, rfl, by simp [f_is_step (h.rng x hx)]⟩
  have e4 : lcGo (bTup [bName 2, bName 3]) mT (mAndV (mOp dLt (mOp dIx (mVar 2) (mC (.int 0))) (mOp dIx (mVar 3) (mC (.int 0)))) (mOp dLt (mOp dIx (mVar 2) (mC (.int 1))) (mOp dIx (mVar 3) (mC (.int 1))))) [.v (eSteps s.steps), .no, .no, .no, .no]
      ((s.steps.zip (s.steps.drop 1)).map fun p => .tuple [eStep p.1, eStep p.2]) = .ok ((s.steps.zip (s.steps.drop 1)).map fun p => .bool (decide (p.1.1 < p.2.1) && decide (p.1.2 < p.2.2))) :=
    lcGo_all (fun p : (Int × Int) × (Int × Int) => .tuple [eStep p.1, eStep p.2]) _ _ fun x hx => ⟨_, rfl, rfl, by
      by_cases hh : x.1.1 < x.2.1 <;> simp [eStep, hh]⟩
  have e6 := asc_zip s.steps
  rw [h.up] at e6
  have e7 : ((1 : Int) ≤ (s.steps.length : Int)) = True := by simp; omega
  have e8 : ((s.steps.length : Int) ≤ 4) = True := by simp; omega
  have e9 : atI (s.steps.map eStep) 0 = some (eStep (0, p)) := by rw [e]; simp
  have g1 : eSteps s.steps = .tuple (s.steps.map eStep) := rfl
  rw [g1] at e1 e4 ⊢
  have z1 := zip_asc s.steps
  simp [m_are_steps, e1, e7, e8, cutG_1] at z1 e4 ⊢
  simp [z1, e4, e9]
  simp [eStep]
  simpa using e6
theorem f_is_sale {s : Sale} (h : s.Ok) : mDef m_is_sale 4 [s.d] = .ok (.bool true) := by
  apply def_rt
  obtain ⟨h1, h2⟩ := h.st
  obtain ⟨h3, h4⟩ := h.rs
  have h5 : 1 ≤ s.res := by omega
  simp [m_is_sale, Sale.d, f_are_steps h, f_is_int, isInt, h1, h2, h3, h4]
theorem f_check_sale {s : Sale} (h : s.Ok) : mDef m_check_sale 1 [s.d] = .ok .none := by
  apply def_nx (Γ := [.v s.d])
  simp [m_check_sale, f_is_sale h]
theorem f_check_price {p : Int} (h0 : 0 ≤ p) (h1 : p ≤ 200) : mDef m_check_price 1 [.int p] = .ok .none := by
  apply def_nx (Γ := [.v (.int p)])
  simp [m_check_price, f_is_int, isInt, h0, h1]
/-! ### steps -/
/-- the step of the last tuple whose bound is at most p -/
def below (st : Steps) (p : Int) : Steps := st.filter fun q => decide (q.1 ≤ p)
def stepAt (st : Steps) (p : Int) : Int := (((below st p).map (·.2)).getLast?).getD 0
def Sale.up (s : Sale) (p : Int) : Int := p + stepAt s.steps p
theorem below_ne {s : Sale} (h : s.Ok) {p : Int} (h0 : 0 ≤ p) : ∃ q r, below s.steps p = q :: r := by
  obtain ⟨a, r, e⟩ := h.zero
  unfold below
  rw [e, List.filter_cons_of_pos (by simpa using h0)]
  exact ⟨_, _, rfl⟩
theorem atI_neg {α : Type} (xs : List α) (x : α) (h : xs.getLast? = some x) : atI xs (-1) = some x := by
  cases xs with
  | nil => simp at h
  | cons a r =>
    have e : (a :: r) = (a :: r).dropLast ++ [x] := by
      have h2 : (a :: r).getLast (List.cons_ne_nil a r) = x := by
        rw [List.getLast?_eq_getLast (List.cons_ne_nil a r)] at h
        exact Option.some.inj h
      rw [← h2, List.dropLast_concat_getLast]
    rw [e]
    exact atI_last _ _
theorem lc_below (st : Steps) (Γ : Gam) (i j : Nat) (hi : i < Γ.length) (hj : j < Γ.length) (hij : i ≠ j) (k : Nat) (hk : k ≠ i) (hk2 : k ≠ j) (p : Int) (hp : gat Γ k = .v (.int p)) :
    lcGo (bTup [bName i, bName j]) (mB (mOp dLe (mVar i) (mVar k))) (mVar j) Γ (st.map eStep) = .ok ((below st p).map fun q => .int q.2) := by
  apply lcGo_map eStep (fun q => decide (q.1 ≤ p)) (fun q => .int q.2) st
  intro x hx
  refine ⟨(Γ.set i (.v (.int x.1))).set j (.v (.int x.2)), by simp [eStep], ?_, fun _ => ?_⟩
  · simp [gat_set, hi, hj, hij, hk, hk2, hp]
  · simp [gat_set, hi, hj]
theorem f_step_up {s : Sale} (h : s.Ok) {p : Int} (h0 : 0 ≤ p) : mDef m_step_up 4 [s.d, .int p] = .ok (.int (s.up p)) := by
  apply def_rt
  obtain ⟨q, r, e⟩ := below_ne h h0
  have e1 := lc_below s.steps [.v s.d, .v (.int p), .no, .no] 2 3 (by simp) (by simp) (by simp) 1 (by simp) (by simp) p rfl
  have e2 : atI ((below s.steps p).map fun q => PyData.int q.2) (-1) = some (.int (stepAt s.steps p)) := by
    apply atI_neg
    unfold stepAt
    rw [e]
    simp [List.getLast?_map, List.getLast?_cons]
  simp only [Sale.d] at e1
  simp [m_step_up, Sale.d, eSteps, e1, e2, Sale.up]
  simp only [eSteps] at e1
  simp [e1, e2]
theorem f_next_price {s : Sale} (h : s.Ok) {p : Int} (h0 : 0 ≤ p) (h1 : p ≤ 200) : mDef m_next_price 2 [s.d, .int p] = .ok (.int (s.up p)) := by
  apply def_rt
  simp [m_next_price, f_check_sale h, f_check_price h0 h1, f_step_up h h0]
end PD

/-! The mathematics: the draws of the first laws, their sales. -/
namespace PD
open PySem L2

def outR : Out → R PyData
  | .rt d => .ok d
  | .ex c => .ex c
  | .nx _ => .ok .none
  | _ => .no
theorem mDef_eq (m : MS) (n : Nat) (ds : List PyData) : mDef m n ds = outR (m (ds.map .v ++ List.replicate (n - ds.length) .no)) := by
  unfold mDef
  cases m (ds.map .v ++ List.replicate (n - ds.length) .no) <;> rfl
@[simp] theorem outR_rt (d : PyData) : outR (.rt d) = .ok d := rfl
@[simp] theorem outR_ex (d : Str) : outR (.ex d) = .ex d := rfl
@[simp] theorem outR_nx (d : Gam) : outR (.nx d) = .ok .none := rfl

/-- the script -/
def S (ns : List Int) : PyData := .dict (ns.map fun n => (.int n, .none))
theorem lay_ints : ∀ ns : List Int, PyData.canLayAll0 (ns.map PyData.int) = true ∧ PyData.depthAll (ns.map PyData.int) = 0
  | [] => ⟨rfl, rfl⟩
  | n :: ns => by
    obtain ⟨h1, h2⟩ := lay_ints ns
    simp [PyData.canLayAll0, PyData.depthAll, PyData.canLay0, PyData.depth, h1, h2]
theorem shaped_ints (ns : List Int) : SeqAt.shaped (.list (ns.map PyData.int)) = true := by
  obtain ⟨h1, h2⟩ := lay_ints ns
  simp [SeqAt.shaped, PyData.canLay0, PyData.depth, h1, h2]
theorem unS_S (ns : List Int) : unS (S ns) = .list (ns.map PyData.int) := by cases ns <;> simp [unS, S, List.map_map, Function.comp_def]
@[simp] theorem eqD_S (ns : List Int) : eqD (S ns) (.list []) = .ok ns.isEmpty := by
  have e : sEq (S ns) (.list []) = none := rfl
  unfold eqD
  rw [e]
  dsimp only
  rw [unS_S, if_pos ⟨shaped_ints ns, by decide⟩]
  cases ns <;> rfl
theorem atI_map {α β : Type} (f : α → β) (xs : List α) (i : Int) : atI (xs.map f) i = (atI xs i).map f := by
  unfold atI
  rw [List.length_map]
  cases ixN xs.length i with
  | none => rfl
  | some j => simp
@[simp] theorem dIx_S (ns : List Int) (i : Int) : dIx (S ns) (.int i) = oR ((atI ns i).map PyData.int) := by
  have e : dIx (S ns) (.int i) = oR (atI (((ns.map fun n => (PyData.int n, PyData.none))).map (·.1)) i) := by cases ns <;> rfl
  rw [e, List.map_map, ← atI_map]
  rfl
@[simp] theorem dLen_S (ns : List Int) : dLen [S ns] = .ok (.int (ns.length : Nat)) := by simp [S]
theorem atI_mod {ns : List Int} (h : ns ≠ []) (k : Int) : ∃ c, atI ns (k % (ns.length : Nat)) = some c := by
  have hl : 0 < ns.length := List.length_pos_iff.mpr h
  have h1 : 0 ≤ k % (ns.length : Int) := Int.emod_nonneg _ (by omega)
  have h2 : k % (ns.length : Int) < ns.length := Int.emod_lt_of_pos _ (by omega)
  obtain ⟨j, hj⟩ : ∃ j : Nat, k % (ns.length : Int) = j := ⟨(k % (ns.length : Int)).toNat, by omega⟩
  rw [hj]
  refine ⟨ns[j]'(by omega), atI_nat ?_⟩
  simp
theorem pick_loop (a0 a1 a2 a3 a4 : Sl) : ∀ (n : Nat) (rest again : Int), 0 ≤ again → again < n → ∃ rest' again', mWh [] (mAnd (mB (mOp dGt (mVar 5) (mC (.int 0)))) (mB (mOp dGt (mVar 6) (mC (.int 0))))) (mPar [5, 6] [] [.v (mOp dDiv (mVar 5) (mC (.int 840))), .v (mOp dSub (mVar 6) (mC (.int 1)))]) n
    [a0, a1, a2, a3, a4, .v (.int rest), .v (.int again)] = .nx [a0, a1, a2, a3, a4, .v (.int rest'), .v (.int again')]
  | 0, rest, again, h0, h1 => absurd h1 (by simp; omega)
  | n + 1, rest, again, h0, h1 => by
    by_cases h : 0 < rest ∧ 0 < again
    · obtain ⟨r', g', e⟩ := pick_loop a0 a1 a2 a3 a4 n (rest / 840) (again - 1) (by omega) (by omega)
      refine ⟨r', g', ?_⟩
      rw [mWh_step (Γ1 := [a0, a1, a2, a3, a4, .v (.int (rest / 840)), .v (.int (again - 1))]) (by simp [h.1, h.2]) (by simp [dDiv_int])]
      exact e
    · refine ⟨rest, again, mWh_end ?_⟩
      by_cases h1 : 0 < rest
      · have h2 : ¬ 0 < again := fun z => h ⟨h1, z⟩
        simp [h1]; omega
      · simp [h1]
def pickF (ns : List Int) (k many : Int) : Int := match mDef m_law_pick 7 [S ns, .int k, .int many] with
  | .ok (.int r) => r
  | _ => 0
theorem pick_ex {ns : List Int} (hs : ns.length ≤ 63) {k many : Int} (h0 : 0 ≤ k) (h1 : k < 1000) (hm : 0 < many) : ∃ r, 0 ≤ r ∧ r < many ∧ mDef m_law_pick 7 [S ns, .int k, .int many] = .ok (.int r) := by
  obtain ⟨c, hc⟩ : ∃ c, (if ns.isEmpty = true then R.ok (PyData.int 0) else oR ((atI ns (k % (ns.length : Nat))).map PyData.int)) = .ok (.int c) := by
    by_cases hn : ns = []
    · subst hn; exact ⟨0, rfl⟩
    · obtain ⟨c, e⟩ := atI_mod hn k
      refine ⟨c, ?_⟩
      rw [if_neg (by simp [hn]), e]
      rfl
  have hl : ∀ Γ : Gam, (mCall dMax (mCons (mCall dLen (mCons (mC (S ns)) mNil)) (mCons (mC (.int 1)) mNil))) Γ = .ok (.int (if (1 : Int) > (ns.length : Nat) then 1 else ((ns.length : Nat) : Int))) := fun Γ => by simp
  generalize hj : (if (1 : Int) > (ns.length : Nat) then 1 else ((ns.length : Nat) : Int)) = j at hl
  have hj0 : 0 < j := by subst hj; split <;> omega
  have hj1 : j < 2 ^ 64 := by subst hj; split <;> omega
  obtain ⟨rest, again, e⟩ := pick_loop (.v (S ns)) (.v (.int k)) (.v (.int many)) (.v (.int c)) .no 1000 (c / 10 ^ 18) (k / j) (Int.ediv_nonneg h0 (by omega)) (by
    have := Int.ediv_le_self j h0
    show k / j < 1000
    omega)
  have hcell : (mIf (mB (mOp dNe (mVar 0) (mL mNil))) (mOp dIx (mVar 0) (mOp dMod (mVar 1) (mCall dLen (mCons (mVar 0) mNil)))) (mC (.int 0))) [.v (S ns), .v (.int k), .v (.int many), .no, .no, .no, .no] = .ok (.int c) := by
    by_cases hn : ns = []
    · subst hn
      simpa using hc
    · have hl2 : (0 : Int) < (ns.length : Nat) := by have := List.length_pos_iff.mpr hn; omega
      have hn2 : ns.isEmpty = false := by simp [hn]
      rw [hn2] at hc
      simp [hn2, dMod_int hl2]
      simpa using hc
  have hk : (mPar [5, 6] [] [.v (mOp dDiv (mVar 3) (mOp dPow (mC (.int 10)) (mC (.int 18)))), .v (mOp dDiv (mVar 1) (mCall dMax (mCons (mCall dLen (mCons (mVar 0) mNil)) (mCons (mC (.int 1)) mNil))))]) [.v (S ns), .v (.int k), .v (.int many), .v (.int c), .no, .no, .no] = .nx [.v (S ns), .v (.int k), .v (.int many), .v (.int c), .no, .v (.int (c / 10 ^ 18)), .v (.int (k / j))] := by
    have h1 : dPow (.int 10) (.int 18) = .ok (.int (10 ^ 18)) := rfl
    have h2 := hl []
    simp only [ap_Call, ap_Cons, ap_C, ap_Nil, R.bind] at h2
    have h3 : dDiv (.int c) (.int 1000000000000000000) = .ok (.int (c / 1000000000000000000)) := dDiv_int (by decide) (by decide)
    simp at h2
    simp [h1, h3, h2, dDiv_int hj0 hj1]
  have hst : ∀ m : MS, mDef (mSeq (mSet 3 [] (mIf (mB (mOp dNe (mVar 0) (mL mNil))) (mOp dIx (mVar 0) (mOp dMod (mVar 1) (mCall dLen (mCons (mVar 0) mNil)))) (mC (.int 0))))
      (mSeq (mPar [5, 6] [] [.v (mOp dDiv (mVar 3) (mOp dPow (mC (.int 10)) (mC (.int 18)))), .v (mOp dDiv (mVar 1) (mCall dMax (mCons (mCall dLen (mCons (mVar 0) mNil)) (mCons (mC (.int 1)) mNil))))])
      (mSeq (mWh [] (mAnd (mB (mOp dGt (mVar 5) (mC (.int 0)))) (mB (mOp dGt (mVar 6) (mC (.int 0))))) (mPar [5, 6] [] [.v (mOp dDiv (mVar 5) (mC (.int 840))), .v (mOp dSub (mVar 6) (mC (.int 1)))]) 1000) m))) 7 [S ns, .int k, .int many]
      = outR (m [.v (S ns), .v (.int k), .v (.int many), .v (.int c), .no, .v (.int rest), .v (.int again)]) := fun m => by
    have a1 : ∀ m' : MS, (mSeq (mSet 3 [] (mIf (mB (mOp dNe (mVar 0) (mL mNil))) (mOp dIx (mVar 0) (mOp dMod (mVar 1) (mCall dLen (mCons (mVar 0) mNil)))) (mC (.int 0)))) m') [.v (S ns), .v (.int k), .v (.int many), .no, .no, .no, .no] = m' [.v (S ns), .v (.int k), .v (.int many), .v (.int c), .no, .no, .no] := fun m' => by
      rw [ap_Seq, ap_Set, mEv_nil, hcell]
      rfl
    have a2 : ∀ m' : MS, (mSeq (mPar [5, 6] [] [.v (mOp dDiv (mVar 3) (mOp dPow (mC (.int 10)) (mC (.int 18)))), .v (mOp dDiv (mVar 1) (mCall dMax (mCons (mCall dLen (mCons (mVar 0) mNil)) (mCons (mC (.int 1)) mNil))))]) m') [.v (S ns), .v (.int k), .v (.int many), .v (.int c), .no, .no, .no] = m' [.v (S ns), .v (.int k), .v (.int many), .v (.int c), .no, .v (.int (c / 10 ^ 18)), .v (.int (k / j))] := fun m' => by
      rw [ap_Seq, hk]
    have a3 : ∀ m' : MS, (mSeq (mWh [] (mAnd (mB (mOp dGt (mVar 5) (mC (.int 0)))) (mB (mOp dGt (mVar 6) (mC (.int 0))))) (mPar [5, 6] [] [.v (mOp dDiv (mVar 5) (mC (.int 840))), .v (mOp dSub (mVar 6) (mC (.int 1)))]) 1000) m') [.v (S ns), .v (.int k), .v (.int many), .v (.int c), .no, .v (.int (c / 10 ^ 18)), .v (.int (k / j))] = m' [.v (S ns), .v (.int k), .v (.int many), .v (.int c), .no, .v (.int rest), .v (.int again)] := fun m' => by
      rw [ap_Seq, e]
    rw [mDef_eq]
    show outR ((mSeq _ _) [.v (S ns), .v (.int k), .v (.int many), .no, .no, .no, .no]) = _
    rw [a1, a2, a3]
  unfold m_law_pick
  rw [hst]
  by_cases hr : 0 < rest
  · refine ⟨rest % 840 % many, Int.emod_nonneg _ (by omega), Int.emod_lt_of_pos _ hm, ?_⟩
    simp [hr, dMod_int hm, dMod_int (show (0:Int) < 840 by decide)]
  · generalize hd : (c * 31 + 6151 * (k + 1)) * 40692 % 2147483399 = dr
    have hd0 : 0 ≤ dr := by subst hd; exact Int.emod_nonneg _ (by decide)
    have hd1 : dr < 2147483399 := by subst hd; exact Int.emod_lt_of_pos _ (by decide)
    refine ⟨(dr * dr + dr / 31) % 2147483629 % many, Int.emod_nonneg _ (by omega), Int.emod_lt_of_pos _ hm, ?_⟩
    have m1 : dMul (.int c) (.int 31) = .ok (.int (c * 31)) := dMul_r (by decide) (by decide)
    have m2 : dMul (.int 6151) (.int (k + 1)) = .ok (.int (6151 * (k + 1))) := dMul_l (by decide) (by decide)
    have m3 : dMul (.int (c * 31 + 6151 * (k + 1))) (.int 40692) = .ok (.int ((c * 31 + 6151 * (k + 1)) * 40692)) := dMul_r (by decide) (by decide)
    have m4 : dMul (.int dr) (.int dr) = .ok (.int (dr * dr)) := dMul_r (by omega) (by omega)
    simp [hr, m1, m2, m3, m4, hd, dMod_int hm, dMod_int (show (0:Int) < 2147483399 by decide), dMod_int (show (0:Int) < 2147483629 by decide), dDiv_int (show (0:Int) < 31 by decide) (by decide)]
theorem f_pick {ns : List Int} (hs : ns.length ≤ 63) {k many : Int} (h0 : 0 ≤ k) (h1 : k < 1000) (hm : 0 < many) : mDef m_law_pick 7 [S ns, .int k, .int many] = .ok (.int (pickF ns k many)) := by
  obtain ⟨r, _, _, e⟩ := pick_ex hs h0 h1 hm
  rw [e]
  unfold pickF
  rw [e]
theorem pick_b {ns : List Int} (hs : ns.length ≤ 63) {k many : Int} (h0 : 0 ≤ k) (h1 : k < 1000) (hm : 0 < many) : 0 ≤ pickF ns k many ∧ pickF ns k many < many := by
  obtain ⟨r, a, b, e⟩ := pick_ex hs h0 h1 hm
  unfold pickF
  rw [e]
  exact ⟨a, b⟩
end PD

/-! The mathematics: the sales of the first laws. -/
namespace PD
open PySem L2

structure Sale.Small (s : Sale) : Prop where
  ok : s.Ok
  len : s.steps.length ≤ 3
  rng : ∀ q ∈ s.steps, q.1 ≤ 24 ∧ q.2 ≤ 9
  st : s.start ≤ 8
  rs : s.res ≤ 28
theorem three {x : Int} (h0 : 0 ≤ x) (h1 : x < 3) : x = 0 ∨ x = 1 ∨ x = 2 := by omega
theorem five {x : Int} (h0 : 0 ≤ x) (h1 : x < 5) : x = 0 ∨ x = 1 ∨ x = 2 ∨ x = 3 ∨ x = 4 := by omega
theorem f_house {ns : List Int} (hs : ns.length ≤ 63) {a : Int} (h0 : 0 ≤ a) (h1 : a < 900) : ∃ s : Sale, s.Small ∧ mDef m_law_house 7 [S ns, .int a] = .ok s.d := by
  obtain ⟨b0, b1⟩ := pick_b hs (k := a) (many := 3) h0 (by omega) (by decide)
  obtain ⟨c0, c1⟩ := pick_b hs (k := a + 1 + 2 * 0) (many := 3) (by omega) (by omega) (by decide)
  obtain ⟨d0, d1⟩ := pick_b hs (k := a + 2 + 2 * 0) (many := 12) (by omega) (by omega) (by decide)
  obtain ⟨e0, e1⟩ := pick_b hs (k := a + 1 + 2 * 1) (many := 3) (by omega) (by omega) (by decide)
  obtain ⟨f0, f1⟩ := pick_b hs (k := a + 2 + 2 * 1) (many := 12) (by omega) (by omega) (by decide)
  obtain ⟨g0, g1⟩ := pick_b hs (k := a + 1 + 2 * 2) (many := 3) (by omega) (by omega) (by decide)
  obtain ⟨i0, i1⟩ := pick_b hs (k := a + 9) (many := 8) (by omega) (by omega) (by decide)
  obtain ⟨j0, j1⟩ := pick_b hs (k := a + 10) (many := 5) (by omega) (by omega) (by decide)
  have p1 := f_pick hs (k := a) (many := 3) h0 (by omega) (by decide)
  have p2 := f_pick hs (k := a + 1 + 2 * 0) (many := 3) (by omega) (by omega) (by decide)
  have p3 := f_pick hs (k := a + 2 + 2 * 0) (many := 12) (by omega) (by omega) (by decide)
  have p4 := f_pick hs (k := a + 1 + 2 * 1) (many := 3) (by omega) (by omega) (by decide)
  have p5 := f_pick hs (k := a + 2 + 2 * 1) (many := 12) (by omega) (by omega) (by decide)
  have p6 := f_pick hs (k := a + 1 + 2 * 2) (many := 3) (by omega) (by omega) (by decide)
  have p7 := f_pick hs (k := a + 2 + 2 * 2) (many := 12) (by omega) (by omega) (by decide)
  have p8 := f_pick hs (k := a + 9) (many := 8) (by omega) (by omega) (by decide)
  have p9 := f_pick hs (k := a + 10) (many := 5) (by omega) (by omega) (by decide)
  generalize pickF ns a 3 = q1 at *
  generalize pickF ns (a + 1 + 2 * 0) 3 = q2 at *
  generalize pickF ns (a + 2 + 2 * 0) 12 = q3 at *
  generalize pickF ns (a + 1 + 2 * 1) 3 = q4 at *
  generalize pickF ns (a + 2 + 2 * 1) 12 = q5 at *
  generalize pickF ns (a + 1 + 2 * 2) 3 = q6 at *
  generalize pickF ns (a + 2 + 2 * 2) 12 = q7 at *
  generalize pickF ns (a + 9) 8 = q8 at *
  generalize pickF ns (a + 10) 5 = q9 at *
  have hr : ∃ r : Int, 0 ≤ r ∧ r ≤ 20 ∧ (mOp dIx (mTup (mCons (mC (.int 0)) (mCons (mC (.int 0)) (mCons (mC (.int 3)) (mCons (mC (.int 9)) (mCons (mC (.int 20)) mNil)))))) (mC (.int q9))) [] = .ok (.int r) := by
    rcases five j0 j1 with h | h | h | h | h <;> subst h
    · exact ⟨0, by decide, by decide, rfl⟩
    · exact ⟨0, by decide, by decide, rfl⟩
    · exact ⟨3, by decide, by decide, rfl⟩
    · exact ⟨9, by decide, by decide, rfl⟩
    · exact ⟨20, by decide, by decide, rfl⟩
  obtain ⟨r, r0, r1, er⟩ := hr
  simp at er
  have m0 : dMul (.int 2) (.int 0) = .ok (.int (2 * 0)) := rfl
  have m1 : dMul (.int 2) (.int 1) = .ok (.int (2 * 1)) := rfl
  have m2 : dMul (.int 2) (.int 2) = .ok (.int (2 * 2)) := rfl
  simp at m0 m1 m2 p2 p3 p4 p5 p6 p7
  rcases three b0 b1 with h | h | h <;> subst h
  · refine ⟨⟨[(0, 0 + 1 + q2)], 1 + q8, 1 + q8 + r⟩, ⟨⟨by simp, ⟨_, _, rfl⟩, ?_, rfl, ?_, ?_⟩, by simp, ?_, ?_, ?_⟩, ?_⟩
    · simp; omega
    · simp; omega
    · simp; omega
    · simp; omega
    · simp; omega
    · simp; omega
    · apply def_rt
      have hg : rngD [.int 1] = .ok [.int 0] := rfl
      simp [m_law_house, p1, p2, p3, p4, p5, p6, p7, p8, p9, m0, m1, m2, hg, er, forGo, Sale.d, eSteps, eStep]
  · refine ⟨⟨[(0, 0 + 1 + q2), (0 + 1 + q3, 0 + 1 + q2 + 1 + q4)], 1 + q8, 1 + q8 + r⟩, ⟨⟨by simp, ⟨_, _, rfl⟩, ?_, ?_, ?_, ?_⟩, by simp, ?_, ?_, ?_⟩, ?_⟩
    · simp; omega
    · simp [asc]; omega
    · simp; omega
    · simp; omega
    · simp; omega
    · simp; omega
    · simp; omega
    · apply def_rt
      have hg : rngD [.int 2] = .ok [.int 0, .int 1] := rfl
      simp [m_law_house, p1, p2, p3, p4, p5, p6, p7, p8, p9, m0, m1, m2, hg, er, forGo, Sale.d, eSteps, eStep]
  · refine ⟨⟨[(0, 0 + 1 + q2), (0 + 1 + q3, 0 + 1 + q2 + 1 + q4), (0 + 1 + q3 + 1 + q5, 0 + 1 + q2 + 1 + q4 + 1 + q6)], 1 + q8, 1 + q8 + r⟩, ⟨⟨by simp, ⟨_, _, rfl⟩, ?_, ?_, ?_, ?_⟩, by simp, ?_, ?_, ?_⟩, ?_⟩
    · simp; omega
    · simp [asc]; omega
    · simp; omega
    · simp; omega
    · simp; omega
    · simp; omega
    · simp; omega
    · apply def_rt
      have hg : rngD [.int 3] = .ok [.int 0, .int 1, .int 2] := rfl
      simp [m_law_house, p1, p2, p3, p4, p5, p6, p7, p8, p9, m0, m1, m2, hg, er, forGo, Sale.d, eSteps, eStep]
end PD

/-! The mathematics: the climb; the first law. -/
namespace PD
open PySem L2

theorem eqD_datum {α : Type} [DecidableEq α] [PySem.W.Datum α] {x y : α} (hx : SeqAt.shaped (PySem.W.Datum.toD x) = true) (hy : SeqAt.shaped (PySem.W.Datum.toD y) = true)
    (ux : unS (PySem.W.Datum.toD x) = PySem.W.Datum.toD x) (uy : unS (PySem.W.Datum.toD y) = PySem.W.Datum.toD y) (us : sEq (PySem.W.Datum.toD x) (PySem.W.Datum.toD y) = none) :
    eqD (PySem.W.Datum.toD x) (PySem.W.Datum.toD y) = .ok (decide (x = y)) := by
  unfold eqD
  rw [us]
  dsimp only
  rw [ux, uy, if_pos ⟨hx, hy⟩, PySem.W.Datum.eqv]
@[simp] theorem eqD_ints (a b : List Int) : eqD (.list (a.map .int)) (.list (b.map .int)) = .ok (decide (a = b)) :=
  eqD_datum (α := List Int) (x := a) (y := b) (shaped_ints a) (shaped_ints b) rfl rfl rfl
/-! ### the step at a price -/
theorem asc_pw : ∀ st : Steps, asc st = true → st.Pairwise fun a b => a.1 < b.1 ∧ a.2 < b.2
  | [], _ => List.Pairwise.nil
  | [a], _ => List.pairwise_singleton _ _
  | a :: b :: r, h => by
    simp only [asc, Bool.and_eq_true, decide_eq_true_eq] at h
    have ih := asc_pw (b :: r) h.2
    refine List.pairwise_cons.mpr ⟨fun c hc => ?_, ih⟩
    rcases List.mem_cons.mp hc with e | hc
    · subst e; exact h.1
    · have := (List.pairwise_cons.mp ih).1 c hc
      omega
theorem stepAt_spec {s : Sale} (h : s.Ok) {p : Int} (h0 : 0 ≤ p) : (∃ q ∈ below s.steps p, q.2 = stepAt s.steps p) ∧ ∀ q ∈ below s.steps p, q.2 ≤ stepAt s.steps p := by
  obtain ⟨q, r, e⟩ := below_ne h h0
  have hp : (below s.steps p).Pairwise fun a b => a.1 < b.1 ∧ a.2 < b.2 := (asc_pw _ h.up).filter _
  have hb : ∃ i l, below s.steps p = i ++ [l] := ⟨(below s.steps p).dropLast, (below s.steps p).getLast (by rw [e]; simp), (List.dropLast_concat_getLast _).symm⟩
  obtain ⟨i, l, e2⟩ := hb
  have e3 : stepAt s.steps p = l.2 := by unfold stepAt; rw [e2]; simp
  rw [e3, e2]
  rw [e2] at hp
  refine ⟨⟨l, by simp, rfl⟩, fun q hq => ?_⟩
  rcases List.mem_append.mp hq with h1 | h1
  · exact Int.le_of_lt ((List.pairwise_append.mp hp).2.2 q h1 l (by simp)).2
  · rw [List.mem_singleton.mp h1]; exact Int.le_refl _
theorem stepAt_b {s : Sale} (h : s.Ok) {p : Int} (h0 : 0 ≤ p) : 1 ≤ stepAt s.steps p ∧ stepAt s.steps p ≤ 50 := by
  obtain ⟨⟨q, hq, e⟩, _⟩ := stepAt_spec h h0
  have := h.rng q (List.mem_filter.mp hq).1
  omega
theorem stepAt_mono {s : Sale} (h : s.Ok) {p r : Int} (h0 : 0 ≤ p) (hr : p ≤ r) : stepAt s.steps p ≤ stepAt s.steps r := by
  obtain ⟨⟨q, hq, e⟩, _⟩ := stepAt_spec h h0
  obtain ⟨_, h2⟩ := stepAt_spec h (Int.le_trans h0 hr)
  rw [← e]
  refine h2 q (List.mem_filter.mpr ⟨(List.mem_filter.mp hq).1, ?_⟩)
  have := (List.mem_filter.mp hq).2
  simp at *
  omega
theorem up_b {s : Sale} (h : s.Ok) {p : Int} (h0 : 0 ≤ p) : p + 1 ≤ s.up p ∧ s.up p ≤ p + 50 := by
  have := stepAt_b h h0
  unfold Sale.up
  omega
theorem up_mono {s : Sale} (h : s.Ok) {p r : Int} (h0 : 0 ≤ p) (hr : p < r) : s.up p < s.up r := by
  have := stepAt_mono h h0 (Int.le_of_lt hr)
  unfold Sale.up
  omega
theorem maxI_eq {r : List Int} {n m : Int} (h : m ∈ n :: r) (h2 : ∀ y ∈ n :: r, y ≤ m) : maxI n r = m := by
  obtain ⟨a, b, c⟩ := maxI_spec r n
  have h3 : maxI n r ≤ m := by
    rcases a with a | a
    · rw [a]; exact h2 n (by simp)
    · exact h2 _ (by simp [a])
  have h4 : m ≤ maxI n r := by
    rcases List.mem_cons.mp h with e | e
    · rw [e]; exact b
    · exact c m e
  omega
theorem f_law_up {s : Sale} (h : s.Ok) {p : Int} (h0 : 0 ≤ p) : mDef m_law_up 5 [s.d, .int p] = .ok (.int (s.up p)) := by
  apply def_rt
  have e1 := lc_below s.steps [.v s.d, .v (.int p), .no, .no, .no] 3 4 (by simp) (by simp) (by simp) 1 (by simp) (by simp) p rfl
  have e2 : dMax [.list ((below s.steps p).map fun q => PyData.int q.2)] = .ok (.int (stepAt s.steps p)) := by
    obtain ⟨⟨q, hq, e⟩, h2⟩ := stepAt_spec h h0
    show (match intsOf ((below s.steps p).map fun q => PyData.int q.2) with
      | some (n :: ns) => R.ok (PyData.int (maxI n ns))
      | _ => R.no) = _
    rw [intsOf_mapf]
    cases hb : below s.steps p with
    | nil => rw [hb] at hq; simp at hq
    | cons a r =>
      rw [hb] at hq h2
      rw [List.map_cons]
      dsimp only
      rw [maxI_eq (m := stepAt s.steps p)]
      · rw [← e]
        exact List.mem_map_of_mem (f := fun q : Int × Int => q.2) hq
      · intro y hy
        rw [← List.map_cons (f := fun q : Int × Int => q.2)] at hy
        obtain ⟨z, hz, e⟩ := List.mem_map.mp hy
        rw [← e]
        exact h2 z hz
  simp only [Sale.d, eSteps] at e1
  simp [m_law_up, Sale.d, eSteps, e1, e2, Sale.up]
/-! ### the climb -/
/-- the prices from one on, up to the most -/
def rise (s : Sale) (most : Int) : Nat → Int → List Int
  | 0, _ => []
  | n + 1, h => if h ≤ most then h :: rise s most n (s.up h) else []
theorem rise_succ (s : Sale) (most : Int) (n : Nat) (h : Int) : rise s most (n + 1) h = if h ≤ most then h :: rise s most n (s.up h) else [] := rfl
theorem climb_loop {s : Sale} (h : s.Ok) (a1 a2 : Sl) (most : Int) (hm : gat [.v s.d, a1, a2] 2 = .v (.int most)) : ∀ (n : Nat) (i : List Int) (l : Int), 0 ≤ l → most < s.up l + n → i.length + n ≤ 2000 →
    mWh [] (mB (mOp dLe (mCall (mDef m_step_up 4) (mCons (mVar 0) (mCons (mIxO 3 (mNeg (mC (.int 1)))) mNil))) (mVar 2))) (mApp 3 [] (mCall (mDef m_step_up 4) (mCons (mVar 0) (mCons (mIxO 3 (mNeg (mC (.int 1)))) mNil)))) (n + 1)
      [.v s.d, a1, a2, .own ((i ++ [l]).map .int)] = .nx [.v s.d, a1, a2, .own ((i ++ l :: rise s most (n + 1) (s.up l)).map .int)]
  | n, i, l, h0, hn, hl => by
    have e0 : a2 = .v (.int most) := hm
    subst e0
    have e1 : atI (i.map PyData.int ++ [.int l]) (-1) = some (.int l) := atI_last _ _
    have hu := up_b h h0
    by_cases hh : s.up l ≤ most
    · match n, hn with
      | 0, hn => omega
      | n + 1, hn =>
        have hu2 := up_b h (p := s.up l) (by omega)
        have ih := climb_loop h a1 (.v (.int most)) most rfl n (i ++ [l]) (s.up l) (by omega) (by omega) (by simp; omega)
        rw [mWh_step (Γ1 := [.v s.d, a1, .v (.int most), .own (((i ++ [l]) ++ [s.up l]).map .int)])]
        · rw [ih, rise_succ s most (n + 1) (s.up l), if_pos hh]
          simp
        · simp [e1, f_step_up h h0, hh]
        · have : i.length + 1 < 100000 := by omega
          simp [e1, f_step_up h h0, this]
    · rw [mWh_end]
      · unfold rise
        simp [hh]
      · simp [e1, f_step_up h h0]; omega
theorem f_climb {s : Sale} (h : s.Ok) {p most : Int} (h0 : 0 ≤ p) (h1 : p ≤ 200) (m0 : 0 ≤ most) (m1 : most ≤ 200) : mDef m_climb 4 [s.d, .int p, .int most] = .ok (.list ((p :: rise s most 1000 (s.up p)).map .int)) := by
  apply def_rt
  have hu := up_b h h0
  have e := climb_loop h (.v (.int p)) (.v (.int most)) most rfl 999 [] p h0 (by omega) (by simp)
  simp at e
  simp [m_climb, f_check_sale h, f_check_price h0 h1, f_check_price m0 m1, e]
theorem law_loop {s : Sale} (h : s.Ok) (a0 a1 a3 a4 : Sl) (most : Int) : ∀ (n : Nat) (i : List Int) (l : Int), 0 ≤ l → most < l + n → i.length + n ≤ 2000 → ∃ a7,
    mWh [] (mB (mOp dLe (mVar 7) (mVar 5))) (mSeq (mApp 6 [] (mVar 7)) (mSet 7 [] (mCall (mDef m_law_up 5) (mCons (mVar 2) (mCons (mVar 7) mNil))))) (n + 1)
      [a0, a1, .v s.d, a3, a4, .v (.int most), .own (i.map .int), .v (.int l)] = .nx [a0, a1, .v s.d, a3, a4, .v (.int most), .own ((i ++ rise s most (n + 1) l).map .int), a7]
  | n, i, l, h0, hn, hl => by
    have hu := up_b h h0
    by_cases hh : l ≤ most
    · match n, hn with
      | 0, hn => omega
      | n + 1, hn =>
        obtain ⟨a7, ih⟩ := law_loop h a0 a1 a3 a4 most n (i ++ [l]) (s.up l) (by omega) (by omega) (by simp; omega)
        refine ⟨a7, ?_⟩
        rw [mWh_step (Γ1 := [a0, a1, .v s.d, a3, a4, .v (.int most), .own ((i ++ [l]).map .int), .v (.int (s.up l))])]
        · rw [ih, rise_succ s most (n + 1) l, if_pos hh]
          simp
        · simp [hh]
        · have : i.length < 100000 := by omega
          simp [this, f_law_up h h0]
    · refine ⟨.v (.int l), ?_⟩
      rw [mWh_end]
      · unfold rise
        simp [hh]
      · simp; omega
/-! ### the last row of each sale -/
theorem after_row {s : Sale} (h : s.Ok) (Γ : Gam) (i j : Nat) (hi : i < Γ.length) (hj : i ≠ j) (hs : gat Γ j = .v s.d) :
    lcGo (bName i) mT (mCall (mDef m_next_price 2) (mCons (mVar j) (mCons (mVar i) mNil))) Γ (intsFrom 0 201) = .ok (((List.range 201).map fun k => s.up ((k : Nat) : Int)).map .int) := by
  have := lcGo_all (b := bName i) (mt := mT) (me := mCall (mDef m_next_price 2) (mCons (mVar j) (mCons (mVar i) mNil))) (Γ := Γ) (fun k : Nat => PyData.int (0 + (k : Int))) (fun k => .int (s.up ((k : Nat) : Int))) (List.range 201) fun x hx => ⟨Γ.set i (.v (.int (0 + (x : Int)))), rfl, rfl, by
    have hx2 := List.mem_range.mp hx
    simp [gat_set, hi, hj, hs, f_next_price h (p := (x : Int)) (by omega) (by omega), Ne.symm hj]⟩
  rw [List.map_map]
  exact this
theorem after_pw {s : Sale} (h : s.Ok) (n : Nat) : ((List.range n).map fun k => s.up ((k : Nat) : Int)).Pairwise (· < ·) := by
  rw [List.pairwise_map]
  exact List.pairwise_lt_range.imp fun {a b} hab => up_mono h (by omega) (by omega)
theorem sortI_of {ns : List Int} (h : ns.Pairwise (· < ·)) : sortI ns = ns := (sortI_eq (List.Perm.refl _) (h.imp Int.le_of_lt)).symm
theorem dSortedI_of {ns : List Int} (h : ns.Pairwise (· < ·)) : dSortedI [.list (ns.map .int)] = .ok (.list (ns.map .int)) := by
  show (oR (intsOf (ns.map .int))).bind _ = _
  rw [intsOf_map]
  simp [sortI_of h]
theorem dLenSet_of {ns : List Int} (h : ns.Pairwise (· < ·)) (hl : ns.length ≤ 4000) : dLenSet (.list (ns.map .int)) = .ok (.int (ns.length : Nat)) := by
  show (oR (intsOf (ns.map .int))).bind _ = _
  rw [intsOf_map]
  have hd : ns.Nodup := h.imp fun hab e => by omega
  simp [hd, hl]
end PD

/-! The mathematics: names, bids, states; a run bid by bid. -/
namespace PD
open PySem L2

/-! ### equality of mapped data -/
theorem eqD_eqv {d e : PyData} (h1 : SeqAt.shaped d = true) (h2 : SeqAt.shaped e = true) : eqD d e = .ok (PyData.eqv d e) := by
  unfold eqD
  cases q : sEq d e with
  | some b =>
    dsimp only
    cases d <;> cases e <;> simp only [sEq] at q <;> cases q <;> simp only [PyData.eqv] <;> congr 1 <;> exact (PySem.W.beq_decide _ _).symm
  | none =>
    dsimp only
    have u : ∀ x : PyData, SeqAt.shaped x = true → unS x = x := fun x hx => by
      cases x with
      | dict kvs => simp [SeqAt.shaped, PyData.canLay0] at hx
      | _ => rfl
    rw [u d h1, u e h2, if_pos ⟨h1, h2⟩]
structure Enc {α : Type} [DecidableEq α] (f : α → PyData) : Prop where
  eqv : ∀ x y, PyData.eqv (f x) (f y) = decide (x = y)
  lay : ∀ x, (f x).canLay0 = true
  dep : ∀ x, (f x).depth ≤ 20
section
variable {α : Type} [DecidableEq α] {f : α → PyData}
theorem Enc.all (E : Enc f) : ∀ l m : List α, PyData.eqvAll (l.map f) (m.map f) = decide (l = m)
  | [], [] => by simp [PyData.eqvAll]
  | [], _ :: _ => by simp [PyData.eqvAll]
  | _ :: _, [] => by simp [PyData.eqvAll]
  | x :: l, y :: m => by
    simp only [List.map_cons, PyData.eqvAll, E.eqv, E.all l m, List.cons.injEq, Bool.decide_and]
theorem Enc.layAll (E : Enc f) : ∀ l : List α, PyData.canLayAll0 (l.map f) = true ∧ PyData.depthAll (l.map f) ≤ 20
  | [] => by simp [PyData.canLayAll0, PyData.depthAll]
  | x :: l => by
    obtain ⟨h1, h2⟩ := E.layAll l
    have := E.dep x
    simp only [List.map_cons, PyData.canLayAll0, PyData.depthAll, E.lay x, h1, Bool.and_self, true_and]
    exact Nat.max_le.mpr ⟨this, h2⟩
theorem Enc.shaped (E : Enc f) (x : α) : SeqAt.shaped (f x) = true := by
  have := E.dep x
  simp only [SeqAt.shaped, E.lay x, Bool.true_and, decide_eq_true_eq]
  omega
theorem Enc.shapedL (E : Enc f) (l : List α) : SeqAt.shaped (.list (l.map f)) = true := by
  obtain ⟨h1, h2⟩ := E.layAll l
  simp only [SeqAt.shaped, PyData.canLay0, PyData.depth, h1, Bool.true_and, decide_eq_true_eq]
  exact decide_eq_true (Nat.le_trans (Nat.add_le_add_right h2 1) (by decide : 20 + 1 ≤ 64))
theorem Enc.eq (E : Enc f) (x y : α) : eqD (f x) (f y) = .ok (decide (x = y)) := by rw [eqD_eqv (E.shaped x) (E.shaped y), E.eqv]
theorem Enc.eqL (E : Enc f) (l m : List α) : eqD (.list (l.map f)) (.list (m.map f)) = .ok (decide (l = m)) := by
  rw [eqD_eqv (E.shapedL l) (E.shapedL m), PyData.eqv, E.all]
theorem Enc.inL (E : Enc f) (x : α) (l : List α) (h : ∀ z, f x ≠ .str z) : inD (f x) (.list (l.map f)) = .ok (decide (x ∈ l)) := by
  have e : inD (f x) (.list (l.map f)) = if SeqAt.shaped (f x) = true ∧ SeqAt.shaped (.list (l.map f)) = true then .ok ((l.map f).any fun z => PyData.eqv z (f x)) else .no := by
    cases q : f x <;> first | rfl | exact absurd q (h _)
  rw [e, if_pos ⟨E.shaped x, E.shapedL l⟩]
  congr 1
  rw [List.any_map, Bool.eq_iff_iff]
  simp only [List.any_eq_true, Function.comp_def, E.eqv, decide_eq_true_eq]
  exact ⟨fun ⟨y, h1, h2⟩ => h2 ▸ h1, fun h => ⟨x, h, rfl⟩⟩
theorem Enc.empty (E : Enc f) (l : List α) : eqD (.list (l.map f)) (.list []) = .ok (decide (l = [])) := E.eqL l []
end
theorem enc_int : Enc PyData.int := ⟨fun x y => by simp only [PyData.eqv]; exact PySem.W.beq_decide x y, fun _ => rfl, fun _ => by simp [PyData.depth]⟩
/-! ### names, bids, states -/
abbrev Nm := Fin 128
def nm (n : Nm) : Str := if n.val = 0 then ⟨#[]⟩ else ⟨#[n.val]⟩
theorem nm_inj (a b : Nm) : (nm a = nm b) = (a = b) := by
  refine propext ⟨fun h => ?_, fun h => by rw [h]⟩
  unfold nm at h
  by_cases h1 : a.val = 0 <;> by_cases h2 : b.val = 0 <;> simp [h1, h2] at h
  · exact Fin.ext (h1.trans h2.symm)
  · exact Fin.ext h
def eN (n : Nm) : PyData := .str (nm n)
abbrev Bid := Nm × Int
def eB (b : Bid) : PyData := .tuple [eN b.1, .int b.2]
abbrev St3 := Nm × Int × Int
def eSt (t : St3) : PyData := .tuple [eN t.1, .int t.2.1, .int t.2.2]
theorem enc_nm : Enc eN where
  eqv := fun x y => by
    unfold eN
    simp only [PyData.eqv]
    rw [PySem.W.beq_decide]
    exact decide_eq_decide.mpr (by rw [nm_inj])
  lay := by decide +kernel
  dep := fun x => by simp [eN, PyData.depth]
theorem enc_bid : Enc eB where
  eqv := fun x y => by
    simp only [eB, PyData.eqv, PyData.eqvAll, enc_nm.eqv, PySem.W.beq_decide, Bool.and_true, ← Bool.decide_and]
    exact decide_eq_decide.mpr ⟨fun e => Prod.ext e.1 e.2, fun e => by rw [e]; exact ⟨rfl, rfl⟩⟩
  lay := fun x => by simp only [eB, PyData.canLay0, PyData.canLayAll0, enc_nm.lay, enc_int.lay, Bool.and_self]
  dep := fun x => by simp [eB, PyData.depth, PyData.depthAll, eN]
theorem enc_st : Enc eSt where
  eqv := fun x y => by
    simp only [eSt, PyData.eqv, PyData.eqvAll, enc_nm.eqv, PySem.W.beq_decide, Bool.and_true, ← Bool.decide_and]
    exact decide_eq_decide.mpr ⟨fun e => Prod.ext e.1 (Prod.ext e.2.1 e.2.2), fun e => by rw [e]; exact ⟨rfl, rfl, rfl⟩⟩
  lay := fun x => by simp only [eSt, PyData.canLay0, PyData.canLayAll0, enc_nm.lay, enc_int.lay, Bool.and_self]
  dep := fun x => by simp [eSt, PyData.depth, PyData.depthAll, eN]
theorem str_empty : PySem.Str.ofString "" = nm 0 := by decide +kernel
@[simp] theorem eqD_nm (a b : Nm) : eqD (eN a) (eN b) = .ok (decide (a = b)) := enc_nm.eq a b
@[simp] theorem eqD_nm0 (a : Nm) : eqD (eN a) (.str (PySem.Str.ofString "")) = .ok (decide (a = 0)) := by
  rw [str_empty]; exact enc_nm.eq a 0
theorem c_empty : PyData.str (PySem.Str.ofString "") = eN 0 := by rw [str_empty]; rfl
theorem c_nobody : PyData.tuple [PyData.str (PySem.Str.ofString ""), .int 0, .int 0] = eSt (0, 0, 0) := by rw [c_empty]; rfl
theorem dMax_mx (i j : Int) : dMax [.int i, .int j] = .ok (.int (max i j)) := by
  rw [dMax_int]; congr 2; omega
theorem dMin_mn (i j : Int) : dMin [.int i, .int j] = .ok (.int (min i j)) := by
  rw [dMin_int]; congr 2; omega
/-! ### one bid -/
def rej (s : Sale) (t : St3) (b : Bid) : Bool :=
  if t.1 = 0 then decide (b.2 < s.start) else if b.1 = t.1 then decide (b.2 ≤ t.2.2) else decide (b.2 < s.up t.2.1)
def wr (s : Sale) (t : St3) : St3 := if s.res ≤ t.2.2 then (t.1, max t.2.1 s.res, t.2.2) else t
def adv (s : Sale) (t : St3) (b : Bid) : St3 :=
  if rej s t b then t else if t.1 = 0 then wr s (b.1, s.start, b.2) else if b.1 = t.1 then wr s (t.1, t.2.1, b.2)
  else if b.2 ≤ t.2.2 then wr s (t.1, min t.2.2 (s.up b.2), t.2.2) else wr s (b.1, min b.2 (s.up t.2.2), b.2)
def Lt (n : Nm) : Prop := 97 ≤ n.val ∧ n.val ≤ 102
instance (n : Nm) : Decidable (Lt n) := inferInstanceAs (Decidable (_ ∧ _))
theorem Lt.ne {n : Nm} (h : Lt n) : n ≠ 0 := fun e => by subst e; exact absurd h.1 (by decide)
structure OkB (b : Bid) : Prop where
  n : Lt b.1
  lo : 1 ≤ b.2
  hi : b.2 ≤ 200
def InvS (s : Sale) (t : St3) : Prop := t = (0, 0, 0) ∨ (Lt t.1 ∧ (s.start ≤ t.2.1 ∧ t.2.1 ≤ t.2.2) ∧ t.2.2 ≤ 200 ∧ (s.res ≤ t.2.2 → s.res ≤ t.2.1))
theorem f_with_reserve {s : Sale} (t : St3) : mDef m_with_reserve 5 [s.d, eSt t] = .ok (eSt (wr s t)) := by
  apply def_rt
  by_cases h : s.res ≤ t.2.2 <;> simp [m_with_reserve, Sale.d, eSt, wr, h, -dMax_int, dMax_mx]
theorem inv_price {s : Sale} (hs : s.Ok) {t : St3} (h : InvS s t) : 0 ≤ t.2.1 ∧ 0 ≤ t.2.2 := by
  have := hs.st
  rcases h with h | h
  · subst h; simp
  · omega
theorem f_is_refused {s : Sale} (hs : s.Ok) {t : St3} (h : InvS s t) (b : Bid) : mDef m_is_refused 6 [s.d, eSt t, eB b] = .ok (.bool (rej s t b)) := by
  apply def_rt
  have hp := inv_price hs h
  have hu := f_step_up hs hp.1
  simp only [Sale.d] at hu
  by_cases h1 : t.1 = 0
  · simp [m_is_refused, Sale.d, eSt, eB, rej, h1]
  · by_cases h2 : b.1 = t.1
    · simp [m_is_refused, Sale.d, eSt, eB, rej, h1, h2]
    · simp [m_is_refused, Sale.d, eSt, eB, rej, h1, h2, hu]
theorem f_advance {s : Sale} (hs : s.Ok) {t : St3} (h : InvS s t) {b : Bid} (hb : OkB b) : mDef m_advance 6 [s.d, eSt t, eB b] = .ok (eSt (adv s t b)) := by
  apply def_rt
  have hp := inv_price hs h
  have hl := hb.lo
  have hr := f_is_refused hs h b
  have hu := f_step_up hs hp.2
  have hu2 := f_step_up hs (p := b.2) (by omega)
  have w1 := f_with_reserve (s := s) (b.1, s.start, b.2)
  have w2 := f_with_reserve (s := s) (t.1, t.2.1, b.2)
  have w3 := f_with_reserve (s := s) (t.1, min t.2.2 (s.up b.2), t.2.2)
  have w4 := f_with_reserve (s := s) (b.1, min b.2 (s.up t.2.2), b.2)
  simp only [Sale.d] at hu hu2 w1 w2 w3 w4 hr
  unfold adv
  cases h0 : rej s t b with
  | true =>
    rw [h0] at hr
    simp [m_advance, Sale.d, hr]
  | false =>
    rw [h0] at hr
    simp only [eSt, eB] at hr w1 w2 w3 w4
    by_cases h1 : t.1 = 0
    · rw [h1] at hr
      simp [m_advance, Sale.d, eSt, eB, hr, h1, w1]
    · by_cases h2 : b.1 = t.1
      · rw [h2] at hr
        simp [m_advance, Sale.d, eSt, eB, hr, h1, h2, w2]
      · by_cases h3 : b.2 ≤ t.2.2 <;> simp [m_advance, Sale.d, eSt, eB, hr, h1, h2, h3, w3, w4, hu, hu2, -dMin_int, dMin_mn]
theorem wr_inv {s : Sale} (hs : s.Ok) {t : St3} (h1 : Lt t.1) (h2 : s.start ≤ t.2.1) (h3 : t.2.1 ≤ t.2.2) (h4 : t.2.2 ≤ 200) : InvS s (wr s t) := by
  unfold wr
  by_cases h : s.res ≤ t.2.2
  · rw [if_pos h]
    exact .inr ⟨h1, ⟨by simp; omega, by simp; omega⟩, h4, fun _ => by simp; omega⟩
  · rw [if_neg h]
    exact .inr ⟨h1, ⟨h2, h3⟩, h4, fun z => absurd z h⟩
theorem adv_inv {s : Sale} (hs : s.Ok) {t : St3} (h : InvS s t) {b : Bid} (hb : OkB b) : InvS s (adv s t b) := by
  have hp := inv_price hs h
  have h0 := hb.lo
  have h9 := hb.hi
  have hst := hs.st
  unfold adv
  cases hr : rej s t b with
  | true => rw [if_pos rfl]; exact h
  | false =>
    rw [if_neg Bool.false_ne_true]
    unfold rej at hr
    by_cases h1 : t.1 = 0
    · rw [if_pos h1]
      rw [if_pos h1] at hr
      simp at hr
      exact wr_inv hs hb.n (Int.le_refl _) hr h9
    · rw [if_neg h1]
      rw [if_neg h1] at hr
      have ht : Lt t.1 ∧ (s.start ≤ t.2.1 ∧ t.2.1 ≤ t.2.2) ∧ t.2.2 ≤ 200 ∧ (s.res ≤ t.2.2 → s.res ≤ t.2.1) := by
        rcases h with h | h
        · rw [h] at h1; exact absurd rfl h1
        · exact h
      by_cases h2 : b.1 = t.1
      · rw [if_pos h2]
        rw [if_pos h2] at hr
        simp at hr
        exact wr_inv hs ht.1 ht.2.1.1 (by simp; omega) h9
      · rw [if_neg h2]
        rw [if_neg h2] at hr
        simp at hr
        have hu := up_b hs (p := b.2) (by omega)
        have hu1 := up_b hs hp.1
        have hu2 := up_b hs hp.2
        by_cases h3 : b.2 ≤ t.2.2
        · rw [if_pos h3]
          exact wr_inv hs ht.1 (by simp; omega) (by simp; omega) ht.2.2.1
        · rw [if_neg h3]
          exact wr_inv hs hb.n (by simp; omega) (by simp; omega) h9
/-! ### bid by bid -/
def sts (s : Sale) (t : St3) : List Bid → List St3
  | [] => []
  | b :: r => adv s t b :: sts s (adv s t b) r
def fin (s : Sale) (t : St3) (bs : List Bid) : St3 := bs.foldl (adv s) t
def outs (s : Sale) (t : St3) (k : Int) : List Bid → List Int
  | [] => []
  | b :: r => (if rej s t b then [k] else []) ++ outs s (adv s t b) (k + 1) r
def eBs (bs : List Bid) : PyData := .list (bs.map eB)
theorem sts_len (s : Sale) : ∀ (bs : List Bid) (t : St3), (sts s t bs).length = bs.length
  | [], _ => rfl
  | b :: r, t => by simp [sts, sts_len s r]
theorem states_loop {s : Sale} (hs : s.Ok) (a1 : Sl) : ∀ (bs : List Bid) (t : St3) (l : List St3) (a2 : Sl), (∀ b ∈ bs, OkB b) → InvS s t → l.length + bs.length ≤ 1000 → ∃ a2',
    forGo (bName 2) (mSeq (mSet 4 [] (mCall (mDef m_advance 6) (mCons (mVar 0) (mCons (mVar 4) (mCons (mVar 2) mNil))))) (mApp 3 [] (mVar 4))) (bs.map eB) [.v s.d, a1, a2, .own (l.map eSt), .v (eSt t)]
      = .nx [.v s.d, a1, a2', .own ((l ++ sts s t bs).map eSt), .v (eSt (fin s t bs))]
  | [], t, l, a2, _, _, _ => ⟨a2, by simp [forGo, sts, fin]⟩
  | b :: r, t, l, a2, hb, hi, hl => by
    have hb0 := hb b (by simp)
    simp only [List.length_cons] at hl
    obtain ⟨a2', ih⟩ := states_loop hs a1 r (adv s t b) (l ++ [adv s t b]) (.v (eB b)) (fun c hc => hb c (by simp [hc])) (adv_inv hs hi hb0) (by simp; omega)
    refine ⟨a2', ?_⟩
    have hq : l.length < 100000 := by omega
    rw [List.map_cons]
    unfold forGo
    simp [f_advance hs hi hb0, hq]
    simp at ih
    rw [ih]
    simp [sts, fin]
theorem f_find_states {s : Sale} (hs : s.Ok) {bs : List Bid} (hb : ∀ b ∈ bs, OkB b) (hl : bs.length ≤ 500) : mDef m_find_states 5 [s.d, eBs bs] = .ok (.list ((sts s (0, 0, 0) bs).map eSt)) := by
  apply def_rt
  obtain ⟨a2, e⟩ := states_loop hs (.v (eBs bs)) bs (0, 0, 0) [] .no hb (.inl rfl) (by simp; omega)
  simp at e
  simp [m_find_states, c_nobody, eBs] at e ⊢
  simp [e]
theorem fin_last (s : Sale) : ∀ (bs : List Bid) (t : St3), (t :: sts s t bs).getLast? = some (fin s t bs)
  | [], t => rfl
  | b :: r, t => by
    have ih := fin_last s r (adv s t b)
    simp only [sts, fin, List.foldl_cons] at ih ⊢
    rw [List.getLast?_cons_cons]
    exact ih
theorem f_find_result {s : Sale} (hs : s.Ok) {bs : List Bid} (hb : ∀ b ∈ bs, OkB b) (hl : bs.length ≤ 500) : mDef m_find_result 2 [s.d, eBs bs] = .ok (eSt (fin s (0, 0, 0) bs)) := by
  apply def_rt
  have h1 : 1 + (sts s (0, 0, 0) bs).length ≤ 100000 := by rw [sts_len]; omega
  have h2 : atI (eSt (0, 0, 0) :: (sts s (0, 0, 0) bs).map eSt) (-1) = some (eSt (fin s (0, 0, 0) bs)) := by
    apply atI_neg
    rw [← List.map_cons, List.getLast?_map, fin_last]
    rfl
  have e : dAdd (.list [eSt (0, 0, 0)]) (.list ((sts s (0, 0, 0) bs).map eSt)) = .ok (.list (eSt (0, 0, 0) :: (sts s (0, 0, 0) bs).map eSt)) := by
    show (if _ then R.ok (PyData.list _) else .no) = _
    rw [if_pos (by simp; omega)]
    rfl
  simp [m_find_result, c_nobody, f_find_states hs hb hl, e, h2]
end PD

/-! The mathematics: the judged lists, the law's own run, the drawn offers. -/
namespace PD
open PySem L2

theorem intsFrom_succ (lo : Int) (n : Nat) : intsFrom lo (n + 1) = .int lo :: intsFrom (lo + 1) n := by
  unfold intsFrom
  rw [List.range_succ_eq_map]
  simp only [List.map_cons, List.map_map]
  congr 1
  · simp
  · refine List.map_congr_left fun i _ => ?_
    simp only [Function.comp_def, Nat.succ_eq_add_one]
    congr 1
    omega
theorem intsFrom_zero (lo : Int) : intsFrom lo 0 = [] := rfl
/-! ### judged bids -/
theorem f_is_bidder {n : Nm} (h : Lt n) : mDef m_is_bidder 1 [eN n] = .ok (.bool true) := by
  have : ∀ n : Nm, Lt n → mDef m_is_bidder 1 [eN n] = .ok (.bool true) := by
    intro n h
    obtain ⟨h1, h2⟩ := h
    have hn : nm n = ⟨#[n.val]⟩ := by unfold nm; rw [if_neg (by omega)]
    have hc : (PySem.Str.ofString "abcdef").cps.toList = [97, 98, 99, 100, 101, 102] := by decide +kernel
    apply def_rt
    have e1 : inD (.str (nm n)) (.str (PySem.Str.ofString "abcdef")) = .ok true := by
      rw [hn]
      show R.ok (decide (n.val ∈ (PySem.Str.ofString "abcdef").cps.toList)) = _
      rw [hc]
      congr 1
      simp only [List.mem_cons, List.not_mem_nil, or_false, decide_eq_true_eq]
      omega
    have e2 : dLen [.str (nm n)] = .ok (.int 1) := by rw [hn]; rfl
    simp [m_is_bidder, eN, e1, e2]
  exact this n h
theorem f_is_bid {b : Bid} (h : OkB b) : mDef m_is_bid 1 [eB b] = .ok (.bool true) := by
  apply def_rt
  have := f_is_bidder h.n
  simp [m_is_bid, eB, this, f_is_int, isInt, h.lo, h.hi]
theorem f_are_bids {bs : List Bid} (h : ∀ b ∈ bs, OkB b) (hl : bs.length ≤ 8) : mDef m_are_bids 2 [eBs bs] = .ok (.bool true) := by
  apply def_rt
  have e1 : lcGo (bName 1) mT (mCall (mDef m_is_bid 1) (mCons (mVar 1) mNil)) [.v (eBs bs), .no] (bs.map eB) = .ok (bs.map fun _ => .bool true) :=
    lcGo_all eB _ _ fun x hx => ⟨_, rfl, rfl, by simp [f_is_bid (h x hx)]⟩
  have e2 := dAll_mapf (fun _ : Bid => true) bs
  have e3 : ¬ (8 : Int) < (bs.length : Int) := by omega
  simp only [eBs] at e1
  simp only [List.map_const', List.all_eq_true, implies_true] at e1 e2
  simp [m_are_bids, eBs, e1, e2, e3]
theorem f_check_bids {s : Sale} (hs : s.Ok) {bs : List Bid} (h : ∀ b ∈ bs, OkB b) (hl : bs.length ≤ 8) : mDef m_check_bids 2 [s.d, eBs bs] = .ok .none := by
  apply def_nx (Γ := [.v s.d, .v (eBs bs)])
  simp [m_check_bids, f_check_sale hs, f_are_bids h hl]
theorem f_result {s : Sale} (hs : s.Ok) {bs : List Bid} (h : ∀ b ∈ bs, OkB b) (hl : bs.length ≤ 8) : mDef m_result 2 [s.d, eBs bs] = .ok (eSt (fin s (0, 0, 0) bs)) := by
  apply def_rt
  simp [m_result, f_check_bids hs h hl, f_find_result hs h (by omega)]
theorem f_states {s : Sale} (hs : s.Ok) {bs : List Bid} (h : ∀ b ∈ bs, OkB b) (hl : bs.length ≤ 8) : mDef m_states 2 [s.d, eBs bs] = .ok (.list ((sts s (0, 0, 0) bs).map eSt)) := by
  apply def_rt
  simp [m_states, f_check_bids hs h hl, f_find_states hs h (by omega)]
/-! ### the refused bids -/
theorem atI_mid {α : Type} (p : List α) (x : α) (r : List α) : atI (p ++ x :: r) ((p.length : Nat) : Int) = some x := by
  exact atI_nat (by simp)
theorem refused_lc {s : Sale} (hs : s.Ok) (a1 : Sl) (known : List St3) : ∀ (bs : List Bid) (p : List St3) (t : St3), (∀ b ∈ bs, OkB b) → InvS s t → known = p ++ t :: sts s t bs →
    lcGo (bTup [bName 3, bName 4]) (mB (mCall (mDef m_is_refused 6) (mCons (mVar 0) (mCons (mOp dIx (mVar 2) (mVar 3)) (mCons (mVar 4) mNil))))) (mVar 3) [.v s.d, a1, .v (.list (known.map eSt)), .no, .no] (enumFrom p.length (bs.map eB))
      = .ok ((outs s t (p.length : Nat) bs).map .int)
  | [], p, t, _, _, _ => rfl
  | b :: r, p, t, hb, hi, hk => by
    have hb0 := hb b (by simp)
    have ih := refused_lc hs a1 known r (p ++ [t]) (adv s t b) (fun c hc => hb c (by simp [hc])) (adv_inv hs hi hb0) (by rw [hk]; simp [sts])
    have hx : atI (known.map eSt) ((p.length : Nat) : Int) = some (eSt t) := by
      rw [hk, List.map_append, List.map_cons]
      have := atI_mid (p.map eSt) (eSt t) ((sts s t (b :: r)).map eSt)
      simpa using this
    rw [List.map_cons]
    unfold enumFrom lcGo
    have e0 : bTup [bName 3, bName 4] (.tuple [.int ((p.length : Nat) : Int), eB b]) [.v s.d, a1, .v (.list (known.map eSt)), .no, .no] = some [.v s.d, a1, .v (.list (known.map eSt)), .v (.int ((p.length : Nat) : Int)), .v (eB b)] := rfl
    rw [e0]
    simp only [List.length_append, List.length_cons, List.length_nil] at ih
    simp [hx, f_is_refused hs hi b]
    simp at ih
    cases hr : rej s t b with
    | true =>
      dsimp only
      rw [ih]
      simp [outs, hr]
    | false =>
      dsimp only
      rw [ih]
      simp [outs, hr]
theorem f_find_refused {s : Sale} (hs : s.Ok) {bs : List Bid} (hb : ∀ b ∈ bs, OkB b) (hl : bs.length ≤ 500) : mDef m_find_refused 5 [s.d, eBs bs] = .ok (.list ((outs s (0, 0, 0) 0 bs).map .int)) := by
  apply def_rt
  have e := refused_lc hs (.v (eBs bs)) ((0, 0, 0) :: sts s (0, 0, 0) bs) bs [] (0, 0, 0) hb (.inl rfl) rfl
  have e1 : dAdd (.list [eSt (0, 0, 0)]) (.list ((sts s (0, 0, 0) bs).map eSt)) = .ok (.list (eSt (0, 0, 0) :: (sts s (0, 0, 0) bs).map eSt)) := by
    have h1 : 1 + (sts s (0, 0, 0) bs).length ≤ 100000 := by rw [sts_len]; omega
    show (if _ then R.ok (PyData.list _) else .no) = _
    rw [if_pos (by simp; omega)]
    rfl
  simp at e
  have f := f_find_states hs hb hl
  simp only [eBs] at f e
  simp [m_find_refused, c_nobody, f, e1, eBs, e]
theorem f_refused {s : Sale} (hs : s.Ok) {bs : List Bid} (h : ∀ b ∈ bs, OkB b) (hl : bs.length ≤ 8) : mDef m_refused 2 [s.d, eBs bs] = .ok (.list ((outs s (0, 0, 0) 0 bs).map .int)) := by
  apply def_rt
  simp [m_refused, f_check_bids hs h hl, f_find_refused hs h (by omega)]
/-! ### the winner -/
def won (s : Sale) (t : St3) : Option Nm := if t.1 ≠ 0 ∧ s.res ≤ t.2.2 then some t.1 else none
def eO : Option Nm → PyData
  | some n => eN n
  | none => .none
theorem f_find_winner {s : Sale} (t : St3) : mDef m_find_winner 2 [s.d, eSt t] = .ok (eO (won s t)) := by
  apply def_rt
  by_cases h1 : t.1 = 0
  · simp [m_find_winner, Sale.d, eSt, h1, won, eO]
  · by_cases h2 : s.res ≤ t.2.2 <;> simp [m_find_winner, Sale.d, eSt, h1, h2, won, eO]
theorem f_winner {s : Sale} (hs : s.Ok) {bs : List Bid} (h : ∀ b ∈ bs, OkB b) (hl : bs.length ≤ 8) : mDef m_winner 2 [s.d, eBs bs] = .ok (eO (won s (fin s (0, 0, 0) bs))) := by
  apply def_rt
  simp [m_winner, f_check_bids hs h hl, f_find_result hs h (by omega), f_find_winner]
/-! ### leads -/
def ledF (last : Nm) (many : Int) : List St3 → List Int
  | [] => []
  | t :: r => (many + if t.1 ≠ last then 1 else 0) :: ledF t.1 (many + if t.1 ≠ last then 1 else 0) r
theorem leads_loop (a0 a1 : Sl) : ∀ (ts : List St3) (l : List Int) (last : Nm) (many : Int) (x5 x6 x7 : Sl), l.length + ts.length ≤ 1000 → ∃ y3 y4 y5 y6 y7,
    forGo (bTup [(bName 5), (bName 6), (bName 7)]) (mSeq (mSet 4 [] (mOp dAdd (mVar 4) (mIf (mB (mOp dNe (mVar 5) (mVar 3))) (mC (.int 1)) (mC (.int 0))))) (mSeq (mSet 3 [] (mVar 5)) (mApp 2 [] (mVar 4)))) (ts.map eSt) [a0, a1, .own (l.map .int), .v (eN last), .v (.int many), x5, x6, x7]
      = .nx [a0, a1, .own ((l ++ ledF last many ts).map .int), y3, y4, y5, y6, y7]
  | [], l, last, many, x5, x6, x7, _ => ⟨_, _, _, _, _, by simp only [List.map_nil, forGo, ledF, List.append_nil]; rfl⟩
  | t :: r, l, last, many, x5, x6, x7, hl => by
    simp only [List.length_cons] at hl
    obtain ⟨y3, y4, y5, y6, y7, ih⟩ := leads_loop a0 a1 r (l ++ [many + if t.1 ≠ last then 1 else 0]) t.1 (many + if t.1 ≠ last then 1 else 0) (.v (eN t.1)) (.v (.int t.2.1)) (.v (.int t.2.2)) (by simp; omega)
    refine ⟨y3, y4, y5, y6, y7, ?_⟩
    have hq : l.length < 100000 := by omega
    rw [List.map_cons]
    unfold forGo
    by_cases hh : t.1 = last
    · simp [hh] at ih
      simp [eSt, hq, hh, ih, ledF]
    · simp [hh] at ih
      simp [eSt, hq, hh, ih, ledF]
theorem f_leads {s : Sale} (hs : s.Ok) {bs : List Bid} (h : ∀ b ∈ bs, OkB b) (hl : bs.length ≤ 8) : mDef m_leads 8 [s.d, eBs bs] = .ok (.list ((ledF 0 0 (sts s (0, 0, 0) bs)).map .int)) := by
  apply def_rt
  obtain ⟨y3, y4, y5, y6, y7, e⟩ := leads_loop (.v s.d) (.v (eBs bs)) (sts s (0, 0, 0) bs) [] 0 0 .no .no .no (by rw [sts_len]; simp; omega)
  simp at e
  simp [m_leads, f_check_bids hs h hl, f_find_states hs h (by omega), c_empty, e]
end PD

/-! The mathematics: the law's own run, the drawn offers. -/
namespace PD
open PySem L2

def lawBody : MS := (mSeq (mAsg (bTup [(bName 12), (bName 13)]) [] (mOp dIx (mVar 1) (mVar 2)))
    (mSeq (mSet 11 [] (mIf (mB (mOp dEq (mVar 8) (mC (.str (PySem.Str.ofString ""))))) (mVar 4) (mCall (mDef m_law_up 5) (mCons (mVar 0) (mCons (mVar 9) mNil)))))
    (mSeq (mIfS [] (mB (mOp dEq (mVar 12) (mVar 8))) (mSet 11 [] (mOp dAdd (mVar 10) (mC (.int 1)))) mSkip)
    (mSeq (mIfS [] (mB (mOp dLt (mVar 13) (mVar 11))) (mApp 7 [] (mVar 2)) (mIfS [] (mB (mOp dEq (mVar 8) (mC (.str (PySem.Str.ofString ""))))) (mPar [8, 9, 10] [] [.v (mVar 12), .v (mVar 4), .v (mVar 13)]) (mIfS [] (mB (mOp dEq (mVar 12) (mVar 8))) (mSet 10 [] (mVar 13)) (mSeq (mPar [14, 15] [] [.v (mCall dMin (mCons (mVar 13) (mCons (mVar 10) mNil))), .v (mCall dMax (mCons (mVar 13) (mCons (mVar 10) mNil)))])
    (mSeq (mSet 9 [] (mCall dMin (mCons (mVar 15) (mCons (mCall (mDef m_law_up 5) (mCons (mVar 0) (mCons (mVar 14) mNil))) mNil))))
    (mPar [8, 10] [] [.v (mIf (mB (mOp dGt (mVar 13) (mVar 10))) (mVar 12) (mVar 8)), .v (mVar 15)]))))))
    (mSeq (mIfS [] (mAnd (mB (mOp dGe (mVar 13) (mVar 11))) (mAnd (mB (mOp dGe (mVar 10) (mVar 5))) (mB (mOp dLt (mVar 9) (mVar 5))))) (mSet 9 [] (mVar 5)) mSkip)
    (mApp 6 [] (mTup (mCons (mVar 8) (mCons (mVar 9) (mCons (mVar 10) mNil))))))))))
/-- the slots of the law's run -/
def runG (s : Sale) (a1 a2 : Sl) (rows : List St3) (out : List Int) (t : St3) (x11 x12 x13 x14 x15 : Sl) : Gam :=
  [.v s.d, a1, a2, .v (eSteps s.steps), .v (.int s.start), .v (.int s.res), .own (rows.map eSt), .own (out.map .int), .v (eN t.1), .v (.int t.2.1), .v (.int t.2.2), x11, x12, x13, x14, x15]
theorem run_step {s : Sale} (hs : s.Ok) {a1 : Sl} {bs : List Bid} (ha : a1 = .v (eBs bs)) {k : Nat} {b : Bid} (hk : bs[k]? = some b) {t : St3} (hi : InvS s t) (hb : OkB b) {rows : List St3} {out : List Int} (hr : rows.length < 1000) (ho : out.length < 1000) (x11 x12 x13 x14 x15 : Sl) :
    ∃ y11 y12 y13 y14 y15, lawBody (runG s a1 (.v (.int (k : Nat))) rows out t x11 x12 x13 x14 x15)
      = .nx (runG s a1 (.v (.int (k : Nat))) (rows ++ [adv s t b]) (out ++ if rej s t b then [(k : Int)] else []) (adv s t b) y11 y12 y13 y14 y15) := by
  subst ha
  have hx : atI (bs.map eB) ((k : Nat) : Int) = some (eB b) := atI_nat (by simp [hk])
  have hp := inv_price hs hi
  have hl := hb.lo
  have hst := hs.st
  have hu := f_law_up hs hp.1
  have hu2 := f_law_up hs hp.2
  have hu3 := f_law_up hs (p := b.2) (by omega)
  have q1 : rows.length < 100000 := by omega
  have q2 : out.length < 100000 := by omega
  have hs2 := hs.rs
  by_cases h1 : t.1 = 0
  · have hn := hb.n.ne
    have h0 : t = (0, 0, 0) := by
      rcases hi with h | h
      · exact h
      · exact absurd h1 h.1.ne
    subst h0
    have hn2 : ¬ (b.1 = 0) := hn
    by_cases h2 : b.2 < s.start
    · have hrj : rej s (0, 0, 0) b = true := by simp [rej, h2]
      have ha : adv s (0, 0, 0) b = (0, 0, 0) := by simp [adv, hrj]
      have h3 : ¬ s.start ≤ b.2 := by omega
      refine ⟨.v (.int s.start), .v (eN b.1), .v (.int b.2), x14, x15, ?_⟩
      simp [lawBody, runG, eBs, hx, eB, hn2, h2, h3, q1, q2, ha, hrj, eSt]
    · have hrj : rej s (0, 0, 0) b = false := by simp [rej]; omega
      have h3 : s.start ≤ b.2 := by omega
      by_cases h4 : s.res ≤ b.2
      · by_cases h5 : s.start < s.res
        · have ha : adv s (0, 0, 0) b = (b.1, s.res, b.2) := by simp [adv, hrj, wr, h4]; omega
          refine ⟨.v (.int s.start), .v (eN b.1), .v (.int b.2), x14, x15, ?_⟩
          simp [lawBody, runG, eBs, hx, eB, hn2, h2, h3, h4, h5, q1, q2, ha, hrj, eSt]
        · have ha : adv s (0, 0, 0) b = (b.1, s.start, b.2) := by simp [adv, hrj, wr, h4]; omega
          refine ⟨.v (.int s.start), .v (eN b.1), .v (.int b.2), x14, x15, ?_⟩
          simp [lawBody, runG, eBs, hx, eB, hn2, h2, h3, h4, h5, q1, q2, ha, hrj, eSt]
      · have ha : adv s (0, 0, 0) b = (b.1, s.start, b.2) := by simp [adv, hrj, wr, h4]
        refine ⟨.v (.int s.start), .v (eN b.1), .v (.int b.2), x14, x15, ?_⟩
        simp [lawBody, runG, eBs, hx, eB, hn2, h2, h3, h4, q1, q2, ha, hrj, eSt]
  · have ht : Lt t.1 ∧ (s.start ≤ t.2.1 ∧ t.2.1 ≤ t.2.2) ∧ t.2.2 ≤ 200 ∧ (s.res ≤ t.2.2 → s.res ≤ t.2.1) := by
      rcases hi with h | h
      · rw [h] at h1; exact absurd rfl h1
      · exact h
    by_cases h2 : b.1 = t.1
    · by_cases h3 : b.2 ≤ t.2.2
      · have hrj : rej s t b = true := by simp [rej, h1, h2, h3]
        have ha : adv s t b = t := by simp [adv, hrj]
        have h4 : b.2 < t.2.2 + 1 := by omega
        have h5 : ¬ t.2.2 + 1 ≤ b.2 := by omega
        refine ⟨.v (.int (t.2.2 + 1)), .v (eN b.1), .v (.int b.2), x14, x15, ?_⟩
        simp [lawBody, runG, eBs, hx, eB, h1, h2, h4, h5, q1, q2, ha, hrj, eSt, hu]
      · have hrj : rej s t b = false := by simp [rej, h1, h2]; omega
        have h4 : ¬ b.2 < t.2.2 + 1 := by omega
        have h5 : t.2.2 + 1 ≤ b.2 := by omega
        by_cases h6 : s.res ≤ b.2
        · by_cases h7 : t.2.1 < s.res
          · have ha : adv s t b = (t.1, s.res, b.2) := by simp [adv, hrj, wr, h1, h2, h6]; omega
            refine ⟨.v (.int (t.2.2 + 1)), .v (eN b.1), .v (.int b.2), x14, x15, ?_⟩
            simp [lawBody, runG, eBs, hx, eB, h1, h2, h4, h5, h6, h7, q1, q2, ha, hrj, eSt, hu]
          · have ha : adv s t b = (t.1, t.2.1, b.2) := by simp [adv, hrj, wr, h1, h2, h6]; omega
            refine ⟨.v (.int (t.2.2 + 1)), .v (eN b.1), .v (.int b.2), x14, x15, ?_⟩
            simp [lawBody, runG, eBs, hx, eB, h1, h2, h4, h5, h6, h7, q1, q2, ha, hrj, eSt, hu]
        · have ha : adv s t b = (t.1, t.2.1, b.2) := by simp [adv, hrj, wr, h1, h2, h6]
          refine ⟨.v (.int (t.2.2 + 1)), .v (eN b.1), .v (.int b.2), x14, x15, ?_⟩
          simp [lawBody, runG, eBs, hx, eB, h1, h2, h4, h5, h6, q1, q2, ha, hrj, eSt, hu]
    · by_cases h3 : b.2 < s.up t.2.1
      · have hrj : rej s t b = true := by simp [rej, h1, h2, h3]
        have ha : adv s t b = t := by simp [adv, hrj]
        have h5 : ¬ s.up t.2.1 ≤ b.2 := by omega
        refine ⟨.v (.int (s.up t.2.1)), .v (eN b.1), .v (.int b.2), x14, x15, ?_⟩
        simp [lawBody, runG, eBs, hx, eB, h1, h2, h3, h5, q1, q2, ha, hrj, eSt, hu]
      · have hrj : rej s t b = false := by simp [rej, h1, h2]; omega
        have h5 : s.up t.2.1 ≤ b.2 := by omega
        by_cases h4 : b.2 ≤ t.2.2
        · have e1 : min b.2 t.2.2 = b.2 := by omega
          have e2 : max b.2 t.2.2 = t.2.2 := by omega
          have h9 : ¬ t.2.2 < b.2 := by omega
          by_cases h6 : s.res ≤ t.2.2
          · by_cases h7 : min t.2.2 (s.up b.2) < s.res
            · have ha : adv s t b = (t.1, s.res, t.2.2) := by simp [adv, hrj, wr, h1, h2, h4, h6]; omega
              refine ⟨.v (.int (s.up t.2.1)), .v (eN b.1), .v (.int b.2), .v (.int b.2), .v (.int t.2.2), ?_⟩
              simp [lawBody, runG, eBs, hx, eB, h1, h2, h3, h5, h6, h7, h9, q1, q2, ha, hrj, eSt, hu, hu3, -dMin_int, -dMax_int, dMin_mn, dMax_mx, e1, e2]
            · have ha : adv s t b = (t.1, min t.2.2 (s.up b.2), t.2.2) := by simp [adv, hrj, wr, h1, h2, h4, h6]; omega
              refine ⟨.v (.int (s.up t.2.1)), .v (eN b.1), .v (.int b.2), .v (.int b.2), .v (.int t.2.2), ?_⟩
              simp [lawBody, runG, eBs, hx, eB, h1, h2, h3, h5, h6, h7, h9, q1, q2, ha, hrj, eSt, hu, hu3, -dMin_int, -dMax_int, dMin_mn, dMax_mx, e1, e2]
          · have ha : adv s t b = (t.1, min t.2.2 (s.up b.2), t.2.2) := by simp [adv, hrj, wr, h1, h2, h4, h6]
            refine ⟨.v (.int (s.up t.2.1)), .v (eN b.1), .v (.int b.2), .v (.int b.2), .v (.int t.2.2), ?_⟩
            simp [lawBody, runG, eBs, hx, eB, h1, h2, h3, h5, h6, h9, q1, q2, ha, hrj, eSt, hu, hu3, -dMin_int, -dMax_int, dMin_mn, dMax_mx, e1, e2]
        · have e1 : min b.2 t.2.2 = t.2.2 := by omega
          have e2 : max b.2 t.2.2 = b.2 := by omega
          have h9 : t.2.2 < b.2 := by omega
          by_cases h6 : s.res ≤ b.2
          · by_cases h7 : min b.2 (s.up t.2.2) < s.res
            · have ha : adv s t b = (b.1, s.res, b.2) := by simp [adv, hrj, wr, h1, h2, h4, h6]; omega
              refine ⟨.v (.int (s.up t.2.1)), .v (eN b.1), .v (.int b.2), .v (.int t.2.2), .v (.int b.2), ?_⟩
              simp [lawBody, runG, eBs, hx, eB, h1, h2, h3, h5, h6, h7, h9, q1, q2, ha, hrj, eSt, hu, hu2, -dMin_int, -dMax_int, dMin_mn, dMax_mx, e1, e2]
            · have ha : adv s t b = (b.1, min b.2 (s.up t.2.2), b.2) := by simp [adv, hrj, wr, h1, h2, h4, h6]; omega
              refine ⟨.v (.int (s.up t.2.1)), .v (eN b.1), .v (.int b.2), .v (.int t.2.2), .v (.int b.2), ?_⟩
              simp [lawBody, runG, eBs, hx, eB, h1, h2, h3, h5, h6, h7, h9, q1, q2, ha, hrj, eSt, hu, hu2, -dMin_int, -dMax_int, dMin_mn, dMax_mx, e1, e2]
          · have ha : adv s t b = (b.1, min b.2 (s.up t.2.2), b.2) := by simp [adv, hrj, wr, h1, h2, h4, h6]
            refine ⟨.v (.int (s.up t.2.1)), .v (eN b.1), .v (.int b.2), .v (.int t.2.2), .v (.int b.2), ?_⟩
            simp [lawBody, runG, eBs, hx, eB, h1, h2, h3, h5, h6, h9, q1, q2, ha, hrj, eSt, hu, hu2, -dMin_int, -dMax_int, dMin_mn, dMax_mx, e1, e2]
theorem run_loop {s : Sale} (hs : s.Ok) {a1 : Sl} {bs : List Bid} (ha : a1 = .v (eBs bs)) (hb : ∀ b ∈ bs, OkB b) (hl : bs.length ≤ 500) : ∀ (r : List Bid) (k : Nat) (p : List Bid) (t : St3) (rows : List St3) (out : List Int) (a2 x11 x12 x13 x14 x15 : Sl), bs = p ++ r → p.length = k → InvS s t → rows.length = k → out.length ≤ k → ∃ y2 y11 y12 y13 y14 y15,
    forGo (bName 2) lawBody (intsFrom (k : Nat) r.length) (runG s a1 a2 rows out t x11 x12 x13 x14 x15) = .nx (runG s a1 y2 (rows ++ sts s t r) (out ++ outs s t (k : Nat) r) (fin s t r) y11 y12 y13 y14 y15)
  | [], k, p, t, rows, out, a2, x11, x12, x13, x14, x15, hp, hk, hi, hr, ho => ⟨a2, x11, x12, x13, x14, x15, by simp [intsFrom_zero, forGo, sts, outs, fin]⟩
  | b :: r, k, p, t, rows, out, a2, x11, x12, x13, x14, x15, hp, hk, hi, hr, ho => by
    have hb0 : OkB b := hb b (by rw [hp]; simp)
    have hkb : bs[k]? = some b := by rw [hp, ← hk]; simp
    have hlk : k < 500 := by rw [hp] at hl; simp at hl; omega
    obtain ⟨z11, z12, z13, z14, z15, e⟩ := run_step hs ha hkb hi hb0 (rows := rows) (out := out) (by omega) (by omega) x11 x12 x13 x14 x15
    obtain ⟨y2, y11, y12, y13, y14, y15, ih⟩ := run_loop hs ha hb hl r (k + 1) (p ++ [b]) (adv s t b) (rows ++ [adv s t b]) (out ++ if rej s t b then [(k : Int)] else []) (.v (.int (k : Nat))) z11 z12 z13 z14 z15 (by rw [hp]; simp) (by simp [hk]) (adv_inv hs hi hb0) (by simp [hr])
      (by cases rej s t b <;> simp <;> omega)
    refine ⟨y2, y11, y12, y13, y14, y15, ?_⟩
    rw [List.length_cons, intsFrom_succ]
    unfold forGo
    have e0 : bName 2 (.int (k : Nat)) (runG s a1 a2 rows out t x11 x12 x13 x14 x15) = some (runG s a1 (.v (.int (k : Nat))) rows out t x11 x12 x13 x14 x15) := rfl
    rw [e0]
    dsimp only
    rw [e]
    dsimp only
    have e2 : ((k : Nat) : Int) + 1 = ((k + 1 : Nat) : Int) := by omega
    rw [e2, ih]
    simp [sts, outs, fin]
theorem f_law_run {s : Sale} (hs : s.Ok) {bs : List Bid} (hb : ∀ b ∈ bs, OkB b) (hl : bs.length ≤ 500) :
    mDef m_law_run 16 [s.d, eBs bs] = .ok (.tuple [.list ((sts s (0, 0, 0) bs).map eSt), .list ((outs s (0, 0, 0) 0 bs).map .int)]) := by
  apply def_rt
  obtain ⟨y2, y11, y12, y13, y14, y15, e⟩ := run_loop hs rfl hb hl bs 0 [] (0, 0, 0) [] [] .no .no .no .no .no .no rfl rfl (.inl rfl) rfl (by simp)
  have hr : rngD [.int (bs.length : Nat)] = .ok (intsFrom 0 bs.length) := by
    show (if _ then R.ok (intsFrom 0 (((bs.length : Nat) : Int)).toNat) else .no) = _
    rw [if_pos (by omega), Int.toNat_natCast]
  show m_law_run _ = _
  unfold m_law_run
  have hb2 : (mFor [] (mRng (mCons (mCall dLen (mCons (mVar 1) mNil)) mNil)) (bName 2) lawBody) (runG s (.v (eBs bs)) .no [] [] (0, 0, 0) .no .no .no .no .no) = .nx (runG s (.v (eBs bs)) y2 (sts s (0, 0, 0) bs) (outs s (0, 0, 0) 0 bs) (fin s (0, 0, 0) bs) y11 y12 y13 y14 y15) := by
    rw [ap_For, mEvL_eq, fz_nil]
    have e1 : (mRng (mCons (mCall dLen (mCons (mVar 1) mNil)) mNil)) (runG s (.v (eBs bs)) .no [] [] (0, 0, 0) .no .no .no .no .no) = .ok (intsFrom 0 bs.length) := by
      simp [runG, eBs, hr]
    rw [e1]
    dsimp only
    simpa using e
  have h3 : ∀ (m1 m2 m3 : MS) (Γ Γ1 Γ2 Γ3 : Gam) (d : PyData), m1 Γ = .nx Γ1 → m2 Γ1 = .nx Γ2 → (mFor [] (mRng (mCons (mCall dLen (mCons (mVar 1) mNil)) mNil)) (bName 2) lawBody) Γ2 = .nx Γ3 → m3 Γ3 = .rt d →
      (mSeq m1 (mSeq m2 (mSeq (mFor [] (mRng (mCons (mCall dLen (mCons (mVar 1) mNil)) mNil)) (bName 2) lawBody) m3))) Γ = .rt d := by
    intro m1 m2 m3 Γ Γ1 Γ2 Γ3 d h1 h2 h3 h4
    rw [ap_Seq, h1]
    dsimp only
    rw [ap_Seq, h2]
    dsimp only
    rw [ap_Seq, h3]
    exact h4
  refine h3 _ _ _ _ _ _ _ _ rfl ?_ hb2 ?_
  · simp [runG, c_empty]
  · simp [runG]
theorem f_law_last {s : Sale} (hs : s.Ok) {bs : List Bid} (hb : ∀ b ∈ bs, OkB b) (hl : bs.length ≤ 500) : mDef m_law_last 3 [s.d, eBs bs] = .ok (eSt (fin s (0, 0, 0) bs)) := by
  apply def_rt
  have h0 := enc_st.empty (sts s (0, 0, 0) bs)
  cases hbs : bs with
  | nil =>
    subst hbs
    have := f_law_run hs hb (by simp)
    simp [sts, outs] at this
    have h0 := enc_st.empty ([] : List St3)
    simp at h0
    simp [m_law_last, this, h0, fin, c_empty, eSt]
  | cons b r =>
    rw [← hbs]
    have hne : sts s (0, 0, 0) bs ≠ [] := by rw [hbs]; simp [sts]
    have h2 : atI ((sts s (0, 0, 0) bs).map eSt) (-1) = some (eSt (fin s (0, 0, 0) bs)) := by
      apply atI_neg
      have := fin_last s bs (0, 0, 0)
      rw [List.getLast?_map]
      rw [hbs] at this ⊢
      simp only [sts] at this ⊢
      rw [List.getLast?_cons_cons] at this
      rw [this]
      rfl
    simp [m_law_last, f_law_run hs hb hl, h0, hne, h2]
end PD

/-! The mathematics: the drawn offers. -/
namespace PD
open PySem L2

def nmAt (k : Nat) : Nm := if h : k < 6 then ⟨97 + k, by omega⟩ else 97
theorem nmAt_lt {k : Nat} (h : k < 6) : Lt (nmAt k) := by unfold nmAt; rw [dif_pos h]; exact ⟨by simp, by simp; omega⟩
theorem nmAt_val {k : Nat} (h : k < 6) : (nmAt k).val = 97 + k := by unfold nmAt; rw [dif_pos h]
theorem letter_at : ∀ {k : Int}, 0 ≤ k → k < 6 → dIx (.str (PySem.Str.ofString "abcdef")) (.int k) = .ok (eN (nmAt k.toNat)) := by
  intro k h0 h1
  have : k = 0 ∨ k = 1 ∨ k = 2 ∨ k = 3 ∨ k = 4 ∨ k = 5 := by omega
  rcases this with h | h | h | h | h | h <;> subst h <;> kernel_rfl
def offersBody : MS := (mSeq (mSet 6 [] (mOp dIx (mC (.str (PySem.Str.ofString "abcdef"))) (mIf (mB (mVar 3)) (mVar 5) (mCall (mDef m_law_pick 7) (mCons (mVar 0) (mCons (mOp dAdd (mOp dAdd (mVar 1) (mC (.int 1))) (mOp dMul (mC (.int 3)) (mVar 5))) (mCons (mC (.int 4)) mNil)))))))
    (mSeq (mSet 7 [] (mOp dAdd (mC (.int 1)) (mCall (mDef m_law_pick 7) (mCons (mVar 0) (mCons (mOp dAdd (mOp dAdd (mVar 1) (mC (.int 2))) (mOp dMul (mC (.int 3)) (mVar 5))) (mCons (mC (.int 30)) mNil))))))
    (mSeq (mIfS [] (mAnd (mB (mOp dGt (mVar 5) (mC (.int 0)))) (mB (mOp dEq (mCall (mDef m_law_pick 7) (mCons (mVar 0) (mCons (mOp dAdd (mOp dAdd (mVar 1) (mC (.int 3))) (mOp dMul (mC (.int 3)) (mVar 5))) (mCons (mC (.int 3)) mNil)))) (mC (.int 0))))) (mSet 7 [] (mCall dMax (mCons (mC (.int 1)) (mCons (mOp dSub (mOp dAdd (mOp dIx (mIxO 4 (mNeg (mC (.int 1)))) (mC (.int 1))) (mCall (mDef m_law_pick 7) (mCons (mVar 0) (mCons (mOp dAdd (mOp dAdd (mVar 1) (mC (.int 2))) (mOp dMul (mC (.int 3)) (mVar 5))) (mCons (mC (.int 5)) mNil))))) (mC (.int 2))) mNil)))) mSkip)
    (mApp 4 [] (mTup (mCons (mVar 6) (mCons (mVar 7) mNil)))))))
def offG (ns : List Int) (a : Int) (a2 : Sl) (single : Bool) (l : List Bid) (x5 x6 x7 : Sl) : Gam := [.v (S ns), .v (.int a), a2, .v (.bool single), .own (l.map eB), x5, x6, x7]
/-- what is known of a beginning of drawn offers -/
structure Drawn (single : Bool) (k : Nat) (l : List Bid) : Prop where
  len : l.length = k
  ok : ∀ b ∈ l, OkB b ∧ b.2 ≤ 30 + 2 * (k : Int)
  one : single = true → l.map (·.1) = (List.range k).map nmAt
  few : single = false → ∀ b ∈ l, b.1.val ≤ 100
theorem offers_step {ns : List Int} (hs : ns.length ≤ 63) {a : Int} (h0 : 0 ≤ a) (h1 : a ≤ 900) (a2 : Sl) {single : Bool} {k : Nat} (hk : k < 8) (hk6 : single = true → k < 6) {l : List Bid} (D : Drawn single k l) (x6 x7 : Sl) :
    ∃ b y6 y7, offersBody (offG ns a a2 single l (.v (.int (k : Nat))) x6 x7) = .nx (offG ns a a2 single (l ++ [b]) (.v (.int (k : Nat))) y6 y7) ∧ Drawn single (k + 1) (l ++ [b]) := by
  have mk : dMul (.int 3) (.int (k : Nat)) = .ok (.int (3 * (k : Int))) := dMul_l (by decide) (by decide)
  have p1 := f_pick hs (k := a + 1 + 3 * (k : Int)) (many := 4) (by omega) (by omega) (by decide)
  have p2 := f_pick hs (k := a + 2 + 3 * (k : Int)) (many := 30) (by omega) (by omega) (by decide)
  have p3 := f_pick hs (k := a + 3 + 3 * (k : Int)) (many := 3) (by omega) (by omega) (by decide)
  have p4 := f_pick hs (k := a + 2 + 3 * (k : Int)) (many := 5) (by omega) (by omega) (by decide)
  obtain ⟨b1, c1⟩ := pick_b hs (k := a + 1 + 3 * (k : Int)) (many := 4) (by omega) (by omega) (by decide)
  obtain ⟨b2, c2⟩ := pick_b hs (k := a + 2 + 3 * (k : Int)) (many := 30) (by omega) (by omega) (by decide)
  obtain ⟨b4, c4⟩ := pick_b hs (k := a + 2 + 3 * (k : Int)) (many := 5) (by omega) (by omega) (by decide)
  generalize pickF ns (a + 1 + 3 * (k : Int)) 4 = q1 at *
  generalize pickF ns (a + 2 + 3 * (k : Int)) 30 = q2 at *
  generalize pickF ns (a + 3 + 3 * (k : Int)) 3 = q3 at *
  generalize pickF ns (a + 2 + 3 * (k : Int)) 5 = q4 at *
  have hq : l.length < 100000 := by rw [D.len]; omega
  -- the bidder
  obtain ⟨n, hn, e1, hn1, hn2⟩ : ∃ n : Nm, Lt n ∧ (mOp dIx (mC (.str (PySem.Str.ofString "abcdef"))) (mIf (mB (mVar 3)) (mVar 5) (mCall (mDef m_law_pick 7) (mCons (mVar 0) (mCons (mOp dAdd (mOp dAdd (mVar 1) (mC (.int 1))) (mOp dMul (mC (.int 3)) (mVar 5))) (mCons (mC (.int 4)) mNil)))))) (offG ns a a2 single l (.v (.int (k : Nat))) x6 x7) = .ok (eN n)
      ∧ (single = true → n = nmAt k) ∧ (single = false → n.val ≤ 100) := by
    cases hsg : single with
    | true =>
      have h6 := hk6 hsg
      refine ⟨nmAt k, nmAt_lt h6, ?_, fun _ => rfl, fun h => absurd h (by decide)⟩
      have := letter_at (k := (k : Int)) (by omega) (by omega)
      simp at this
      simp [offG, this]
    | false =>
      refine ⟨nmAt q1.toNat, nmAt_lt (by omega), ?_, fun h => absurd h (by decide), fun _ => by rw [nmAt_val (by omega)]; omega⟩
      have := letter_at (k := q1) (by omega) (by omega)
      simp [offG, mk, p1, this]
  have st1 : ∀ m : MS, (mSeq (mSet 6 [] (mOp dIx (mC (.str (PySem.Str.ofString "abcdef"))) (mIf (mB (mVar 3)) (mVar 5) (mCall (mDef m_law_pick 7) (mCons (mVar 0) (mCons (mOp dAdd (mOp dAdd (mVar 1) (mC (.int 1))) (mOp dMul (mC (.int 3)) (mVar 5))) (mCons (mC (.int 4)) mNil))))))) m) (offG ns a a2 single l (.v (.int (k : Nat))) x6 x7)
      = m (offG ns a a2 single l (.v (.int (k : Nat))) (.v (eN n)) x7) := fun m => by
    rw [ap_Seq, ap_Set, mEv_nil, e1]
    rfl
  have hn3 : Drawn single (k + 1) (l ++ [(n, 1 + q2)]) := by
    refine ⟨by simp [D.len], fun b hb => ?_, fun h => ?_, fun h b hb => ?_⟩
    · rcases List.mem_append.mp hb with hb | hb
      · obtain ⟨z1, z2⟩ := D.ok b hb
        exact ⟨z1, by push_cast; omega⟩
      · rw [List.mem_singleton.mp hb]
        exact ⟨⟨hn, by simp; omega, by simp; omega⟩, by simp; omega⟩
    · rw [List.map_append, D.one h, List.range_succ, List.map_append, hn1 h]; rfl
    · rcases List.mem_append.mp hb with hb | hb
      · exact D.few h b hb
      · rw [List.mem_singleton.mp hb]; exact hn2 h
  unfold offersBody
  by_cases hk0 : k = 0
  · refine ⟨(n, 1 + q2), .v (eN n), .v (.int (1 + q2)), ?_, hn3⟩
    subst hk0
    rw [st1]
    simp at p2 mk
    simp [offG, p2, mk, hq, eB]
  · have hkp : 0 < k := Nat.pos_of_ne_zero hk0
    by_cases hq3 : q3 = 0
    · obtain ⟨i, z, e2⟩ : ∃ i z, l = i ++ [z] := ⟨l.dropLast, l.getLast (by intro e; rw [e] at D; have := D.len; simp at this; omega), (List.dropLast_concat_getLast _).symm⟩
      have hz : atI (l.map eB) (-1) = some (eB z) := by rw [e2, List.map_append]; exact atI_last _ _
      have hzb := D.ok z (by rw [e2]; simp)
      have hmx : dMax [.int 1, .int (z.2 + q4 - 2)] = .ok (.int (max 1 (z.2 + q4 - 2))) := dMax_mx _ _
      refine ⟨(n, max 1 (z.2 + q4 - 2)), .v (eN n), .v (.int (max 1 (z.2 + q4 - 2))), ?_, ?_⟩
      · rw [st1]
        simp [offG, mk, p2, p3, p4, hq3, hkp, hz, hq, eB, hmx, -dMax_int]
      · refine ⟨by simp [D.len], fun b hb => ?_, fun h => ?_, fun h b hb => ?_⟩
        · rcases List.mem_append.mp hb with hb | hb
          · obtain ⟨z1, z2⟩ := D.ok b hb
            exact ⟨z1, by push_cast; omega⟩
          · rw [List.mem_singleton.mp hb]
            exact ⟨⟨hn, by simp; omega, by simp; omega⟩, by simp; omega⟩
        · rw [List.map_append, D.one h, List.range_succ, List.map_append, hn1 h]; rfl
        · rcases List.mem_append.mp hb with hb | hb
          · exact D.few h b hb
          · rw [List.mem_singleton.mp hb]; exact hn2 h
    · refine ⟨(n, 1 + q2), .v (eN n), .v (.int (1 + q2)), ?_, hn3⟩
      rw [st1]
      simp [offG, mk, p2, p3, hq3, hkp, hq, eB]
theorem offers_loop {ns : List Int} (hs : ns.length ≤ 63) {a : Int} (h0 : 0 ≤ a) (h1 : a ≤ 900) (a2 : Sl) {single : Bool} : ∀ (n k : Nat) (l : List Bid) (x5 x6 x7 : Sl), k + n ≤ 8 → (single = true → k + n ≤ 6) → Drawn single k l →
    ∃ l' y5 y6 y7, forGo (bName 5) offersBody (intsFrom (k : Nat) n) (offG ns a a2 single l x5 x6 x7) = .nx (offG ns a a2 single l' y5 y6 y7) ∧ Drawn single (k + n) l'
  | 0, k, l, x5, x6, x7, _, _, D => ⟨l, x5, x6, x7, rfl, D⟩
  | n + 1, k, l, x5, x6, x7, hk, hk6, D => by
    obtain ⟨b, y6, y7, e, D2⟩ := offers_step hs h0 h1 a2 (k := k) (by omega) (fun h => by have := hk6 h; omega) D x6 x7
    obtain ⟨l', z5, z6, z7, e2, D3⟩ := offers_loop hs h0 h1 a2 n (k + 1) (l ++ [b]) (.v (.int (k : Nat))) y6 y7 (by omega) (fun h => by have := hk6 h; omega) D2
    refine ⟨l', z5, z6, z7, ?_, by rw [show k + (n + 1) = k + 1 + n by omega]; exact D3⟩
    rw [intsFrom_succ]
    unfold forGo
    have e0 : bName 5 (.int (k : Nat)) (offG ns a a2 single l x5 x6 x7) = some (offG ns a a2 single l (.v (.int (k : Nat))) x6 x7) := rfl
    rw [e0]
    dsimp only
    rw [e]
    dsimp only
    exact e2
/-- drawn offers -/
theorem f_offers {ns : List Int} (hs : ns.length ≤ 63) {a most : Int} (h0 : 0 ≤ a) (h1 : a ≤ 900) (m0 : 0 ≤ most) (m1 : most ≤ 8) {single : Bool} (m6 : single = true → most ≤ 6) : ∃ bs : List Bid, (bs.length : Int) ≤ most ∧ Drawn single bs.length bs ∧ mDef m_law_offers 8 [S ns, .int a, .int most, .bool single] = .ok (eBs bs) := by
  have p := f_pick hs (k := a) (many := most + 1) h0 (by omega) (by omega)
  obtain ⟨b, c⟩ := pick_b hs (k := a) (many := most + 1) h0 (by omega) (by omega)
  generalize pickF ns a (most + 1) = q at *
  obtain ⟨n, rfl⟩ : ∃ n : Nat, q = n := ⟨q.toNat, by omega⟩
  obtain ⟨l, y5, y6, y7, e, D⟩ := offers_loop hs h0 h1 (.v (.int most)) (single := single) n 0 [] .no .no .no (by omega) (fun h => by have := m6 h; omega) ⟨rfl, by simp, fun _ => rfl, by simp⟩
  refine ⟨l, by rw [D.len]; omega, by rw [D.len]; exact D, def_rt ?_⟩
  have hr : rngD [.int (n : Nat)] = .ok (intsFrom 0 n) := by
    show (if _ then R.ok (intsFrom 0 (((n : Nat) : Int)).toNat) else .no) = _
    rw [if_pos (by omega), Int.toNat_natCast]
  show m_law_offers _ = _
  unfold m_law_offers
  have hb2 : (mFor [] (mRng (mCons (mCall (mDef m_law_pick 7) (mCons (mVar 0) (mCons (mVar 1) (mCons (mOp dAdd (mVar 2) (mC (.int 1))) mNil)))) mNil)) (bName 5) offersBody) (offG ns a (.v (.int most)) single [] .no .no .no) = .nx (offG ns a (.v (.int most)) single l y5 y6 y7) := by
    rw [ap_For, mEvL_eq, fz_nil]
    have e1 : (mRng (mCons (mCall (mDef m_law_pick 7) (mCons (mVar 0) (mCons (mVar 1) (mCons (mOp dAdd (mVar 2) (mC (.int 1))) mNil)))) mNil)) (offG ns a (.v (.int most)) single [] .no .no .no) = .ok (intsFrom 0 n) := by
      simp [offG, p, hr]
    rw [e1]
    dsimp only
    simpa using e
  rw [ap_Seq]
  show (mSeq (mFor [] (mRng (mCons (mCall (mDef m_law_pick 7) (mCons (mVar 0) (mCons (mVar 1) (mCons (mOp dAdd (mVar 2) (mC (.int 1))) mNil)))) mNil)) (bName 5) offersBody) _) (offG ns a (.v (.int most)) single [] .no .no .no) = _
  rw [ap_Seq, hb2]
  simp [offG, eBs]
end PD

/-! The mathematics of running: prices rise, refused bids can go, the leader. -/
namespace PD
open PySem L2

theorem wr_price (s : Sale) (t : St3) : t.2.1 ≤ (wr s t).2.1 ∧ (wr s t).1 = t.1 ∧ (wr s t).2.2 = t.2.2 := by
  unfold wr
  by_cases h : s.res ≤ t.2.2
  · rw [if_pos h]; exact ⟨by simp; omega, rfl, rfl⟩
  · rw [if_neg h]; exact ⟨Int.le_refl _, rfl, rfl⟩
/-- what an advance does: nothing, or leader and greatest amount anew -/
theorem adv_cases {s : Sale} (hs : s.Ok) {t : St3} (h : InvS s t) {b : Bid} (hb : OkB b) :
    (rej s t b = true ∧ adv s t b = t) ∨ (rej s t b = false ∧ t.2.1 ≤ (adv s t b).2.1 ∧
      ((t.1 = 0 ∧ (adv s t b).1 = b.1 ∧ (adv s t b).2.2 = b.2) ∨ (t.1 ≠ 0 ∧ t.2.2 < b.2 ∧ (adv s t b).1 = b.1 ∧ (adv s t b).2.2 = b.2) ∨ (t.1 ≠ 0 ∧ b.1 ≠ t.1 ∧ b.2 ≤ t.2.2 ∧ (adv s t b).1 = t.1 ∧ (adv s t b).2.2 = t.2.2))) := by
  have hp := inv_price hs h
  have h0 := hb.lo
  have hst := hs.st
  cases hr : rej s t b with
  | true => exact .inl ⟨rfl, by simp [adv, hr]⟩
  | false =>
    refine .inr ⟨rfl, ?_⟩
    have hr2 := hr
    unfold rej at hr2
    by_cases h1 : t.1 = 0
    · have h9 : t = (0, 0, 0) := by
        rcases h with h | h
        · exact h
        · exact absurd h1 h.1.ne
      have e : adv s t b = wr s (b.1, s.start, b.2) := by simp [adv, hr, h1]
      obtain ⟨w1, w2, w3⟩ := wr_price s (b.1, s.start, b.2)
      rw [e]
      refine ⟨?_, .inl ⟨h1, w2, w3⟩⟩
      have : t.2.1 = 0 := by rw [h9]
      simp at w1
      omega
    · rw [if_neg h1] at hr2
      have ht : Lt t.1 ∧ (s.start ≤ t.2.1 ∧ t.2.1 ≤ t.2.2) ∧ t.2.2 ≤ 200 ∧ (s.res ≤ t.2.2 → s.res ≤ t.2.1) := by
        rcases h with h | h
        · rw [h] at h1; exact absurd rfl h1
        · exact h
      by_cases h2 : b.1 = t.1
      · rw [if_pos h2] at hr2
        simp at hr2
        have e : adv s t b = wr s (t.1, t.2.1, b.2) := by simp [adv, hr, h1, h2]
        obtain ⟨w1, w2, w3⟩ := wr_price s (t.1, t.2.1, b.2)
        rw [e]
        exact ⟨w1, .inr (.inl ⟨h1, hr2, w2.trans h2.symm, w3⟩)⟩
      · rw [if_neg h2] at hr2
        simp at hr2
        have hu := up_b hs (p := b.2) (by omega)
        have hu1 := up_b hs hp.1
        have hu2 := up_b hs hp.2
        by_cases h3 : b.2 ≤ t.2.2
        · have e : adv s t b = wr s (t.1, min t.2.2 (s.up b.2), t.2.2) := by simp [adv, hr, h1, h2, h3]
          obtain ⟨w1, w2, w3⟩ := wr_price s (t.1, min t.2.2 (s.up b.2), t.2.2)
          rw [e]
          refine ⟨?_, .inr (.inr ⟨h1, h2, h3, w2, w3⟩)⟩
          simp at w1
          omega
        · have e : adv s t b = wr s (b.1, min b.2 (s.up t.2.2), b.2) := by simp [adv, hr, h1, h2, h3]
          obtain ⟨w1, w2, w3⟩ := wr_price s (b.1, min b.2 (s.up t.2.2), b.2)
          rw [e]
          refine ⟨?_, .inr (.inl ⟨h1, by omega, w2, w3⟩)⟩
          simp at w1
          omega
theorem adv_mono {s : Sale} (hs : s.Ok) {t : St3} (h : InvS s t) {b : Bid} (hb : OkB b) : t.2.1 ≤ (adv s t b).2.1 := by
  rcases adv_cases hs h hb with ⟨_, e⟩ | ⟨_, e, _⟩
  · rw [e]; exact Int.le_refl _
  · exact e
theorem fin_inv {s : Sale} (hs : s.Ok) : ∀ (bs : List Bid) (t : St3), (∀ b ∈ bs, OkB b) → InvS s t → InvS s (fin s t bs)
  | [], t, _, h => h
  | b :: r, t, hb, h => fin_inv hs r (adv s t b) (fun c hc => hb c (by simp [hc])) (adv_inv hs h (hb b (by simp)))
theorem fin_mono {s : Sale} (hs : s.Ok) : ∀ (bs : List Bid) (t : St3), (∀ b ∈ bs, OkB b) → InvS s t → t.2.1 ≤ (fin s t bs).2.1
  | [], t, _, h => Int.le_refl _
  | b :: r, t, hb, h => Int.le_trans (adv_mono hs h (hb b (by simp))) (fin_mono hs r (adv s t b) (fun c hc => hb c (by simp [hc])) (adv_inv hs h (hb b (by simp))))
theorem fin_app (s : Sale) (t : St3) (bs cs : List Bid) : fin s t (bs ++ cs) = fin s (fin s t bs) cs := List.foldl_append
theorem sts_inv {s : Sale} (hs : s.Ok) : ∀ (bs : List Bid) (t : St3), (∀ b ∈ bs, OkB b) → InvS s t → ∀ x ∈ sts s t bs, InvS s x
  | [], t, _, _, x, hx => absurd hx (by simp [sts])
  | b :: r, t, hb, h, x, hx => by
    have hi := adv_inv hs h (hb b (by simp))
    rcases List.mem_cons.mp hx with e | hx
    · rw [e]; exact hi
    · exact sts_inv hs r _ (fun c hc => hb c (by simp [hc])) hi x hx
theorem sts_rise {s : Sale} (hs : s.Ok) : ∀ (bs : List Bid) (t : St3), (∀ b ∈ bs, OkB b) → InvS s t → ((t :: sts s t bs).map (·.2.1)).Pairwise (· ≤ ·)
  | [], t, _, _ => by simp [sts]
  | b :: r, t, hb, h => by
    have hb0 := hb b (by simp)
    have hi := adv_inv hs h hb0
    have ih := sts_rise hs r (adv s t b) (fun c hc => hb c (by simp [hc])) hi
    have hm := adv_mono hs h hb0
    simp only [sts, List.map_cons] at ih ⊢
    refine List.pairwise_cons.mpr ⟨fun y hy => ?_, ih⟩
    rcases List.mem_cons.mp hy with e | hy
    · rw [e]; exact hm
    · exact Int.le_trans hm ((List.pairwise_cons.mp ih).1 y hy)
theorem inv_top {s : Sale} {t : St3} (h : InvS s t) : t.2.1 ≤ t.2.2 := by
  rcases h with h | h
  · rw [h]; decide
  · omega
/-! ### the bids that are not refused -/
def keep (s : Sale) (t : St3) : List Bid → List Bid
  | [] => []
  | b :: r => if rej s t b then keep s t r else b :: keep s (adv s t b) r
theorem adv_rej {s : Sale} {t : St3} {b : Bid} (h : rej s t b = true) : adv s t b = t := by simp [adv, h]
theorem keep_sub (s : Sale) : ∀ (bs : List Bid) (t : St3), (keep s t bs).Sublist bs
  | [], t => by simp [keep]
  | b :: r, t => by
    unfold keep
    cases rej s t b with
    | true => simpa using (keep_sub s r t).cons b
    | false => simpa using (keep_sub s r (adv s t b))
theorem keep_fin (s : Sale) : ∀ (bs : List Bid) (t : St3), fin s t (keep s t bs) = fin s t bs
  | [], t => rfl
  | b :: r, t => by
    unfold keep
    cases h : rej s t b with
    | true =>
      rw [if_pos rfl, keep_fin s r t]
      show _ = fin s (adv s t b) r
      rw [adv_rej h]
    | false => exact keep_fin s r (adv s t b)
theorem keep_outs (s : Sale) : ∀ (bs : List Bid) (t : St3) (k : Int), outs s t k (keep s t bs) = []
  | [], t, k => rfl
  | b :: r, t, k => by
    unfold keep
    cases h : rej s t b with
    | true => exact keep_outs s r t k
    | false =>
      show (if rej s t b then [k] else []) ++ outs s (adv s t b) (k + 1) (keep s (adv s t b) r) = []
      rw [h, keep_outs s r]
      rfl
theorem outs_ge (s : Sale) : ∀ (bs : List Bid) (t : St3) (k x : Int), x ∈ outs s t k bs → k ≤ x
  | [], t, k, x, h => absurd h (by simp [outs])
  | b :: r, t, k, x, h => by
    rcases List.mem_append.mp h with h | h
    · have : x = k := by
        cases hr : rej s t b <;> rw [hr] at h <;> simp at h
        exact h
      omega
    · have := outs_ge s r _ _ _ h
      omega
/-! the leader: the first greatest of the kept ones -/
def Led (h : List Bid) (t : St3) : Prop := (h = [] ∧ t = (0, 0, 0)) ∨ (t.1 ≠ 0 ∧ (∀ b ∈ h, b.2 ≤ t.2.2) ∧ ((h.filter fun b => decide (b.2 = t.2.2)).map (·.1)).head? = some t.1)
theorem filter_none {h : List Bid} {m x : Int} (hl : ∀ b ∈ h, b.2 ≤ m) (hm : m < x) : (h.filter fun b => decide (b.2 = x)) = [] :=
  List.filter_eq_nil_iff.mpr fun b hb => by have := hl b hb; simp; omega
theorem led_go {s : Sale} (hs : s.Ok) : ∀ (bs h : List Bid) (t : St3), (∀ b ∈ bs, OkB b) → InvS s t → Led h t → Led (h ++ keep s t bs) (fin s t bs)
  | [], h, t, _, _, L => by simpa [keep, fin] using L
  | b :: r, h, t, hb, hi, L => by
    have hb0 := hb b (by simp)
    have hi2 := adv_inv hs hi hb0
    show Led (h ++ if rej s t b then keep s t r else b :: keep s (adv s t b) r) (fin s (adv s t b) r)
    rcases adv_cases hs hi hb0 with ⟨e1, e2⟩ | ⟨e1, _, e2⟩
    · rw [e1, e2]
      exact led_go hs r h t (fun c hc => hb c (by simp [hc])) hi L
    · rw [e1]
      have hx := led_go hs r (h ++ [b]) (adv s t b) (fun c hc => hb c (by simp [hc])) hi2 ?_
      · simpa using hx
      · rcases e2 with ⟨z, a1, a2⟩ | ⟨z, a0, a1, a2⟩ | ⟨z, z2, a0, a1, a2⟩
        · have hh : h = [] := by
            rcases L with ⟨l, _⟩ | ⟨l, _⟩
            · exact l
            · exact absurd z l
          subst hh
          refine .inr ⟨by rw [a1]; exact hb0.n.ne, fun c hc => ?_, ?_⟩
          · simp at hc
            rw [hc, a2]
            exact Int.le_refl _
          · simp [a1, a2]
        · have hl : ∀ c ∈ h, c.2 ≤ t.2.2 := by
            rcases L with ⟨l, _⟩ | ⟨_, l, _⟩
            · rw [l]; simp
            · exact l
          refine .inr ⟨by rw [a1]; exact hb0.n.ne, fun c hc => ?_, ?_⟩
          · rw [a2]
            rcases List.mem_append.mp hc with hc | hc
            · have := hl c hc; omega
            · rw [List.mem_singleton.mp hc]; exact Int.le_refl _
          · rw [a1, a2, List.filter_append, filter_none hl a0]
            simp
        · rcases L with ⟨_, l⟩ | ⟨l0, l, l2⟩
          · rw [l] at z; exact absurd rfl z
          · refine .inr ⟨by rw [a1]; exact z, fun c hc => ?_, ?_⟩
            · rw [a2]
              rcases List.mem_append.mp hc with hc | hc
              · exact l c hc
              · rw [List.mem_singleton.mp hc]; exact a0
            · rw [a1, a2, List.filter_append, List.map_append, List.head?_append, l2]
              rfl
theorem led_all {s : Sale} (hs : s.Ok) {bs : List Bid} (hb : ∀ b ∈ bs, OkB b) : Led (keep s (0, 0, 0) bs) (fin s (0, 0, 0) bs) := by
  simpa using led_go hs bs [] (0, 0, 0) hb (.inl rfl) (.inl ⟨rfl, rfl⟩)
/-! sorted -/
theorem sortI_le {ns : List Int} (h : ns.Pairwise (· ≤ ·)) : sortI ns = ns := (sortI_eq (List.Perm.refl _) h).symm
theorem dSortedI_le {ns : List Int} (h : ns.Pairwise (· ≤ ·)) : dSortedI [.list (ns.map .int)] = .ok (.list (ns.map .int)) := by
  show (oR (intsOf (ns.map .int))).bind _ = _
  rw [intsOf_map]
  simp [sortI_le h]
theorem dMax_ints {ns : List Int} {m : Int} (h : m ∈ ns) (h2 : ∀ y ∈ ns, y ≤ m) : dMax [.list (ns.map .int)] = .ok (.int m) := by
  show (match intsOf (ns.map .int) with
      | some (n :: ns) => R.ok (PyData.int (maxI n ns))
      | _ => R.no) = _
  rw [intsOf_map]
  cases ns with
  | nil => simp at h
  | cons a r => simp [maxI_eq h h2]
end PD

/-! The mathematics: how a law is walked. -/
namespace PD
open PySem L2

theorem for_inv (st : Gam → Prop) {ms : Gam → R (List PyData)} {b : Bd} {body m : MS} {Γ : Gam} {ds : List PyData} {X : R PyData} (hd : ms Γ = .ok ds) (h : st Γ)
    (hs : ∀ d ∈ ds, ∀ Γ, st Γ → ∃ Γ1 Γ2, b d Γ = some Γ1 ∧ (body Γ1 = .nx Γ2 ∨ body Γ1 = .ct Γ2) ∧ st Γ2) (k : ∀ Γ', st Γ' → outR (m Γ') = X) : outR (mSeq (mFor [] ms b body) m Γ) = X := by
  obtain ⟨Γ', e, q⟩ := forGo_inv st ds Γ h hs
  rw [ap_Seq, ap_For, mEvL_eq, fz_nil, hd]
  dsimp only
  rw [e]
  exact k Γ' q
theorem seq_nx {s m : MS} {Γ Γ1 : Gam} {X : R PyData} (h : s Γ = .nx Γ1) (k : outR (m Γ1) = X) : outR (mSeq s m Γ) = X := by
  rw [ap_Seq, h]
  exact k
theorem seq_to {s m : MS} {Γ Γ1 : Gam} {o : Out} (h : s Γ = .nx Γ1) (k : m Γ1 = o) : mSeq s m Γ = o := by
  rw [ap_Seq, h]
  exact k
theorem enc_o : Enc eO where
  eqv := fun x y => by
    cases x with
    | none =>
      cases y with
      | none => simp [eO, PyData.eqv]
      | some b => simp [eO, eN, PyData.eqv]
    | some a =>
      cases y with
      | none => simp [eO, eN, PyData.eqv]
      | some b =>
        simp only [eO, enc_nm.eqv]
        exact decide_eq_decide.mpr (by rw [Option.some.injEq])
  lay := fun x => by cases x with | none => rfl | some a => exact enc_nm.lay a
  dep := fun x => by cases x with | none => simp [eO, PyData.depth] | some a => exact enc_nm.dep a
@[simp] theorem eqD_nil : eqD (.list []) (.list []) = .ok true := by simpa using enc_int.empty []
end PD

/-! The mathematics: further bids, all amounts. -/
namespace PD
open PySem L2

/-! ### ranges -/
def upTo (a : Int) (n : Nat) : List Int := (List.range n).map fun k => a + (k : Nat)
theorem intsFrom_up (a : Int) (n : Nat) : intsFrom a n = (upTo a n).map .int := by
  unfold intsFrom upTo
  rw [List.map_map]
  rfl
theorem upTo_succ (a : Int) (n : Nat) : upTo a (n + 1) = a :: upTo (a + 1) n := by
  unfold upTo
  rw [List.range_succ_eq_map]
  simp only [List.map_cons, List.map_map]
  congr 1
  · simp
  · refine List.map_congr_left fun i _ => ?_
    simp only [Function.comp_def, Nat.succ_eq_add_one]
    omega
theorem upTo_zero (a : Int) : upTo a 0 = [] := rfl
theorem mem_upTo {a x : Int} {n : Nat} : x ∈ upTo a n ↔ a ≤ x ∧ x < a + n := by
  unfold upTo
  rw [List.mem_map]
  constructor
  · rintro ⟨k, hk, rfl⟩
    have := List.mem_range.mp hk
    omega
  · rintro ⟨h1, h2⟩
    exact ⟨(x - a).toNat, List.mem_range.mpr (by omega), by omega⟩
theorem upTo_len (a : Int) (n : Nat) : (upTo a n).length = n := by simp [upTo]
theorem filter_up (c : Int) : ∀ (n : Nat) (a : Int), (upTo a n).filter (fun x => decide (c ≤ x)) = upTo (a + n - ((upTo a n).filter fun x => decide (c ≤ x)).length) ((upTo a n).filter fun x => decide (c ≤ x)).length
  | 0, a => rfl
  | n + 1, a => by
    by_cases h : c ≤ a
    · have e : (upTo a (n + 1)).filter (fun x => decide (c ≤ x)) = upTo a (n + 1) := List.filter_eq_self.mpr fun x hx => by
        have := (mem_upTo.mp hx).1
        simp; omega
      rw [e, upTo_len]
      congr 1
      omega
    · have ih := filter_up c n (a + 1)
      rw [upTo_succ, List.filter_cons_of_neg (by simpa using h)]
      have e2 : a + ((n + 1 : Nat) : Int) = a + 1 + (n : Int) := by omega
      rw [e2]
      exact ih
theorem rng2 {a b : Int} (h0 : 0 ≤ a) (h1 : a ≤ 1000) (h2 : 0 ≤ b) (h3 : b ≤ 1000) : rngD [.int a, .int b] = .ok ((upTo a (b - a).toNat).map .int) := by
  show (if _ then R.ok (intsFrom a (b - a).toNat) else .no) = _
  rw [if_pos (by omega), intsFrom_up]
theorem rng1 {n : Nat} (h : n ≤ 1000) : rngD [.int (n : Nat)] = .ok ((upTo 0 n).map .int) := by
  show (if _ then R.ok (intsFrom 0 (((n : Nat) : Int)).toNat) else .no) = _
  rw [if_pos (by omega), Int.toNat_natCast, intsFrom_up]
def amts : List Int := upTo 1 200
theorem mem_amts {x : Int} : x ∈ amts ↔ 1 ≤ x ∧ x ≤ 200 := by
  unfold amts
  rw [mem_upTo]
  omega
theorem rng_amts : rngD [.int 1, .int 201] = .ok (amts.map .int) := rng2 (by decide) (by decide) (by decide) (by decide)
/-! ### options -/
def eOI : Option Int → PyData
  | some n => .int n
  | none => .none
theorem enc_oi : Enc eOI where
  eqv := fun x y => by
    cases x with
    | none =>
      cases y with
      | none => simp [eOI, PyData.eqv]
      | some b => simp [eOI, PyData.eqv]
    | some a =>
      cases y with
      | none => simp [eOI, PyData.eqv]
      | some b =>
        simp only [eOI, enc_int.eqv]
        exact decide_eq_decide.mpr (by rw [Option.some.injEq])
  lay := fun x => by cases x <;> rfl
  dep := fun x => by cases x <;> simp [eOI, PyData.depth]
@[simp] theorem eqD_none : eqD .none .none = .ok true := by simpa [eOI] using enc_oi.eq none none
theorem head_ix {xs : List Int} : (if xs = [] then R.ok PyData.none else oR (atI (xs.map PyData.int) 0)) = .ok (eOI xs.head?) := by
  cases xs with
  | nil => rfl
  | cons a r => rw [if_neg (by simp), List.map_cons, atI_0]; rfl
/-! ### runs of more bids -/
theorem sts_app (s : Sale) : ∀ (bs cs : List Bid) (t : St3), sts s t (bs ++ cs) = sts s t bs ++ sts s (fin s t bs) cs
  | [], cs, t => rfl
  | b :: r, cs, t => by simp only [List.cons_append, sts, sts_app s r cs, fin, List.foldl_cons]
theorem outs_app (s : Sale) : ∀ (bs cs : List Bid) (t : St3) (k : Int), outs s t k (bs ++ cs) = outs s t k bs ++ outs s (fin s t bs) (k + bs.length) cs
  | [], cs, t, k => by simp [outs, fin]
  | b :: r, cs, t, k => by
    simp only [List.cons_append, outs, outs_app s r cs, fin, List.foldl_cons, List.length_cons, List.append_assoc]
    congr 3
    omega
theorem outs_lt (s : Sale) : ∀ (bs : List Bid) (t : St3) (k x : Int), x ∈ outs s t k bs → x < k + bs.length
  | [], t, k, x, h => absurd h (by simp [outs])
  | b :: r, t, k, x, h => by
    simp only [List.length_cons]
    rcases List.mem_append.mp h with h | h
    · have : x = k := by
        cases hr : rej s t b <;> rw [hr] at h <;> simp at h
        exact h
      omega
    · have := outs_lt s r _ _ _ h
      omega
theorem out_more (s : Sale) (bs : List Bid) (b : Bid) : decide (((bs.length : Nat) : Int) ∈ outs s (0, 0, 0) 0 (bs ++ [b])) = rej s (fin s (0, 0, 0) bs) b := by
  rw [outs_app, Bool.eq_iff_iff, decide_eq_true_eq]
  constructor
  · intro h
    rcases List.mem_append.mp h with h | h
    · have := outs_lt s _ _ _ _ h
      omega
    · simp only [outs, List.append_nil] at h
      cases hr : rej s (fin s (0, 0, 0) bs) b <;> rw [hr] at h <;> simp at h
  · intro h
    simp [outs, h]
theorem in_more (s : Sale) (bs : List Bid) (b : Bid) : inD (.int (bs.length : Nat)) (.list ((outs s (0, 0, 0) 0 (bs ++ [b])).map .int)) = .ok (rej s (fin s (0, 0, 0) bs) b) := by
  rw [enc_int.inL _ _ (fun z => by simp), out_more]
theorem last_more (s : Sale) (bs : List Bid) (b : Bid) : atI ((sts s (0, 0, 0) (bs ++ [b])).map eSt) (-1) = some (eSt (adv s (fin s (0, 0, 0) bs) b)) := by
  rw [sts_app, List.map_append]
  exact atI_last _ _
theorem add_more {bs : List Bid} (hl : bs.length ≤ 1000) (b : Bid) : dAdd (eBs bs) (.list [eB b]) = .ok (eBs (bs ++ [b])) := by
  show (if _ then R.ok (PyData.list _) else .no) = _
  rw [if_pos (by simp; omega)]
  unfold eBs
  rw [List.map_append]
  rfl
theorem ok_more {bs : List Bid} (hb : ∀ b ∈ bs, OkB b) {c : Bid} (hc : OkB c) : ∀ b ∈ bs ++ [c], OkB b := fun b h => by
  rcases List.mem_append.mp h with h | h
  · exact hb b h
  · rw [List.mem_singleton.mp h]; exact hc
/-! a bid is refused below an amount -/
def least (s : Sale) (t : St3) (n : Nm) : Int := if t.1 = 0 then s.start else if n = t.1 then t.2.2 + 1 else s.up t.2.1
theorem rej_least (s : Sale) (t : St3) (b : Bid) : rej s t b = decide (b.2 < least s t b.1) := by
  unfold rej least
  by_cases h1 : t.1 = 0
  · simp [h1]
  · by_cases h2 : b.1 = t.1
    · simp [h1, h2]; omega
    · simp [h1, h2]
/-! ### the program's functions of further bids -/
section
variable {s : Sale} (hs : s.Ok) {bs : List Bid} (hb : ∀ b ∈ bs, OkB b) (hl : bs.length ≤ 8) {n : Nm} (hn : Lt n)
def accA (s : Sale) (t : St3) (n : Nm) : List Int := amts.filter fun a => !rej s t (n, a)
def ledA (s : Sale) (t : St3) (n : Nm) : List Int := amts.filter fun a => decide ((adv s t (n, a)).1 = n)
theorem f_least_one (xs : List Int) : mDef m_least_one 1 [.list (xs.map .int)] = .ok (eOI xs.head?) := by
  apply def_rt
  have h0 := enc_int.empty xs
  have h1 := head_ix (xs := xs)
  by_cases h : xs = []
  · subst h
    simp [m_least_one]; rfl
  · rw [if_neg h] at h1
    simp [m_least_one, h0, h, h1]
include hs hb hl in
theorem f_check_bidder (hn : Lt n) : mDef m_check_bidder 3 [s.d, eBs bs, eN n] = .ok .none := by
  apply def_nx (Γ := [.v s.d, .v (eBs bs), .v (eN n)])
  simp [m_check_bidder, f_check_bids hs hb hl, f_is_bidder hn]
include hs hb hl in
theorem f_least_accepted (hn : Lt n) : mDef m_least_accepted 6 [s.d, eBs bs, eN n] = .ok (eOI (accA s (fin s (0, 0, 0) bs) n).head?) := by
  apply def_rt
  have hi := fin_inv hs bs (0, 0, 0) hb (.inl rfl)
  have e := lcGo_map (b := bName 5) (mt := mNot (mB (mCall (mDef m_is_refused 6) (mCons (mVar 0) (mCons (mVar 3) (mCons (mTup (mCons (mVar 2) (mCons (mVar 5) mNil))) mNil)))))) (me := mVar 5)
    (Γ := [.v s.d, .v (eBs bs), .v (eN n), .v (eSt (fin s (0, 0, 0) bs)), .v (.list (amts.map .int)), .no]) PyData.int (fun a => !rej s (fin s (0, 0, 0) bs) (n, a)) PyData.int amts fun x hx => ⟨_, rfl, by
      have := f_is_refused hs hi (n, x)
      simp only [eB] at this
      simp [this], fun _ => rfl⟩
  simp [m_least_accepted, f_check_bidder hs hb hl hn, f_find_result hs hb (by omega), rng_amts, e, f_least_one, accA]
include hs hb hl in
theorem f_least_leading (hn : Lt n) : mDef m_least_leading 6 [s.d, eBs bs, eN n] = .ok (eOI (if (fin s (0, 0, 0) bs).1 = n then some 0 else (ledA s (fin s (0, 0, 0) bs) n).head?)) := by
  apply def_rt
  have hi := fin_inv hs bs (0, 0, 0) hb (.inl rfl)
  have e := lcGo_map (b := bName 5) (mt := mB (mOp dEq (mOp dIx (mCall (mDef m_advance 6) (mCons (mVar 0) (mCons (mVar 3) (mCons (mTup (mCons (mVar 2) (mCons (mVar 5) mNil))) mNil)))) (mC (.int 0))) (mVar 2))) (me := mVar 5)
    (Γ := [.v s.d, .v (eBs bs), .v (eN n), .v (eSt (fin s (0, 0, 0) bs)), .v (.list (amts.map .int)), .no]) PyData.int (fun a => decide ((adv s (fin s (0, 0, 0) bs) (n, a)).1 = n)) PyData.int amts fun x hx => ⟨_, rfl, by
      obtain ⟨x0, x1⟩ := mem_amts.mp hx
      have := f_advance hs hi (b := (n, x)) ⟨hn, x0, x1⟩
      simp only [eB] at this
      simp [this]
      simp [eSt], fun _ => rfl⟩
  by_cases h : (fin s (0, 0, 0) bs).1 = n
  · have h2 : dIx (eSt (fin s (0, 0, 0) bs)) (.int 0) = .ok (eN n) := by rw [← h]; rfl
    simp [m_least_leading, f_check_bidder hs hb hl hn, f_find_result hs hb (by omega), h, h2, eOI]
  · have h2 : dIx (eSt (fin s (0, 0, 0) bs)) (.int 0) = .ok (eN (fin s (0, 0, 0) bs).1) := rfl
    simp [m_least_leading, f_check_bidder hs hb hl hn, f_find_result hs hb (by omega), h, h2, rng_amts, e, f_least_one, ledA]
include hs hb hl in
theorem f_price_with {b : Bid} (hc : OkB b) : mDef m_price_with 3 [s.d, eBs bs, eB b] = .ok (.int (adv s (fin s (0, 0, 0) bs) b).2.1) := by
  apply def_rt
  have hi := fin_inv hs bs (0, 0, 0) hb (.inl rfl)
  simp [m_price_with, f_check_bids hs hb hl, f_is_bid hc, f_find_result hs hb (by omega), f_advance hs hi hc]
  simp [eSt]
def topP (s : Sale) (t : St3) : Option Int := if t.1 = 0 ∨ t.2.2 < s.up t.2.1 then none else some t.2.2
include hs hb hl in
theorem f_greatest_price : mDef m_greatest_price 5 [s.d, eBs bs] = .ok (eOI (topP s (fin s (0, 0, 0) bs))) := by
  apply def_rt
  have hi := fin_inv hs bs (0, 0, 0) hb (.inl rfl)
  have hu := f_step_up hs (inv_price hs hi).1
  have hr := f_find_result hs hb (by omega)
  generalize fin s (0, 0, 0) bs = t at *
  simp only [eSt] at hr
  by_cases h1 : t.1 = 0
  · simp [m_greatest_price, f_check_bids hs hb hl, hr, h1, topP, eOI]
  · by_cases h2 : t.2.2 < s.up t.2.1 <;> simp [m_greatest_price, f_check_bids hs hb hl, hr, h1, h2, hu, topP, eOI]
end
end PD

/-! The mathematics: slices; one bid changed. -/
namespace PD
open PySem L2

theorem cutG_take {α : Type} (xs : List α) (k : Nat) : cutG xs none (some (k : Int)) = xs.take k := by
  unfold cutG
  rw [HT.sIx_none, HT.sIx_nat]
  by_cases h : k ≤ xs.length
  · rw [show min k xs.length = k by omega]; simp
  · rw [show min k xs.length = xs.length by omega, List.take_of_length_le (by simp), List.take_of_length_le (by omega)]; simp
theorem cutG_drop {α : Type} (xs : List α) (k : Nat) : cutG xs (some (k : Int)) none = xs.drop k := by
  unfold cutG
  rw [HT.sIx_none, HT.sIx_nat]
  by_cases h : k ≤ xs.length
  · rw [show min k xs.length = k by omega]; rw [List.take_of_length_le (by simp)]
  · rw [show min k xs.length = xs.length by omega, List.drop_of_length_le (show xs.length ≤ k by omega)]; simp
/-! ### order-convex picks of a range -/
theorem filter_conv {p : Int → Bool} (hp : ∀ x y z, x < y → y < z → p x = true → p z = true → p y = true) : ∀ (n : Nat) (a : Int), ∃ (c : Int) (d : Nat), (upTo a n).filter p = upTo c d
  | 0, a => ⟨a, 0, rfl⟩
  | n + 1, a => by
    obtain ⟨c, d, e⟩ := filter_conv hp n (a + 1)
    rw [upTo_succ]
    cases ha : p a with
    | false => exact ⟨c, d, by rw [List.filter_cons_of_neg (by simp [ha]), e]⟩
    | true =>
      rw [List.filter_cons_of_pos ha, e]
      match d, e with
      | 0, e => exact ⟨a, 1, by rw [upTo_zero, upTo_succ, upTo_zero]⟩
      | d + 1, e =>
        have hc : c ∈ (upTo (a + 1) n).filter p := by rw [e]; exact mem_upTo.mpr ⟨Int.le_refl _, by omega⟩
        obtain ⟨h1, h2⟩ := List.mem_filter.mp hc
        have h3 := mem_upTo.mp h1
        have h4 : c = a + 1 := by
          by_cases h5 : c = a + 1
          · exact h5
          · have h6 : p (a + 1) = true := hp a (a + 1) c (by omega) (by omega) ha h2
            have h7 : a + 1 ∈ (upTo (a + 1) n).filter p := List.mem_filter.mpr ⟨mem_upTo.mpr ⟨Int.le_refl _, by omega⟩, h6⟩
            rw [e] at h7
            have := (mem_upTo.mp h7).1
            omega
        exact ⟨a, d + 2, by rw [h4, ← upTo_succ]⟩
theorem upTo_last (c : Int) (d : Nat) : (upTo c (d + 1)).getLast? = some (c + d) := by
  unfold upTo
  rw [List.range_succ]
  simp
theorem last_of {xs : List Int} (h : xs.Pairwise (· < ·)) {m : Int} (hm : m ∈ xs) (hl : ∀ x ∈ xs, x ≤ m) : xs.getLast? = some m := by
  have hne : xs ≠ [] := fun e => by rw [e] at hm; cases hm
  obtain ⟨i, l, e⟩ : ∃ i l, xs = i ++ [l] := ⟨xs.dropLast, xs.getLast hne, (List.dropLast_concat_getLast _).symm⟩
  subst e
  have h1 := hl l (by simp)
  have h2 : m ≤ l := by
    rcases List.mem_append.mp hm with h3 | h3
    · exact Int.le_of_lt ((List.pairwise_append.mp h).2.2 m h3 l (by simp))
    · rw [List.mem_singleton.mp h3]; exact Int.le_refl _
  simp
  omega
theorem upTo_pw (a : Int) (n : Nat) : (upTo a n).Pairwise (· < ·) := by
  unfold upTo
  rw [List.pairwise_map]
  exact List.pairwise_lt_range.imp fun {x y} hxy => by omega
/-! ### the view of a run -/
def vw (s : Sale) (bs : List Bid) : List (Nm × Int) × List Int := ((sts s (0, 0, 0) bs).map fun t => (t.1, t.2.1), outs s (0, 0, 0) 0 bs)
def viewF (s : Sale) (t : St3) (bs : List Bid) : List (Nm × Int) := (sts s t bs).map fun t => (t.1, t.2.1)
/-- three states alike but for their greatest amounts, that ascend -/
structure Tri (s : Sale) (t1 t2 t3 : St3) : Prop where
  i1 : InvS s t1
  i2 : InvS s t2
  i3 : InvS s t3
  n1 : t1.1 = t2.1
  n2 : t2.1 = t3.1
  p1 : t1.2.1 = t2.2.1
  p2 : t2.2.1 = t3.2.1
  a1 : t1.2.2 ≤ t2.2.2
  a2 : t2.2.2 ≤ t3.2.2
/-- the price that comes of a price and a greatest amount -/
def wp (s : Sale) (p a : Int) : Int := if s.res ≤ a then max p s.res else p
theorem wr_eq (s : Sale) (n : Nm) (p a : Int) : wr s (n, p, a) = (n, wp s p a, a) := by
  unfold wr wp
  by_cases h : s.res ≤ a
  · rw [if_pos h, if_pos h]
  · rw [if_neg h, if_neg h]
theorem wp_mono {s : Sale} {p q a b : Int} (h1 : p ≤ q) (h2 : a ≤ b) : wp s p a ≤ wp s q b := by
  unfold wp
  split <;> split <;> omega
theorem up_le {s : Sale} (hs : s.Ok) {p q : Int} (h0 : 0 ≤ p) (h : p ≤ q) : s.up p ≤ s.up q := by
  rcases Int.lt_or_eq_of_le h with h | h
  · exact Int.le_of_lt (up_mono hs h0 h)
  · rw [h]; exact Int.le_refl _
/-- an accepted bid, by its kind -/
theorem adv_form {s : Sale} {t : St3} {b : Bid} (h : rej s t b = false) : adv s t b = if t.1 = 0 then (b.1, wp s s.start b.2, b.2) else if b.1 = t.1 then (t.1, wp s t.2.1 b.2, b.2)
  else if b.2 ≤ t.2.2 then (t.1, wp s (min t.2.2 (s.up b.2)) t.2.2, t.2.2) else (b.1, wp s (min b.2 (s.up t.2.2)) b.2, b.2) := by
  unfold adv
  rw [h]
  simp only [wr_eq, Bool.false_eq_true, if_false]
theorem Tri.step {s : Sale} (hs : s.Ok) {t1 t2 t3 : St3} (T : Tri s t1 t2 t3) {b : Bid} (hb : OkB b) (hr : rej s t1 b = rej s t3 b) (hn : (adv s t1 b).1 = (adv s t3 b).1) (hp : (adv s t1 b).2.1 = (adv s t3 b).2.1) :
    rej s t2 b = rej s t1 b ∧ Tri s (adv s t1 b) (adv s t2 b) (adv s t3 b) := by
  obtain ⟨i1, i2, i3, n1, n2, p1, p2, a1, a2⟩ := T
  have j1 := adv_inv hs i1 hb
  have j2 := adv_inv hs i2 hb
  have j3 := adv_inv hs i3 hb
  have q1 := inv_price hs i1
  have q2 := inv_price hs i2
  have hb0 := hb.lo
  have hrr : rej s t2 b = rej s t1 b := by
    by_cases h0 : t1.1 = 0
    · have h02 : t2.1 = 0 := n1.symm.trans h0
      simp [rej, h0, h02]
    · have h02 : t2.1 ≠ 0 := fun e => h0 (n1.trans e)
      have h03 : t3.1 ≠ 0 := fun e => h02 (n2.trans e)
      by_cases h1 : b.1 = t1.1
      · have h12 : b.1 = t2.1 := h1.trans n1
        have h13 : b.1 = t3.1 := h12.trans n2
        simp only [rej, h0, h02, h03, if_false, if_pos h1, if_pos h12, if_pos h13, decide_eq_decide] at hr ⊢
        omega
      · have h12 : ¬ b.1 = t2.1 := fun e => h1 (e.trans n1.symm)
        simp only [rej, h0, h02, if_false, if_neg h1, if_neg h12, p1]
  refine ⟨hrr, ?_⟩
  cases hr1 : rej s t1 b with
  | true =>
    have hr3 : rej s t3 b = true := hr ▸ hr1
    have hr2 : rej s t2 b = true := hrr.trans hr1
    rw [adv_rej hr1, adv_rej hr2, adv_rej hr3]
    exact ⟨i1, i2, i3, n1, n2, p1, p2, a1, a2⟩
  | false =>
    have hr3 : rej s t3 b = false := hr ▸ hr1
    have hr2 : rej s t2 b = false := hrr.trans hr1
    by_cases h0 : t1.1 = 0
    · have h02 : t2.1 = 0 := n1.symm.trans h0
      have h03 : t3.1 = 0 := n2.symm.trans h02
      have e1 : adv s t1 b = (b.1, wp s s.start b.2, b.2) := by rw [adv_form hr1, if_pos h0]
      have e2 : adv s t2 b = (b.1, wp s s.start b.2, b.2) := by rw [adv_form hr2, if_pos h02]
      have e3 : adv s t3 b = (b.1, wp s s.start b.2, b.2) := by rw [adv_form hr3, if_pos h03]
      rw [e1] at j1 ⊢
      rw [e2, e3]
      exact ⟨j1, j1, j1, rfl, rfl, rfl, rfl, Int.le_refl _, Int.le_refl _⟩
    · have h02 : t2.1 ≠ 0 := fun e => h0 (n1.trans e)
      have h03 : t3.1 ≠ 0 := fun e => h02 (n2.trans e)
      by_cases h1 : b.1 = t1.1
      · have h12 : b.1 = t2.1 := h1.trans n1
        have h13 : b.1 = t3.1 := h12.trans n2
        have e1 : adv s t1 b = (t1.1, wp s t1.2.1 b.2, b.2) := by rw [adv_form hr1, if_neg h0, if_pos h1]
        have e2 : adv s t2 b = (t1.1, wp s t1.2.1 b.2, b.2) := by rw [adv_form hr2, if_neg h02, if_pos h12, n1, p1]
        have e3 : adv s t3 b = (t1.1, wp s t1.2.1 b.2, b.2) := by rw [adv_form hr3, if_neg h03, if_pos h13, n1, n2, p1, p2]
        rw [e1] at j1 ⊢
        rw [e2, e3]
        exact ⟨j1, j1, j1, rfl, rfl, rfl, rfl, Int.le_refl _, Int.le_refl _⟩
      · have h12 : ¬ b.1 = t2.1 := fun e => h1 (e.trans n1.symm)
        have h13 : ¬ b.1 = t3.1 := fun e => h12 (e.trans n2.symm)
        by_cases h2 : b.2 ≤ t1.2.2
        · have h22 : b.2 ≤ t2.2.2 := Int.le_trans h2 a1
          have h23 : b.2 ≤ t3.2.2 := Int.le_trans h22 a2
          have e1 : adv s t1 b = (t1.1, wp s (min t1.2.2 (s.up b.2)) t1.2.2, t1.2.2) := by rw [adv_form hr1, if_neg h0, if_neg h1, if_pos h2]
          have e2 : adv s t2 b = (t2.1, wp s (min t2.2.2 (s.up b.2)) t2.2.2, t2.2.2) := by rw [adv_form hr2, if_neg h02, if_neg h12, if_pos h22]
          have e3 : adv s t3 b = (t3.1, wp s (min t3.2.2 (s.up b.2)) t3.2.2, t3.2.2) := by rw [adv_form hr3, if_neg h03, if_neg h13, if_pos h23]
          have m1 : wp s (min t1.2.2 (s.up b.2)) t1.2.2 ≤ wp s (min t2.2.2 (s.up b.2)) t2.2.2 := wp_mono (by omega) a1
          have m2 : wp s (min t2.2.2 (s.up b.2)) t2.2.2 ≤ wp s (min t3.2.2 (s.up b.2)) t3.2.2 := wp_mono (by omega) a2
          rw [e1, e3] at hp
          simp only at hp
          refine ⟨j1, j2, j3, ?_, ?_, ?_, ?_, ?_, ?_⟩
          · rw [e1, e2]; exact n1
          · rw [e2, e3]; exact n2
          · rw [e1, e2]; simp only; omega
          · rw [e2, e3]; simp only; omega
          · rw [e1, e2]; exact a1
          · rw [e2, e3]; exact a2
        · have e1 : adv s t1 b = (b.1, wp s (min b.2 (s.up t1.2.2)) b.2, b.2) := by rw [adv_form hr1, if_neg h0, if_neg h1, if_neg h2]
          have h23 : ¬ b.2 ≤ t3.2.2 := fun e => by
            rw [e1, adv_form hr3, if_neg h03, if_neg h13, if_pos e] at hn
            exact h13 hn
          have h22 : ¬ b.2 ≤ t2.2.2 := fun e => h23 (Int.le_trans e a2)
          have e2 : adv s t2 b = (b.1, wp s (min b.2 (s.up t2.2.2)) b.2, b.2) := by rw [adv_form hr2, if_neg h02, if_neg h12, if_neg h22]
          have e3 : adv s t3 b = (b.1, wp s (min b.2 (s.up t3.2.2)) b.2, b.2) := by rw [adv_form hr3, if_neg h03, if_neg h13, if_neg h23]
          have u1 := up_le hs q1.2 a1
          have u2 := up_le hs q2.2 a2
          have m1 : wp s (min b.2 (s.up t1.2.2)) b.2 ≤ wp s (min b.2 (s.up t2.2.2)) b.2 := wp_mono (by omega) (Int.le_refl _)
          have m2 : wp s (min b.2 (s.up t2.2.2)) b.2 ≤ wp s (min b.2 (s.up t3.2.2)) b.2 := wp_mono (by omega) (Int.le_refl _)
          rw [e1, e3] at hp
          simp only at hp
          refine ⟨j1, j2, j3, ?_, ?_, ?_, ?_, ?_, ?_⟩
          · rw [e1, e2]
          · rw [e2, e3]
          · rw [e1, e2]; simp only; omega
          · rw [e2, e3]; simp only; omega
          · rw [e1, e2]; exact Int.le_refl _
          · rw [e2, e3]; exact Int.le_refl _
/-- one state, three bids of one bidder that ascend -/
theorem Tri.start {s : Sale} (hs : s.Ok) {t : St3} (hi : InvS s t) {n : Nm} {x y z : Int} (hx : OkB (n, x)) (hy : OkB (n, y)) (hz : OkB (n, z)) (h1 : x ≤ y) (h2 : y ≤ z)
    (hr : rej s t (n, x) = rej s t (n, z)) (hn : (adv s t (n, x)).1 = (adv s t (n, z)).1) (hp : (adv s t (n, x)).2.1 = (adv s t (n, z)).2.1) :
    rej s t (n, y) = rej s t (n, x) ∧ Tri s (adv s t (n, x)) (adv s t (n, y)) (adv s t (n, z)) := by
  have j1 := adv_inv hs hi hx
  have j2 := adv_inv hs hi hy
  have j3 := adv_inv hs hi hz
  have q := inv_price hs hi
  have hx0 := hx.lo
  simp only at hx0
  have hrr : rej s t (n, y) = rej s t (n, x) := by
    rw [rej_least, rej_least] at hr ⊢
    simp only [decide_eq_decide] at hr ⊢
    omega
  refine ⟨hrr, ?_⟩
  cases hr1 : rej s t (n, x) with
  | true =>
    have hr3 : rej s t (n, z) = true := hr ▸ hr1
    have hr2 : rej s t (n, y) = true := hrr.trans hr1
    rw [adv_rej hr1, adv_rej hr2, adv_rej hr3]
    exact ⟨hi, hi, hi, rfl, rfl, rfl, rfl, Int.le_refl _, Int.le_refl _⟩
  | false =>
    have hr3 : rej s t (n, z) = false := hr ▸ hr1
    have hr2 : rej s t (n, y) = false := hrr.trans hr1
    by_cases h0 : t.1 = 0
    · have e1 : adv s t (n, x) = (n, wp s s.start x, x) := by rw [adv_form hr1, if_pos h0]
      have e2 : adv s t (n, y) = (n, wp s s.start y, y) := by rw [adv_form hr2, if_pos h0]
      have e3 : adv s t (n, z) = (n, wp s s.start z, z) := by rw [adv_form hr3, if_pos h0]
      have m1 : wp s s.start x ≤ wp s s.start y := wp_mono (Int.le_refl _) h1
      have m2 : wp s s.start y ≤ wp s s.start z := wp_mono (Int.le_refl _) h2
      rw [e1, e3] at hp
      simp only at hp
      refine ⟨j1, j2, j3, ?_, ?_, ?_, ?_, ?_, ?_⟩
      · rw [e1, e2]
      · rw [e2, e3]
      · rw [e1, e2]; simp only; omega
      · rw [e2, e3]; simp only; omega
      · rw [e1, e2]; exact h1
      · rw [e2, e3]; exact h2
    · by_cases h3 : n = t.1
      · have e1 : adv s t (n, x) = (t.1, wp s t.2.1 x, x) := by rw [adv_form hr1, if_neg h0, if_pos h3]
        have e2 : adv s t (n, y) = (t.1, wp s t.2.1 y, y) := by rw [adv_form hr2, if_neg h0, if_pos h3]
        have e3 : adv s t (n, z) = (t.1, wp s t.2.1 z, z) := by rw [adv_form hr3, if_neg h0, if_pos h3]
        have m1 : wp s t.2.1 x ≤ wp s t.2.1 y := wp_mono (Int.le_refl _) h1
        have m2 : wp s t.2.1 y ≤ wp s t.2.1 z := wp_mono (Int.le_refl _) h2
        rw [e1, e3] at hp
        simp only at hp
        refine ⟨j1, j2, j3, ?_, ?_, ?_, ?_, ?_, ?_⟩
        · rw [e1, e2]
        · rw [e2, e3]
        · rw [e1, e2]; simp only; omega
        · rw [e2, e3]; simp only; omega
        · rw [e1, e2]; exact h1
        · rw [e2, e3]; exact h2
      · by_cases h4 : x ≤ t.2.2
        · have e1 : adv s t (n, x) = (t.1, wp s (min t.2.2 (s.up x)) t.2.2, t.2.2) := by rw [adv_form hr1, if_neg h0, if_neg h3, if_pos h4]
          have h6 : z ≤ t.2.2 := by
            by_cases h : z ≤ t.2.2
            · exact h
            · rw [e1, adv_form hr3, if_neg h0, if_neg h3, if_neg h] at hn
              exact absurd hn.symm h3
          have h5 : y ≤ t.2.2 := Int.le_trans h2 h6
          have e2 : adv s t (n, y) = (t.1, wp s (min t.2.2 (s.up y)) t.2.2, t.2.2) := by rw [adv_form hr2, if_neg h0, if_neg h3, if_pos h5]
          have e3 : adv s t (n, z) = (t.1, wp s (min t.2.2 (s.up z)) t.2.2, t.2.2) := by rw [adv_form hr3, if_neg h0, if_neg h3, if_pos h6]
          have u1 := up_le hs (p := x) (q := y) (by omega) h1
          have u2 := up_le hs (p := y) (q := z) (by omega) h2
          have m1 : wp s (min t.2.2 (s.up x)) t.2.2 ≤ wp s (min t.2.2 (s.up y)) t.2.2 := wp_mono (by omega) (Int.le_refl _)
          have m2 : wp s (min t.2.2 (s.up y)) t.2.2 ≤ wp s (min t.2.2 (s.up z)) t.2.2 := wp_mono (by omega) (Int.le_refl _)
          rw [e1, e3] at hp
          simp only at hp
          refine ⟨j1, j2, j3, ?_, ?_, ?_, ?_, ?_, ?_⟩
          · rw [e1, e2]
          · rw [e2, e3]
          · rw [e1, e2]; simp only; omega
          · rw [e2, e3]; simp only; omega
          · rw [e1, e2]; exact Int.le_refl _
          · rw [e2, e3]; exact Int.le_refl _
        · have h5 : ¬ y ≤ t.2.2 := by omega
          have h6 : ¬ z ≤ t.2.2 := by omega
          have e1 : adv s t (n, x) = (n, wp s (min x (s.up t.2.2)) x, x) := by rw [adv_form hr1, if_neg h0, if_neg h3, if_neg h4]
          have e2 : adv s t (n, y) = (n, wp s (min y (s.up t.2.2)) y, y) := by rw [adv_form hr2, if_neg h0, if_neg h3, if_neg h5]
          have e3 : adv s t (n, z) = (n, wp s (min z (s.up t.2.2)) z, z) := by rw [adv_form hr3, if_neg h0, if_neg h3, if_neg h6]
          have m1 : wp s (min x (s.up t.2.2)) x ≤ wp s (min y (s.up t.2.2)) y := wp_mono (by omega) h1
          have m2 : wp s (min y (s.up t.2.2)) y ≤ wp s (min z (s.up t.2.2)) z := wp_mono (by omega) h2
          rw [e1, e3] at hp
          simp only at hp
          refine ⟨j1, j2, j3, ?_, ?_, ?_, ?_, ?_, ?_⟩
          · rw [e1, e2]
          · rw [e2, e3]
          · rw [e1, e2]; simp only; omega
          · rw [e2, e3]; simp only; omega
          · rw [e1, e2]; exact h1
          · rw [e2, e3]; exact h2
theorem rej_out {s : Sale} {t1 t2 : St3} {b : Bid} {k : Int} {l1 l2 : List Int} (h1 : ∀ x ∈ l1, k < x) (h2 : ∀ x ∈ l2, k < x) (h : (if rej s t1 b then [k] else []) ++ l1 = (if rej s t2 b then [k] else []) ++ l2) : rej s t1 b = rej s t2 b ∧ l1 = l2 := by
  cases e1 : rej s t1 b <;> cases e2 : rej s t2 b <;> rw [e1, e2] at h <;> simp at h
  · exact ⟨rfl, h⟩
  · have := h1 k (by rw [h]; simp)
    omega
  · have := h2 k (by rw [← h]; simp)
    omega
  · exact ⟨rfl, h⟩
theorem tri_go {s : Sale} (hs : s.Ok) : ∀ (r : List Bid) (t1 t2 t3 : St3) (k : Int), (∀ b ∈ r, OkB b) → Tri s t1 t2 t3 → viewF s t1 r = viewF s t3 r → outs s t1 k r = outs s t3 k r → viewF s t2 r = viewF s t1 r ∧ outs s t2 k r = outs s t1 k r
  | [], t1, t2, t3, k, _, _, _, _ => ⟨rfl, rfl⟩
  | b :: r, t1, t2, t3, k, hb, T, hv, ho => by
    have hb0 := hb b (by simp)
    simp only [viewF, sts, List.map_cons, List.cons.injEq, Prod.mk.injEq] at hv
    simp only [outs] at ho
    obtain ⟨hr, ho2⟩ := rej_out (fun x hx => by have := outs_ge s r _ _ _ hx; omega) (fun x hx => by have := outs_ge s r _ _ _ hx; omega) ho
    obtain ⟨z1, T2⟩ := T.step hs hb0 hr hv.1.1 hv.1.2
    obtain ⟨w1, w2⟩ := tri_go hs r _ _ _ (k + 1) (fun c hc => hb c (by simp [hc])) T2 hv.2 ho2
    refine ⟨?_, ?_⟩
    · simp only [viewF, sts, List.map_cons, List.cons.injEq, Prod.mk.injEq]
      exact ⟨⟨T2.n1.symm, T2.p1.symm⟩, w1⟩
    · simp only [outs, z1, w2]
/-- amounts between two that look alike look alike too -/
theorem vw_conv {s : Sale} (hs : s.Ok) {p r : List Bid} {n : Nm} (hp : ∀ b ∈ p, OkB b) (hr : ∀ b ∈ r, OkB b) {x y z : Int} (hx : OkB (n, x)) (hy : OkB (n, y)) (hz : OkB (n, z)) (h1 : x ≤ y) (h2 : y ≤ z)
    (h : vw s (p ++ (n, x) :: r) = vw s (p ++ (n, z) :: r)) : vw s (p ++ (n, y) :: r) = vw s (p ++ (n, x) :: r) := by
  have hi := fin_inv hs p (0, 0, 0) hp (.inl rfl)
  have e : ∀ a, vw s (p ++ (n, a) :: r) = ((sts s (0, 0, 0) p).map (fun t => (t.1, t.2.1)) ++ viewF s (fin s (0, 0, 0) p) ((n, a) :: r), outs s (0, 0, 0) 0 p ++ outs s (fin s (0, 0, 0) p) (0 + p.length) ((n, a) :: r)) := fun a => by
    unfold vw viewF
    rw [sts_app, outs_app, List.map_append]
  rw [e, e] at h
  rw [e, e]
  simp only [Prod.mk.injEq, List.append_cancel_left_eq] at h ⊢
  generalize fin s (0, 0, 0) p = t at *
  generalize (0 : Int) + p.length = k at *
  obtain ⟨hv, ho⟩ := h
  simp only [viewF, sts, List.map_cons, List.cons.injEq, Prod.mk.injEq] at hv
  simp only [outs] at ho
  have hrr : rej s t (n, x) = rej s t (n, z) ∧ outs s (adv s t (n, x)) (k + 1) r = outs s (adv s t (n, z)) (k + 1) r := by
    have g1 : ∀ v ∈ outs s (adv s t (n, x)) (k + 1) r, k < v := fun v hv => by have := outs_ge s r _ _ _ hv; omega
    have g2 : ∀ v ∈ outs s (adv s t (n, z)) (k + 1) r, k < v := fun v hv => by have := outs_ge s r _ _ _ hv; omega
    generalize outs s (adv s t (n, x)) (k + 1) r = l1 at *
    generalize outs s (adv s t (n, z)) (k + 1) r = l2 at *
    cases e1 : rej s t (n, x) <;> cases e2 : rej s t (n, z) <;> rw [e1, e2] at ho <;> simp at ho
    · exact ⟨rfl, ho⟩
    · have := g1 k (by rw [ho]; simp)
      omega
    · have := g2 k (by rw [← ho]; simp)
      omega
    · exact ⟨rfl, ho⟩
  obtain ⟨z1, T⟩ := Tri.start hs hi hx hy hz h1 h2 hrr.1 hv.1.1 hv.1.2
  obtain ⟨w1, w2⟩ := tri_go hs r _ _ _ (k + 1) hr T hv.2 hrr.2
  refine ⟨?_, ?_⟩
  · simp only [viewF, sts, List.map_cons, List.cons.injEq, Prod.mk.injEq]
    exact ⟨⟨T.n1.symm, T.p1.symm⟩, w1⟩
  · simp only [outs, z1, w2]
end PD

/-! The mathematics: the draws of the later laws. -/
namespace PD
open PySem L2

def drT : MS := (mSeq (mSet 3 [] (mOp dMod (mOp dAdd (mOp dMul (mOp dMod (mVar 3) (mC (.int 2147483563))) (mC (.int 69069))) (mOp dMul (mC (.int 104723)) (mOp dAdd (mVar 1) (mC (.int 1))))) (mC (.int 2147483563))))
    (mSeq (mSet 3 [] (mOp dMod (mOp dAdd (mOp dMul (mVar 3) (mVar 3)) (mOp dDiv (mVar 3) (mC (.int 3)))) (mC (.int 2147483399))))
    (mRet [] (mOp dMod (mOp dDiv (mOp dMod (mOp dAdd (mOp dMul (mVar 3) (mVar 3)) (mOp dDiv (mVar 3) (mC (.int 7)))) (mC (.int 2147483647))) (mC (.int 11))) (mVar 2)))))
theorem drT_ok (a0 : Sl) (k many c : Int) (hm : 0 < many) (a4 a5 : Sl) : ∃ r, 0 ≤ r ∧ r < many ∧ drT [a0, .v (.int k), .v (.int many), .v (.int c), a4, a5] = .rt (.int r) := by
  generalize h1 : (c % 2147483563 * 69069 + 104723 * (k + 1)) % 2147483563 = c1
  have c10 : 0 ≤ c1 := by subst h1; exact Int.emod_nonneg _ (by decide)
  have c11 : c1 < 2147483563 := by subst h1; exact Int.emod_lt_of_pos _ (by decide)
  generalize h2 : (c1 * c1 + c1 / 3) % 2147483399 = c2
  have c20 : 0 ≤ c2 := by subst h2; exact Int.emod_nonneg _ (by decide)
  have c21 : c2 < 2147483399 := by subst h2; exact Int.emod_lt_of_pos _ (by decide)
  refine ⟨(c2 * c2 + c2 / 7) % 2147483647 / 11 % many, Int.emod_nonneg _ (by omega), Int.emod_lt_of_pos _ hm, ?_⟩
  have m1 : dMul (.int (c % 2147483563)) (.int 69069) = .ok (.int (c % 2147483563 * 69069)) := dMul_r (by decide) (by decide)
  have m2 : dMul (.int 104723) (.int (k + 1)) = .ok (.int (104723 * (k + 1))) := dMul_l (by decide) (by decide)
  have m3 : dMul (.int c1) (.int c1) = .ok (.int (c1 * c1)) := dMul_r (by omega) (by omega)
  have m4 : dMul (.int c2) (.int c2) = .ok (.int (c2 * c2)) := dMul_r (by omega) (by omega)
  have d1 : ∀ x : Int, dMod (.int x) (.int 2147483563) = .ok (.int (x % 2147483563)) := fun x => dMod_int (by decide)
  have d2 : ∀ x : Int, dMod (.int x) (.int 2147483399) = .ok (.int (x % 2147483399)) := fun x => dMod_int (by decide)
  have d3 : ∀ x : Int, dMod (.int x) (.int 2147483647) = .ok (.int (x % 2147483647)) := fun x => dMod_int (by decide)
  have d4 : ∀ x : Int, dMod (.int x) (.int many) = .ok (.int (x % many)) := fun x => dMod_int hm
  have v1 : ∀ x : Int, dDiv (.int x) (.int 3) = .ok (.int (x / 3)) := fun x => dDiv_int (by decide) (by decide)
  have v2 : ∀ x : Int, dDiv (.int x) (.int 7) = .ok (.int (x / 7)) := fun x => dDiv_int (by decide) (by decide)
  have v3 : ∀ x : Int, dDiv (.int x) (.int 11) = .ok (.int (x / 11)) := fun x => dDiv_int (by decide) (by decide)
  unfold drT
  refine seq_to (Γ1 := [a0, .v (.int k), .v (.int many), .v (.int c1), a4, a5]) (by simp [d1, m1, m2, h1]) ?_
  refine seq_to (Γ1 := [a0, .v (.int k), .v (.int many), .v (.int c2), a4, a5]) (by simp [d2, m3, v1, h2]) ?_
  simp [d3, d4, m4, v2, v3]
theorem dr_loop (a0 a1 a2 a3 : Sl) : ∀ (n : Nat) (rest turn : Int), 0 ≤ turn → turn < n → ∃ rest' turn', mWh [] (mAnd (mB (mOp dGt (mVar 5) (mC (.int 0)))) (mB (mOp dGt (mVar 4) (mC (.int 0))))) (mSeq (mSet 5 [] (mOp dDiv (mVar 5) (mC (.int 1000000)))) (mSet 4 [] (mOp dSub (mVar 4) (mC (.int 1))))) n
    [a0, a1, a2, a3, .v (.int turn), .v (.int rest)] = .nx [a0, a1, a2, a3, .v (.int turn'), .v (.int rest')]
  | 0, rest, turn, h0, h1 => absurd h1 (by simp; omega)
  | n + 1, rest, turn, h0, h1 => by
    by_cases h : 0 < rest ∧ 0 < turn
    · obtain ⟨r', g', e⟩ := dr_loop a0 a1 a2 a3 n (rest / 1000000) (turn - 1) (by omega) (by omega)
      refine ⟨r', g', ?_⟩
      rw [mWh_step (Γ1 := [a0, a1, a2, a3, .v (.int (turn - 1)), .v (.int (rest / 1000000))]) (by simp [h.1, h.2]) (by simp [dDiv_int])]
      exact e
    · refine ⟨rest, turn, mWh_end ?_⟩
      by_cases h1 : 0 < rest
      · have h2 : ¬ 0 < turn := fun z => h ⟨h1, z⟩
        simp [h1]; omega
      · simp [h1]
def drW : MS := (mWh [] (mAnd (mB (mOp dGt (mVar 5) (mC (.int 0)))) (mB (mOp dGt (mVar 4) (mC (.int 0))))) (mSeq (mSet 5 [] (mOp dDiv (mVar 5) (mC (.int 1000000)))) (mSet 4 [] (mOp dSub (mVar 4) (mC (.int 1))))) 1000)
theorem drawn_ex {ns : List Int} (hs : ns.length ≤ 63) {k many : Int} (h0 : 0 ≤ k) (hm : 0 < many) : ∃ r, 0 ≤ r ∧ r < many ∧ mDef m_law_drawn 6 [S ns, .int k, .int many] = .ok (.int r) := by
  have m7 : dMul (.int 7) (.int k) = .ok (.int (7 * k)) := dMul_l (by decide) (by decide)
  by_cases hn : ns = []
  · subst hn
    obtain ⟨r, r0, r1, e⟩ := drT_ok (.v (S [])) k many (7 * k) hm .no .no
    refine ⟨r, r0, r1, def_rt ?_⟩
    unfold m_law_drawn
    refine seq_to (Γ1 := [.v (S []), .v (.int k), .v (.int many), .v (.int (7 * k)), .no, .no]) (by simp [m7]) ?_
    refine seq_to (Γ1 := [.v (S []), .v (.int k), .v (.int many), .v (.int (7 * k)), .no, .no]) (by simp) ?_
    exact e
  · have hl : 0 < ns.length := List.length_pos_iff.mpr hn
    have hl2 : (0 : Int) < (ns.length : Nat) := by omega
    have hn2 : ns.isEmpty = false := by simp [hn]
    obtain ⟨c, hc⟩ := atI_mod hn k
    have hmod : dMod (.int k) (.int (ns.length : Nat)) = .ok (.int (k % (ns.length : Nat))) := dMod_int hl2
    have hdiv : dDiv (.int k) (.int (ns.length : Nat)) = .ok (.int (k / (ns.length : Nat))) := dDiv_int hl2 (by omega)
    have hpow : dPow (.int 10) (.int 18) = .ok (.int (10 ^ 18)) := rfl
    have hq0 : 0 ≤ k / (ns.length : Nat) := Int.ediv_nonneg h0 (by omega)
    have m1 : dMul (.int 6553) (.int (k / (ns.length : Nat))) = .ok (.int (6553 * (k / (ns.length : Nat)))) := dMul_l (by decide) (by decide)
    have hdiv2 : dDiv (.int c) (.int (10 ^ 18)) = .ok (.int (c / 10 ^ 18)) := dDiv_int (by decide) (by decide)
    have tail : ∀ a4 a5 : Sl, ∃ r, 0 ≤ r ∧ r < many ∧ drT [.v (S ns), .v (.int k), .v (.int many), .v (.int (c + 6553 * (k / (ns.length : Nat)))), a4, a5] = .rt (.int r) := fun a4 a5 => drT_ok _ k many _ hm a4 a5
    -- the inner branch
    have inner : (∃ r, 0 ≤ r ∧ r < many ∧ (mIfS [] (mAnd (mB (mOp dGe (mVar 3) (mOp dPow (mC (.int 10)) (mC (.int 18))))) (mB (mOp dLt (mVar 4) (mC (.int 60))))) (mSeq (mSet 5 [] (mOp dDiv (mVar 3) (mOp dPow (mC (.int 10)) (mC (.int 18)))))
    (mSeq drW
    (mIfS [] (mB (mOp dGt (mVar 5) (mC (.int 0)))) (mRet [] (mOp dMod (mOp dMod (mVar 5) (mC (.int 1000000))) (mVar 2))) mSkip))) mSkip) [.v (S ns), .v (.int k), .v (.int many), .v (.int c), .v (.int (k / (ns.length : Nat))), .no] = .rt (.int r)) ∨ ∃ a4 a5, (mIfS [] (mAnd (mB (mOp dGe (mVar 3) (mOp dPow (mC (.int 10)) (mC (.int 18))))) (mB (mOp dLt (mVar 4) (mC (.int 60))))) (mSeq (mSet 5 [] (mOp dDiv (mVar 3) (mOp dPow (mC (.int 10)) (mC (.int 18)))))
    (mSeq drW
    (mIfS [] (mB (mOp dGt (mVar 5) (mC (.int 0)))) (mRet [] (mOp dMod (mOp dMod (mVar 5) (mC (.int 1000000))) (mVar 2))) mSkip))) mSkip) [.v (S ns), .v (.int k), .v (.int many), .v (.int c), .v (.int (k / (ns.length : Nat))), .no] = .nx [.v (S ns), .v (.int k), .v (.int many), .v (.int c), a4, a5] := by
      by_cases hbig : (10 : Int) ^ 18 ≤ c ∧ k / (ns.length : Nat) < 60
      · obtain ⟨rest, turn, e⟩ := dr_loop (.v (S ns)) (.v (.int k)) (.v (.int many)) (.v (.int c)) 1000 (c / 10 ^ 18) (k / (ns.length : Nat)) hq0 (by omega)
        have ht : (mAnd (mB (mOp dGe (mVar 3) (mOp dPow (mC (.int 10)) (mC (.int 18))))) (mB (mOp dLt (mVar 4) (mC (.int 60))))) [.v (S ns), .v (.int k), .v (.int many), .v (.int c), .v (.int (k / (ns.length : Nat))), .no] = .ok true := by
          have := hbig.1
          simp only [Int.reducePow] at this
          simp [hpow, this, hbig.2]
        have s1 : (mSet 5 [] (mOp dDiv (mVar 3) (mOp dPow (mC (.int 10)) (mC (.int 18))))) [.v (S ns), .v (.int k), .v (.int many), .v (.int c), .v (.int (k / (ns.length : Nat))), .no] = .nx [.v (S ns), .v (.int k), .v (.int many), .v (.int c), .v (.int (k / (ns.length : Nat))), .v (.int (c / 10 ^ 18))] := by
          rw [ap_Set, mEv_nil, ap_Op, ap_Var, ap_Op, ap_C, ap_C]
          simp only [R.bind, hpow, gat_succ, gat_zero, hdiv2]
          rfl
        by_cases hr : 0 < rest
        · refine .inl ⟨rest % 1000000 % many, Int.emod_nonneg _ (by omega), Int.emod_lt_of_pos _ hm, ?_⟩
          rw [ap_IfS, mEvB_eq, fz_nil, ht]
          dsimp only
          rw [if_pos rfl]
          refine seq_to s1 ?_
          refine seq_to (show drW _ = _ from e) ?_
          simp [hr, dMod_int hm, dMod_int (show (0:Int) < 1000000 by decide)]
        · refine .inr ⟨.v (.int turn), .v (.int rest), ?_⟩
          rw [ap_IfS, mEvB_eq, fz_nil, ht]
          dsimp only
          rw [if_pos rfl]
          refine seq_to s1 ?_
          refine seq_to (show drW _ = _ from e) ?_
          simp [hr]
      · refine .inr ⟨.v (.int (k / (ns.length : Nat))), .no, ?_⟩
        have ht : (mAnd (mB (mOp dGe (mVar 3) (mOp dPow (mC (.int 10)) (mC (.int 18))))) (mB (mOp dLt (mVar 4) (mC (.int 60))))) [.v (S ns), .v (.int k), .v (.int many), .v (.int c), .v (.int (k / (ns.length : Nat))), .no] = .ok false := by
          simp only [Int.reducePow] at hbig
          by_cases h1 : (1000000000000000000 : Int) ≤ c
          · have h2 : ¬ k / (ns.length : Nat) < 60 := fun z => hbig ⟨h1, z⟩
            simp [hpow, h1]; omega
          · simp [hpow, h1]
        rw [ap_IfS, mEvB_eq, fz_nil, ht]
        rfl
    have s0 : (mSet 3 [] (mOp dMul (mC (.int 7)) (mVar 1))) [.v (S ns), .v (.int k), .v (.int many), .no, .no, .no] = .nx [.v (S ns), .v (.int k), .v (.int many), .v (.int (7 * k)), .no, .no] := by simp [m7]
    have t0 : (mB (mOp dNe (mVar 0) (mL mNil))) [.v (S ns), .v (.int k), .v (.int many), .v (.int (7 * k)), .no, .no] = .ok true := by simp [hn2]
    have s1 : (mSet 3 [] (mOp dIx (mVar 0) (mOp dMod (mVar 1) (mCall dLen (mCons (mVar 0) mNil))))) [.v (S ns), .v (.int k), .v (.int many), .v (.int (7 * k)), .no, .no] = .nx [.v (S ns), .v (.int k), .v (.int many), .v (.int c), .no, .no] := by simp [hmod, hc]
    have s2 : (mSet 4 [] (mOp dDiv (mVar 1) (mCall dLen (mCons (mVar 0) mNil)))) [.v (S ns), .v (.int k), .v (.int many), .v (.int c), .no, .no] = .nx [.v (S ns), .v (.int k), .v (.int many), .v (.int c), .v (.int (k / (ns.length : Nat))), .no] := by simp [hdiv]
    have s3 : ∀ a4 a5, (mSet 3 [] (mOp dAdd (mVar 3) (mOp dMul (mC (.int 6553)) (mOp dDiv (mVar 1) (mCall dLen (mCons (mVar 0) mNil)))))) [.v (S ns), .v (.int k), .v (.int many), .v (.int c), a4, a5] = .nx [.v (S ns), .v (.int k), .v (.int many), .v (.int (c + 6553 * (k / (ns.length : Nat)))), a4, a5] := fun a4 a5 => by simp [hdiv, m1]
    rcases inner with ⟨r, r0, r1, e⟩ | ⟨a4, a5, e⟩
    · refine ⟨r, r0, r1, def_rt ?_⟩
      unfold m_law_drawn
      refine seq_to s0 ?_
      rw [ap_Seq, ap_IfS, mEvB_eq, fz_nil, t0]
      dsimp only
      rw [if_pos rfl, ap_Seq, s1]
      dsimp only
      rw [ap_Seq, s2]
      dsimp only
      rw [ap_Seq]
      unfold drW at e
      rw [e]
    · obtain ⟨r, r0, r1, e2⟩ := tail a4 a5
      refine ⟨r, r0, r1, def_rt ?_⟩
      unfold m_law_drawn
      refine seq_to s0 ?_
      refine seq_to (Γ1 := [.v (S ns), .v (.int k), .v (.int many), .v (.int (c + 6553 * (k / (ns.length : Nat)))), a4, a5]) ?_ e2
      rw [ap_IfS, mEvB_eq, fz_nil, t0]
      dsimp only
      rw [if_pos rfl]
      refine seq_to s1 ?_
      refine seq_to s2 ?_
      unfold drW at e
      refine seq_to e ?_
      exact s3 a4 a5
def drawnF (ns : List Int) (k many : Int) : Int := match mDef m_law_drawn 6 [S ns, .int k, .int many] with
  | .ok (.int r) => r
  | _ => 0
theorem f_drawn {ns : List Int} (hs : ns.length ≤ 63) {k many : Int} (h0 : 0 ≤ k) (hm : 0 < many) : mDef m_law_drawn 6 [S ns, .int k, .int many] = .ok (.int (drawnF ns k many)) := by
  obtain ⟨r, _, _, e⟩ := drawn_ex hs h0 hm
  rw [e]
  unfold drawnF
  rw [e]
theorem drawn_b {ns : List Int} (hs : ns.length ≤ 63) {k many : Int} (h0 : 0 ≤ k) (hm : 0 < many) : 0 ≤ drawnF ns k many ∧ drawnF ns k many < many := by
  obtain ⟨r, a, b, e⟩ := drawn_ex hs h0 hm
  unfold drawnF
  rw [e]
  exact ⟨a, b⟩
end PD

/-! The mathematics: the sales and bids of the later laws. -/
namespace PD
open PySem L2

structure Sale.Mid (s : Sale) : Prop where
  ok : s.Ok
  len : s.steps.length ≤ 3
  rng : ∀ q ∈ s.steps, q.1 ≤ 42 ∧ q.2 ≤ 13
  st : s.start ≤ 15
  rs : s.res ≤ 44
theorem f_law_sale {ns : List Int} (hs : ns.length ≤ 63) {a : Int} (h0 : 0 ≤ a) : ∃ s : Sale, s.Mid ∧ mDef m_law_sale 6 [S ns, .int a] = .ok s.d := by
  obtain ⟨b0, b1⟩ := drawn_b hs (k := a) (many := 3) h0 (by decide)
  obtain ⟨c0, c1⟩ := drawn_b hs (k := a + 1) (many := 3) (by omega) (by decide)
  obtain ⟨d0, d1⟩ := drawn_b hs (k := a + 2 + 0) (many := 20) (by omega) (by decide)
  obtain ⟨e0, e1⟩ := drawn_b hs (k := a + 5 + 0) (many := 5) (by omega) (by decide)
  obtain ⟨f0, f1⟩ := drawn_b hs (k := a + 2 + 1) (many := 20) (by omega) (by decide)
  obtain ⟨g0, g1⟩ := drawn_b hs (k := a + 5 + 1) (many := 5) (by omega) (by decide)
  obtain ⟨i0, i1⟩ := drawn_b hs (k := a + 8) (many := 15) (by omega) (by decide)
  obtain ⟨j0, j1⟩ := drawn_b hs (k := a + 10) (many := 30) (by omega) (by decide)
  obtain ⟨k0, k1⟩ := drawn_b hs (k := a + 9) (many := 2) (by omega) (by decide)
  have p1 := f_drawn hs (k := a) (many := 3) h0 (by decide)
  have p2 := f_drawn hs (k := a + 1) (many := 3) (by omega) (by decide)
  have p3 := f_drawn hs (k := a + 2 + 0) (many := 20) (by omega) (by decide)
  have p4 := f_drawn hs (k := a + 5 + 0) (many := 5) (by omega) (by decide)
  have p5 := f_drawn hs (k := a + 2 + 1) (many := 20) (by omega) (by decide)
  have p6 := f_drawn hs (k := a + 5 + 1) (many := 5) (by omega) (by decide)
  have p7 := f_drawn hs (k := a + 8) (many := 15) (by omega) (by decide)
  have p8 := f_drawn hs (k := a + 10) (many := 30) (by omega) (by decide)
  have p9 := f_drawn hs (k := a + 9) (many := 2) (by omega) (by decide)
  generalize drawnF ns a 3 = q1 at *
  generalize drawnF ns (a + 1) 3 = q2 at *
  generalize drawnF ns (a + 2 + 0) 20 = q3 at *
  generalize drawnF ns (a + 5 + 0) 5 = q4 at *
  generalize drawnF ns (a + 2 + 1) 20 = q5 at *
  generalize drawnF ns (a + 5 + 1) 5 = q6 at *
  generalize drawnF ns (a + 8) 15 = q7 at *
  generalize drawnF ns (a + 10) 30 = q8 at *
  generalize drawnF ns (a + 9) 2 = q9 at *
  have hr : ∃ r : Int, 0 ≤ r ∧ r ≤ 29 ∧ oR (atI [PyData.int 0, PyData.int q8] q9) = .ok (.int r) := by
    have : q9 = 0 ∨ q9 = 1 := by omega
    rcases this with h | h <;> subst h
    · exact ⟨0, by decide, by decide, rfl⟩
    · exact ⟨q8, j0, by omega, rfl⟩
  obtain ⟨r, r0, r1, er⟩ := hr
  simp at p3 p4
  rcases three c0 c1 with h | h | h <;> subst h
  · refine ⟨⟨[(0, 1 + q1)], 1 + q7, 1 + q7 + r⟩, ⟨⟨by simp, ⟨_, _, rfl⟩, ?_, rfl, ?_, ?_⟩, by simp, ?_, ?_, ?_⟩, ?_⟩
    · simp; omega
    · simp; omega
    · simp; omega
    · simp; omega
    · simp; omega
    · simp; omega
    · apply def_rt
      have hg : rngD [.int 0] = .ok [] := rfl
      simp [m_law_sale, p1, p2, p3, p4, p5, p6, p7, p8, p9, hg, er, forGo, Sale.d, eSteps, eStep]
  · refine ⟨⟨[(0, 1 + q1), (0 + 1 + q3, 1 + q1 + 1 + q4)], 1 + q7, 1 + q7 + r⟩, ⟨⟨by simp, ⟨_, _, rfl⟩, ?_, ?_, ?_, ?_⟩, by simp, ?_, ?_, ?_⟩, ?_⟩
    · simp; omega
    · simp [asc]; omega
    · simp; omega
    · simp; omega
    · simp; omega
    · simp; omega
    · simp; omega
    · apply def_rt
      have hg : rngD [.int 1] = .ok [.int 0] := rfl
      have l1 : ∀ x : PyData, atI [x] (-1) = some x := fun x => atI_last [] x
      simp [m_law_sale, p1, p2, p3, p4, p5, p6, p7, p8, p9, hg, er, forGo, Sale.d, eSteps, eStep, l1]
  · refine ⟨⟨[(0, 1 + q1), (0 + 1 + q3, 1 + q1 + 1 + q4), (0 + 1 + q3 + 1 + q5, 1 + q1 + 1 + q4 + 1 + q6)], 1 + q7, 1 + q7 + r⟩, ⟨⟨by simp, ⟨_, _, rfl⟩, ?_, ?_, ?_, ?_⟩, by simp, ?_, ?_, ?_⟩, ?_⟩
    · simp; omega
    · simp [asc]; omega
    · simp; omega
    · simp; omega
    · simp; omega
    · simp; omega
    · simp; omega
    · apply def_rt
      have hg : rngD [.int 2] = .ok [.int 0, .int 1] := rfl
      have l1 : ∀ x : PyData, atI [x] (-1) = some x := fun x => atI_last [] x
      have l2 : ∀ x y : PyData, atI [x, y] (-1) = some y := fun x y => atI_last [x] y
      simp [m_law_sale, p1, p2, p3, p4, p5, p6, p7, p8, p9, hg, er, forGo, Sale.d, eSteps, eStep, l1, l2]
def bidsBody : MS := (mSeq (mSet 5 [] (mOp dAdd (mC (.int 1)) (mCall (mDef m_law_drawn 6) (mCons (mVar 0) (mCons (mOp dAdd (mOp dAdd (mVar 1) (mC (.int 1))) (mOp dMul (mC (.int 3)) (mVar 4))) (mCons (mOp dIx (mL (mCons (mC (.int 40)) (mCons (mC (.int 200)) (mCons (mC (.int 40)) mNil)))) (mCall (mDef m_law_drawn 6) (mCons (mVar 0) (mCons (mOp dAdd (mOp dAdd (mVar 1) (mC (.int 3))) (mOp dMul (mC (.int 3)) (mVar 4))) (mCons (mC (.int 3)) mNil))))) mNil))))))
    (mApp 3 [] (mTup (mCons (mOp dIx (mC (.str (PySem.Str.ofString "abcdef"))) (mCall (mDef m_law_drawn 6) (mCons (mVar 0) (mCons (mOp dAdd (mOp dAdd (mVar 1) (mC (.int 2))) (mOp dMul (mC (.int 3)) (mVar 4))) (mCons (mC (.int 6)) mNil))))) (mCons (mVar 5) mNil)))))
theorem bids_loop {ns : List Int} (hs : ns.length ≤ 63) {a : Int} (h0 : 0 ≤ a) (a2 : Sl) : ∀ (n : Nat) (k : Nat) (l : List Bid) (x4 x5 : Sl), (∀ b ∈ l, OkB b) → l.length + n ≤ 100 → ∃ (l' : List Bid) (y4 y5 : Sl),
    forGo (bName 4) bidsBody ((upTo (k : Nat) n).map .int) [.v (S ns), .v (.int a), a2, .own (l.map eB), x4, x5] = .nx [.v (S ns), .v (.int a), a2, .own (l'.map eB), y4, y5] ∧ (∀ b ∈ l', OkB b) ∧ l'.length = l.length + n
  | 0, k, l, x4, x5, hl, _ => ⟨l, x4, x5, rfl, hl, rfl⟩
  | n + 1, k, l, x4, x5, hl, hq => by
    have mk : dMul (.int 3) (.int (k : Nat)) = .ok (.int (3 * (k : Int))) := dMul_l (by decide) (by decide)
    obtain ⟨b1, c1⟩ := drawn_b hs (k := a + 3 + 3 * (k : Int)) (many := 3) (by omega) (by decide)
    have p1 := f_drawn hs (k := a + 3 + 3 * (k : Int)) (many := 3) (by omega) (by decide)
    obtain ⟨m, hm0, hm1, em⟩ : ∃ m : Int, 0 < m ∧ m ≤ 200 ∧ oR (atI [PyData.int 40, PyData.int 200, PyData.int 40] (drawnF ns (a + 3 + 3 * (k : Int)) 3)) = .ok (.int m) := by
      rcases three b1 c1 with h | h | h <;> rw [h]
      · exact ⟨40, by decide, by decide, rfl⟩
      · exact ⟨200, by decide, by decide, rfl⟩
      · exact ⟨40, by decide, by decide, rfl⟩
    obtain ⟨b2, c2⟩ := drawn_b hs (k := a + 1 + 3 * (k : Int)) (many := m) (by omega) hm0
    have p2 := f_drawn hs (k := a + 1 + 3 * (k : Int)) (many := m) (by omega) hm0
    obtain ⟨b3, c3⟩ := drawn_b hs (k := a + 2 + 3 * (k : Int)) (many := 6) (by omega) (by decide)
    have p3 := f_drawn hs (k := a + 2 + 3 * (k : Int)) (many := 6) (by omega) (by decide)
    have pl := letter_at b3 c3
    generalize drawnF ns (a + 3 + 3 * (k : Int)) 3 = q1 at *
    generalize drawnF ns (a + 1 + 3 * (k : Int)) m = q2 at *
    generalize drawnF ns (a + 2 + 3 * (k : Int)) 6 = q3 at *
    have hb : OkB (nmAt q3.toNat, 1 + q2) := ⟨nmAt_lt (by omega), by simp; omega, by simp; omega⟩
    have q : l.length < 100000 := by omega
    obtain ⟨l', y4, y5, ih, g1, g2⟩ := bids_loop hs h0 a2 n (k + 1) (l ++ [(nmAt q3.toNat, 1 + q2)]) (.v (.int (k : Nat))) (.v (.int (1 + q2))) (ok_more hl hb) (by simp; omega)
    refine ⟨l', y4, y5, ?_, g1, by rw [g2]; simp; omega⟩
    rw [upTo_succ, List.map_cons]
    unfold forGo
    have key : bidsBody [.v (S ns), .v (.int a), a2, .own (l.map eB), .v (.int (k : Nat)), x5] = .nx [.v (S ns), .v (.int a), a2, .own ((l ++ [(nmAt q3.toNat, 1 + q2)]).map eB), .v (.int (k : Nat)), .v (.int (1 + q2))] := by
      simp [bidsBody, mk, p1, em, p2, p3, pl, q, eB]
    rw [ap_Name]
    dsimp only [List.set]
    rw [key]
    dsimp only
    exact ih
theorem f_law_bids {ns : List Int} (hs : ns.length ≤ 63) {a most : Int} (h0 : 0 ≤ a) (m0 : 0 ≤ most) (m1 : most ≤ 50) : ∃ bs : List Bid, (bs.length : Int) ≤ most ∧ (∀ b ∈ bs, OkB b) ∧ mDef m_law_bids 6 [S ns, .int a, .int most] = .ok (eBs bs) := by
  have p := f_drawn hs (k := a) (many := most + 1) h0 (by omega)
  obtain ⟨b, c⟩ := drawn_b hs (k := a) (many := most + 1) h0 (by omega)
  generalize drawnF ns a (most + 1) = q at *
  obtain ⟨n, rfl⟩ : ∃ n : Nat, q = n := ⟨q.toNat, by omega⟩
  obtain ⟨l, y4, y5, e, h1, h2⟩ := bids_loop hs h0 (.v (.int most)) n 0 [] .no .no (by simp) (by simp; omega)
  refine ⟨l, by rw [h2]; simp; omega, h1, def_rt ?_⟩
  unfold m_law_bids
  refine seq_to (Γ1 := [.v (S ns), .v (.int a), .v (.int most), .own [], .no, .no]) (by simp) ?_
  refine seq_to (by
    rw [ap_For, mEvL_eq, fz_nil]
    simp [p, rng1 (n := n) (by omega)]
    simp at e
    exact e) ?_
  simp [eBs]
end PD

/-! The mathematics: timed bids. -/
namespace PD
open PySem L2

abbrev Timed := Int × Bid
def eT (t : Timed) : PyData := .tuple [.int t.1, eN t.2.1, .int t.2.2]
def eTs (ts : List Timed) : PyData := .list (ts.map eT)
structure OkT (ts : List Timed) : Prop where
  ok : ∀ t ∈ ts, OkB t.2 ∧ 0 ≤ t.1 ∧ t.1 ≤ 100
  up : ts.Pairwise fun a b => a.1 ≤ b.1
  len : ts.length ≤ 8
def tmBody : MS := (mSeq (mApp 3 [] (mOp dAdd (mTup (mCons (mVar 4) mNil)) (mVar 6)))
    (mSet 4 [] (mOp dAdd (mVar 4) (mCall (mDef m_law_drawn 6) (mCons (mVar 0) (mCons (mOp dAdd (mOp dAdd (mVar 1) (mC (.int 1))) (mVar 5)) (mCons (mC (.int 8)) mNil)))))))
theorem tm_loop {ns : List Int} (hs : ns.length ≤ 63) {a : Int} (h0 : 0 ≤ a) (a2 : Sl) : ∀ (r : List Bid) (k : Nat) (l : List Timed) (time : Int) (x5 x6 : Sl), 0 ≤ time → (∀ t ∈ l, t.1 ≤ time) → l.Pairwise (fun a b => a.1 ≤ b.1) → l.length + r.length ≤ 100 → ∃ (l' : List Timed) (y4 y5 y6 : Sl),
    forGo (bTup [(bName 5), (bName 6)]) tmBody (enumFrom k (r.map eB)) [.v (S ns), .v (.int a), a2, .own (l.map eT), .v (.int time), x5, x6] = .nx [.v (S ns), .v (.int a), a2, .own (l'.map eT), y4, y5, y6] ∧ (∃ q, l' = l ++ q ∧ q.map (·.2) = r ∧ ∀ t ∈ q, time ≤ t.1 ∧ t.1 ≤ time + 7 * r.length) ∧ l'.Pairwise fun a b => a.1 ≤ b.1
  | [], k, l, time, x5, x6, _, _, hp, _ => ⟨l, _, _, _, rfl, ⟨[], by simp, rfl, by simp⟩, hp⟩
  | b :: r, k, l, time, x5, x6, t0, hl, hp, hq => by
    have p := f_drawn hs (k := a + 1 + (k : Int)) (many := 8) (by omega) (by decide)
    obtain ⟨d0, d1⟩ := drawn_b hs (k := a + 1 + (k : Int)) (many := 8) (by omega) (by decide)
    generalize drawnF ns (a + 1 + (k : Int)) 8 = d at *
    simp only [List.length_cons] at hq
    obtain ⟨l', y4, y5, y6, ih, ⟨q, q1, q2, q3⟩, g2⟩ := tm_loop hs h0 a2 r (k + 1) (l ++ [(time, b)]) (time + d) (.v (.int (k : Nat))) (.v (eB b)) (by omega)
      (fun t ht => by
        rcases List.mem_append.mp ht with h | h
        · have := hl t h; omega
        · rw [List.mem_singleton.mp h]; simp only; omega)
      (List.pairwise_append.mpr ⟨hp, List.pairwise_singleton _ _, fun x hx y hy => by rw [List.mem_singleton.mp hy]; exact hl x hx⟩) (by simp; omega)
    have q0 : l.length < 100000 := by omega
    refine ⟨l', y4, y5, y6, ?_, ⟨(time, b) :: q, by rw [q1]; simp, by simp [q2], fun t ht => ?_⟩, g2⟩
    · rw [List.map_cons]
      unfold enumFrom forGo
      have e0 : bTup [bName 5, bName 6] (.tuple [.int (k : Nat), eB b]) [.v (S ns), .v (.int a), a2, .own (l.map eT), .v (.int time), x5, x6] = some [.v (S ns), .v (.int a), a2, .own (l.map eT), .v (.int time), .v (.int (k : Nat)), .v (eB b)] := rfl
      rw [e0]
      have e1 : dAdd (.tuple [.int time]) (.tuple [eN b.1, .int b.2]) = .ok (eT (time, b)) := rfl
      have key : tmBody [.v (S ns), .v (.int a), a2, .own (l.map eT), .v (.int time), .v (.int (k : Nat)), .v (eB b)] = .nx [.v (S ns), .v (.int a), a2, .own ((l ++ [(time, b)]).map eT), .v (.int (time + d)), .v (.int (k : Nat)), .v (eB b)] := by
        simp [tmBody, eB, e1, q0, p]
      dsimp only
      rw [key]
      dsimp only
      exact ih
    · simp only [List.length_cons]
      rcases List.mem_cons.mp ht with h | h
      · rw [h]; simp only; omega
      · have := q3 t h; omega
theorem f_law_timed {ns : List Int} (hs : ns.length ≤ 63) {a : Int} (h0 : 0 ≤ a) {bs : List Bid} (hb : ∀ b ∈ bs, OkB b) (hl : bs.length ≤ 8) : ∃ ts : List Timed, OkT ts ∧ ts.map (·.2) = bs ∧ (∀ t ∈ ts, t.1 ≤ 67) ∧ mDef m_law_timed 7 [S ns, .int a, eBs bs] = .ok (eTs ts) := by
  have p := f_drawn hs (k := a) (many := 12) h0 (by decide)
  obtain ⟨d0, d1⟩ := drawn_b hs (k := a) (many := 12) h0 (by decide)
  generalize drawnF ns a 12 = d at *
  obtain ⟨l, y4, y5, y6, e, ⟨q, q1, q2, q3⟩, g⟩ := tm_loop hs h0 (.v (eBs bs)) bs 0 [] d .no .no d0 (by simp) List.Pairwise.nil (by simp; omega)
  simp only [List.nil_append] at q1
  subst q1
  have hlen : l.length = bs.length := by rw [← q2]; simp
  refine ⟨l, ⟨fun t ht => ⟨hb _ (by rw [← q2]; exact List.mem_map_of_mem ht), ?_⟩, g, by omega⟩, q2, fun t ht => ?_, def_rt ?_⟩
  · have := q3 t ht; omega
  · have := q3 t ht; omega
  · unfold m_law_timed
    refine seq_to (Γ1 := [.v (S ns), .v (.int a), .v (eBs bs), .own [], .v (.int d), .no, .no]) (by simp [p]) ?_
    refine seq_to (by
      rw [ap_For, mEvL_eq, fz_nil]
      simp [eBs]
      simp [eBs] at e
      exact e) ?_
    simp [eTs]
/-! ### judging -/
theorem f_is_timed {t : Timed} (h : OkB t.2 ∧ 0 ≤ t.1 ∧ t.1 ≤ 100) : mDef m_is_timed 1 [eT t] = .ok (.bool true) := by
  apply def_rt
  have hb := f_is_bid h.1
  simp only [eB] at hb
  have e : cutG [PyData.int t.1, eN t.2.1, PyData.int t.2.2] (some 1) none = [eN t.2.1, PyData.int t.2.2] := cutG_1 _
  simp [m_is_timed, eT, f_is_int, isInt, h.2.1, h.2.2, e, hb]
theorem zip_map {α : Type} (f : α → PyData) : ∀ ts : List α, zipL (ts.map f) ((ts.map f).drop 1) = (ts.zip (ts.drop 1)).map fun p => .tuple [f p.1, f p.2]
  | [] => rfl
  | [a] => rfl
  | a :: b :: r => by
    have ih := zip_map f (b :: r)
    simp only [List.map_cons, List.drop_succ_cons, List.drop_zero] at ih ⊢
    simp only [zipL, ih, List.zip_cons_cons, List.map_cons]
theorem zip_pw {α : Type} {R : α → α → Prop} : ∀ ts : List α, ts.Pairwise R → ∀ p ∈ ts.zip (ts.drop 1), R p.1 p.2
  | [], _, p, h => by simp at h
  | [a], _, p, h => by simp at h
  | a :: b :: r, hp, p, h => by
    simp only [List.drop_succ_cons, List.drop_zero, List.zip_cons_cons] at h
    rcases List.mem_cons.mp h with h | h
    · rw [h]; exact (List.pairwise_cons.mp hp).1 b (by simp)
    · exact zip_pw (b :: r) (List.pairwise_cons.mp hp).2 p (by simpa using h)
theorem f_check_timed {s : Sale} (hs : s.Ok) {ts : List Timed} (h : OkT ts) {e : Int} (e0 : 0 ≤ e) (e1 : e ≤ 100) : mDef m_check_timed 5 [s.d, eTs ts, .int e] = .ok .none := by
  have a1 : lcGo (bName 3) mT (mCall (mDef m_is_timed 1) (mCons (mVar 3) mNil)) [.v s.d, .v (eTs ts), .v (.int e), .no, .no] (ts.map eT) = .ok (ts.map fun _ => .bool true) :=
    lcGo_all eT _ _ fun x hx => ⟨_, rfl, rfl, by simp [f_is_timed (h.ok x hx)]⟩
  have a2 : dAll [.list (ts.map fun _ => .bool true)] = .ok (.bool true) := by
    have := dAll_mapf (fun _ : Timed => true) ts
    simpa using this
  have a3 : ¬ (8 : Int) < (ts.length : Int) := by have := h.len; omega
  have a4 : lcGo (bTup [bName 3, bName 4]) mT (mOp dLe (mOp dIx (mVar 3) (mC (.int 0))) (mOp dIx (mVar 4) (mC (.int 0)))) [.v s.d, .v (eTs ts), .v (.int e), .no, .no] ((ts.zip (ts.drop 1)).map fun p => .tuple [eT p.1, eT p.2]) = .ok ((ts.zip (ts.drop 1)).map fun _ => .bool true) :=
    lcGo_all (fun p : Timed × Timed => .tuple [eT p.1, eT p.2]) _ _ fun x hx => ⟨_, rfl, rfl, by
      have := zip_pw ts h.up x hx
      simp [eT, this]⟩
  have a5 : dAll [.list ((ts.zip (ts.drop 1)).map fun _ => .bool true)] = .ok (.bool true) := by
    have := dAll_mapf (fun _ : Timed × Timed => true) (ts.zip (ts.drop 1))
    simpa using this
  have a6 := zip_map eT ts
  have a7 : cutG (ts.map eT) (some 1) none = (ts.map eT).drop 1 := cutG_1 _
  apply def_nx (Γ := [.v s.d, .v (eTs ts), .v (.int e), .no, .no])
  unfold m_check_timed
  refine seq_to (Γ1 := [.v s.d, .v (eTs ts), .v (.int e), .no, .no]) (by simp [f_check_sale hs]) ?_
  refine seq_to (Γ1 := [.v s.d, .v (eTs ts), .v (.int e), .no, .no]) (by
    simp only [eTs] at a1 ⊢
    simp only [List.map_const'] at a1 a2
    simp [a1, a2, a3]) ?_
  refine seq_to (Γ1 := [.v s.d, .v (eTs ts), .v (.int e), .no, .no]) (by
    simp only [eTs] at a4 ⊢
    generalize (ts.zip (ts.drop 1)).map (fun p => PyData.tuple [eT p.1, eT p.2]) = zz at *
    generalize (ts.zip (ts.drop 1)).map (fun _ => PyData.bool true) = bb at *
    generalize (ts.map eT).drop 1 = dd at *
    simp [a7, a6, a4, a5]) ?_
  simp [f_is_int, isInt, e0, e1]
theorem f_check_span {sp : Int} (h0 : 0 ≤ sp) (h1 : sp ≤ 20) : mDef m_check_span 1 [.int sp] = .ok .none := by
  apply def_nx (Γ := [.v (.int sp)])
  simp [m_check_span, f_is_int, isInt, h0, h1]
theorem f_check_all {s : Sale} (hs : s.Ok) {ts : List Timed} (h : OkT ts) {e sp : Int} (e0 : 0 ≤ e) (e1 : e ≤ 100) (s0 : 0 ≤ sp) (s1 : sp ≤ 20) : mDef m_check_all 4 [s.d, eTs ts, .int e, .int sp] = .ok .none := by
  apply def_nx (Γ := [.v s.d, .v (eTs ts), .v (.int e), .v (.int sp)])
  simp [m_check_all, f_check_timed hs h e0 e1, f_check_span s0 s1]
/-! ### the end -/
def fe (s : Sale) (span : Int) : Int → Int → St3 → List Timed → Int × Int × St3
  | e, m, t, [] => (e, m, t)
  | e, m, t, b :: r => if e < b.1 then (e, m, t) else if rej s t b.2 then fe s span e (m + 1) t r else fe s span (max e (b.1 + span)) (m + 1) (adv s t b.2) r
def eFE (x : Int × Int × St3) : PyData := .tuple [.int x.1, .int x.2.1, eSt x.2.2]
def feBody : MS := (mSeq (mIfS [] (mB (mOp dGt (mVar 6) (mVar 2))) (mRet [] (mTup (mCons (mVar 2) (mCons (mVar 5) (mCons (mVar 4) mNil))))) mSkip)
    (mSeq (mSet 5 [] (mOp dAdd (mVar 5) (mC (.int 1))))
    (mIfS [] (mNot (mB (mCall (mDef m_is_refused 6) (mCons (mVar 0) (mCons (mVar 4) (mCons (mTup (mCons (mVar 7) (mCons (mVar 8) mNil))) mNil)))))) (mSeq (mSet 4 [] (mCall (mDef m_advance 6) (mCons (mVar 0) (mCons (mVar 4) (mCons (mTup (mCons (mVar 7) (mCons (mVar 8) mNil))) mNil)))))
    (mSet 2 [] (mIf (mB (mOp dLe (mOp dSub (mVar 2) (mVar 6)) (mVar 3))) (mCall dMax (mCons (mVar 2) (mCons (mOp dAdd (mVar 6) (mVar 3)) mNil))) (mVar 2)))) mSkip)))
theorem fe_loop {s : Sale} (hs : s.Ok) (a1 : Sl) (span : Int) : ∀ (r : List Timed) (e m : Int) (t : St3) (x6 x7 x8 : Sl), (∀ b ∈ r, OkB b.2) → InvS s t →
    forGo (bTup [(bName 6), (bName 7), (bName 8)]) feBody (r.map eT) [.v s.d, a1, .v (.int e), .v (.int span), .v (eSt t), .v (.int m), x6, x7, x8] = .rt (eFE (fe s span e m t r)) ∨
    ∃ y6 y7 y8, forGo (bTup [(bName 6), (bName 7), (bName 8)]) feBody (r.map eT) [.v s.d, a1, .v (.int e), .v (.int span), .v (eSt t), .v (.int m), x6, x7, x8] = .nx [.v s.d, a1, .v (.int (fe s span e m t r).1), .v (.int span), .v (eSt (fe s span e m t r).2.2), .v (.int (fe s span e m t r).2.1), y6, y7, y8]
  | [], e, m, t, x6, x7, x8, _, _ => .inr ⟨x6, x7, x8, rfl⟩
  | b :: r, e, m, t, x6, x7, x8, hb, hi => by
    have hb0 := hb b (by simp)
    have hr := f_is_refused hs hi b.2
    have ha := f_advance hs hi hb0
    simp only [eB] at hr ha
    have e0 : bTup [bName 6, bName 7, bName 8] (eT b) [.v s.d, a1, .v (.int e), .v (.int span), .v (eSt t), .v (.int m), x6, x7, x8] = some [.v s.d, a1, .v (.int e), .v (.int span), .v (eSt t), .v (.int m), .v (.int b.1), .v (eN b.2.1), .v (.int b.2.2)] := rfl
    rw [List.map_cons]
    by_cases h1 : e < b.1
    · refine .inl ?_
      unfold forGo
      rw [e0]
      have : feBody [.v s.d, a1, .v (.int e), .v (.int span), .v (eSt t), .v (.int m), .v (.int b.1), .v (eN b.2.1), .v (.int b.2.2)] = .rt (eFE (e, m, t)) := by simp [feBody, h1, eFE]
      dsimp only
      rw [this]
      simp only [fe, if_pos h1]
    · cases hrj : rej s t b.2 with
      | true =>
        have key : feBody [.v s.d, a1, .v (.int e), .v (.int span), .v (eSt t), .v (.int m), .v (.int b.1), .v (eN b.2.1), .v (.int b.2.2)] = .nx [.v s.d, a1, .v (.int e), .v (.int span), .v (eSt t), .v (.int (m + 1)), .v (.int b.1), .v (eN b.2.1), .v (.int b.2.2)] := by simp [feBody, h1, hr, hrj]
        have ih := fe_loop hs a1 span r e (m + 1) t (.v (.int b.1)) (.v (eN b.2.1)) (.v (.int b.2.2)) (fun c hc => hb c (by simp [hc])) hi
        have ef : fe s span e m t (b :: r) = fe s span e (m + 1) t r := by simp only [fe, if_neg h1, hrj, if_true]
        rw [ef]
        unfold forGo
        rw [e0]
        dsimp only
        rw [key]
        exact ih
      | false =>
        have hm : (if e - b.1 ≤ span then R.ok (PyData.int (if b.1 + span > e then b.1 + span else e)) else .ok (.int e)) = .ok (.int (max e (b.1 + span))) := by
          by_cases hh : e - b.1 ≤ span
          · rw [if_pos hh]; congr 2; omega
          · rw [if_neg hh]; congr 2; omega
        have key : feBody [.v s.d, a1, .v (.int e), .v (.int span), .v (eSt t), .v (.int m), .v (.int b.1), .v (eN b.2.1), .v (.int b.2.2)] = .nx [.v s.d, a1, .v (.int (max e (b.1 + span))), .v (.int span), .v (eSt (adv s t b.2)), .v (.int (m + 1)), .v (.int b.1), .v (eN b.2.1), .v (.int b.2.2)] := by
          by_cases hh : e - b.1 ≤ span
          · rw [if_pos hh] at hm
            simp only [R.ok.injEq, PyData.int.injEq] at hm
            simp [feBody, h1, hr, hrj, ha, hh, -dMax_int, dMax_mx]
          · have : max e (b.1 + span) = e := by omega
            simp [feBody, h1, hr, hrj, ha, hh, this]
        have ih := fe_loop hs a1 span r (max e (b.1 + span)) (m + 1) (adv s t b.2) (.v (.int b.1)) (.v (eN b.2.1)) (.v (.int b.2.2)) (fun c hc => hb c (by simp [hc])) (adv_inv hs hi hb0)
        have ef : fe s span e m t (b :: r) = fe s span (max e (b.1 + span)) (m + 1) (adv s t b.2) r := by simp only [fe, if_neg h1, hrj, Bool.false_eq_true, if_false]
        rw [ef]
        unfold forGo
        rw [e0]
        dsimp only
        rw [key]
        exact ih
theorem f_find_end {s : Sale} (hs : s.Ok) {ts : List Timed} (h : ∀ b ∈ ts, OkB b.2) (e span : Int) : mDef m_find_end 9 [s.d, eTs ts, .int e, .int span] = .ok (eFE (fe s span e 0 (0, 0, 0) ts)) := by
  apply def_rt
  unfold m_find_end
  refine seq_to (Γ1 := [.v s.d, .v (eTs ts), .v (.int e), .v (.int span), .v (eSt (0, 0, 0)), .v (.int 0), .no, .no, .no]) (by simp [c_nobody]) ?_
  have hf : (mFor [] (mItems (mVar 1)) (bTup [(bName 6), (bName 7), (bName 8)]) feBody) [.v s.d, .v (eTs ts), .v (.int e), .v (.int span), .v (eSt (0, 0, 0)), .v (.int 0), .no, .no, .no] = forGo (bTup [(bName 6), (bName 7), (bName 8)]) feBody (ts.map eT) [.v s.d, .v (eTs ts), .v (.int e), .v (.int span), .v (eSt (0, 0, 0)), .v (.int 0), .no, .no, .no] := by
    rw [ap_For, mEvL_eq, fz_nil]
    simp [eTs]
  rcases fe_loop hs (.v (eTs ts)) span ts e 0 (0, 0, 0) .no .no .no h (.inl rfl) with g | ⟨y6, y7, y8, g⟩
  · rw [ap_Seq]
    unfold feBody at hf g
    rw [hf, g]
  · refine seq_to (hf.trans g) ?_
    simp [eFE]
section
variable {s : Sale} (hs : s.Ok) {ts : List Timed} (h : OkT ts) {e sp : Int} (e0 : 0 ≤ e) (e1 : e ≤ 100) (s0 : 0 ≤ sp) (s1 : sp ≤ 20)
include hs h e0 e1 s0 s1
theorem f_closing_time : mDef m_closing_time 4 [s.d, eTs ts, .int e, .int sp] = .ok (.int (fe s sp e 0 (0, 0, 0) ts).1) := by
  apply def_rt
  simp [m_closing_time, f_check_all hs h e0 e1 s0 s1, f_find_end hs (fun b hb => (h.ok b hb).1), eFE]
theorem f_final : mDef m_final 4 [s.d, eTs ts, .int e, .int sp] = .ok (eSt (fe s sp e 0 (0, 0, 0) ts).2.2) := by
  apply def_rt
  simp [m_final, f_check_all hs h e0 e1 s0 s1, f_find_end hs (fun b hb => (h.ok b hb).1), eFE]
end
end PD

/-! The mathematics: closings. -/
namespace PD
open PySem L2

def cnt (s : Sale) (sp : Int) : Int → St3 → List Timed → Nat
  | _, _, [] => 0
  | e, t, b :: r => if e < b.1 then 0 else if rej s t b.2 then cnt s sp e t r + 1 else cnt s sp (max e (b.1 + sp)) (adv s t b.2) r + 1
def lst (s : Sale) (sp : Int) : Int → St3 → List Timed → Int
  | e, _, [] => e
  | e, t, b :: r => if e < b.1 then e else if rej s t b.2 then lst s sp e t r else lst s sp (max e (b.1 + sp)) (adv s t b.2) r
section
variable (s : Sale) (sp : Int)
theorem fe_eq : ∀ (r : List Timed) (e m : Int) (t : St3), fe s sp e m t r = (lst s sp e t r, m + (cnt s sp e t r : Nat), fin s t ((r.take (cnt s sp e t r)).map (·.2)))
  | [], e, m, t => by simp [fe, lst, cnt, fin]
  | b :: r, e, m, t => by
    by_cases h1 : e < b.1
    · simp [fe, lst, cnt, h1, fin]
    · cases hr : rej s t b.2 with
      | true =>
        have ih := fe_eq r e (m + 1) t
        simp only [fe, lst, cnt, if_neg h1, hr, if_true, ih, List.take_succ_cons, List.map_cons, fin, List.foldl_cons, adv_rej hr]
        refine Prod.ext rfl (Prod.ext ?_ rfl)
        simp only; push_cast; omega
      | false =>
        have ih := fe_eq r (max e (b.1 + sp)) (m + 1) (adv s t b.2)
        simp only [fe, lst, cnt, if_neg h1, hr, Bool.false_eq_true, if_false, ih, List.take_succ_cons, List.map_cons, fin, List.foldl_cons]
        refine Prod.ext rfl (Prod.ext ?_ rfl)
        simp only; push_cast; omega
theorem lst_ge : ∀ (r : List Timed) (e : Int) (t : St3), e ≤ lst s sp e t r
  | [], e, t => Int.le_refl _
  | b :: r, e, t => by
    by_cases h1 : e < b.1
    · simp [lst, h1]
    · cases hr : rej s t b.2 with
      | true => simp only [lst, if_neg h1, hr, if_true]; exact lst_ge r e t
      | false =>
        simp only [lst, if_neg h1, hr, Bool.false_eq_true, if_false]
        have := lst_ge r (max e (b.1 + sp)) (adv s t b.2)
        omega
theorem cnt_le : ∀ (r : List Timed) (e : Int) (t : St3), cnt s sp e t r ≤ r.length
  | [], e, t => Nat.le_refl _
  | b :: r, e, t => by
    by_cases h1 : e < b.1
    · simp [cnt, h1]
    · cases hr : rej s t b.2 with
      | true => simp only [cnt, if_neg h1, hr, if_true, List.length_cons]; exact Nat.succ_le_succ (cnt_le r e t)
      | false => simp only [cnt, if_neg h1, hr, Bool.false_eq_true, if_false, List.length_cons]; exact Nat.succ_le_succ (cnt_le r _ _)
theorem take_le : ∀ (r : List Timed) (e : Int) (t : St3), ∀ x ∈ r.take (cnt s sp e t r), x.1 ≤ lst s sp e t r
  | [], e, t, x, hx => by simp [cnt] at hx
  | b :: r, e, t, x, hx => by
    by_cases h1 : e < b.1
    · simp [cnt, h1] at hx
    · cases hr : rej s t b.2 with
      | true =>
        simp only [cnt, lst, if_neg h1, hr, if_true, List.take_succ_cons] at hx ⊢
        rcases List.mem_cons.mp hx with h | h
        · have := lst_ge s sp r e t
          rw [h]; omega
        · exact take_le r e t x h
      | false =>
        simp only [cnt, lst, if_neg h1, hr, Bool.false_eq_true, if_false, List.take_succ_cons] at hx ⊢
        rcases List.mem_cons.mp hx with h | h
        · have := lst_ge s sp r (max e (b.1 + sp)) (adv s t b.2)
          rw [h]; omega
        · exact take_le r _ _ x h
theorem next_gt : ∀ (r : List Timed) (e : Int) (t : St3) (x : Timed), r[cnt s sp e t r]? = some x → lst s sp e t r < x.1
  | [], e, t, x, hx => by simp at hx
  | b :: r, e, t, x, hx => by
    by_cases h1 : e < b.1
    · simp [cnt, h1] at hx
      subst hx
      simp [lst, h1]
    · cases hr : rej s t b.2 with
      | true =>
        simp only [cnt, lst, if_neg h1, hr, if_true, List.getElem?_cons_succ] at hx ⊢
        exact next_gt r e t x hx
      | false =>
        simp only [cnt, lst, if_neg h1, hr, Bool.false_eq_true, if_false, List.getElem?_cons_succ] at hx ⊢
        exact next_gt r _ _ x hx
theorem good_le : ∀ (r : List Timed) (e : Int) (t : St3) (k : Int) (j : Nat) (b : Timed), r[j]? = some b → j < cnt s sp e t r → k + (j : Nat) ∉ outs s t k ((r.take (cnt s sp e t r)).map (·.2)) → b.1 + sp ≤ lst s sp e t r
  | [], e, t, k, j, b, hb, _, _ => by simp at hb
  | c :: r, e, t, k, j, b, hb, hj, ho => by
    by_cases h1 : e < c.1
    · simp [cnt, h1] at hj
    · cases hr : rej s t c.2 with
      | true =>
        simp only [cnt, lst, if_neg h1, hr, if_true, List.take_succ_cons, List.map_cons, outs] at hj ho ⊢
        match j, hb with
        | 0, hb => exact absurd (by simp) ho
        | j + 1, hb =>
          refine good_le r e t (k + 1) j b (by simpa using hb) (by omega) fun h => ho ?_
          rw [adv_rej hr]
          have e2 : k + ((j + 1 : Nat) : Int) = k + 1 + (j : Nat) := by omega
          rw [e2]
          exact List.mem_append.mpr (.inr h)
      | false =>
        simp only [cnt, lst, if_neg h1, hr, Bool.false_eq_true, if_false, List.take_succ_cons, List.map_cons, outs, List.nil_append] at hj ho ⊢
        match j, hb with
        | 0, hb =>
          simp at hb
          subst hb
          have := lst_ge s sp r (max e (c.1 + sp)) (adv s t c.2)
          omega
        | j + 1, hb =>
          refine good_le r _ _ (k + 1) j b (by simpa using hb) (by omega) fun h => ho ?_
          have e2 : k + ((j + 1 : Nat) : Int) = k + 1 + (j : Nat) := by omega
          rw [e2]
          exact h
theorem good_ex : ∀ (r : List Timed) (e : Int) (t : St3) (k : Int), e < lst s sp e t r → ∃ (j : Nat) (b : Timed), j < cnt s sp e t r ∧ r[j]? = some b ∧ k + (j : Nat) ∉ outs s t k ((r.take (cnt s sp e t r)).map (·.2)) ∧ lst s sp e t r = b.1 + sp
  | [], e, t, k, h => by simp [lst] at h
  | c :: r, e, t, k, h => by
    by_cases h1 : e < c.1
    · simp [lst, h1] at h
    · cases hr : rej s t c.2 with
      | true =>
        simp only [cnt, lst, if_neg h1, hr, if_true, List.take_succ_cons, List.map_cons, outs] at h ⊢
        obtain ⟨j, b, g1, g2, g3, g4⟩ := good_ex r e t (k + 1) h
        refine ⟨j + 1, b, by omega, by simpa using g2, fun z => ?_, g4⟩
        have e2 : k + ((j + 1 : Nat) : Int) = k + 1 + (j : Nat) := by omega
        rw [e2, adv_rej hr] at z
        rcases List.mem_append.mp z with z | z
        · simp at z; omega
        · exact g3 z
      | false =>
        simp only [cnt, lst, if_neg h1, hr, Bool.false_eq_true, if_false, List.take_succ_cons, List.map_cons, outs, List.nil_append] at h ⊢
        by_cases h2 : max e (c.1 + sp) < lst s sp (max e (c.1 + sp)) (adv s t c.2) r
        · obtain ⟨j, b, g1, g2, g3, g4⟩ := good_ex r _ _ (k + 1) h2
          refine ⟨j + 1, b, by omega, by simpa using g2, fun z => ?_, g4⟩
          have e2 : k + ((j + 1 : Nat) : Int) = k + 1 + (j : Nat) := by omega
          rw [e2] at z
          exact g3 z
        · have h3 := lst_ge s sp r (max e (c.1 + sp)) (adv s t c.2)
          refine ⟨0, c, by omega, rfl, fun z => ?_, by omega⟩
          have := outs_ge s _ _ _ _ z
          simp at this
          omega
theorem prefix_lst : ∀ (r : List Timed) (e : Int) (t : St3), lst s sp e t (r.take (cnt s sp e t r)) = lst s sp e t r
  | [], e, t => rfl
  | b :: r, e, t => by
    by_cases h1 : e < b.1
    · simp [cnt, lst, h1]
    · cases hr : rej s t b.2 with
      | true => simp only [cnt, lst, if_neg h1, hr, if_true, List.take_succ_cons]; exact prefix_lst r e t
      | false => simp only [cnt, lst, if_neg h1, hr, Bool.false_eq_true, if_false, List.take_succ_cons]; exact prefix_lst r _ _
end
theorem fe_mono (s : Sale) {sp sq : Int} (hsp : sp ≤ sq) : ∀ (r : List Timed) (e f : Int) (t : St3), e ≤ f → cnt s sp e t r ≤ cnt s sq f t r ∧ lst s sp e t r ≤ lst s sq f t r
  | [], e, f, t, h => ⟨Nat.le_refl _, h⟩
  | b :: r, e, f, t, h => by
    by_cases h1 : e < b.1
    · refine ⟨by simp [cnt, h1], ?_⟩
      have := lst_ge s sq (b :: r) f t
      have e1 : lst s sp e t (b :: r) = e := by simp [lst, h1]
      rw [e1]
      exact Int.le_trans h this
    · have h2 : ¬ f < b.1 := by omega
      cases hr : rej s t b.2 with
      | true =>
        simp only [cnt, lst, if_neg h1, if_neg h2, hr, if_true]
        have := fe_mono s hsp r e f t h
        omega
      | false =>
        simp only [cnt, lst, if_neg h1, if_neg h2, hr, Bool.false_eq_true, if_false]
        have := fe_mono s hsp r (max e (b.1 + sp)) (max f (b.1 + sq)) (adv s t b.2) (by omega)
        omega
theorem lst_zero (s : Sale) : ∀ (r : List Timed) (e : Int) (t : St3), lst s 0 e t r = e
  | [], e, t => rfl
  | b :: r, e, t => by
    by_cases h1 : e < b.1
    · simp [lst, h1]
    · cases hr : rej s t b.2 with
      | true => simp only [lst, if_neg h1, hr, if_true]; exact lst_zero s r e t
      | false =>
        have : max e (b.1 + 0) = e := by omega
        simp only [lst, if_neg h1, hr, Bool.false_eq_true, if_false, this]
        exact lst_zero s r e _
theorem cnt_zero (s : Sale) : ∀ (r : List Timed) (e : Int) (t : St3) (n : Nat), n ≤ r.length → (∀ x ∈ r.take n, x.1 ≤ e) → (∀ x, r[n]? = some x → e < x.1) → cnt s 0 e t r = n
  | [], e, t, n, hn, _, _ => by simp at hn; simp [cnt, hn]
  | b :: r, e, t, 0, _, _, h3 => by
    have := h3 b rfl
    simp [cnt, this]
  | b :: r, e, t, n + 1, hn, h2, h3 => by
    have h1 : ¬ e < b.1 := by have := h2 b (by simp); omega
    have hn2 : n ≤ r.length := by simpa using hn
    have h22 : ∀ x ∈ r.take n, x.1 ≤ e := fun x hx => h2 x (by simp [hx])
    have h32 : ∀ x, r[n]? = some x → e < x.1 := fun x hx => h3 x (by simpa using hx)
    cases hr : rej s t b.2 with
    | true => simp only [cnt, if_neg h1, hr, if_true, cnt_zero s r e t n hn2 h22 h32]
    | false =>
      have : max e (b.1 + 0) = e := by omega
      simp only [cnt, if_neg h1, hr, Bool.false_eq_true, if_false, this, cnt_zero s r e _ n hn2 h22 h32]
abbrev T0 : St3 := (0, 0, 0)
theorem cnt_last (s : Sale) (sp e : Int) (ts : List Timed) : cnt s 0 (lst s sp e T0 ts) T0 ts = cnt s sp e T0 ts :=
  cnt_zero s ts _ _ _ (cnt_le s sp ts e T0) (take_le s sp ts e T0) (next_gt s sp ts e T0)
/-! ### the program's functions -/
section
variable {s : Sale} (hs : s.Ok) {ts : List Timed} (h : OkT ts) {e sp : Int} (e0 : 0 ≤ e) (e1 : e ≤ 100)
include hs h e0 e1 in
theorem f_closing (s0 : 0 ≤ sp) (s1 : sp ≤ 20) : mDef m_closing_time 4 [s.d, eTs ts, .int e, .int sp] = .ok (.int (lst s sp e T0 ts)) := by
  rw [f_closing_time hs h e0 e1 s0 s1, fe_eq]
include hs h e0 e1 in
theorem f_final2 (s0 : 0 ≤ sp) (s1 : sp ≤ 20) : mDef m_final 4 [s.d, eTs ts, .int e, .int sp] = .ok (eSt (fin s T0 ((ts.take (cnt s sp e T0 ts)).map (·.2)))) := by
  rw [f_final hs h e0 e1 s0 s1, fe_eq]
include hs h e0 e1 in
theorem f_counted (s0 : 0 ≤ sp) (s1 : sp ≤ 20) : mDef m_counted 4 [s.d, eTs ts, .int e, .int sp] = .ok (.list ((upTo 0 (cnt s sp e T0 ts)).map .int)) := by
  apply def_rt
  have hc := cnt_le s sp ts e T0
  have hl := h.len
  have hr : rngD [.int (0 + (cnt s sp e T0 ts : Nat))] = .ok ((upTo 0 (cnt s sp e T0 ts)).map .int) := by
    rw [Int.zero_add]
    exact rng1 (by omega)
  have hf := f_find_end hs (fun b hb => (h.ok b hb).1) e sp
  rw [fe_eq] at hf
  simp only [eFE] at hf
  simp at hr
  simp [m_counted, f_check_all hs h e0 e1 s0 s1, hf, hr]
def full (s : Sale) (e : Int) (ts : List Timed) (sp : Int) : Bool := decide (cnt s sp e T0 ts = ts.length)
def lsBody : MS := (mIfS [] (mB (mOp dEq (mOp dIx (mCall (mDef m_find_end 9) (mCons (mVar 0) (mCons (mVar 1) (mCons (mVar 2) (mCons (mVar 3) mNil))))) (mC (.int 1))) (mCall dLen (mCons (mVar 1) mNil)))) (mRet [] (mVar 3)) mSkip)
include hs h in
theorem ls_loop (e : Int) : ∀ (n : Nat) (a : Int) (x3 : Sl),
    (∃ v, (upTo a n).find? (full s e ts) = some v ∧ forGo (bName 3) lsBody ((upTo a n).map .int) [.v s.d, .v (eTs ts), .v (.int e), x3] = .rt (.int v)) ∨
    ∃ y3, (upTo a n).find? (full s e ts) = none ∧ forGo (bName 3) lsBody ((upTo a n).map .int) [.v s.d, .v (eTs ts), .v (.int e), x3] = .nx [.v s.d, .v (eTs ts), .v (.int e), y3]
  | 0, a, x3 => .inr ⟨x3, rfl, rfl⟩
  | n + 1, a, x3 => by
    have hf := f_find_end hs (fun b hb => (h.ok b hb).1) e a
    rw [fe_eq] at hf
    simp only [eFE] at hf
    have hl : dLen [eTs ts] = .ok (.int (ts.length : Nat)) := by simp [eTs]
    rw [upTo_succ, List.map_cons]
    by_cases hh : cnt s a e T0 ts = ts.length
    · refine .inl ⟨a, by simp [full, hh], ?_⟩
      unfold forGo
      rw [ap_Name]
      dsimp only [List.set]
      have : lsBody [.v s.d, .v (eTs ts), .v (.int e), .v (.int a)] = .rt (.int a) := by simp [lsBody, hf, hl, hh]
      rw [this]
    · have hn : ¬ ((cnt s a e T0 ts : Nat) : Int) = (ts.length : Nat) := by omega
      have key : lsBody [.v s.d, .v (eTs ts), .v (.int e), .v (.int a)] = .nx [.v s.d, .v (eTs ts), .v (.int e), .v (.int a)] := by simp [lsBody, hf, hl, hn]
      have hfd : List.find? (full s e ts) (a :: upTo (a + 1) n) = (upTo (a + 1) n).find? (full s e ts) := by simp [full, hh]
      rw [hfd]
      unfold forGo
      rw [ap_Name]
      dsimp only [List.set]
      rw [key]
      dsimp only
      exact ls_loop e n (a + 1) (.v (.int a))
def leastSp (s : Sale) (e : Int) (ts : List Timed) : Option Int := (upTo 0 21).find? (full s e ts)
include hs h e0 e1 in
theorem f_least_span : mDef m_least_span 4 [s.d, eTs ts, .int e] = .ok (eOI (leastSp s e ts)) := by
  apply def_rt
  have hr : rngD [.int 21] = .ok ((upTo 0 21).map .int) := rng1 (n := 21) (by decide)
  unfold m_least_span
  refine seq_to (Γ1 := [.v s.d, .v (eTs ts), .v (.int e), .no]) (by simp [f_check_timed hs h e0 e1]) ?_
  have hf : (mFor [] (mRng (mCons (mOp dAdd (mC (.int 20)) (mC (.int 1))) mNil)) (bName 3) lsBody) [.v s.d, .v (eTs ts), .v (.int e), .no] = forGo (bName 3) lsBody ((upTo 0 21).map .int) [.v s.d, .v (eTs ts), .v (.int e), .no] := by
    rw [ap_For, mEvL_eq, fz_nil]
    simp [hr]
  unfold leastSp
  rcases ls_loop hs h e 21 0 .no with ⟨v, g1, g2⟩ | ⟨y3, g1, g2⟩
  · rw [ap_Seq]
    unfold lsBody at hf g2
    rw [hf, g2, g1]
    rfl
  · refine seq_to (hf.trans g2) ?_
    rw [g1]
    simp [eOI]
end
end PD

/-! The mathematics: the later laws' own bid, their bad values. -/
namespace PD
open PySem L2

theorem f_law_next {s : Sale} (h : s.Ok) {p : Int} (h0 : 0 ≤ p) : mDef m_law_next 4 [s.d, .int p] = .ok (.int (s.up p)) := by
  apply def_rt
  have e1 := lc_below s.steps [.v s.d, .v (.int p), .no, .no] 2 3 (by simp) (by simp) (by simp) 1 (by simp) (by simp) p rfl
  obtain ⟨⟨q, hq, e⟩, h2⟩ := stepAt_spec h h0
  have e2 : dMax [.list ((below s.steps p).map fun q => PyData.int q.2)] = .ok (.int (stepAt s.steps p)) := by
    have := dMax_ints (ns := (below s.steps p).map (·.2)) (m := stepAt s.steps p) (List.mem_map.mpr ⟨q, hq, e⟩) (fun y hy => by
      obtain ⟨z, hz, rfl⟩ := List.mem_map.mp hy
      exact h2 z hz)
    rw [List.map_map] at this
    exact this
  simp only [Sale.d, eSteps] at e1
  simp [m_law_next, Sale.d, eSteps, e1, e2, Sale.up]
theorem f_law_after {s : Sale} (hs : s.Ok) {t : St3} (hi : InvS s t) {b : Bid} (hb : OkB b) : mDef m_law_after 6 [s.d, eSt t, eB b] = .ok (.tuple [eSt (adv s t b), .bool (rej s t b)]) := by
  apply def_rt
  have hp := inv_price hs hi
  have h0 := hb.lo
  have u1 := f_law_next hs hp.1
  have u2 := f_law_next hs hp.2
  have u3 := f_law_next hs (p := b.2) (by omega)
  simp only [Sale.d] at u1 u2 u3
  have e0 : ∀ a : Nm, eqD (eN t.1) (eN a) = .ok (decide (t.1 = a)) := fun a => eqD_nm _ _
  cases hr : rej s t b with
  | true =>
    have ha : adv s t b = t := adv_rej hr
    rw [ha]
    unfold rej at hr
    by_cases h1 : t.1 = 0
    · rw [if_pos h1] at hr
      simp at hr
      simp [m_law_after, Sale.d, eSt, eB, h1, hr]
    · rw [if_neg h1] at hr
      by_cases h2 : b.1 = t.1
      · rw [if_pos h2] at hr
        simp at hr
        simp [m_law_after, Sale.d, eSt, eB, h1, h2, hr]
      · rw [if_neg h2] at hr
        simp at hr
        have h2' : ¬ t.1 = b.1 := fun z => h2 z.symm
        simp [m_law_after, Sale.d, eSt, eB, h1, h2', hr, u1]
  | false =>
    have hr0 := hr
    rw [adv_form hr]
    unfold rej at hr
    by_cases h1 : t.1 = 0
    · rw [if_pos h1] at hr
      simp at hr
      have h5 : ¬ b.2 < s.start := by omega
      by_cases h6 : s.res ≤ b.2 <;> simp [m_law_after, Sale.d, eSt, eB, h1, h5, h6, wp, -dMax_int, dMax_mx]
    · rw [if_neg h1] at hr
      by_cases h2 : b.1 = t.1
      · rw [if_pos h2] at hr
        simp at hr
        have h5 : ¬ b.2 ≤ t.2.2 := by omega
        by_cases h6 : s.res ≤ b.2 <;> simp [m_law_after, Sale.d, eSt, eB, h1, h2, h5, h6, wp, -dMax_int, dMax_mx]
      · rw [if_neg h2] at hr
        simp at hr
        have h2' : ¬ t.1 = b.1 := fun z => h2 z.symm
        have h5 : ¬ b.2 < s.up t.2.1 := by omega
        by_cases h3 : b.2 ≤ t.2.2
        · by_cases h6 : s.res ≤ t.2.2 <;> simp [m_law_after, Sale.d, eSt, eB, h1, h2, h2', h3, h5, h6, wp, u1, u3, -dMax_int, dMax_mx, -dMin_int, dMin_mn]
        · by_cases h6 : s.res ≤ b.2 <;> simp [m_law_after, Sale.d, eSt, eB, h1, h2, h2', h3, h5, h6, wp, u1, u2, -dMax_int, dMax_mx, -dMin_int, dMin_mn]
/-! ### picks of closed lists -/
theorem pick_closed {L : List PyData} {n : Nat} (hl : L.length = n) {q : Int} (h0 : 0 ≤ q) (h1 : q < n) : ∃ d ∈ L, dIx (.list L) (.int q) = .ok d := by
  obtain ⟨j, rfl⟩ : ∃ j : Nat, q = j := ⟨q.toNat, by omega⟩
  have hj : j < L.length := by omega
  refine ⟨L[j], List.getElem_mem hj, ?_⟩
  rw [dIx_list, atI_nat (v := L[j]) (by simp [hj])]
  rfl
def isF (r : R PyData) : Bool := match r with
  | .ok (.bool false) => true
  | _ => false
theorem isF_ok {r : R PyData} (h : isF r = true) : r = .ok (.bool false) := by
  unfold isF at h
  split at h
  · rfl
  · cases h
def isX (c : Str) (r : R PyData) : Bool := match r with
  | .ex d => decide (d = c)
  | _ => false
theorem isX_ok {r : R PyData} {c : Str} (h : isX c r = true) : r = .ex c := by
  unfold isX at h
  split at h
  · rename_i d
    rw [of_decide_eq_true h]
  · cases h
def listR (r : R PyData) : List PyData := match r with
  | .ok (.list l) => l
  | _ => []
def badSales : List PyData := listR ((mOp dAdd (mOp dAdd (mOp dAdd (mOp dAdd (mL (mCons (mC .none) (mCons (mTup mNil) (mCons (mTup (mCons (mTup (mCons (mTup (mCons (mC (.int 0)) (mCons (mC (.int 1)) mNil))) mNil)) (mCons (mC (.int 5)) mNil))) (mCons (mTup (mCons (mTup (mCons (mTup (mCons (mC (.int 1)) (mCons (mC (.int 1)) mNil))) mNil)) (mCons (mC (.int 5)) (mCons (mC (.int 5)) mNil)))) (mCons (mTup (mCons (mTup (mCons (mTup (mCons (mC (.int 0)) (mCons (mC (.int 1)) mNil))) (mCons (mTup (mCons (mC (.int 0)) (mCons (mC (.int 2)) mNil))) mNil))) (mCons (mC (.int 5)) (mCons (mC (.int 5)) mNil)))) mNil))))))
  (mL (mCons (mTup (mCons (mTup (mCons (mTup (mCons (mC (.int 0)) (mCons (mC (.int 2)) mNil))) (mCons (mTup (mCons (mC (.int 9)) (mCons (mC (.int 2)) mNil))) mNil))) (mCons (mC (.int 5)) (mCons (mC (.int 5)) mNil)))) (mCons (mTup (mCons (mTup mNil) (mCons (mC (.int 5)) (mCons (mC (.int 5)) mNil)))) mNil))))
  (mL (mCons (mTup (mCons (mTup (mCons (mTup (mCons (mC (.int 0)) (mCons (mC (.int 0)) mNil))) mNil)) (mCons (mC (.int 5)) (mCons (mC (.int 5)) mNil)))) (mCons (mTup (mCons (mTup (mCons (mTup (mCons (mC (.int 0)) (mCons (mC (.int 51)) mNil))) mNil)) (mCons (mC (.int 5)) (mCons (mC (.int 5)) mNil)))) (mCons (mTup (mCons (mTup (mCons (mTup (mCons (mC (.int 0)) (mCons (mC (.int 1)) mNil))) mNil)) (mCons (mC (.int 0)) (mCons (mC (.int 5)) mNil)))) (mCons (mTup (mCons (mTup (mCons (mTup (mCons (mC (.int 0)) (mCons (mC (.int 1)) mNil))) mNil)) (mCons (mC (.int 101)) (mCons (mC (.int 101)) mNil)))) mNil))))))
  (mL (mCons (mTup (mCons (mTup (mCons (mTup (mCons (mC (.int 0)) (mCons (mC (.int 1)) mNil))) mNil)) (mCons (mC (.int 5)) (mCons (mC (.int 4)) mNil)))) mNil)))
  (mL (mCons (mTup (mCons (mTup (mCons (mTup (mCons (mC (.int 0)) (mCons (mC (.int 1)) mNil))) mNil)) (mCons (mC (.int 5)) (mCons (mC (.int 201)) mNil)))) (mCons (mL (mCons (mTup (mCons (mTup (mCons (mC (.int 0)) (mCons (mC (.int 1)) mNil))) mNil)) (mCons (mC (.int 5)) (mCons (mC (.int 5)) mNil)))) (mCons (mTup (mCons (mTup (mCons (mTup (mCons (mC (.int 0)) (mCons (mC (.int 1)) mNil))) mNil)) (mCons (mC (.bool true)) (mCons (mC (.int 5)) mNil)))) mNil))))) [])
theorem badSales_len : badSales.length = 15 := by kernel_rfl
theorem badSales_all : (badSales.all fun d => isF (mDef m_is_sale 4 [d])) = true := by kernel_rfl
theorem f_badsale {ns : List Int} (hs : ns.length ≤ 63) {a : Int} (h0 : 0 ≤ a) : ∃ d, mDef m_law_badsale 3 [S ns, .int a] = .ok d ∧ mDef m_is_sale 4 [d] = .ok (.bool false) := by
  have p := f_drawn hs (k := a) (many := 15) h0 (by decide)
  obtain ⟨b0, b1⟩ := drawn_b hs (k := a) (many := 15) h0 (by decide)
  generalize drawnF ns a 15 = q at *
  obtain ⟨d, hd, e⟩ := pick_closed badSales_len b0 b1
  refine ⟨d, def_rt ?_, isF_ok (List.all_eq_true.mp badSales_all d hd)⟩
  unfold m_law_badsale
  show mSeq _ _ [.v (S ns), .v (.int a), .no] = _
  generalize hx0 : Sl.v (S ns) = x0
  generalize hx1 : Sl.v (PyData.int a) = x1
  refine seq_to (Γ1 := [x0, x1, .v (.list (badSales.take 5))]) (by kernel_rfl) ?_
  refine seq_to (Γ1 := [x0, x1, .v (.list (badSales.take 7))]) (by kernel_rfl) ?_
  refine seq_to (Γ1 := [x0, x1, .v (.list (badSales.take 11))]) (by kernel_rfl) ?_
  refine seq_to (Γ1 := [x0, x1, .v (.list (badSales.take 12))]) (by kernel_rfl) ?_
  have e1 : (mOp dAdd (mVar 2) (mL (mCons (mTup (mCons (mTup (mCons (mTup (mCons (mC (.int 0)) (mCons (mC (.int 1)) mNil))) mNil)) (mCons (mC (.int 5)) (mCons (mC (.int 201)) mNil)))) (mCons (mL (mCons (mTup (mCons (mTup (mCons (mC (.int 0)) (mCons (mC (.int 1)) mNil))) mNil)) (mCons (mC (.int 5)) (mCons (mC (.int 5)) mNil)))) (mCons (mTup (mCons (mTup (mCons (mTup (mCons (mC (.int 0)) (mCons (mC (.int 1)) mNil))) mNil)) (mCons (mC (.bool true)) (mCons (mC (.int 5)) mNil)))) mNil))))) [x0, x1, .v (.list (badSales.take 12))] = .ok (.list badSales) := by kernel_rfl
  rw [ap_Ret, mEv_nil, ap_Op, e1]
  subst hx0 hx1
  simp [p, e, -dIx_list]
theorem f_check_sale_bad {d : PyData} (h : mDef m_is_sale 4 [d] = .ok (.bool false)) : mDef m_check_sale 1 [d] = .ex (PySem.Str.ofString "InvalidSale") := by
  apply def_ex
  simp [m_check_sale, h]
theorem mTry_ex {names : List Str} {k : Str → Int} {mb : MS} {Γ : Gam} {c : Str} (h0 : noOwn Γ = true) (h : mb Γ = .ex c) (hc : c ∈ names) : mTry names k mb Γ = .rt (.int (k c)) := by
  unfold mTry
  rw [if_pos h0, h]
  dsimp only
  rw [if_pos hc]
theorem fgo_cons {b : Bd} {body : MS} {d : PyData} {ds : List PyData} {Γ Γ1 Γ2 : Gam} {o : Out} (h1 : b d Γ = some Γ1) (h2 : body Γ1 = .nx Γ2) (h3 : forGo b body ds Γ2 = o) : forGo b body (d :: ds) Γ = o := by
  unfold forGo
  rw [h1]
  dsimp only
  rw [h2]
  exact h3
theorem add_ints (a b : List Int) (h : a.length + b.length ≤ 1000) : dAdd (.list (a.map .int)) (.list (b.map .int)) = .ok (.list ((a ++ b).map .int)) := by
  show (if _ then R.ok (PyData.list _) else .no) = _
  rw [if_pos (by simp; omega), List.map_append]
/-- a row of calls, all of which give k -/
theorem row_of {i : Nat} {ws : List Int} {k : Int} {Γ : Gam} {me : M} (h : ∀ w ∈ ws, me (Γ.set i (.v (.int w))) = .ok (.int k)) : lcGo (bName i) mT me Γ (ws.map .int) = .ok ((ws.map fun _ => k).map .int) := by
  rw [List.map_map]
  exact lcGo_all PyData.int (fun _ => .int k) ws fun w hw => ⟨Γ.set i (.v (.int w)), rfl, rfl, h w hw⟩
end PD

/-! The mathematics: a desk's methods, among several desks. -/
namespace PD
open PySem L2
section
variable (Γ : Gam) (W : Wd) (k : MW) (f : Addr → OutW) (d : PyData) (c : Str)
@[simp] theorem thn_nx : (OutW.nx Γ W).thn k = k Γ W := rfl
@[simp] theorem thn_rt : (OutW.rt d W).thn k = .rt d W := rfl
@[simp] theorem thn_ex : (OutW.ex c W).thn k = .ex c W := rfl
@[simp] theorem thn_al : (OutW.al W f).thn k = .al W fun a => (f a).thn k := rfl
@[simp] theorem thn_no : OutW.no.thn k = .no := rfl
end
section
variable {α : Type} (W : Wd) (k : α → Wd → OutW) (f : Addr → RW α) (d : α) (c : Str)
@[simp] theorem out_ok : (RW.ok d W).out k = k d W := rfl
@[simp] theorem out_ex : (RW.ex c W : RW α).out k = .ex c W := rfl
@[simp] theorem out_al : (RW.al W f).out k = .al W fun a => (f a).out k := rfl
@[simp] theorem out_no : (RW.no : RW α).out k = .no := rfl
end
@[simp] theorem toR_rt (d : PyData) (W : Wd) : (OutW.rt d W).toR = .ok d W := rfl
@[simp] theorem toR_nx (Γ : Gam) (W : Wd) : (OutW.nx Γ W).toR = .ok .none W := rfl
@[simp] theorem toR_ex (c : Str) (W : Wd) : (OutW.ex c W).toR = .ex c W := rfl
section
variable (Γ : Gam) (W : Wd) (a b : MWE) (m : M) (s t : MW) (c u : Gam → Wd → RW Bool) (ms : MS) (i n : Nat) (g : PyData → PyData → R PyData)
@[simp] theorem apW_Seq : mSeqW s t Γ W = (s Γ W).thn t := rfl
@[simp] theorem apW_Skip : mSkipW Γ W = .nx Γ W := rfl
@[simp] theorem apW_Up : mUp ms Γ W = match ms Γ with
  | .nx Γ1 => .nx Γ1 W
  | .bk Γ1 => .bk Γ1 W
  | .ct Γ1 => .ct Γ1 W
  | .rt d => .rt d W
  | .ex c => .ex c W
  | .no => .no := rfl
@[simp] theorem apW_U {α : Type} (m : Gam → R α) : mU m Γ W = RW.of (m Γ) W := rfl
@[simp] theorem apW_Rd : mRd m Γ W = match m (upG W Γ) with
  | .ok d => if calm d = true then .ok d W else .no
  | .ex c => .ex c W
  | .no => .no := rfl
@[simp] theorem apW_RdB (m : Gam → R Bool) : mRdB m Γ W = RW.of (m (upG W Γ)) W := rfl
@[simp] theorem apW_EvE (k : PyData → Wd → OutW) : mEvE a Γ W k = (a Γ W).out k := rfl
@[simp] theorem apW_EvEB (k : Bool → Wd → OutW) : mEvEB c Γ W k = (c Γ W).out k := rfl
@[simp] theorem apW_Do : mDoW a Γ W = mEvE a Γ W fun _ W1 => .nx Γ W1 := rfl
@[simp] theorem apW_Ret : mRetW a Γ W = mEvE a Γ W .rt := rfl
@[simp] theorem apW_Set : mSetW i a Γ W = mEvE a Γ W fun d W1 => .nx (Γ.set i (.v d)) W1 := rfl
@[simp] theorem apW_Asg (p : Bd) : mAsgW p a Γ W = mEvE a Γ W fun d W1 => match p d Γ with
  | some Γ2 => .nx Γ2 W1
  | none => .no := rfl
@[simp] theorem apW_IfS : mIfSW c s t Γ W = mEvEB c Γ W fun q W1 => if q = true then s Γ W1 else t Γ W1 := rfl
@[simp] theorem apW_If : mIfW c a b Γ W = (c Γ W).bind fun q W1 => if q = true then a Γ W1 else b Γ W1 := rfl
@[simp] theorem apW_Op : mOpW g a b Γ W = (a Γ W).bind fun x W1 => (b Γ W1).bind fun y W2 => RW.of (g x y) W2 := rfl
@[simp] theorem apW_B : mBW a Γ W = (a Γ W).bind fun d W1 => RW.of (asB d) W1 := rfl
@[simp] theorem apA_Nil : mNilA Γ = .ok [] := rfl
@[simp] theorem apA_D (r : Gam → R (List DA)) : mConsD m r Γ = (m Γ).bind fun d => (r Γ).bind fun ds => .ok (.d d :: ds) := rfl
@[simp] theorem apA_A (r : Gam → R (List DA)) : mConsA i r Γ = match gat Γ i with
  | .ad a => (r Γ).bind fun ds => .ok (.a a :: ds)
  | _ => .no := rfl
@[simp] theorem apW_Call (G : GW) (r : Gam → R (List DA)) : mCallW n G r Γ W = (RW.of (r Γ) W).bind fun ds W1 => if ds.length = n then G ds W1 else .no := rfl
@[simp] theorem apW_Meth (G : GW) (r : Gam → R (List DA)) : mMethW i n G r Γ W = match gat Γ i with
  | .ad a => match W.lookup a with
    | some _ => (RW.of (r Γ) W).bind fun ds W1 => if ds.length + 1 = n then G (.a a :: ds) W1 else .no
    | none => .no
  | _ => .no := rfl
@[simp] theorem apW_NilW : mNilW Γ W = .ok [] W := rfl
@[simp] theorem apW_ConsW (r : Gam → Wd → RW (List PyData)) : mConsW a r Γ W = (a Γ W).bind fun d W1 => (r Γ W1).bind fun ds W2 => .ok (d :: ds) W2 := rfl
@[simp] theorem apW_Lst (r : Gam → Wd → RW (List PyData)) : mLstW r Γ W = (r Γ W).bind fun ds W1 => if ds.length ≤ 100000 then .ok (.list ds) W1 else .no := rfl
end
theorem lk_eq (a : Addr) (D : ObD) (W : Wd) : List.lookup a ((a, D) :: W) = some D := by simp [List.lookup]
theorem lk_ne {a c : Addr} (h : a ≠ c) (D : ObD) (W : Wd) : List.lookup a ((c, D) :: W) = List.lookup a W := by
  rw [List.lookup_cons]
  split
  · rename_i e; exact absurd (beq_iff_eq.mp e) h
  · rfl
theorem lk_set {a : Addr} {D D' : ObD} : ∀ {W : Wd}, W.lookup a = some D → (setD W a D').lookup a = some D'
  | (c, F) :: r, h => by
    rw [setD_cons]
    by_cases e : c = a
    · rw [if_pos e]; exact lk_eq _ _ _
    · rw [if_neg e, lk_ne (Ne.symm e)]
      rw [lk_ne (Ne.symm e)] at h
      exact lk_set h
theorem lk_set_ne {a c : Addr} {D' : ObD} (hn : c ≠ a) : ∀ {W : Wd}, (setD W a D').lookup c = W.lookup c
  | [] => rfl
  | (b, F) :: r => by
    rw [setD_cons]
    by_cases e : b = a
    · subst e
      rw [if_pos rfl, lk_ne hn, lk_ne hn]; exact lk_set_ne hn
    · rw [if_neg e]
      by_cases e2 : c = b
      · subst e2; rw [lk_eq, lk_eq]
      · rw [lk_ne e2, lk_ne e2]; exact lk_set_ne hn
theorem set_set {a : Addr} {D D' : ObD} : ∀ {W : Wd}, setD (setD W a D) a D' = setD W a D'
  | [] => rfl
  | (b, F) :: r => by
    rw [setD_cons, setD_cons]
    by_cases e : b = a
    · subst e; rw [if_pos rfl, if_pos rfl, setD_cons, if_pos rfl, set_set]
    · rw [if_neg e, if_neg e, setD_cons, if_neg e, set_set]
theorem set_id {a : Addr} {D : ObD} : ∀ {W : Wd}, (∀ p ∈ W, p.1 = a → p.2 = D) → setD W a D = W
  | [], _ => rfl
  | (b, F) :: r, h => by
    rw [setD_cons, set_id fun p hp => h p (List.mem_cons_of_mem _ hp)]
    by_cases e : b = a
    · have := h (b, F) List.mem_cons_self e
      rw [if_pos e, ← e]; rw [← this]
    · rw [if_neg e]
@[simp] theorem upS_ad (W : Wd) (a : Addr) : upS W (.ad a) = match W.lookup a with
  | some D => .v (dskD D)
  | none => .no := rfl
@[simp] theorem upS_v (W : Wd) (d : PyData) : upS W (.v d) = .v d := rfl
@[simp] theorem upS_own (W : Wd) (d : List PyData) : upS W (.own d) = .own d := rfl
@[simp] theorem upS_no (W : Wd) : upS W .no = .no := rfl
@[simp] theorem upG_nil (W : Wd) : upG W [] = [] := rfl
@[simp] theorem upG_cons (W : Wd) (s : Sl) (r : Gam) : upG W (s :: r) = upS W s :: upG W r := rfl
@[simp] theorem calm_none : calm .none = true := rfl
@[simp] theorem calm_bool (b : Bool) : calm (.bool b) = true := rfl
@[simp] theorem calm_int (b : Int) : calm (.int b) = true := rfl
@[simp] theorem calm_str (b : Str) : calm (.str b) = true := rfl
@[simp] theorem calm_tup (ds : List PyData) : calm (.tuple ds) = calmA ds := rfl
@[simp] theorem calmA_nil : calmA [] = true := rfl
@[simp] theorem calmA_cons (d : PyData) (ds : List PyData) : calmA (d :: ds) = (calm d && calmA ds) := rfl
theorem calmA_map {α : Type} {f : α → PyData} (h : ∀ x, calm (f x) = true) : ∀ l : List α, calmA (l.map f) = true
  | [] => rfl
  | x :: r => by simp [h x, calmA_map h r]
@[simp] theorem calm_eN (n : Nm) : calm (eN n) = true := rfl
@[simp] theorem calm_eB (b : Bid) : calm (eB b) = true := rfl
@[simp] theorem calm_eSt (t : St3) : calm (eSt t) = true := rfl
@[simp] theorem calm_step (p : Int × Int) : calm (eStep p) = true := rfl
@[simp] theorem calm_sale (s : Sale) : calm s.d = true := by
  unfold Sale.d eSteps
  simp [calmA_map calm_step]
/-! ### what a desk has -/
abbrev SBd := Sale × List Bid
def eP (x : SBd) : PyData := .tuple [x.1.d, .tuple (x.2.map eB)]
def eL (x : SBd) : PyData := .tuple [x.1.d, eBs x.2]
structure DSt where
  p : SBd
  dn : List SBd
  un : List SBd
def dkS (m : DSt) : ObD := ⟨eP m.p, m.dn.map eP, m.un.map eP⟩
structure OkP (x : SBd) : Prop where
  s : x.1.Ok
  b : ∀ b ∈ x.2, OkB b
  l : x.2.length ≤ 8
@[simp] theorem calm_eP (x : SBd) : calm (eP x) = true := by
  unfold eP
  simp [calmA_map calm_eB]
theorem calm_dk (m : DSt) (a : Addr) : calmW [(a, dkS m)] = true := by
  simp [calmW, dkS, calmA_map calm_eP]
/-! shaped -/
theorem enc_stp : Enc eStep where
  eqv := fun x y => by
    simp only [eStep, PyData.eqv, PyData.eqvAll, enc_int.eqv, PySem.W.beq_decide, Bool.and_true, ← Bool.decide_and]
    exact decide_eq_decide.mpr ⟨fun e => Prod.ext e.1 e.2, fun e => by rw [e]; exact ⟨rfl, rfl⟩⟩
  lay := fun x => by simp only [eStep, PyData.canLay0, PyData.canLayAll0, enc_int.lay, Bool.and_self]
  dep := fun x => by simp [eStep, PyData.depth, PyData.depthAll]
theorem lay_sale (s : Sale) : s.d.canLay0 = true ∧ s.d.depth ≤ 22 := by
  obtain ⟨h1, h2⟩ := enc_stp.layAll s.steps
  unfold Sale.d eSteps
  simp only [PyData.canLay0, PyData.canLayAll0, h1, PyData.depth, PyData.depthAll]
  exact ⟨rfl, by omega⟩
theorem lay_eP (x : SBd) : (eP x).canLay0 = true ∧ (eP x).depth ≤ 24 := by
  obtain ⟨h1, h2⟩ := lay_sale x.1
  obtain ⟨h3, h4⟩ := enc_bid.layAll x.2
  unfold eP
  simp only [PyData.canLay0, PyData.canLayAll0, h1, h3, PyData.depth, PyData.depthAll]
  exact ⟨rfl, by omega⟩
theorem lay_eL (x : SBd) : (eL x).canLay0 = true ∧ (eL x).depth ≤ 24 := by
  obtain ⟨h1, h2⟩ := lay_sale x.1
  obtain ⟨h3, h4⟩ := enc_bid.layAll x.2
  unfold eL eBs
  simp only [PyData.canLay0, PyData.canLayAll0, h1, h3, PyData.depth, PyData.depthAll]
  exact ⟨rfl, by omega⟩
theorem shaped_map {α : Type} {f : α → PyData} (h : ∀ x, (f x).canLay0 = true ∧ (f x).depth ≤ 24) (l : List α) : SeqAt.shaped (.list (l.map f)) = true := by
  have : PyData.canLayAll0 (l.map f) = true ∧ PyData.depthAll (l.map f) ≤ 24 := by
    induction l with
    | nil => exact ⟨rfl, Nat.zero_le _⟩
    | cons x r ih =>
      obtain ⟨h1, h2⟩ := h x
      simp only [List.map_cons, PyData.canLayAll0, PyData.depthAll, h1, ih.1, Bool.and_self, true_and]
      have := ih.2
      omega
  unfold SeqAt.shaped
  simp only [PyData.canLay0, PyData.depth, this.1, Bool.true_and]
  have := this.2
  simp
  omega
theorem eqD_nilL {l : List PyData} (h : SeqAt.shaped (.list l) = true) : eqD (.list l) (.list []) = .ok l.isEmpty := by
  have e : sEq (.list l) (.list []) = none := rfl
  unfold eqD
  rw [e]
  dsimp only
  have u : unS (.list l) = .list l := rfl
  have u2 : unS (.list []) = .list [] := rfl
  rw [u, u2, if_pos ⟨h, by decide⟩]
  cases l <;> rfl
@[simp] theorem eqD_eP (l : List SBd) : eqD (.list (l.map eP)) (.list []) = .ok l.isEmpty := by rw [eqD_nilL (shaped_map lay_eP l)]; cases l <;> rfl
@[simp] theorem eqD_eL (l : List SBd) : eqD (.list (l.map eL)) (.list []) = .ok l.isEmpty := by rw [eqD_nilL (shaped_map lay_eL l)]; cases l <;> rfl
/-! ### reading -/
theorem f_bids {d : PyData} {x : SBd} (h : dFldP d = .ok (eP x)) : mDef m_Desk_bids 1 [d] = .ok (eBs x.2) := by
  apply def_rt
  simp [m_Desk_bids, h, eP, eBs, dList]
theorem f_dlen {d : PyData} {x : SBd} (h : dFldP d = .ok (eP x)) : mDef m_Desk___len__ 1 [d] = .ok (.int (x.2.length : Nat)) := by
  apply def_rt
  simp [m_Desk___len__, h, eP]
theorem f_dresult {d : PyData} {x : SBd} (h : dFldP d = .ok (eP x)) (hi : isDsk d = true) (o : OkP x) : mDef m_Desk_result 1 [d] = .ok (eSt (fin x.1 (0, 0, 0) x.2)) := by
  apply def_rt
  have h1 := f_bids h
  have h2 := f_find_result o.s o.b (by have := o.l; omega)
  have h3 : dIx (eP x) (.int 0) = .ok x.1.d := rfl
  simp [m_Desk_result, h1, h, hi, h3, h2]
/-! ### changing -/
theorem defW_eq (m : MW) (n : Nat) (ds : List DA) (W : Wd) : mDefW m n ds W = (m (ds.map slA ++ List.replicate (n - ds.length) .no) W).toR := rfl
section
variable {W : Wd} {a : Addr}
theorem f_change {D : ObD} (hW : W.lookup a = some D) (x y : PyData) (h : D.dn.length < 100000) : mDefW wm_Desk_change 3 [.a a, .d x, .d y] W = .ok .none (setD W a ⟨.tuple [x, y], D.dn ++ [D.p], []⟩) := by
  rw [defW_eq]
  simp [wm_Desk_change, mFaD, mFsP, mFsU, slA, h, hW, lk_set hW, set_set]
variable {m : DSt} (hW : W.lookup a = some (dkS m))
include hW
theorem f_undo0 (h : m.dn = []) : mDefW wm_Desk_undo 1 [.a a] W = .ex (PySem.Str.ofString "NothingToUndo") W := by
  rw [defW_eq]
  have e : eqD (.list (dkS m).dn) (.list []) = .ok true := by show eqD (.list (m.dn.map eP)) (.list []) = _; simp [h]
  simp [wm_Desk_undo, slA, e, hW]
theorem f_redo0 (h : m.un = []) : mDefW wm_Desk_redo 1 [.a a] W = .ex (PySem.Str.ofString "NothingToUndo") W := by
  rw [defW_eq]
  have e : eqD (.list (dkS m).un) (.list []) = .ok true := by show eqD (.list (m.un.map eP)) (.list []) = _; simp [h]
  simp [wm_Desk_redo, slA, e, hW]
theorem f_undo (l : List SBd) (x : SBd) (h : m.dn = l ++ [x]) (hl : m.un.length < 100000) : mDefW wm_Desk_undo 1 [.a a] W = .ok .none (setD W a (dkS ⟨x, l, m.un ++ [m.p]⟩)) := by
  rw [defW_eq]
  have e : eqD (.list (l.map eP ++ [eP x])) (.list []) = .ok false := by
    have := eqD_eP (l ++ [x])
    rw [show (l ++ [x]).isEmpty = false by cases l <;> rfl] at this
    simpa using this
  have e1 : (dkS m).un.length < 100000 := by simpa [dkS] using hl
  have e2 : (dkS m).dn = l.map eP ++ [eP x] := by simp [dkS, h]
  simp [wm_Desk_undo, mFaU, mFpD, slA, e, e1, e2, hW, lk_set hW, set_set]
  simp [dkS]
theorem f_redo (l : List SBd) (x : SBd) (h : m.un = l ++ [x]) (hl : m.dn.length < 100000) : mDefW wm_Desk_redo 1 [.a a] W = .ok .none (setD W a (dkS ⟨x, m.dn ++ [m.p], l⟩)) := by
  rw [defW_eq]
  have e : eqD (.list (l.map eP ++ [eP x])) (.list []) = .ok false := by
    have := eqD_eP (l ++ [x])
    rw [show (l ++ [x]).isEmpty = false by cases l <;> rfl] at this
    simpa using this
  have e1 : (dkS m).dn.length < 100000 := by simpa [dkS] using hl
  have e2 : (dkS m).un = l.map eP ++ [eP x] := by simp [dkS, h]
  simp [wm_Desk_redo, mFaD, mFpU, slA, e, e1, e2, hW, lk_set hW, set_set]
  simp [dkS]
end
/-- what a bid does -/
def word (s : Sale) (t : St3) (b : Bid) : Str := if rej s t b = true then PySem.Str.ofString "refused" else if (adv s t b).1 ≠ t.1 then PySem.Str.ofString "leads" else if (adv s t b).2.1 > t.2.1 then PySem.Str.ofString "raised" else PySem.Str.ofString "kept"
theorem fin_one (s : Sale) (bs : List Bid) (b : Bid) : fin s (0, 0, 0) (bs ++ [b]) = adv s (fin s (0, 0, 0) bs) b := by unfold fin; rw [List.foldl_append]; rfl
def bidM (m : DSt) (b : Bid) : DSt := ⟨(m.p.1, m.p.2 ++ [b]), m.dn ++ [m.p], []⟩
section
variable {W : Wd} {a : Addr} {m : DSt} (hW : W.lookup a = some (dkS m))
include hW
theorem f_bid (h : OkP m.p) (hl : m.p.2.length < 8) (hd : m.dn.length < 100000) {b : Bid} (hb : OkB b) : mDefW wm_Desk_bid 7 [.a a, .d (eN b.1), .d (.int b.2)] W = .ok (.str (word m.p.1 (fin m.p.1 (0, 0, 0) m.p.2) b)) (setD W a (dkS (bidM m b))) := by
  rw [defW_eq]
  have hi := fin_inv h.s m.p.2 (0, 0, 0) h.b (.inl rfl)
  have r1 := f_dresult (d := dskD (dkS m)) (x := m.p) rfl rfl h
  have hp2 : OkP (bidM m b).p := ⟨h.s, fun c hc => by
    rcases List.mem_append.mp hc with z | z
    · exact h.b c z
    · rw [List.mem_singleton.mp z]; exact hb, by simp [bidM]; omega⟩
  have r2 := f_dresult (d := dskD (dkS (bidM m b))) (x := (bidM m b).p) rfl rfl hp2
  have e1 := f_is_bid hb
  have e2 := f_is_refused h.s hi b
  simp only [eB] at e1 e2
  have ch := f_change hW m.p.1.d (.tuple (m.p.2.map eB ++ [eB b])) (by simpa [dkS] using hd)
  have dk : (⟨.tuple [m.p.1.d, .tuple (m.p.2.map eB ++ [eB b])], (dkS m).dn ++ [(dkS m).p], []⟩ : ObD) = dkS (bidM m b) := by simp [dkS, bidM, eP]
  rw [dk] at ch
  have fe : fin (bidM m b).p.1 (0, 0, 0) (bidM m b).p.2 = adv m.p.1 (fin m.p.1 (0, 0, 0) m.p.2) b := fin_one _ _ _
  rw [fe] at r2
  generalize hT : fin m.p.1 (0, 0, 0) m.p.2 = t at *
  have u0 : ∀ u : St3, dIx (eSt u) (.int 0) = .ok (eN u.1) := fun _ => rfl
  have u1 : ∀ u : St3, dIx (eSt u) (.int 1) = .ok (.int u.2.1) := fun _ => rfl
  have ad : dAdd (.tuple (m.p.2.map eB)) (.tuple [.tuple [eN b.1, .int b.2]]) = .ok (.tuple (m.p.2.map eB ++ [eB b])) := by
    show (if (m.p.2.map eB).length + 1 ≤ 100000 then R.ok (PyData.tuple (m.p.2.map eB ++ [.tuple [eN b.1, .int b.2]])) else .no) = _
    rw [if_pos (by simp; omega)]; rfl
  have gp : (dkS m).p = .tuple [m.p.1.d, .tuple (m.p.2.map eB)] := rfl
  have n8 : ¬ 8 ≤ m.p.2.length := by omega
  have n8' : ¬ (8 : Int) ≤ (m.p.2.length : Nat) := by omega
  have lk2 := lk_set (D' := dkS (bidM m b)) hW
  unfold word
  simp [wm_Desk_bid, slA, gp, e1, n8, n8', r1, r2, ad, ch, e2, u0, u1, calmA_map calm_eB, hW, lk2]
  cases rej m.p.1 t b with
  | true => simp
  | false =>
    simp
    rw [u0, u0]
    simp
    by_cases c1 : (adv m.p.1 t b).1 = t.1
    · simp [c1]
      rw [u1, u1]
      by_cases c2 : t.2.1 < (adv m.p.1 t b).2.1 <;> simp [c2]
    · simp [c1]
end
/-- a lesser reserve -/
def lowM (m : DSt) (r : Int) : DSt := ⟨(⟨m.p.1.steps, m.p.1.start, r⟩, m.p.2), m.dn ++ [m.p], []⟩
theorem low_ok {m : DSt} (h : OkP m.p) {r : Int} (h1 : m.p.1.start ≤ r) (h2 : r < m.p.1.res) : OkP (lowM m r).p :=
  ⟨⟨h.s.len, h.s.zero, h.s.rng, h.s.up, h.s.st, ⟨h1, by have := h.s.rs; show r ≤ 200; omega⟩⟩, h.b, h.l⟩
theorem f_lower {W : Wd} {a : Addr} {m : DSt} (hW : W.lookup a = some (dkS m)) (h : OkP m.p) (hd : m.dn.length < 100000) {r : Int} (h1 : m.p.1.start ≤ r) (h2 : r < m.p.1.res) : mDefW wm_Desk_lower 6 [.a a, .d (.int r)] W = .ok (eSt (fin (lowM m r).p.1 (0, 0, 0) m.p.2)) (setD W a (dkS (lowM m r))) := by
  rw [defW_eq]
  have r2 := f_dresult (d := dskD (dkS (lowM m r))) (x := (lowM m r).p) rfl rfl (low_ok h h1 h2)
  have ch := f_change hW (lowM m r).p.1.d (.tuple (m.p.2.map eB)) (by simpa [dkS] using hd)
  have dk : (⟨.tuple [(lowM m r).p.1.d, .tuple (m.p.2.map eB)], (dkS m).dn ++ [(dkS m).p], []⟩ : ObD) = dkS (lowM m r) := by simp [dkS, lowM, eP]
  rw [dk] at ch
  have gp : (dkS m).p = .tuple [.tuple [eSteps m.p.1.steps, .int m.p.1.start, .int m.p.1.res], .tuple (m.p.2.map eB)] := rfl
  have gl : (lowM m r).p.1.d = .tuple [eSteps m.p.1.steps, .int m.p.1.start, .int r] := rfl
  rw [gl] at ch
  have cs : calm (eSteps m.p.1.steps) = true := by unfold eSteps; simp [calmA_map calm_step]
  have hi : isInt (.int r) m.p.1.start (m.p.1.res - 1) = true := by simp [isInt]; omega
  have lk2 := lk_set (D' := dkS (lowM m r)) hW
  simp [wm_Desk_lower, slA, gp, f_is_int, hi, ch, r2, calmA_map calm_eB, cs, hW, lk2]
  rfl
end PD

/-! The mathematics: undoing and redoing all. -/
namespace PD
open PySem L2
def eR (x : SBd) : PyData := .tuple [eBs x.2, eSt (fin x.1 (0, 0, 0) x.2)]
def endM (w : Int) : DSt → List SBd → DSt
  | m, [] => m
  | m, x :: r => endM w (if w = 0 then ⟨x, r.reverse, m.un ++ [m.p]⟩ else ⟨x, m.dn ++ [m.p], r.reverse⟩) r
@[simp] theorem upL_nil (W : Wd) : upL W [] = [] := rfl
@[simp] theorem upL_cons (W : Wd) (s : Sl) (r : Gam) : upL W (s :: r) = upL1 W s :: upL W r := rfl
@[simp] theorem upL1_ad (W : Wd) (a : Addr) : upL1 W (.ad a) = match W.lookup a with
  | some D => .v (lgtD D.p)
  | none => .no := rfl
@[simp] theorem upL1_v (W : Wd) (d : PyData) : upL1 W (.v d) = .v d := rfl
@[simp] theorem upL1_own (W : Wd) (d : List PyData) : upL1 W (.own d) = .own d := rfl
@[simp] theorem upL1_no (W : Wd) : upL1 W .no = .no := rfl
@[simp] theorem apW_FzT (l : List Nat) (t : Gam → R Bool) (Γ : Gam) (W : Wd) : mFzT l t Γ W = RW.of (t (upL W (fz l Γ))) W := rfl
theorem dfrA_map {α : Type} {f : α → PyData} (h : ∀ x, dfr (f x) = true) : ∀ l : List α, dfrA (l.map f) = true
  | [] => rfl
  | x :: r => by
    show (dfr (f x) && dfrA (r.map f)) = true
    rw [h x, dfrA_map h r]; rfl
@[simp] theorem dfr_eB (b : Bid) : dfr (eB b) = true := rfl
@[simp] theorem dfr_eBs (l : List Bid) : dfr (eBs l) = true := dfrA_map dfr_eB l
@[simp] theorem dfr_eSt (t : St3) : dfr (eSt t) = true := rfl
@[simp] theorem dfr_eR (x : SBd) : dfr (eR x) = true := by
  show (dfr (eBs x.2) && (dfr (eSt (fin x.1 (0, 0, 0) x.2)) && true)) = true
  rw [dfr_eBs, dfr_eSt]; rfl
def tE66 : Gam → Wd → RW Bool := mFzT [2] (mB (mOp dLt (mCall dLen (mCons (mVar 2) mNil)) (mC (.int 40))))
def aE66 : MW := mAppW 2 (mTup (mCons (mMeth (mDef m_Desk_bids 1) (mVar 0)) (mCons (mMeth (mDef m_Desk_result 1) (mVar 0)) mNil)))
def bE66 : MW := mTryF 3 2 (PySem.Str.ofString "NothingToUndo") (mB (mOp dEq (mVar 1) (mC (.int 0)))) (mMethW 0 1 (mDefW wm_Desk_undo 1) mNilA) (mMethW 0 1 (mDefW wm_Desk_redo 1) mNilA) aE66
theorem wh_t {t : Gam → Wd → RW Bool} {b : MW} {n : Nat} {Γ Γ2 : Gam} {W W2 : Wd} (h : t Γ W = .ok true W) (hb : b Γ W = .nx Γ2 W2) : mWhW t b (n + 1) Γ W = mWhW t b n Γ2 W2 := by
  show mEvEB t Γ W _ = _
  rw [apW_EvEB, h, out_ok, if_pos rfl, hb]
theorem wh_r {t : Gam → Wd → RW Bool} {b : MW} {n : Nat} {Γ : Gam} {W W2 : Wd} {d : PyData} (h : t Γ W = .ok true W) (hb : b Γ W = .rt d W2) : mWhW t b (n + 1) Γ W = .rt d W2 := by
  show mEvEB t Γ W _ = _
  rw [apW_EvEB, h, out_ok, if_pos rfl, hb]
section
variable {a : Addr}
theorem app_row {W : Wd} {m : DSt} (hW : W.lookup a = some (dkS m)) (o : OkP m.p) (w : Int) (acc : List SBd) (hl : acc.length < 100) (x3 : Sl) : aE66 [.ad a, .v (.int w), .own (acc.map eR), x3] W = .nx [.ad a, .v (.int w), .own ((acc ++ [m.p]).map eR), x3] W := by
  have h1 := f_bids (d := lgtD (dkS m).p) (x := m.p) rfl
  have h2 := f_dresult (d := lgtD (dkS m).p) (x := m.p) rfl rfl o
  have h3 : acc.length < 100000 := by omega
  have h4 : dfr (PyData.tuple [eBs m.p.2, eSt (fin m.p.1 (0, 0, 0) m.p.2)]) = true := dfr_eR m.p
  unfold aE66 mAppW
  simp [hW, h1, h2, h3, h4, eR]
theorem ends_loop {w : Int} (hw : w = 0 ∨ w = 1) : ∀ (r : List SBd) (N : Nat) (acc : List SBd) (m : DSt) (W : Wd), W.lookup a = some (dkS m) → (w = 0 → m.dn = r.reverse) → (w = 1 → m.un = r.reverse) → OkP m.p → (∀ x ∈ r, OkP x) → acc.length + r.length < 40 → m.dn.length + m.un.length < 100 → r.length < N →
    ∃ W', mWhW tE66 bE66 N [.ad a, .v (.int w), .own (acc.map eR), .no] W = .rt (.list ((acc ++ r).map eR)) W' ∧ W'.lookup a = some (dkS (endM w m r)) ∧ ∀ c, c ≠ a → W'.lookup c = W.lookup c
  | r, 0, acc, m, W, hW, h0, h1, o, ho, hl, hd, hN => absurd hN (Nat.not_lt_zero _)
  | [], N + 1, acc, m, W, hW, h0, h1, o, ho, hl, hd, hN => by
    have ht : tE66 [.ad a, .v (.int w), .own (acc.map eR), .no] W = .ok true W := by
      have : ((acc.length : Nat) : Int) < 40 := by simp at hl; omega
      unfold tE66
      simp [this]
    refine ⟨W, ?_, hW, fun _ _ => rfl⟩
    rw [List.append_nil]
    refine wh_r ht ?_
    unfold bE66 mTryF
    rcases hw with e | e <;> subst e
    · have := f_undo0 hW (by simpa using h0 rfl)
      simp [hW, this]
    · have := f_redo0 hW (by simpa using h1 rfl)
      simp [hW, this]
  | x :: r, N + 1, acc, m, W, hW, h0, h1, o, ho, hl, hd, hN => by
    have ht : tE66 [.ad a, .v (.int w), .own (acc.map eR), .no] W = .ok true W := by
      have : ((acc.length : Nat) : Int) < 40 := by simp at hl; omega
      unfold tE66
      simp [this]
    have ox : OkP x := ho x (by simp)
    have hal : acc.length < 100 := by simp at hl; omega
    rcases hw with e | e <;> subst e
    · have hd0 : m.dn = r.reverse ++ [x] := by simpa using h0 rfl
      have ud := f_undo hW r.reverse x hd0 (by omega)
      generalize em : (⟨x, r.reverse, m.un ++ [m.p]⟩ : DSt) = m1 at ud
      have hW1 := lk_set (D' := dkS m1) hW
      have p1 : m1.p = x := by rw [← em]
      have ar := app_row hW1 (by rw [p1]; exact ox) 0 acc hal .no
      rw [p1] at ar
      have hb : bE66 [.ad a, .v (.int 0), .own (acc.map eR), .no] W = .nx [.ad a, .v (.int 0), .own ((acc ++ [x]).map eR), .no] (setD W a (dkS m1)) := by
        unfold bE66 mTryF
        simp only [List.map_append] at ar ⊢
        simp [hW, ud, ar]
      have hlen : m1.dn.length + m1.un.length < 100 := by
        rw [← em]
        have e9 : m.dn.length = r.length + 1 := by rw [hd0]; simp
        simp
        omega
      obtain ⟨W', q1, q2, q3⟩ := ends_loop (.inl rfl) r N (acc ++ [x]) m1 (setD W a (dkS m1)) hW1 (fun _ => by rw [← em]) (fun h => absurd h (by decide)) (by rw [p1]; exact ox) (fun y hy => ho y (by simp [hy])) (by simp at hl ⊢; omega) hlen (by simp at hN; omega)
      refine ⟨W', ?_, ?_, fun c hc => (q3 c hc).trans (lk_set_ne hc)⟩
      · rw [wh_t ht hb, q1]; simp
      · rw [q2]; show _ = some (dkS (endM 0 (if (0 : Int) = 0 then _ else _) r)); rw [if_pos rfl, em]
    · have hd0 : m.un = r.reverse ++ [x] := by simpa using h1 rfl
      have ud := f_redo hW r.reverse x hd0 (by omega)
      generalize em : (⟨x, m.dn ++ [m.p], r.reverse⟩ : DSt) = m1 at ud
      have hW1 := lk_set (D' := dkS m1) hW
      have p1 : m1.p = x := by rw [← em]
      have ar := app_row hW1 (by rw [p1]; exact ox) 1 acc hal .no
      rw [p1] at ar
      have hb : bE66 [.ad a, .v (.int 1), .own (acc.map eR), .no] W = .nx [.ad a, .v (.int 1), .own ((acc ++ [x]).map eR), .no] (setD W a (dkS m1)) := by
        unfold bE66 mTryF
        simp only [List.map_append] at ar ⊢
        simp [hW, ud, ar]
      have hlen : m1.dn.length + m1.un.length < 100 := by
        rw [← em]
        have e9 : m.un.length = r.length + 1 := by rw [hd0]; simp
        simp
        omega
      obtain ⟨W', q1, q2, q3⟩ := ends_loop (.inr rfl) r N (acc ++ [x]) m1 (setD W a (dkS m1)) hW1 (fun h => absurd h (by decide)) (fun _ => by rw [← em]) (by rw [p1]; exact ox) (fun y hy => ho y (by simp [hy])) (by simp at hl ⊢; omega) hlen (by simp at hN; omega)
      refine ⟨W', ?_, ?_, fun c hc => (q3 c hc).trans (lk_set_ne hc)⟩
      · rw [wh_t ht hb, q1]; simp
      · rw [q2]; show _ = some (dkS (endM 1 (if (1 : Int) = 0 then _ else _) r)); rw [if_neg (by decide), em]
theorem f_ends {w : Int} (hw : w = 0 ∨ w = 1) {r : List SBd} {m : DSt} {W : Wd} (hW : W.lookup a = some (dkS m)) (h0 : w = 0 → m.dn = r.reverse) (h1 : w = 1 → m.un = r.reverse) (o : OkP m.p) (ho : ∀ x ∈ r, OkP x) (hl : r.length < 39) (hd : m.dn.length + m.un.length < 100) :
    ∃ W', mDefW wm_law_ends 4 [.a a, .d (.int w)] W = .ok (.list ((m.p :: r).map eR)) W' ∧ W'.lookup a = some (dkS (endM w m r)) ∧ ∀ c, c ≠ a → W'.lookup c = W.lookup c := by
  obtain ⟨W', q1, q2, q3⟩ := ends_loop (a := a) hw r 100 [m.p] m W hW h0 h1 o ho (by simp; omega) hd (by omega)
  refine ⟨W', ?_, q2, q3⟩
  have h1 := f_bids (d := lgtD (dkS m).p) (x := m.p) rfl
  have h2 := f_dresult (d := lgtD (dkS m).p) (x := m.p) rfl rfl o
  have h4 : dfrA [PyData.tuple [eBs m.p.2, eSt (fin m.p.1 (0, 0, 0) m.p.2)]] = true := by
    show (dfr (eR m.p) && true) = true
    rw [dfr_eR]; rfl
  rw [defW_eq]
  have e : wm_law_ends = mSeqW (mOwnW 2 (mCons (mTup (mCons (mMeth (mDef m_Desk_bids 1) (mVar 0)) (mCons (mMeth (mDef m_Desk_result 1) (mVar 0)) mNil))) mNil)) (mSeqW (mWhW tE66 bE66 100) (mUp (mRet [] (mC .none)))) := rfl
  rw [e, apW_Seq]
  have s1 : mOwnW 2 (mCons (mTup (mCons (mMeth (mDef m_Desk_bids 1) (mVar 0)) (mCons (mMeth (mDef m_Desk_result 1) (mVar 0)) mNil))) mNil) [.ad a, .v (.int w), .no, .no] W = .nx [.ad a, .v (.int w), .own ([m.p].map eR), .no] W := by
    unfold mOwnW
    simp [hW, h1, h2, h4, eR]
  have e0 : ([DA.a a, DA.d (.int w)].map slA ++ List.replicate (4 - [DA.a a, DA.d (.int w)].length) .no) = [.ad a, .v (.int w), .no, .no] := rfl
  rw [e0, s1, thn_nx, apW_Seq, q1]
  rfl
end
end PD

/-! The mathematics: rows, equal desks, a desk back and forth. -/
namespace PD
open PySem L2
instance decSale : DecidableEq Sale := fun x y => if h : x.steps = y.steps ∧ x.start = y.start ∧ x.res = y.res then isTrue (by
  obtain ⟨h1, h2, h3⟩ := h
  cases x; cases y
  simp only at h1 h2 h3
  subst h1; subst h2; subst h3
  rfl) else isFalse fun e => h (by rw [e]; exact ⟨rfl, rfl, rfl⟩)
theorem dep_bids : ∀ o : List Bid, PyData.depthAll (o.map eB) ≤ 5
  | [] => by simp [PyData.depthAll]
  | b :: o => by
    have h := dep_bids o
    have h2 : (eB b).depth ≤ 5 := by simp [eB, eN, PyData.depth, PyData.depthAll]
    simp only [List.map_cons, PyData.depthAll]
    exact Nat.max_le.mpr ⟨h2, h⟩
theorem dep_stps : ∀ o : Steps, PyData.depthAll (o.map eStep) ≤ 5
  | [] => by simp [PyData.depthAll]
  | b :: o => by
    have h := dep_stps o
    have h2 : (eStep b).depth ≤ 5 := by simp [eStep, PyData.depth, PyData.depthAll]
    simp only [List.map_cons, PyData.depthAll]
    exact Nat.max_le.mpr ⟨h2, h⟩
theorem enc_bds : Enc eBs where
  eqv := fun x y => by
    show PyData.eqv (.list (x.map eB)) (.list (y.map eB)) = _
    rw [PyData.eqv, enc_bid.all]
    try exact decide_eq_decide.mpr Iff.rfl
  lay := fun x => (enc_bid.layAll x).1
  dep := fun x => by
    have := dep_bids x
    show PyData.depth (.list (x.map eB)) ≤ 20
    simp only [PyData.depth]
    omega
def pR (p : List Bid × St3) : PyData := .tuple [eBs p.1, eSt p.2]
theorem enc_pR : Enc pR where
  eqv := fun x y => by
    simp only [pR, PyData.eqv, PyData.eqvAll, enc_bds.eqv, enc_st.eqv, PySem.W.beq_decide, Bool.and_true, ← Bool.decide_and]
    exact decide_eq_decide.mpr ⟨fun e => Prod.ext e.1 e.2, fun e => by rw [e]; exact ⟨rfl, rfl⟩⟩
  lay := fun x => by simp only [pR, PyData.canLay0, PyData.canLayAll0, enc_bds.lay, enc_st.lay, Bool.and_self]
  dep := fun x => by
    have h1 : (eBs x.1).depth ≤ 6 := by
      have := dep_bids x.1
      show PyData.depth (.list (x.1.map eB)) ≤ 6
      simp only [PyData.depth]
      omega
    have h2 : (eSt x.2).depth ≤ 6 := by simp [eSt, eN, PyData.depth, PyData.depthAll]
    simp only [pR, PyData.depth, PyData.depthAll]
    omega
def rw2 (x : SBd) : List Bid × St3 := (x.2, fin x.1 (0, 0, 0) x.2)
theorem eR_pR (x : SBd) : eR x = pR (rw2 x) := rfl
theorem eRs_pR (l : List SBd) : l.map eR = (l.map rw2).map pR := by rw [List.map_map]; rfl
theorem eqD_eR (x : SBd) : eqD (eR x) (eR x) = .ok true := by rw [eR_pR, enc_pR.eq]; simp
theorem eqD_eRs (l : List SBd) : eqD (.list (l.map eR)) (.list (l.map eR)) = .ok true := by rw [eRs_pR, enc_pR.eqL]; simp
theorem enc_sale : Enc Sale.d where
  eqv := fun x y => by
    show PyData.eqv (.tuple [.tuple (x.steps.map eStep), .int x.start, .int x.res]) (.tuple [.tuple (y.steps.map eStep), .int y.start, .int y.res]) = _
    simp only [PyData.eqv, PyData.eqvAll, enc_stp.all, PySem.W.beq_decide, Bool.and_true, ← Bool.decide_and]
    refine decide_eq_decide.mpr ⟨fun ⟨e1, e2, e3⟩ => ?_, fun e => by rw [e]; exact ⟨rfl, rfl, rfl⟩⟩
    cases x; cases y
    simp only at e1 e2 e3
    subst e1; subst e2; subst e3
    rfl
  lay := fun x => (lay_sale x).1
  dep := fun x => by
    have := dep_stps x.steps
    show PyData.depth (.tuple [.tuple (x.steps.map eStep), .int x.start, .int x.res]) ≤ 20
    simp only [PyData.depth, PyData.depthAll]
    omega
theorem enc_eP : Enc eP where
  eqv := fun x y => by
    show PyData.eqv (.tuple [x.1.d, .tuple (x.2.map eB)]) (.tuple [y.1.d, .tuple (y.2.map eB)]) = _
    simp only [PyData.eqv, PyData.eqvAll, enc_sale.eqv, enc_bid.all, Bool.and_true, ← Bool.decide_and]
    exact decide_eq_decide.mpr ⟨fun e => Prod.ext e.1 e.2, fun e => by rw [e]; exact ⟨rfl, rfl⟩⟩
  lay := fun x => (lay_eP x).1
  dep := fun x => by
    have h1 := dep_bids x.2
    have h2 := dep_stps x.1.steps
    show PyData.depth (.tuple [.tuple [.tuple (x.1.steps.map eStep), .int x.1.start, .int x.1.res], .tuple (x.2.map eB)]) ≤ 20
    simp only [PyData.depth, PyData.depthAll]
    omega
/-! equal desks -/
theorem f_eq {d e : PyData} {x y : SBd} (hd : dFldP d = .ok (eP x)) (he : dFldP e = .ok (eP y)) (hi : isDsk e = true) : mDef m_Desk___eq__ 2 [d, e] = .ok (.bool (decide (x = y))) := by
  apply def_rt
  simp [m_Desk___eq__, hd, he, hi, enc_eP.eq]
theorem f_eqT {d : PyData} {l : List PyData} : mDef m_Desk___eq__ 2 [d, .tuple l] = .ok (.bool false) := by
  apply def_rt
  simp [m_Desk___eq__, isDsk, isTup]
@[simp] theorem eqK_dd (m : DSt) (y : DSt) : dEqK (mDef m_Desk___eq__ 2) (dskD (dkS m)) (dskD (dkS y)) = .ok (.bool (decide (m.p = y.p))) := by
  have := f_eq (d := dskD (dkS m)) (e := dskD (dkS y)) (x := m.p) (y := y.p) rfl rfl rfl
  unfold dEqK
  rw [if_pos ⟨rfl, .inl rfl⟩, this]
  rfl
@[simp] theorem neK_dd (m : DSt) (y : DSt) : dNeK (mDef m_Desk___eq__ 2) (dskD (dkS m)) (dskD (dkS y)) = .ok (.bool (!decide (m.p = y.p))) := by
  have := f_eq (d := dskD (dkS m)) (e := dskD (dkS y)) (x := m.p) (y := y.p) rfl rfl rfl
  unfold dNeK
  rw [if_pos ⟨rfl, .inl rfl⟩, this]
  rfl
@[simp] theorem eqK_dt (m : DSt) (x : SBd) : dEqK (mDef m_Desk___eq__ 2) (dskD (dkS m)) (eR x) = .ok (.bool false) := by
  have : mDef m_Desk___eq__ 2 [dskD (dkS m), eR x] = .ok (.bool false) := f_eqT
  unfold dEqK
  rw [if_pos ⟨rfl, .inr rfl⟩, this]
  rfl
@[simp] theorem bids_dsk (m : DSt) : mDef m_Desk_bids 1 [dskD (dkS m)] = .ok (eBs m.p.2) := f_bids rfl
@[simp] theorem bids_lgt (m : DSt) : mDef m_Desk_bids 1 [lgtD (dkS m).p] = .ok (eBs m.p.2) := f_bids rfl
@[simp] theorem len_dsk (m : DSt) : mDef m_Desk___len__ 1 [dskD (dkS m)] = .ok (.int (m.p.2.length : Nat)) := f_dlen rfl
theorem dk_new (s : Sale) : deskOf s.d = dkS ⟨(s, []), [], []⟩ := rfl
/-! a desk that goes back and forth -/
def dAt (A : List SBd) (x : SBd) (B : List SBd) : DSt := ⟨x, A, B.reverse⟩
@[simp] theorem dAt_p (A : List SBd) (x : SBd) (B : List SBd) : (dAt A x B).p = x := rfl
theorem endM_1 : ∀ (B A : List SBd) (x : SBd), ∃ L l, endM 1 (dAt A x B) B = dAt L l [] ∧ L ++ [l] = A ++ x :: B
  | [], A, x => ⟨A, x, rfl, by simp⟩
  | b :: B, A, x => by
    obtain ⟨L, l, e1, e2⟩ := endM_1 B (A ++ [x]) b
    refine ⟨L, l, ?_, by rw [e2]; simp⟩
    rw [← e1]
    rfl
theorem endM_0 : ∀ (r B : List SBd) (x : SBd), ∃ l L, endM 0 (dAt r.reverse x B) r = dAt [] l L ∧ l :: L = r.reverse ++ x :: B
  | [], B, x => ⟨x, B, rfl, rfl⟩
  | b :: r, B, x => by
    obtain ⟨l, L, e1, e2⟩ := endM_0 r (x :: B) b
    refine ⟨l, L, ?_, by rw [e2]; simp⟩
    rw [← e1]
    show endM 0 (if (0 : Int) = 0 then _ else _) r = _
    rw [if_pos rfl]
    simp [dAt]
/-! steps of a proof that a law ends with True -/
section
variable {s t b : MW} {Γ Γ1 : Gam} {W W1 : Wd} {c : Gam → Wd → RW Bool} {f : Addr → RW Bool} {g : Addr → OutW}
theorem aT_seq (h : s Γ W = .nx Γ1 W1) (k : AllT (t Γ1 W1)) : AllT (mSeqW s t Γ W) := by rw [apW_Seq, h]; exact k
theorem aT_al (h : s Γ W = .al W1 g) (k : ∀ a, (∀ p ∈ W1, p.1 ≠ a) → AllT ((g a).thn t)) : AllT (mSeqW s t Γ W) := by rw [apW_Seq, h]; exact k
theorem aT_if (h : c Γ W = .ok false W1) (k : AllT (t Γ W1)) : AllT (mSeqW (mIfSW c b mSkipW) t Γ W) := by
  refine aT_seq (Γ1 := Γ) (W1 := W1) ?_ k
  rw [apW_IfS, apW_EvEB, h]
  rfl
theorem aT_ifal (h : c Γ W = .al W1 f) (k : ∀ a, (∀ p ∈ W1, p.1 ≠ a) → ∃ W2, f a = .ok false W2 ∧ AllT (t Γ W2)) : AllT (mSeqW (mIfSW c b mSkipW) t Γ W) := by
  refine aT_al (W1 := W1) (g := fun a => (f a).out fun q W1 => if q = true then b Γ W1 else mSkipW Γ W1) ?_ fun a ha => ?_
  · rw [apW_IfS, apW_EvEB, h]; rfl
  · obtain ⟨W2, e1, e2⟩ := k a ha
    rw [e1]
    exact e2
theorem lk_fresh {a c : Addr} {D : ObD} {W : Wd} (h : W.lookup a = some D) (f : ∀ p ∈ W, p.1 ≠ c) : a ≠ c := f _ (lookup_mem h)
end
end PD

/-! The mathematics: undoing so many times, and another desk's bids. -/
namespace PD
open PySem L2
theorem goW_nx {b : Bd} {body : MW} {d : PyData} {ds : List PyData} {Γ Γ1 Γ2 : Gam} {W W2 : Wd} (h1 : b d Γ = some Γ1) (h2 : body Γ1 W = .nx Γ2 W2) : forGoW b body (d :: ds) Γ W = forGoW b body ds Γ2 W2 := by
  rw [forGoW, h1]
  dsimp only
  rw [h2]
abbrev gB (d0 d1 : PyData) (a : Addr) (d3 : PyData) (x4 x5 x6 x7 x8 x9 x10 x11 x12 x13 x14 : Sl) : Gam := [.v d0, .v d1, .ad a, .v d3, x4, x5, x6, x7, x8, x9, x10, x11, x12, x13, x14]
theorem back_loop {d0 d1 d3 : PyData} {a : Addr} {x4 x6 x7 x8 x9 x10 x11 x12 x13 x14 : Sl} : ∀ (ds : List PyData) (A : List SBd) (x : SBd) (B : List SBd) (W : Wd) (x5 : Sl), W.lookup a = some (dkS (dAt A x B)) → ds.length ≤ A.length → A.length + B.length < 100 →
    ∃ A' x' B' W' y5, forGoW (bName 5) (mDoW (mMethW 2 1 (mDefW wm_Desk_undo 1) mNilA)) ds (gB d0 d1 a d3 x4 x5 x6 x7 x8 x9 x10 x11 x12 x13 x14) W = .nx (gB d0 d1 a d3 x4 y5 x6 x7 x8 x9 x10 x11 x12 x13 x14) W' ∧ W'.lookup a = some (dkS (dAt A' x' B')) ∧ A' ++ x' :: B' = A ++ x :: B ∧ A'.length + ds.length = A.length
  | [], A, x, B, W, x5, hW, hl, hd => ⟨A, x, B, W, x5, rfl, hW, rfl, by simp⟩
  | d :: ds, A, x, B, W, x5, hW, hl, hd => by
    simp only [List.length_cons] at hl
    obtain ⟨A0, y, rfl⟩ : ∃ A0 y, A = A0 ++ [y] := by
      have hne : A ≠ [] := fun h => by subst h; simp at hl
      exact ⟨A.dropLast, A.getLast hne, (List.dropLast_concat_getLast hne).symm⟩
    have ud := f_undo hW A0 y rfl (by show B.reverse.length < 100000; simp; omega)
    have em : (⟨y, A0, (dAt (A0 ++ [y]) x B).un ++ [(dAt (A0 ++ [y]) x B).p]⟩ : DSt) = dAt A0 y (x :: B) := by simp [dAt]
    rw [em] at ud
    have hW1 := lk_set (D' := dkS (dAt A0 y (x :: B))) hW
    simp only [List.length_append, List.length_cons, List.length_nil] at hl hd
    obtain ⟨A', x', B', W', y5, e1, e2, e3, e4⟩ := back_loop (d0 := d0) (d1 := d1) (d3 := d3) (x4 := x4) (x6 := x6) (x7 := x7) (x8 := x8) (x9 := x9) (x10 := x10) (x11 := x11) (x12 := x12) (x13 := x13) (x14 := x14) ds A0 y (x :: B) (setD W a (dkS (dAt A0 y (x :: B)))) (.v d) hW1 (by omega) (by simp; omega)
    refine ⟨A', x', B', W', y5, ?_, e2, by rw [e3]; simp, by simp; omega⟩
    rw [← e1]
    have b : mDoW (mMethW 2 1 (mDefW wm_Desk_undo 1) mNilA) (gB d0 d1 a d3 x4 (.v d) x6 x7 x8 x9 x10 x11 x12 x13 x14) W = .nx (gB d0 d1 a d3 x4 (.v d) x6 x7 x8 x9 x10 x11 x12 x13 x14) (setD W a (dkS (dAt A0 y (x :: B)))) := by
      simp [hW, ud]
    exact goW_nx rfl b
/-- another desk gets the bids -/
theorem bid_loop {d0 d1 d3 : PyData} {a o : Addr} {x4 x5 x6 x8 x9 x10 x13 x14 : Sl} {s : Sale} (hs : s.Ok) : ∀ (bs p : List Bid) (W : Wd) (x11 x12 : Sl) (dn : List SBd), W.lookup o = some (dkS ⟨(s, p), dn, []⟩) → (∀ b ∈ p ++ bs, OkB b) → p.length + bs.length ≤ 8 → dn.length + bs.length < 100 →
    ∃ dn' W' y11 y12, forGoW (bTup [bName 11, bName 12]) (mDoW (mMethW 7 3 (mDefW wm_Desk_bid 7) (mConsD (mVar 11) (mConsD (mVar 12) mNilA)))) (bs.map eB) (gB d0 d1 a d3 x4 x5 x6 (.ad o) x8 x9 x10 x11 x12 x13 x14) W = .nx (gB d0 d1 a d3 x4 x5 x6 (.ad o) x8 x9 x10 y11 y12 x13 x14) W' ∧ W'.lookup o = some (dkS ⟨(s, p ++ bs), dn', []⟩) ∧ ∀ c, c ≠ o → W'.lookup c = W.lookup c
  | [], p, W, x11, x12, dn, hW, hb, hl, hd => ⟨dn, W, x11, x12, rfl, by rw [List.append_nil]; exact hW, fun _ _ => rfl⟩
  | b :: bs, p, W, x11, x12, dn, hW, hb, hl, hd => by
    simp only [List.length_cons] at hl hd
    have ok : OkP (s, p) := ⟨hs, fun c hc => hb c (List.mem_append.mpr (.inl hc)), by show p.length ≤ 8; omega⟩
    have fb := f_bid hW ok (by show p.length < 8; omega) (by show dn.length < 100000; omega) (hb b (List.mem_append.mpr (.inr List.mem_cons_self)))
    have hW1 := lk_set (D' := dkS (bidM ⟨(s, p), dn, []⟩ b)) hW
    obtain ⟨dn', W', y11, y12, e1, e2, e3⟩ := bid_loop (d0 := d0) (d1 := d1) (d3 := d3) (a := a) (x4 := x4) (x5 := x5) (x6 := x6) (x8 := x8) (x9 := x9) (x10 := x10) (x13 := x13) (x14 := x14) hs bs (p ++ [b]) (setD W o (dkS (bidM ⟨(s, p), dn, []⟩ b))) (.v (eN b.1)) (.v (.int b.2)) (dn ++ [(s, p)]) hW1 (fun c hc => hb c (by simpa using hc)) (by simp; omega) (by simp; omega)
    refine ⟨dn', W', y11, y12, ?_, by rw [e2]; simp, fun c hc => (e3 c hc).trans (lk_set_ne hc)⟩
    rw [← e1]
    have bb : mDoW (mMethW 7 3 (mDefW wm_Desk_bid 7) (mConsD (mVar 11) (mConsD (mVar 12) mNilA))) (gB d0 d1 a d3 x4 x5 x6 (.ad o) x8 x9 x10 (.v (eN b.1)) (.v (.int b.2)) x13 x14) W = .nx (gB d0 d1 a d3 x4 x5 x6 (.ad o) x8 x9 x10 (.v (eN b.1)) (.v (.int b.2)) x13 x14) (setD W o (dkS (bidM ⟨(s, p), dn, []⟩ b))) := by
      simp [hW, fb]
    exact goW_nx rfl bb
structure HistOk (s : Sale) (bs : List Bid) (T : List SBd) : Prop where
  so : s.Ok
  b : ∀ b ∈ bs, OkB b
  l : bs.length ≤ 8
  ok : ∀ y ∈ T, OkP y
  row : ∀ A x B, T = A ++ x :: B → x.2 = bs.take A.length ∧ (A.length ≤ bs.length ↔ x.1 = s)
  last : ∀ L l, T = L ++ [l] → l.2 = bs
  len : T.length ≤ 10
section
variable {s : Sale} {bs : List Bid} {T A B : List SBd} {x : SBd} (H : HistOk s bs T) (e : T = A ++ x :: B)
include H e
theorem HistOk.first : x = (s, []) ↔ A.length = 0 := by
  obtain ⟨h1, h2⟩ := H.row A x B e
  constructor
  · intro ex
    rw [ex] at h1 h2
    have h3 : A.length ≤ bs.length := h2.mpr rfl
    have h4 : (bs.take A.length).length = 0 := by rw [← h1]; rfl
    rw [List.length_take] at h4
    omega
  · intro ex
    rw [ex] at h1 h2
    exact Prod.ext (h2.mp (Nat.zero_le _)) (by rw [h1]; simp)
theorem HistOk.same : (s, x.2) = x ↔ A.length ≤ bs.length := by
  obtain ⟨h1, h2⟩ := H.row A x B e
  rw [h2]
  exact ⟨fun h => by rw [← h], fun h => Prod.ext h.symm rfl⟩
end
theorem small_ok : Sale.Ok ⟨[(0, 1)], 5, 9⟩ := ⟨by decide, ⟨1, [], rfl⟩, fun q hq => by rw [List.mem_singleton.mp hq]; decide, rfl, by decide, by decide⟩
end PD

/-! The mathematics: the law's second half. -/
namespace PD
open PySem L2
@[simp] theorem dRevL_list (ds : List PyData) : dRevL (.list ds) = .ok ds.reverse := rfl
@[simp] theorem ap_RevL (m : M) (Γ : Gam) : mRevL m Γ = (m Γ).bind dRevL := rfl
@[simp] theorem upL1_dk (W : Wd) (d : PyData) : upL1 W (.v d) = .v d := rfl
theorem copy_ok {Γ : Gam} {W : Wd} {a : Addr} {m : DSt} {i : Nat} (h1 : gat Γ i = .ad a) (h2 : W.lookup a = some (dkS m)) (o : OkP m.p) : mCopyX i (mDef m_check_sale 1) Γ W = .al W fun c => .ok c ((c, dkS m) :: W) := by
  unfold mCopyX
  rw [h1]
  dsimp only
  rw [h2]
  dsimp only
  have c1 : calm (dkS m).p = true := calm_eP m.p
  have c2 : calmA (dkS m).dn = true := calmA_map calm_eP m.dn
  have c3 : calmA (dkS m).un = true := calmA_map calm_eP m.un
  have c4 : dIx (dkS m).p (.int 0) = .ok m.p.1.d := rfl
  rw [if_pos]
  rw [c1, c2, c3, c4]
  show (true && (true && (true && okR (mDef m_check_sale 1 [m.p.1.d])))) = true
  rw [f_check_sale o.s]
  rfl
theorem newx_ok {Γ : Gam} {W : Wd} {m : M} {s : Sale} (h1 : m Γ = .ok s.d) (o : s.Ok) : mNewX (mDef m_check_sale 1) m Γ W = .al W fun c => .ok c ((c, dkS ⟨(s, []), [], []⟩) :: W) := by
  unfold mNewX mNewD
  rw [h1, R.bind_ok, f_check_sale o]
  rfl
theorem make_ok {Γ : Gam} {m : M} {s : Sale} (h1 : m Γ = .ok s.d) (o : s.Ok) : mMakeD (mDef m_check_sale 1) m Γ = .ok (dskD (dkS ⟨(s, []), [], []⟩)) := by
  unfold mMakeD mNewD
  rw [h1, R.bind_ok, f_check_sale o]
  rfl
@[simp] theorem apW_Par2S (i j : Nat) (p q : Gam → Wd → RW Sl) (Γ : Gam) (W : Wd) : mPar2S i j p q Γ W = (p Γ W).out fun s W1 => (q Γ W1).out fun t W2 => .nx ((Γ.set i s).set j t) W2 := rfl
@[simp] theorem apW_SetS (i : Nat) (p : Gam → Wd → RW Sl) (Γ : Gam) (W : Wd) : mSetS i p Γ W = (p Γ W).out fun s W1 => .nx (Γ.set i s) W1 := rfl
section
variable {ns : List Int} {s : Sale} {bs : List Bid} {T A B L : List SBd} {x l : SBd} {a : Addr}
theorem back_true (hs : ns.length ≤ 63) (H : HistOk s bs T) (hT : T = L ++ [l]) {W : Wd} (hW : W.lookup a = some (dkS (dAt L l []))) :
    AllT (wm_law_back (gB (S ns) s.d a (.list (T.map eR)) .no .no .no .no .no .no .no .no .no .no .no) W) := by
  have hlen := H.len
  have hTl : T.length = L.length + 1 := by rw [hT]; simp
  have p2 := f_drawn hs (k := 2) (many := ((T.length : Nat) : Int)) (by omega) (by omega)
  obtain ⟨q0, q1⟩ := drawn_b hs (k := 2) (many := ((T.length : Nat) : Int)) (by omega) (by omega)
  generalize drawnF ns 2 ((T.length : Nat) : Int) = q at *
  obtain ⟨j, rfl⟩ : ∃ j : Nat, q = j := ⟨q.toNat, by omega⟩
  unfold wm_law_back
  refine aT_seq (Γ1 := gB (S ns) s.d a (.list (T.map eR)) (.v (.int j)) .no .no .no .no .no .no .no .no .no .no) (W1 := W) (by simp [p2]) ?_
  have hji : (intsFrom 0 j).length = j := intsFrom_length 0 j
  obtain ⟨A, x, B, W1, y5, e1, hW1, e3, e4⟩ := back_loop (d0 := S ns) (d1 := s.d) (d3 := .list (T.map eR)) (x4 := .v (.int j)) (x6 := .no) (x7 := .no) (x8 := .no) (x9 := .no) (x10 := .no) (x11 := .no) (x12 := .no) (x13 := .no) (x14 := .no) (intsFrom 0 j) L l [] W .no hW (by omega) (by simp; omega)
  have hT2 : T = A ++ x :: B := by rw [hT, e3]
  rw [hji] at e4
  refine aT_seq (Γ1 := gB (S ns) s.d a (.list (T.map eR)) (.v (.int j)) y5 .no .no .no .no .no .no .no .no .no) (W1 := W1) ?_ ?_
  · have er : mRng (mCons (mVar 4) mNil) (gB (S ns) s.d a (.list (T.map eR)) (.v (.int j)) .no .no .no .no .no .no .no .no .no .no) = .ok (intsFrom 0 j) := by
      simp [rngD]
      omega
    unfold mForW
    rw [er]
    exact e1
  clear e1 hW
  have hx : OkP x := H.ok x (by rw [hT2]; simp)
  have hBl : A.length + B.length = T.length - 1 := by rw [hT2]; simp
  have rx : dIx (.list (T.map eR)) (.int (A.length : Nat)) = .ok (eR x) := by
    have := atI_mid (A.map eR) (eR x) (B.map eR)
    rw [List.length_map] at this
    rw [hT2, List.map_append, List.map_cons, dIx_list, this]
    rfl
  refine aT_al (W1 := W1) (g := fun c => .nx (gB (S ns) s.d a (.list (T.map eR)) (.v (.int j)) y5 .no .no .no (.v (.int (A.length : Nat))) (.ad c) .no .no .no .no) ((c, dkS (dAt A x B)) :: W1)) ?_ fun c hc => ?_
  · have hk : (((T.length : Nat) : Int) - 1 - (j : Int)) = ((A.length : Nat) : Int) := by omega
    have cp := copy_ok (i := 2) (Γ := gB (S ns) s.d a (.list (T.map eR)) (.v (.int j)) y5 .no .no .no .no .no .no .no .no .no) rfl hW1 hx
    have lq : dSub (.int (T.length : Nat)) (.int 1) = .ok (.int (((T.length : Nat) : Int) - 1)) := rfl
    simp [cp, hk]
  have hac := lk_fresh hW1 hc
  have hW2 : ((c, dkS (dAt A x B)) :: W1).lookup a = some (dkS (dAt A x B)) := by rw [lk_ne hac]; exact hW1
  have hC2 := lk_eq c (dkS (dAt A x B)) W1
  generalize ((c, dkS (dAt A x B)) :: W1) = W2 at hW2 hC2
  clear hW1 hc
  rw [thn_nx]
  have rr : ∀ m : DSt, OkP m.p → mDef m_Desk_result 1 [dskD (dkS m)] = .ok (eSt (fin m.p.1 (0, 0, 0) m.p.2)) := fun m o => f_dresult (x := m.p) rfl rfl o
  have rrow := rr (dAt A x B) hx
  have rx2 : atI (T.map eR) ((A.length : Nat) : Int) = some (eR x) := by
    have := atI_mid (A.map eR) (eR x) (B.map eR)
    rw [List.length_map] at this
    rw [hT2, List.map_append, List.map_cons, this]
  have eqx : eqD (.tuple [eBs x.2, eSt (fin x.1 (0, 0, 0) x.2)]) (eR x) = .ok true := eqD_eR x
  rw [dAt_p] at rrow
  refine aT_if (W1 := W2) (by simp [hW2, hC2, rrow, rx2, eqx]) ?_
  /- undoing and redoing of the copy -/
  have okB : ∀ y ∈ B, OkP y := fun y hy => H.ok y (by rw [hT2]; simp [hy])
  obtain ⟨W3, f1, f2, f3⟩ := f_ends (a := c) (w := 1) (.inr rfl) (r := B) (m := dAt A x B) hC2 (fun h => absurd h (by decide)) (fun _ => rfl) hx okB (by omega) (by show A.length + B.reverse.length < 100; simp; omega)
  obtain ⟨L1, l1, g1, g2⟩ := endM_1 B A x
  rw [g1] at f2
  have hT3 : T = L1 ++ [l1] := by rw [g2, hT2]
  have okL1 : ∀ y ∈ L1, OkP y := fun y hy => H.ok y (by rw [hT3]; simp [hy])
  have hL1 : L1.length + 1 = T.length := by rw [hT3]; simp
  obtain ⟨W4, h1, h2, h3⟩ := f_ends (a := c) (w := 0) (.inl rfl) (r := L1.reverse) (m := dAt L1 l1 []) f2 (fun _ => by simp [dAt]) (fun h => absurd h (by decide)) (H.ok l1 (by rw [hT3]; simp)) (fun y hy => okL1 y (by simpa using hy)) (by simp; omega) (by show L1.length + 0 < 100; omega)
  obtain ⟨t0, T', k1, k2⟩ := endM_0 L1.reverse [] l1
  rw [List.reverse_reverse] at k1 k2
  rw [k1] at h2
  have hT4 : T = [] ++ t0 :: T' := by rw [List.nil_append, k2, hT3]
  have t0e : t0 = (s, []) := (H.first hT4).mpr rfl
  have hW4 : W4.lookup a = some (dkS (dAt A x B)) := by rw [h3 a hac, f3 a hac]; exact hW2
  rw [dAt_p] at f1 h1
  have dr : (T.map eR).drop A.length = (x :: B).map eR := by rw [hT2, List.map_append]; simp
  have rv : (T.map eR).reverse = (l1 :: L1.reverse).map eR := by rw [hT3]; simp
  have eq1 := eqD_eRs (x :: B)
  have eq0 := eqD_eRs (l1 :: L1.reverse)
  refine aT_if (W1 := W4) ?_ ?_
  · have c1 : mBW (mOpW dNe (mCallW 2 (mDefW wm_law_ends 4) (mConsA 10 (mConsD (mC (.int 1)) mNilA))) (mU (mSl (mVar 3) (mPS (mVar 9)) mPN))) (gB (S ns) s.d a (.list (T.map eR)) (.v (.int j)) y5 .no .no .no (.v (.int (A.length : Nat))) (.ad c) .no .no .no .no) W2 = .ok false W3 := by
      simp only [List.map_cons] at f1 eq1 dr
      simp [f1, cutG_drop, dr, eq1]
    have c2 : mBW (mOpW dNe (mCallW 2 (mDefW wm_law_ends 4) (mConsA 10 (mConsD (mC (.int 0)) mNilA))) (mU (mL (mRevL (mVar 3))))) (gB (S ns) s.d a (.list (T.map eR)) (.v (.int j)) y5 .no .no .no (.v (.int (A.length : Nat))) (.ad c) .no .no .no .no) W3 = .ok false W4 := by
      have eq0' : eqD (.list (eR l1 :: (L1.map eR).reverse)) (.list (T.map eR).reverse) = .ok true := by
        rw [← List.map_reverse]
        rw [← rv] at eq0
        rw [rv]
        simpa [rv] using eq0
      simp [h1, eq0']
    unfold mOrW
    rw [c1]
    exact c2
  subst t0e
  clear f1 f2 f3 g1 g2 h1 h3 k1 k2 hW2 hC2 dr rv eq1 eq0
  generalize hDC : dAt [] (s, []) T' = mc at h2
  have mcp : mc.p = (s, []) := by rw [← hDC]; rfl
  have hs0 := H.so
  have fi := H.first hT2
  have fi2 : decide ((s, ([] : List Bid)) = x) = decide (((A.length : Nat) : Int) = 0) := decide_eq_decide.mpr ⟨fun h => by have := fi.mp h.symm; omega, fun h => (fi.mpr (by omega)).symm⟩
  refine aT_if (W1 := W4) (by simp [h2, mMakeD, mNewD, f_check_sale hs0, dk_new, mcp]) ?_
  refine aT_if (W1 := W4) (by simp [hW4, h2, rrow, rx2, eqx, mcp, fi2]) ?_
  refine aT_if (W1 := W4) (by simp [hW4, rx2]) ?_
  /- another copy -/
  refine aT_ifal (W1 := W4) (f := fun e => ((mDefW wm_law_ends 4 [.a e, .d (.int 0)] ((e, dkS (dAt A x B)) :: W4)).bind fun d W5 => RW.of (dNe d (.list ((T.map eR).take (A.length + 1)).reverse)) W5).bind fun d W1 => RW.of (asB d) W1) ?_ fun c9 hc9 => ?_
  · have cp := copy_ok (i := 2) (Γ := gB (S ns) s.d a (.list (T.map eR)) (.v (.int j)) y5 .no .no .no (.v (.int (A.length : Nat))) (.ad c) .no .no .no .no) rfl hW4 hx
    unfold mCallX mConsX mNilX
    have ct : cutG (T.map eR) none (some (((A.length : Nat) : Int) + 1)) = (T.map eR).take (A.length + 1) := by
      have := cutG_take (T.map eR) (A.length + 1)
      simpa using this
    simp [cp, ct]
  have hac9 := lk_fresh hW4 hc9
  have okA : ∀ y ∈ A, OkP y := fun y hy => H.ok y (by rw [hT2]; simp [hy])
  obtain ⟨W5, f1, f2, f3⟩ := f_ends (a := c9) (w := 0) (.inl rfl) (r := A.reverse) (m := dAt A x B) (lk_eq c9 (dkS (dAt A x B)) W4) (fun _ => by simp [dAt]) (fun h => absurd h (by decide)) hx (fun y hy => okA y (by simpa using hy)) (by simp; omega) (by show A.length + B.reverse.length < 100; simp; omega)
  have hW5 : W5.lookup a = some (dkS (dAt A x B)) := by rw [f3 a hac9, lk_ne hac9]; exact hW4
  have tk : ((T.map eR).take (A.length + 1)).reverse = (x :: A.reverse).map eR := by
    have : (T.map eR).take (A.length + 1) = (A ++ [x]).map eR := by
      rw [hT2]
      have e5 : (A ++ x :: B).map eR = (A ++ [x]).map eR ++ B.map eR := by simp
      rw [e5, List.take_left' (by simp)]
    rw [this]; simp
  refine ⟨W5, ?_, ?_⟩
  · rw [dAt_p] at f1
    rw [f1, tk]
    show ((RW.of (dNe _ _) W5).bind _) = _
    rw [dNe_def, eqD_eRs]
    rfl
  clear f1 f2 f3 tk okA
  clear h2 hW4
  /- a list of one's own -/
  refine aT_seq (Γ1 := gB (S ns) s.d a (.list (T.map eR)) (.v (.int j)) y5 (.own (x.2.map eB)) .no .no (.v (.int (A.length : Nat))) (.ad c) .no .no .no .no) (W1 := W5) ?_ ?_
  · have o1 : mDefL mwl_bids 1 [lgtD (dkS (dAt A x B)).p] = .ok (x.2.map eB) := rfl
    have o2 : dfrA (x.2.map eB) = true := dfrA_map dfr_eB x.2
    unfold mOwnW mMethL
    simp [hW5, o1, o2]
  refine aT_seq (Γ1 := gB (S ns) s.d a (.list (T.map eR)) (.v (.int j)) y5 (.own ((x.2 ++ [(97, 5)]).map eB)) .no .no (.v (.int (A.length : Nat))) (.ad c) .no .no .no .no) (W1 := W5) ?_ ?_
  · have e97 : PyData.tuple [.str (PySem.Str.ofString "a"), .int 5] = eB (97, 5) := rfl
    have xl : x.2.length < 100000 := by have := hx.l; omega
    simp [e97, xl]
  have ne1 : eqD (eBs x.2) (.list (x.2.map eB ++ [eB (97, 5)])) = .ok false := by
    have := enc_bid.eqL x.2 (x.2 ++ [(97, 5)])
    rw [decide_eq_false] at this
    · rw [List.map_append] at this; exact this
    · intro h
      have := congrArg List.length h
      simp at this
  refine aT_if (W1 := W5) (by simp [hW5, ne1]) ?_
  /- another desk -/
  generalize (Sl.own ((x.2 ++ [(97, 5)]).map eB)) = x6
  refine aT_al (W1 := W5) (g := fun o => .nx (gB (S ns) s.d a (.list (T.map eR)) (.v (.int j)) y5 x6 (.ad o) .no (.v (.int (A.length : Nat))) (.ad c) .no .no .no .no) ((o, dkS ⟨(s, []), [], []⟩) :: W5)) ?_ fun o ho => ?_
  · have cp := newx_ok (m := mVar 1) (Γ := gB (S ns) s.d a (.list (T.map eR)) (.v (.int j)) y5 x6 .no .no (.v (.int (A.length : Nat))) (.ad c) .no .no .no .no) (W := W5) (s := s) rfl hs0
    simp [cp]
  have hao := lk_fresh hW5 ho
  rw [thn_nx]
  obtain ⟨dn', W6, y11, y12, e1, e2, e3'⟩ := bid_loop (d0 := S ns) (d1 := s.d) (d3 := .list (T.map eR)) (a := a) (x4 := .v (.int j)) (x5 := y5) (x6 := x6) (x8 := .no) (x9 := .v (.int (A.length : Nat))) (x10 := .ad c) (x13 := .no) (x14 := .no) hs0 x.2 [] ((o, dkS ⟨(s, []), [], []⟩) :: W5) .no .no [] (lk_eq o _ W5) (fun b hb => hx.b b (by simpa using hb)) (by have := hx.l; simp; omega) (by have := hx.l; simp; omega)
  have hW6 : W6.lookup a = some (dkS (dAt A x B)) := by rw [e3' a hao, lk_ne hao]; exact hW5
  rw [List.nil_append] at e2
  refine aT_seq (Γ1 := gB (S ns) s.d a (.list (T.map eR)) (.v (.int j)) y5 x6 (.ad o) .no (.v (.int (A.length : Nat))) (.ad c) y11 y12 .no .no) (W1 := W6) ?_ ?_
  · have er : mItems (mOp dIx (mOp dIx (mVar 3) (mVar 9)) (mC (.int 0))) (gB (S ns) s.d a (.list (T.map eR)) (.v (.int j)) y5 x6 (.ad o) .no (.v (.int (A.length : Nat))) (.ad c) .no .no .no .no) = .ok (x.2.map eB) := by
      simp [rx2, eR, eBs]
    unfold mForW
    rw [er]
    exact e1
  clear e1 e3' hW5 ho
  have ll : l.2 = bs := H.last L l hT
  have rl : atI (T.map eR) (-1) = some (eR l) := atI_neg _ _ (by rw [hT]; simp)
  have same := H.same hT2
  have sm : decide ((s, x.2) = x) = decide (A.length ≤ bs.length) := decide_eq_decide.mpr same
  refine aT_if (W1 := W6) ?_ ?_
  · have xl : ((x.2.length : Nat) : Int) < 100000 := by have := hx.l; omega
    by_cases hc : A.length ≤ bs.length
    · have h2 : (s, x.2) = x := same.mpr hc
      simp [hW6, e2, rx2, rl, eR, eBs, ll, xl, h2, hc]
    · have h2 : ¬ (s, x.2) = x := fun h => hc (same.mp h)
      simp [hW6, e2, rx2, rl, eR, eBs, ll, xl, h2, hc]
  generalize hs1 : (⟨[(0, 1)], 5, 9⟩ : Sale) = s1
  refine aT_seq (Γ1 := gB (S ns) s.d a (.list (T.map eR)) (.v (.int j)) y5 x6 (.ad o) (.v s1.d) (.v (.int (A.length : Nat))) (.ad c) y11 y12 .no .no) (W1 := W6) ?_ ?_
  · rw [← hs1]
    simp [Sale.d]
    rfl
  have so1 : s1.Ok := by rw [← hs1]; exact small_ok
  refine aT_al (W1 := W6) (g := fun p => .al ((p, dkS ⟨(s1, []), [], []⟩) :: W6) fun r => .nx (gB (S ns) s.d a (.list (T.map eR)) (.v (.int j)) y5 x6 (.ad o) (.v s1.d) (.v (.int (A.length : Nat))) (.ad c) y11 y12 (.ad p) (.ad r)) ((r, dkS ⟨(s1, []), [], []⟩) :: (p, dkS ⟨(s1, []), [], []⟩) :: W6)) ?_ fun p hp => ?_
  · have cp : ∀ W, mNewX (mDef m_check_sale 1) (mVar 8) (gB (S ns) s.d a (.list (T.map eR)) (.v (.int j)) y5 x6 (.ad o) (.v s1.d) (.v (.int (A.length : Nat))) (.ad c) y11 y12 .no .no) W = .al W fun c => .ok c ((c, dkS ⟨(s1, []), [], []⟩) :: W) := fun W => newx_ok rfl so1
    simp [cp]
  rw [thn_al]
  intro r hr
  dsimp only
  rw [thn_nx]
  have hpr : p ≠ r := hr (p, _) List.mem_cons_self
  have hWr := lk_eq r (dkS ⟨(s1, []), [], []⟩) ((p, dkS ⟨(s1, []), [], []⟩) :: W6)
  have hWp : ((r, dkS ⟨(s1, []), [], []⟩) :: (p, dkS ⟨(s1, []), [], []⟩) :: W6).lookup p = some (dkS ⟨(s1, []), [], []⟩) := by rw [lk_ne hpr, lk_eq]
  generalize ((r, dkS ⟨(s1, []), [], []⟩) :: (p, dkS ⟨(s1, []), [], []⟩) :: W6) = W7 at hWr hWp
  have lw := f_lower hWp (r := 7) ⟨so1, (fun b hb => by cases hb), by show (0 : Nat) ≤ 8; omega⟩ (by show (0 : Nat) < 100000; omega) (by rw [← hs1]; decide) (by rw [← hs1]; decide)
  have hWp2 := lk_set (D' := dkS (lowM ⟨(s1, []), [], []⟩ 7)) hWp
  have hWr2 := (lk_set_ne (D' := dkS (lowM ⟨(s1, []), [], []⟩ 7)) (Ne.symm hpr)).trans hWr
  generalize (setD W7 p (dkS (lowM ⟨(s1, []), [], []⟩ 7))) = W8 at *
  refine aT_seq (Γ1 := gB (S ns) s.d a (.list (T.map eR)) (.v (.int j)) y5 x6 (.ad o) (.v s1.d) (.v (.int (A.length : Nat))) (.ad c) y11 y12 (.ad p) (.ad r)) (W1 := W8) (by simp [hWp, lw]) ?_
  have nq : ¬ (lowM ⟨(s1, []), [], []⟩ 7).p = (s1, []) := fun h => by
    have : (7 : Int) = s1.res := congrArg (fun z => z.1.res) h
    rw [← hs1] at this
    exact absurd this (by decide)
  have l0 : (lowM ⟨(s1, []), [], []⟩ 7).p.2 = [] := rfl
  have : mRetW (mRd (mAndV (mOp dIs (mOp (dEqK (mDef m_Desk___eq__ 2)) (mVar 13) (mVar 14)) (mC (.bool false))) (mAndV (mOp dEq (mLenD (mDef m_Desk___len__ 1) (mVar 13)) (mC (.int 0))) (mOp (dEqK (mDef m_Desk___eq__ 2)) (mVar 14) (mMakeD (mDef m_check_sale 1) (mVar 8)))))) (gB (S ns) s.d a (.list (T.map eR)) (.v (.int j)) y5 x6 (.ad o) (.v s1.d) (.v (.int (A.length : Nat))) (.ad c) y11 y12 (.ad p) (.ad r)) W8 = .rt (.bool true) W8 := by
    simp [hWp2, hWr2, nq, l0, mMakeD, mNewD, f_check_sale so1, dk_new]
  rw [this]
  rfl
end
end PD

/-! The mathematics: what a bid's word says; a desk's history; the law's loop. -/
namespace PD
open PySem L2
theorem outs_atU (s : Sale) (p : List Bid) (b : Bid) (r : List Bid) : decide (((p.length : Nat) : Int) ∈ outs s (0, 0, 0) 0 (p ++ b :: r)) = rej s (fin s (0, 0, 0) p) b := by
  rw [outs_app]
  have h1 : ((p.length : Nat) : Int) ∉ outs s (0, 0, 0) 0 p := fun h => by
    have := outs_lt s _ _ _ _ h
    omega
  have h2 : ((p.length : Nat) : Int) ∉ outs s (adv s (fin s (0, 0, 0) p) b) (0 + (p.length : Nat) + 1) r := fun h => by
    have := outs_ge s _ _ _ _ h
    omega
  cases hr : rej s (fin s (0, 0, 0) p) b with
  | true => simp [outs, hr]
  | false =>
    simp [outs, hr]
    refine ⟨h1, ?_⟩
    simpa using h2
theorem sts_atU (s : Sale) (p : List Bid) (b : Bid) (r : List Bid) : atI ((sts s (0, 0, 0) (p ++ b :: r)).map eSt) ((p.length : Nat) : Int) = some (eSt (adv s (fin s (0, 0, 0) p) b)) := by
  rw [sts_app]
  have := atI_mid ((sts s (0, 0, 0) p).map eSt) (eSt (adv s (fin s (0, 0, 0) p) b)) ((sts s (adv s (fin s (0, 0, 0) p) b) r).map eSt)
  rw [List.length_map, sts_len] at this
  rw [List.map_append]
  exact this
/-! words -/
def wRef : Str := PySem.Str.ofString "refused"
def wLea : Str := PySem.Str.ofString "leads"
def wRai : Str := PySem.Str.ofString "raised"
def wKep : Str := PySem.Str.ofString "kept"
theorem w1 : ¬ wLea = wRef := by decide +kernel
theorem w2 : ¬ wRai = wRef := by decide +kernel
theorem w3 : ¬ wKep = wRef := by decide +kernel
theorem w4 : ¬ wRef = wLea := by decide +kernel
theorem w5 : ¬ wRai = wLea := by decide +kernel
theorem w6 : ¬ wKep = wLea := by decide +kernel
theorem w7 : ¬ wRef = wRai := by decide +kernel
theorem w8 : ¬ wLea = wRai := by decide +kernel
theorem w9 : ¬ wKep = wRai := by decide +kernel
theorem word_eq (s : Sale) (t : St3) (b : Bid) : word s t b = if rej s t b = true then wRef else if (adv s t b).1 ≠ t.1 then wLea else if (adv s t b).2.1 > t.2.1 then wRai else wKep := rfl
theorem word_ref (s : Sale) (t : St3) (b : Bid) : decide (word s t b = wRef) = rej s t b := by
  rw [word_eq]
  cases rej s t b with
  | true => simp
  | false =>
    by_cases h1 : (adv s t b).1 = t.1
    · by_cases h2 : t.2.1 < (adv s t b).2.1 <;> simp [h1, h2, w2, w3]
    · simp [h1, w1]
theorem word_lea (s : Sale) (t : St3) (b : Bid) : decide (word s t b = wLea) = decide (¬ (adv s t b).1 = t.1) := by
  rw [word_eq]
  cases hr : rej s t b with
  | true => simp [w4, adv_rej hr]
  | false =>
    by_cases h1 : (adv s t b).1 = t.1
    · by_cases h2 : t.2.1 < (adv s t b).2.1 <;> simp [h1, h2, w5, w6]
    · simp [h1]
theorem word_rai (s : Sale) (t : St3) (b : Bid) : decide (word s t b = wRai) = (decide ((adv s t b).1 = t.1) && decide (t.2.1 < (adv s t b).2.1)) := by
  rw [word_eq]
  cases hr : rej s t b with
  | true => simp [w7, adv_rej hr]
  | false =>
    by_cases h1 : (adv s t b).1 = t.1
    · by_cases h2 : t.2.1 < (adv s t b).2.1 <;> simp [h1, h2, w9]
    · simp [h1, w8]
theorem word_in (s : Sale) (t : St3) (b : Bid) : dNotInTu (.str (word s t b)) (.tuple [.str wRef, .str wLea, .str wRai, .str wKep]) = .ok (.bool false) := by
  have : word s t b = wRef ∨ word s t b = wLea ∨ word s t b = wRai ∨ word s t b = wKep := by
    rw [word_eq]
    cases rej s t b with
    | true => simp
    | false =>
      by_cases h1 : (adv s t b).1 = t.1
      · by_cases h2 : t.2.1 < (adv s t b).2.1 <;> simp [h1, h2]
      · simp [h1]
  rcases this with e | e | e | e <;> rw [e] <;> kernel_rfl
/-! the history -/
def hist (s : Sale) (p : List Bid) : List SBd := (List.range p.length).map fun k => (s, p.take k)
theorem hist_len (s : Sale) (p : List Bid) : (hist s p).length = p.length := by simp [hist]
theorem hist_one (s : Sale) (p : List Bid) (b : Bid) : hist s (p ++ [b]) = hist s p ++ [(s, p)] := by
  unfold hist
  rw [List.length_append, List.length_singleton, List.range_succ, List.map_append, List.map_singleton]
  congr 1
  · refine List.map_congr_left fun k hk => ?_
    rw [List.mem_range] at hk
    rw [List.take_append_of_le_length (by omega)]
  · rw [List.take_append_of_le_length (by omega), List.take_length]
end PD

/-! The mathematics: the law's loop, its end. -/
namespace PD
open PySem L2
def lb66 : MW := (mSeqW (mPar2S 10 11 (fun Γ W => ((mMethW 3 3 (mDefW wm_Desk_bid 7) (mConsD (mOp dIx (mVar 7) (mC (.int 0))) (mConsD (mOp dIx (mVar 7) (mC (.int 1))) mNilA))) Γ W).bind fun d W1 => .ok (.v d) W1) (fun Γ W => ((mU (mOp dIx (mIxO 4 (mNeg (mC (.int 1)))) (mC (.int 1)))) Γ W).bind fun d W1 => .ok (.v d) W1))
    (mSeqW (mAppW 4 (mTup (mCons (mMeth (mDef m_Desk_bids 1) (mVar 3)) (mCons (mMeth (mDef m_Desk_result 1) (mVar 3)) mNil))))
    (mSeqW (mUp (mSet 8 [] (mOp dIx (mIxO 4 (mNeg (mC (.int 1)))) (mC (.int 1)))))
    (mSeqW (mIfSW (mRdB (mOr (mB (mOp dNe (mMeth (mDef m_Desk_bids 1) (mVar 3)) (mSl (mVar 2) mPN (mPS (mOp dAdd (mVar 6) (mC (.int 1))))))) (mB (mOp dNe (mVar 8) (mOp dIx (mCall (mDef m_states 2) (mCons (mVar 1) (mCons (mVar 2) mNil))) (mVar 6)))))) (mUp (mRet [] (mC (.bool false)))) mSkipW)
    (mSeqW (mUp (mIfS [] (mB (mOp dNe (mOp dEq (mVar 10) (mC (.str (PySem.Str.ofString "refused")))) (mOp dIn (mVar 6) (mVar 5)))) (mRet [] (mC (.bool false))) mSkip))
    (mSeqW (mUp (mIfS [] (mB (mOp dNe (mOp dEq (mVar 10) (mC (.str (PySem.Str.ofString "leads")))) (mOp dNe (mOp dIx (mVar 8) (mC (.int 0))) (mOp dIx (mVar 11) (mC (.int 0)))))) (mRet [] (mC (.bool false))) mSkip))
    (mSeqW (mUp (mIfS [] (mB (mOp dNe (mOp dEq (mVar 10) (mC (.str (PySem.Str.ofString "raised")))) (mAndV (mOp dEq (mOp dIx (mVar 8) (mC (.int 0))) (mOp dIx (mVar 11) (mC (.int 0)))) (mOp dGt (mOp dIx (mVar 8) (mC (.int 1))) (mOp dIx (mVar 11) (mC (.int 1))))))) (mRet [] (mC (.bool false))) mSkip))
    (mSeqW (mUp (mIfS [] (mB (mOp dNotInTu (mVar 10) (mTup (mCons (mC (.str (PySem.Str.ofString "refused"))) (mCons (mC (.str (PySem.Str.ofString "leads"))) (mCons (mC (.str (PySem.Str.ofString "raised"))) (mCons (mC (.str (PySem.Str.ofString "kept"))) mNil))))))) (mRet [] (mC (.bool false))) mSkip))
    (mUp (mIfS [] (mAnd (mB (mOp dEq (mVar 10) (mC (.str (PySem.Str.ofString "refused"))))) (mB (mOp dNe (mVar 8) (mVar 11)))) (mRet [] (mC (.bool false))) mSkip))))))))))
def le66 : MW := (mSeqW (mIfSW (mU (mB (mOp dGt (mOp dIx (mVar 1) (mC (.int 2))) (mOp dIx (mVar 1) (mC (.int 1)))))) (mSeqW (mUp (mSet 9 [] (mTup (mCons (mOp dIx (mVar 1) (mC (.int 0))) (mCons (mOp dIx (mVar 1) (mC (.int 1))) (mCons (mOp dAdd (mOp dIx (mVar 1) (mC (.int 1))) (mCall (mDef m_law_drawn 6) (mCons (mVar 0) (mCons (mC (.int 1)) (mCons (mOp dSub (mOp dIx (mVar 1) (mC (.int 2))) (mOp dIx (mVar 1) (mC (.int 1)))) mNil))))) mNil))))))
    (mSeqW (mIfSW (mBW (mOpW dNe (mMethW 3 2 (mDefW wm_Desk_lower 6) (mConsD (mOp dIx (mVar 9) (mC (.int 2))) mNilA)) (mU (mCall (mDef m_result 2) (mCons (mVar 9) (mCons (mVar 2) mNil)))))) (mUp (mRet [] (mC (.bool false)))) mSkipW)
    (mSeqW (mIfSW (mRdB (mOr (mB (mOp dNe (mMeth (mDef m_Desk_result 1) (mVar 3)) (mCall (mDef m_result 2) (mCons (mVar 9) (mCons (mVar 2) mNil))))) (mB (mOp dNe (mMeth (mDef m_Desk_bids 1) (mVar 3)) (mVar 2))))) (mUp (mRet [] (mC (.bool false)))) mSkipW)
    (mAppW 4 (mTup (mCons (mVar 2) (mCons (mMeth (mDef m_Desk_result 1) (mVar 3)) mNil))))))) mSkipW)
    (mFzS [4] (mRetW (mCallW 4 (mDefW wm_law_back 15) (mConsD (mVar 0) (mConsD (mVar 1) (mConsA 3 (mConsD (mVar 4) mNilA))))))))
theorem wlr66_eq : wlr_k66 = mSeqW (mForW (mEnum (mCons (mVar 2) mNil)) (bTup [(bName 6), (bName 7)]) lb66) le66 := rfl
abbrev gL (d0 d1 d2 : PyData) (a : Addr) (rows : List PyData) (d5 : PyData) (x6 x7 x8 x9 x10 x11 : Sl) : Gam := [.v d0, .v d1, .v d2, .ad a, .own rows, .v d5, x6, x7, x8, x9, x10, x11]
theorem seqW_to {s t : MW} {Γ Γ1 : Gam} {W W1 : Wd} {o : OutW} (h : s Γ W = .nx Γ1 W1) (k : t Γ1 W1 = o) : mSeqW s t Γ W = o := by rw [apW_Seq, h]; exact k
section
variable {ns : List Int} {s : Sale} {a : Addr}
theorem lb_ok (hs : s.Ok) {p r : List Bid} {b : Bid} (hb : ∀ c ∈ p ++ b :: r, OkB c) (hl : (p ++ b :: r).length ≤ 8) {W : Wd} {x8 x9 x10 x11 : Sl} (hW : W.lookup a = some (dkS ⟨(s, p), hist s p, []⟩)) :
    ∃ W' y8 y10 y11, lb66 (gL (S ns) s.d (eBs (p ++ b :: r)) a ((hist s p ++ [(s, p)]).map eR) (.list ((outs s (0, 0, 0) 0 (p ++ b :: r)).map .int)) (.v (.int (p.length : Nat))) (.v (eB b)) x8 x9 x10 x11) W
      = .nx (gL (S ns) s.d (eBs (p ++ b :: r)) a ((hist s (p ++ [b]) ++ [(s, p ++ [b])]).map eR) (.list ((outs s (0, 0, 0) 0 (p ++ b :: r)).map .int)) (.v (.int (p.length : Nat))) (.v (eB b)) y8 x9 y10 y11) W' ∧ W'.lookup a = some (dkS ⟨(s, p ++ [b]), hist s (p ++ [b]), []⟩) := by
  have hpl : p.length + r.length + 1 ≤ 8 := by simpa [Nat.add_assoc] using hl
  have ok : OkP (s, p) := ⟨hs, fun c hc => hb c (List.mem_append.mpr (.inl hc)), by show p.length ≤ 8; omega⟩
  have ok2 : OkP (s, p ++ [b]) := ⟨hs, fun c hc => hb c (by rcases List.mem_append.mp hc with h | h <;> simp_all), by show (p ++ [b]).length ≤ 8; simp; omega⟩
  have fb := f_bid hW ok (by show p.length < 8; omega) (by show (hist s p).length < 100000; rw [hist_len]; omega) (hb b (by simp))
  have em : bidM ⟨(s, p), hist s p, []⟩ b = ⟨(s, p ++ [b]), hist s (p ++ [b]), []⟩ := by rw [hist_one]; rfl
  rw [em] at fb
  have hW1 := lk_set (D' := dkS ⟨(s, p ++ [b]), hist s (p ++ [b]), []⟩) hW
  generalize (setD W a (dkS ⟨(s, p ++ [b]), hist s (p ++ [b]), []⟩)) = W1 at fb hW1
  have ft := fin_one s p b
  have rr := f_dresult (d := lgtD (dkS ⟨(s, p ++ [b]), hist s (p ++ [b]), []⟩).p) (x := (s, p ++ [b])) rfl rfl ok2
  have rr2 := f_dresult (d := dskD (dkS ⟨(s, p ++ [b]), hist s (p ++ [b]), []⟩)) (x := (s, p ++ [b])) rfl rfl ok2
  dsimp only at fb rr rr2
  rw [ft] at rr rr2
  have g1 := word_ref s (fin s (0, 0, 0) p) b
  have g2 := word_lea s (fin s (0, 0, 0) p) b
  have g3 := word_rai s (fin s (0, 0, 0) p) b
  have g4 := word_in s (fin s (0, 0, 0) p) b
  have g5 := outs_atU s p b r
  have g6 := sts_atU s p b r
  have g7 := @adv_rej s (fin s (0, 0, 0) p) b
  have er1 : eR (s, p) = .tuple [eBs p, eSt (fin s (0, 0, 0) p)] := rfl
  have er2 : eR (s, p ++ [b]) = .tuple [eBs (p ++ [b]), eSt (adv s (fin s (0, 0, 0) p) b)] := by rw [← ft]; rfl
  have fst := f_states hs hb hl
  generalize fin s (0, 0, 0) p = t at *
  generalize adv s t b = t' at *
  generalize word s t b = w at *
  have rl : ((hist s (p ++ [b]) ++ [(s, p ++ [b])]).map eR) = (hist s p ++ [(s, p)]).map eR ++ [eR (s, p ++ [b])] := by rw [hist_one]; simp
  have at1 : atI ((hist s p ++ [(s, p)]).map eR) (-1) = some (eR (s, p)) := atI_neg _ _ (by simp)
  have rn : ((hist s p ++ [(s, p)]).map eR).length < 100000 := by simp [hist_len]; omega
  generalize (hist s p ++ [(s, p)]).map eR = rows at *
  have at2 : atI (rows ++ [eR (s, p ++ [b])]) (-1) = some (eR (s, p ++ [b])) := atI_neg _ _ (by simp)
  rw [rl]
  have dq : dfr (eR (s, p ++ [b])) = true := dfr_eR _
  have fu := hb b (by simp)
  generalize hbs : p ++ b :: r = bs at *
  have tk : cutG (bs.map eB) none (some (((p.length : Nat) : Int) + 1)) = (p ++ [b]).map eB := by
    have := cutG_take (bs.map eB) (p.length + 1)
    rw [← hbs] at this ⊢
    have e2 : (p ++ b :: r).map eB = (p ++ [b]).map eB ++ r.map eB := by simp
    rw [e2] at this ⊢
    rw [List.take_left' (by simp)] at this
    simpa using this
  have eqb : eqD (.list ((p ++ [b]).map eB)) (.list ((p ++ [b]).map eB)) = .ok true := by rw [enc_bid.eqL]; simp
  have eqs : ∀ u : St3, eqD (eSt u) (eSt u) = .ok true := fun u => by rw [enc_st.eq]; simp
  have inl : inD (.int (p.length : Nat)) (.list ((outs s (0, 0, 0) 0 bs).map .int)) = .ok (rej s t b) := by rw [enc_int.inL _ _ (fun z => by simp), g5]
  generalize hlost : PyData.list ((outs s (0, 0, 0) 0 bs).map .int) = lost at *
  refine ⟨W1, .v (eSt t'), .v (.str w), .v (eSt t), ?_, hW1⟩
  unfold lb66
  refine seqW_to (Γ1 := gL (S ns) s.d (eBs bs) a rows lost (.v (.int (p.length : Nat))) (.v (eB b)) x8 x9 (.v (.str w)) (.v (eSt t))) (W1 := W1) ?_ ?_
  · simp [eB, hW, fb, at1, er1]
  refine seqW_to (Γ1 := gL (S ns) s.d (eBs bs) a (rows ++ [eR (s, p ++ [b])]) lost (.v (.int (p.length : Nat))) (.v (eB b)) x8 x9 (.v (.str w)) (.v (eSt t))) (W1 := W1) ?_ ?_
  · rw [er2] at dq ⊢
    unfold mAppW
    simp [hW1, rr, dq, rn]
  refine seqW_to (Γ1 := gL (S ns) s.d (eBs bs) a (rows ++ [eR (s, p ++ [b])]) lost (.v (.int (p.length : Nat))) (.v (eB b)) (.v (eSt t')) x9 (.v (.str w)) (.v (eSt t))) (W1 := W1) ?_ ?_
  · rw [er2] at at2
    simp [at2, er2]
  generalize rows ++ [eR (s, p ++ [b])] = rows2
  refine seqW_to (Γ1 := gL (S ns) s.d (eBs bs) a rows2 lost (.v (.int (p.length : Nat))) (.v (eB b)) (.v (eSt t')) x9 (.v (.str w)) (.v (eSt t))) (W1 := W1) ?_ ?_
  · simp only [List.map_append, List.map_cons, List.map_nil] at eqb tk
    simp only [eBs] at fst
    simp [hW1, rr2, eBs, tk, eqb, eqs, fst, g6]
  rw [← hlost] at *
  have u0 : ∀ u : St3, dIx (eSt u) (.int 0) = .ok (eN u.1) := fun _ => rfl
  have u1 : ∀ u : St3, dIx (eSt u) (.int 1) = .ok (.int u.2.1) := fun _ => rfl
  have v1 : eqD (.str w) (.str wRef) = .ok (rej s t b) := by rw [eqD_str, g1]
  have v2 : eqD (.str w) (.str wLea) = .ok (decide (¬ t'.1 = t.1)) := by rw [eqD_str, g2]
  have v3 : eqD (.str w) (.str wRai) = .ok (decide (t'.1 = t.1) && decide (t.2.1 < t'.2.1)) := by rw [eqD_str, g3]
  refine seqW_to (Γ1 := gL (S ns) s.d (eBs bs) a rows2 (.list ((outs s (0, 0, 0) 0 bs).map .int)) (.v (.int (p.length : Nat))) (.v (eB b)) (.v (eSt t')) x9 (.v (.str w)) (.v (eSt t))) (W1 := W1) ?_ ?_
  · show (mUp (mIfS [] (mB (mOp dNe (mOp dEq (mVar 10) (mC (.str wRef))) (mOp dIn (mVar 6) (mVar 5)))) (mRet [] (mC (.bool false))) mSkip)) _ _ = _
    simp [v1, inl, -eqD_str]
  refine seqW_to (Γ1 := gL (S ns) s.d (eBs bs) a rows2 (.list ((outs s (0, 0, 0) 0 bs).map .int)) (.v (.int (p.length : Nat))) (.v (eB b)) (.v (eSt t')) x9 (.v (.str w)) (.v (eSt t))) (W1 := W1) ?_ ?_
  · show (mUp (mIfS [] (mB (mOp dNe (mOp dEq (mVar 10) (mC (.str wLea))) (mOp dNe (mOp dIx (mVar 8) (mC (.int 0))) (mOp dIx (mVar 11) (mC (.int 0)))))) (mRet [] (mC (.bool false))) mSkip)) _ _ = _
    simp [v2, -eqD_str]
    rw [u0, u0]
    simp
  refine seqW_to (Γ1 := gL (S ns) s.d (eBs bs) a rows2 (.list ((outs s (0, 0, 0) 0 bs).map .int)) (.v (.int (p.length : Nat))) (.v (eB b)) (.v (eSt t')) x9 (.v (.str w)) (.v (eSt t))) (W1 := W1) ?_ ?_
  · show (mUp (mIfS [] (mB (mOp dNe (mOp dEq (mVar 10) (mC (.str wRai))) (mAndV (mOp dEq (mOp dIx (mVar 8) (mC (.int 0))) (mOp dIx (mVar 11) (mC (.int 0)))) (mOp dGt (mOp dIx (mVar 8) (mC (.int 1))) (mOp dIx (mVar 11) (mC (.int 1))))))) (mRet [] (mC (.bool false))) mSkip)) _ _ = _
    simp [v3, -eqD_str]
    rw [u0, u0]
    simp
    by_cases c1 : t'.1 = t.1
    · simp [c1]
      rw [u1, u1]
      simp
    · simp [c1]
  refine seqW_to (Γ1 := gL (S ns) s.d (eBs bs) a rows2 (.list ((outs s (0, 0, 0) 0 bs).map .int)) (.v (.int (p.length : Nat))) (.v (eB b)) (.v (eSt t')) x9 (.v (.str w)) (.v (eSt t))) (W1 := W1) ?_ ?_
  · show (mUp (mIfS [] (mB (mOp dNotInTu (mVar 10) (mTup (mCons (mC (.str wRef)) (mCons (mC (.str wLea)) (mCons (mC (.str wRai)) (mCons (mC (.str wKep)) mNil))))))) (mRet [] (mC (.bool false))) mSkip)) _ _ = _
    simp [g4]
  show (mUp (mIfS [] (mAnd (mB (mOp dEq (mVar 10) (mC (.str wRef)))) (mB (mOp dNe (mVar 8) (mVar 11)))) (mRet [] (mC (.bool false))) mSkip)) _ _ = _
  simp [v1, -eqD_str]
  cases hr : rej s t b with
  | true => 
    rw [hr] at v1
    simp [v1, -eqD_str, g7 hr, eqs]
  | false =>
    rw [hr] at v1
    simp [v1, -eqD_str]
theorem l_loop (hs : s.Ok) : ∀ (r p : List Bid) (W : Wd) (x6 x7 x8 x9 x10 x11 : Sl), (∀ c ∈ p ++ r, OkB c) → (p ++ r).length ≤ 8 → W.lookup a = some (dkS ⟨(s, p), hist s p, []⟩) →
    ∃ W' y6 y7 y8 y10 y11, forGoW (bTup [(bName 6), (bName 7)]) lb66 (enumFrom p.length (r.map eB)) (gL (S ns) s.d (eBs (p ++ r)) a ((hist s p ++ [(s, p)]).map eR) (.list ((outs s (0, 0, 0) 0 (p ++ r)).map .int)) x6 x7 x8 x9 x10 x11) W
      = .nx (gL (S ns) s.d (eBs (p ++ r)) a ((hist s (p ++ r) ++ [(s, p ++ r)]).map eR) (.list ((outs s (0, 0, 0) 0 (p ++ r)).map .int)) y6 y7 y8 x9 y10 y11) W' ∧ W'.lookup a = some (dkS ⟨(s, p ++ r), hist s (p ++ r), []⟩)
  | [], p, W, x6, x7, x8, x9, x10, x11, hb, hl, hW => by
    rw [List.append_nil]
    exact ⟨W, x6, x7, x8, x10, x11, rfl, hW⟩
  | b :: r, p, W, x6, x7, x8, x9, x10, x11, hb, hl, hW => by
    obtain ⟨W1, y8, y10, y11, e1, e2⟩ := lb_ok (ns := ns) (a := a) (x8 := x8) (x9 := x9) (x10 := x10) (x11 := x11) hs hb hl hW
    have ap : p ++ b :: r = (p ++ [b]) ++ r := by simp
    obtain ⟨W2, z6, z7, z8, z10, z11, e3, e4⟩ := l_loop hs r (p ++ [b]) W1 (.v (.int (p.length : Nat))) (.v (eB b)) y8 x9 y10 y11 (by rw [← ap]; exact hb) (by rw [← ap]; exact hl) e2
    rw [List.length_append, List.length_singleton] at e3
    rw [← ap] at e3 e4
    refine ⟨W2, z6, z7, z8, z10, z11, ?_, e4⟩
    rw [← e3, List.map_cons, enumFrom]
    exact goW_nx rfl e1
theorem hist_ok (hs : s.Ok) {bs : List Bid} (hb : ∀ b ∈ bs, OkB b) (hl : bs.length ≤ 8) : HistOk s bs (hist s bs ++ [(s, bs)]) := by
  have nth : ∀ k x, (hist s bs ++ [(s, bs)])[k]? = some x → k ≤ bs.length ∧ x = (s, bs.take k) := fun k x h => by
    by_cases hk : k < (hist s bs).length
    · rw [List.getElem?_append_left hk] at h
      rw [hist_len] at hk
      unfold hist at h
      rw [List.getElem?_map, List.getElem?_range hk] at h
      cases h
      exact ⟨by omega, rfl⟩
    · rw [List.getElem?_append_right (by omega), hist_len] at h
      rw [hist_len] at hk
      have : k - bs.length = 0 := by
        cases hz : k - bs.length with
        | zero => rfl
        | succ z => rw [hz] at h; cases h
      rw [this] at h
      cases h
      have : k = bs.length := by omega
      subst this
      exact ⟨Nat.le_refl _, by rw [List.take_length]⟩
  refine ⟨hs, hb, hl, fun y hy => ?_, fun A x B e => ?_, fun L l e => ?_, by simp [hist_len]; omega⟩
  · obtain ⟨k, hk, e⟩ := List.getElem_of_mem hy
    obtain ⟨h1, h2⟩ := nth k y (by rw [List.getElem?_eq_getElem hk, e])
    rw [h2]
    exact ⟨hs, fun b hb' => hb b (List.mem_of_mem_take hb'), by show (bs.take k).length ≤ 8; rw [List.length_take]; omega⟩
  · obtain ⟨h1, h2⟩ := nth A.length x (by rw [e, List.getElem?_append_right (Nat.le_refl _), Nat.sub_self]; rfl)
    rw [h2]
    exact ⟨rfl, fun _ => rfl, fun _ => h1⟩
  · have := List.append_inj_right' e rfl
    cases this
    rfl
theorem hist_ok2 (hs : s.Ok) {bs : List Bid} (hb : ∀ b ∈ bs, OkB b) (hl : bs.length ≤ 8) {s' : Sale} (h2 : s'.Ok) (hn : s' ≠ s) : HistOk s bs ((hist s bs ++ [(s, bs)]) ++ [(s', bs)]) := by
  have h := hist_ok hs hb hl
  refine ⟨hs, hb, hl, fun y hy => ?_, fun A x B e => ?_, fun L l e => ?_, by simp [hist_len]; omega⟩
  · rcases List.mem_append.mp hy with hy | hy
    · exact h.ok y hy
    · rw [List.mem_singleton.mp hy]
      exact ⟨h2, hb, hl⟩
  · rcases List.eq_nil_or_concat B with rfl | ⟨B', z, rfl⟩
    · have e2 : (hist s bs ++ [(s, bs)]) ++ [(s', bs)] = A ++ [x] := e
      obtain ⟨e3, e4⟩ := List.append_inj' e2 rfl
      cases e4
      have : A.length = bs.length + 1 := by rw [← e3]; simp [hist_len]
      rw [this]
      exact ⟨by rw [List.take_of_length_le (by omega)], fun h => by omega, fun h => absurd h hn⟩
    · have e2 : (hist s bs ++ [(s, bs)]) ++ [(s', bs)] = (A ++ x :: B') ++ [z] := by rw [e]; simp
      obtain ⟨e3, e4⟩ := List.append_inj' e2 rfl
      exact h.row A x B' e3
  · have := List.append_inj_right' e rfl
    cases this
    rfl
end
end PD

/-! The mathematics: the desk's whole law. -/
namespace PD
open PySem L2
theorem aT_ret : ∀ o : OutW, AllT o → AllT (o.toR.out fun d W => .rt d W)
  | .rt d W, h => h
  | .al W f, h => fun a ha => aT_ret (f a) (h a ha)
theorem aT_back {W : Wd} {a : Addr} {d0 d1 d2 d5 : PyData} {rows : List PyData} {x6 x7 x8 x9 x10 x11 : Sl} (h : AllT (wm_law_back (gB d0 d1 a (.list rows) .no .no .no .no .no .no .no .no .no .no .no) W)) :
    AllT ((mFzS [4] (mRetW (mCallW 4 (mDefW wm_law_back 15) (mConsD (mVar 0) (mConsD (mVar 1) (mConsA 3 (mConsD (mVar 4) mNilA))))))) (gL d0 d1 d2 a rows d5 x6 x7 x8 x9 x10 x11) W) := by
  have e : (mFzS [4] (mRetW (mCallW 4 (mDefW wm_law_back 15) (mConsD (mVar 0) (mConsD (mVar 1) (mConsA 3 (mConsD (mVar 4) mNilA))))))) (gL d0 d1 d2 a rows d5 x6 x7 x8 x9 x10 x11) W = (mDefW wm_law_back 15 [.d d0, .d d1, .a a, .d (.list rows)] W).out fun d W => .rt d W := rfl
  rw [e, defW_eq]
  exact aT_ret _ h
section
variable {ns : List Int} {s : Sale} {a : Addr}
theorem le_ok (hn : ns.length ≤ 63) (hs : s.Ok) {bs : List Bid} (hb : ∀ b ∈ bs, OkB b) (hl : bs.length ≤ 8) {W : Wd} {d5 : PyData} {x6 x7 x8 x9 x10 x11 : Sl} (hW : W.lookup a = some (dkS ⟨(s, bs), hist s bs, []⟩)) :
    AllT (le66 (gL (S ns) s.d (eBs bs) a ((hist s bs ++ [(s, bs)]).map eR) d5 x6 x7 x8 x9 x10 x11) W) := by
  unfold le66
  by_cases hr : s.start < s.res
  · have hd := f_drawn hn (k := 1) (many := s.res - s.start) (by omega) (by omega)
    obtain ⟨q0, q1⟩ := drawn_b hn (k := 1) (many := s.res - s.start) (by omega) (by omega)
    generalize drawnF ns 1 (s.res - s.start) = q at *
    have ok : OkP (s, bs) := ⟨hs, hb, hl⟩
    have lw := f_lower hW (r := s.start + q) ok (by show (hist s bs).length < 100000; rw [hist_len]; omega) (by show s.start ≤ s.start + q; omega) (by show s.start + q < s.res; omega)
    have lk := low_ok (m := ⟨(s, bs), hist s bs, []⟩) ok (r := s.start + q) (by show s.start ≤ s.start + q; omega) (by show s.start + q < s.res; omega)
    have em : lowM ⟨(s, bs), hist s bs, []⟩ (s.start + q) = dAt (hist s bs ++ [(s, bs)]) (⟨s.steps, s.start, s.start + q⟩, bs) [] := rfl
    rw [em] at lw lk
    have hs' : (⟨s.steps, s.start, s.start + q⟩ : Sale) ≠ s := fun h => by
      have : s.start + q = s.res := congrArg Sale.res h
      omega
    have ld : (⟨s.steps, s.start, s.start + q⟩ : Sale).d = .tuple [eSteps s.steps, .int s.start, .int (s.start + q)] := rfl
    have H := hist_ok2 hs hb hl lk.s hs'
    have hW1 := lk_set (D' := dkS (dAt (hist s bs ++ [(s, bs)]) (⟨s.steps, s.start, s.start + q⟩, bs) [])) hW
    generalize (setD W a (dkS (dAt (hist s bs ++ [(s, bs)]) (⟨s.steps, s.start, s.start + q⟩, bs) []))) = W1 at lw hW1
    dsimp only [dAt_p] at lw lk H hs'
    generalize hs2 : (⟨s.steps, s.start, s.start + q⟩ : Sale) = s' at *
    have fr := f_result lk.s hb hl
    have rr := f_dresult (d := dskD (dkS (dAt (hist s bs ++ [(s, bs)]) (s', bs) []))) (x := (s', bs)) rfl rfl lk
    have rl := f_dresult (d := lgtD (dkS (dAt (hist s bs ++ [(s, bs)]) (s', bs) [])).p) (x := (s', bs)) rfl rfl lk
    have er : eR (s', bs) = .tuple [eBs bs, eSt (fin s' (0, 0, 0) bs)] := rfl
    have dq : dfr (eR (s', bs)) = true := dfr_eR _
    dsimp only at fr rr rl
    generalize fin s' (0, 0, 0) bs = t at *
    have eqs : eqD (eSt t) (eSt t) = .ok true := by rw [enc_st.eq]; simp
    have eqb : eqD (eBs bs) (eBs bs) = .ok true := by rw [enc_bds.eq]; simp
    have rn : ((hist s bs ++ [(s, bs)]).map eR).length < 100000 := by simp [hist_len]; omega
    have rc : (hist s bs ++ [(s, bs)]).map eR ++ [eR (s', bs)] = ((hist s bs ++ [(s, bs)]) ++ [(s', bs)]).map eR := by simp
    refine aT_seq (Γ1 := gL (S ns) s.d (eBs bs) a ((hist s bs ++ [(s, bs)] ++ [(s', bs)]).map eR) d5 x6 x7 x8 (.v s'.d) x10 x11) (W1 := W1) ?_ (aT_back (back_true hn H rfl hW1))
    rw [← rc]
    generalize (hist s bs ++ [(s, bs)]).map eR = rows at *
    have c : (mU (mB (mOp dGt (mOp dIx (mVar 1) (mC (.int 2))) (mOp dIx (mVar 1) (mC (.int 1)))))) (gL (S ns) s.d (eBs bs) a rows d5 x6 x7 x8 x9 x10 x11) W = .ok true W := by simp [Sale.d, hr]
    rw [apW_IfS, apW_EvEB, c, out_ok, if_pos rfl]
    refine seqW_to (Γ1 := gL (S ns) s.d (eBs bs) a rows d5 x6 x7 x8 (.v s'.d) x10 x11) (W1 := W) ?_ ?_
    · rw [← hs2]
      simp [Sale.d, hd]
    have lx : dIx s'.d (.int 2) = .ok (.int (s.start + q)) := by rw [← hs2]; rfl
    refine seqW_to (Γ1 := gL (S ns) s.d (eBs bs) a rows d5 x6 x7 x8 (.v s'.d) x10 x11) (W1 := W1) ?_ ?_
    · simp [lx, hW, lw, fr, eqs]
    refine seqW_to (Γ1 := gL (S ns) s.d (eBs bs) a rows d5 x6 x7 x8 (.v s'.d) x10 x11) (W1 := W1) ?_ ?_
    · simp [hW1, rr, fr, eqs, eqb]
    rw [er] at dq ⊢
    unfold mAppW
    simp [hW1, rl, dq, rn]
  · have H := hist_ok hs hb hl
    refine aT_seq (Γ1 := gL (S ns) s.d (eBs bs) a ((hist s bs ++ [(s, bs)]).map eR) d5 x6 x7 x8 x9 x10 x11) (W1 := W) ?_ (aT_back (back_true hn H rfl hW))
    have c : (mU (mB (mOp dGt (mOp dIx (mVar 1) (mC (.int 2))) (mOp dIx (mVar 1) (mC (.int 1)))))) (gL (S ns) s.d (eBs bs) a ((hist s bs ++ [(s, bs)]).map eR) d5 x6 x7 x8 x9 x10 x11) W = .ok false W := by simp [Sale.d, hr]
    rw [apW_IfS, apW_EvEB, c, out_ok, if_neg (by decide)]
    rfl
end
theorem law_true : ∀ ns : List Int, ns.length ≤ 63 → ∃ Γ1, wl1_k66 (.v (.dict (ns.map fun n => (.int n, .none))) :: List.replicate (12 - 1) .no) = .nx Γ1 ∧ ∃ d ss, mNewD (mDef m_check_sale 1) wla_k66 Γ1 = .ok d ∧ mPis wli_k66 Γ1 = .ok ss ∧
    ∀ a, AllT (wlr_k66 (gsetAll (3 :: [4, 5]) (.ad a :: ss) Γ1) [(a, deskOf d)]) := by
  intro ns hn
  obtain ⟨s, hm, e1⟩ := f_law_sale hn (a := 10) (by omega)
  have hs := hm.ok
  obtain ⟨bs, hl, hb, e2⟩ := f_law_bids hn (a := 30) (most := 8) (by omega) (by omega) (by omega)
  have hl : bs.length ≤ 8 := by omega
  have fr := f_refused hs hb hl
  refine ⟨[.v (S ns), .v s.d, .v (eBs bs), .no, .no, .no, .no, .no, .no, .no, .no, .no], ?_, s.d, [.own [eR (s, [])], .v (.list ((outs s (0, 0, 0) 0 bs).map .int))], ?_, ?_, fun a => ?_⟩
  · show wl1_k66 (.v (S ns) :: List.replicate (12 - 1) .no) = _
    simp [wl1_k66, e1, e2]
  · simp [mNewD, wla_k66, f_check_sale hs]
  · simp [wli_k66, fr]
    rfl
  · have eg : gsetAll (3 :: [4, 5]) (.ad a :: [.own [eR (s, [])], .v (.list ((outs s (0, 0, 0) 0 bs).map .int))]) [.v (S ns), .v s.d, .v (eBs bs), .no, .no, .no, .no, .no, .no, .no, .no, .no] = gL (S ns) s.d (eBs bs) a [eR (s, [])] (.list ((outs s (0, 0, 0) 0 bs).map .int)) .no .no .no .no .no .no := rfl
    rw [eg, dk_new, wlr66_eq]
    obtain ⟨W', y6, y7, y8, y10, y11, e3, e4⟩ := l_loop (ns := ns) (a := a) hs bs [] [(a, dkS ⟨(s, []), [], []⟩)] .no .no .no .no .no .no hb (by simpa using hl) (lk_eq _ _ _)
    rw [List.nil_append] at e3 e4
    refine aT_seq (Γ1 := gL (S ns) s.d (eBs bs) a ((hist s bs ++ [(s, bs)]).map eR) (.list ((outs s (0, 0, 0) 0 bs).map .int)) y6 y7 y8 .no y10 y11) (W1 := W') ?_ (le_ok hn hs hb hl e4)
    rw [← e3]
    have er : mEnum (mCons (mVar 2) mNil) (gL (S ns) s.d (eBs bs) a [eR (s, [])] (.list ((outs s (0, 0, 0) 0 bs).map .int)) .no .no .no .no .no .no) = .ok (enumFrom 0 (bs.map eB)) := by
      simp [eBs]
    unfold mForW
    rw [er]
    rfl
end PD

namespace PD
open PySem PySem.Spec PyProof.Rows L2
def topS (i : Nat) : Stmt := PySem.Challenge.pw_proxybids_k66_whole_desk.main.body.getD i (.Pass ⟨0, 0, 0, 0⟩)
abbrev s_is_int : Stmt := topS 15
theorem sc_is_int : FnScope ["value", "least", "most"] ["value", "least", "most"] (defScope s_is_int) := ⟨rfl, rfl, rfl, by decide +kernel, rfl, by decide +kernel, by decide +kernel⟩
abbrev s_is_bidder : Stmt := topS 19
theorem sc_is_bidder : FnScope ["value"] ["value"] (defScope s_is_bidder) := ⟨rfl, rfl, rfl, by decide +kernel, rfl, by decide +kernel, by decide +kernel⟩
abbrev s_step_up : Stmt := topS 24
theorem sc_step_up : FnScope ["sale", "price", "bound", "step"] ["sale", "price"] (defScope s_step_up) := ⟨rfl, rfl, rfl, by decide +kernel, rfl, by decide +kernel, by decide +kernel⟩
abbrev s_with_reserve : Stmt := topS 27
theorem sc_with_reserve : FnScope ["sale", "state", "leader", "price", "amount"] ["sale", "state"] (defScope s_with_reserve) := ⟨rfl, rfl, rfl, by decide +kernel, rfl, by decide +kernel, by decide +kernel⟩
abbrev s_Desk___len__ : Stmt := inClass (topS 41) 1
theorem sc_Desk___len__ : FnScope ["self"] ["self"] (defScope s_Desk___len__) := ⟨rfl, rfl, rfl, by decide +kernel, rfl, by decide +kernel, by decide +kernel⟩
abbrev s_Desk___eq__ : Stmt := inClass (topS 41) 2
theorem sc_Desk___eq__ : FnScope ["self", "other"] ["self", "other"] (defScope s_Desk___eq__) := ⟨rfl, rfl, rfl, by decide +kernel, rfl, by decide +kernel, by decide +kernel⟩
abbrev s_Desk_bids : Stmt := inClass (topS 41) 3
theorem sc_Desk_bids : FnScope ["self"] ["self"] (defScope s_Desk_bids) := ⟨rfl, rfl, rfl, by decide +kernel, rfl, by decide +kernel, by decide +kernel⟩
abbrev s_Desk_change : Stmt := inClass (topS 41) 5
theorem sc_Desk_change : FnScope ["self", "sale", "bids"] ["self", "sale", "bids"] (defScope s_Desk_change) := ⟨rfl, rfl, rfl, by decide +kernel, rfl, by decide +kernel, by decide +kernel⟩
abbrev s_Desk_undo : Stmt := inClass (topS 41) 8
theorem sc_Desk_undo : FnScope ["self"] ["self"] (defScope s_Desk_undo) := ⟨rfl, rfl, rfl, by decide +kernel, rfl, by decide +kernel, by decide +kernel⟩
abbrev s_Desk_redo : Stmt := inClass (topS 41) 9
theorem sc_Desk_redo : FnScope ["self"] ["self"] (defScope s_Desk_redo) := ⟨rfl, rfl, rfl, by decide +kernel, rfl, by decide +kernel, by decide +kernel⟩
abbrev s_law_drawn : Stmt := topS 43
theorem sc_law_drawn : FnScope ["_law_script", "_law_k", "_law_many", "_law_cell", "_law_turn", "_law_rest"] ["_law_script", "_law_k", "_law_many"] (defScope s_law_drawn) := ⟨rfl, rfl, rfl, by decide +kernel, rfl, by decide +kernel, by decide +kernel⟩
abbrev s_is_step : Stmt := topS 16
theorem sc_is_step : FnScope ["value"] ["value"] (defScope s_is_step) := ⟨rfl, rfl, rfl, by decide +kernel, rfl, by decide +kernel, by decide +kernel⟩
abbrev s_is_bid : Stmt := topS 20
theorem sc_is_bid : FnScope ["value"] ["value"] (defScope s_is_bid) := ⟨rfl, rfl, rfl, by decide +kernel, rfl, by decide +kernel, by decide +kernel⟩
abbrev s_is_refused : Stmt := topS 28
theorem sc_is_refused : FnScope ["sale", "state", "bid", "leader", "price", "amount"] ["sale", "state", "bid"] (defScope s_is_refused) := ⟨rfl, rfl, rfl, by decide +kernel, rfl, by decide +kernel, by decide +kernel⟩
abbrev s_law_sale : Stmt := topS 44
theorem sc_law_sale : FnScope ["_law_script", "_law_at", "_law_steps", "_law_k", "_law_start", "_law_bound"] ["_law_script", "_law_at"] (defScope s_law_sale) := ⟨rfl, rfl, rfl, by decide +kernel, rfl, by decide +kernel, by decide +kernel⟩
abbrev s_law_bids : Stmt := topS 45
theorem sc_law_bids : FnScope ["_law_script", "_law_at", "_law_most", "_law_found", "_law_k", "_law_amount"] ["_law_script", "_law_at", "_law_most"] (defScope s_law_bids) := ⟨rfl, rfl, rfl, by decide +kernel, rfl, by decide +kernel, by decide +kernel⟩
abbrev s_are_steps : Stmt := topS 17
theorem sc_are_steps : FnScope ["value", "rising", "one", "other", "step"] ["value"] (defScope s_are_steps) := ⟨rfl, rfl, rfl, by decide +kernel, rfl, by decide +kernel, by decide +kernel⟩
abbrev s_are_bids : Stmt := topS 21
theorem sc_are_bids : FnScope ["candidate", "bid"] ["candidate"] (defScope s_are_bids) := ⟨rfl, rfl, rfl, by decide +kernel, rfl, by decide +kernel, by decide +kernel⟩
abbrev s_advance : Stmt := topS 29
theorem sc_advance : FnScope ["sale", "state", "bid", "leader", "price", "amount"] ["sale", "state", "bid"] (defScope s_advance) := ⟨rfl, rfl, rfl, by decide +kernel, rfl, by decide +kernel, by decide +kernel⟩
abbrev s_is_sale : Stmt := topS 18
theorem sc_is_sale : FnScope ["candidate", "steps", "start", "reserve"] ["candidate"] (defScope s_is_sale) := ⟨rfl, rfl, rfl, by decide +kernel, rfl, by decide +kernel, by decide +kernel⟩
abbrev s_find_states : Stmt := topS 30
theorem sc_find_states : FnScope ["sale", "bids", "bid", "found", "state"] ["sale", "bids"] (defScope s_find_states) := ⟨rfl, rfl, rfl, by decide +kernel, rfl, by decide +kernel, by decide +kernel⟩
abbrev s_check_sale : Stmt := topS 22
theorem sc_check_sale : FnScope ["value"] ["value"] (defScope s_check_sale) := ⟨rfl, rfl, rfl, by decide +kernel, rfl, by decide +kernel, by decide +kernel⟩
abbrev s_find_result : Stmt := topS 31
theorem sc_find_result : FnScope ["sale", "bids"] ["sale", "bids"] (defScope s_find_result) := ⟨rfl, rfl, rfl, by decide +kernel, rfl, by decide +kernel, by decide +kernel⟩
abbrev s_find_refused : Stmt := topS 34
theorem sc_find_refused : FnScope ["sale", "bids", "known", "index", "bid"] ["sale", "bids"] (defScope s_find_refused) := ⟨rfl, rfl, rfl, by decide +kernel, rfl, by decide +kernel, by decide +kernel⟩
abbrev s_check_bids : Stmt := topS 23
theorem sc_check_bids : FnScope ["sale", "bids"] ["sale", "bids"] (defScope s_check_bids) := ⟨rfl, rfl, rfl, by decide +kernel, rfl, by decide +kernel, by decide +kernel⟩
abbrev s_Desk___init__ : Stmt := inClass (topS 41) 0
theorem sc_Desk___init__ : FnScope ["self", "sale"] ["self", "sale"] (defScope s_Desk___init__) := ⟨rfl, rfl, rfl, by decide +kernel, rfl, by decide +kernel, by decide +kernel⟩
abbrev s_Desk_result : Stmt := inClass (topS 41) 4
theorem sc_Desk_result : FnScope ["self"] ["self"] (defScope s_Desk_result) := ⟨rfl, rfl, rfl, by decide +kernel, rfl, by decide +kernel, by decide +kernel⟩
abbrev s_result : Stmt := topS 32
theorem sc_result : FnScope ["sale", "bids"] ["sale", "bids"] (defScope s_result) := ⟨rfl, rfl, rfl, by decide +kernel, rfl, by decide +kernel, by decide +kernel⟩
abbrev s_states : Stmt := topS 33
theorem sc_states : FnScope ["sale", "bids"] ["sale", "bids"] (defScope s_states) := ⟨rfl, rfl, rfl, by decide +kernel, rfl, by decide +kernel, by decide +kernel⟩
abbrev s_refused : Stmt := topS 35
theorem sc_refused : FnScope ["sale", "bids"] ["sale", "bids"] (defScope s_refused) := ⟨rfl, rfl, rfl, by decide +kernel, rfl, by decide +kernel, by decide +kernel⟩
abbrev s_Desk_bid : Stmt := inClass (topS 41) 6
theorem sc_Desk_bid : FnScope ["self", "bidder", "amount", "before", "after", "sale", "bids"] ["self", "bidder", "amount"] (defScope s_Desk_bid) := ⟨rfl, rfl, rfl, by decide +kernel, rfl, by decide +kernel, by decide +kernel⟩
abbrev s_Desk_lower : Stmt := inClass (topS 41) 7
theorem sc_Desk_lower : FnScope ["self", "reserve", "bids", "steps", "start", "old"] ["self", "reserve"] (defScope s_Desk_lower) := ⟨rfl, rfl, rfl, by decide +kernel, rfl, by decide +kernel, by decide +kernel⟩
abbrev s_law_ends : Stmt := topS 46
theorem sc_law_ends : FnScope ["_law_desk", "_law_way", "_law_found", "e"] ["_law_desk", "_law_way"] (defScope s_law_ends) := ⟨rfl, rfl, rfl, by decide +kernel, rfl, by decide +kernel, by decide +kernel⟩
abbrev s_Desk_copy : Stmt := inClass (topS 41) 10
theorem sc_Desk_copy : FnScope ["self", "clone"] ["self"] (defScope s_Desk_copy) := ⟨rfl, rfl, rfl, by decide +kernel, rfl, by decide +kernel, by decide +kernel⟩
abbrev s_law_back : Stmt := topS 47
theorem sc_law_back : FnScope ["_law_script", "_law_sale_here", "_law_desk", "_law_rows", "_law_back_here", "_law_k", "_law_kept", "_law_other", "_law_small", "_law_now", "_law_double", "_law_bidder", "_law_amount", "_law_first", "_law_second"] ["_law_script", "_law_sale_here", "_law_desk", "_law_rows"] (defScope s_law_back) := ⟨rfl, rfl, rfl, by decide +kernel, rfl, by decide +kernel, by decide +kernel⟩
abbrev s_law : Stmt := topS 48
theorem sc_law : FnScope ["_law_script", "_law_sale_here", "_law_bids_here", "_law_desk", "_law_rows", "_law_lost", "_law_k", "_law_bid", "_law_now", "_law_low", "_law_word", "_law_before"] ["_law_script"] (defScope s_law) := ⟨rfl, rfl, rfl, by decide +kernel, rfl, by decide +kernel, by decide +kernel⟩
structure Fx (K : PySem.W.Frag) (mg : Str → Option Value) : Prop where
  dk : DskC K
  g_Desk : mg "Desk" = some (.ref (dkC K))
  z_all : mg "all" = none
  z_bool : mg "bool" = none
  z_enumerate : mg "enumerate" = none
  z_int : mg "int" = none
  z_isinstance : mg "isinstance" = none
  z_len : mg "len" = none
  z_list : mg "list" = none
  z_max : mg "max" = none
  z_min : mg "min" = none
  z_range : mg "range" = none
  z_str : mg "str" = none
  z_tuple : mg "tuple" = none
  z_zip : mg "zip" = none
  e_InvalidBid : Exn K mg "InvalidBid"
  e_InvalidBids : Exn K mg "InvalidBids"
  e_InvalidPrice : Exn K mg "InvalidPrice"
  e_InvalidSale : Exn K mg "InvalidSale"
  e_NothingToUndo : Exn K mg "NothingToUndo"
  e_TooLarge : Exn K mg "TooLarge"
  g_KEPT : Glo K mg "KEPT" (.str (PySem.Str.ofString "kept"))
  g_LEADS : Glo K mg "LEADS" (.str (PySem.Str.ofString "leads"))
  g_LETTERS : Glo K mg "LETTERS" (.str (PySem.Str.ofString "abcdef"))
  g_MAX_AMOUNT : Glo K mg "MAX_AMOUNT" (.int 200)
  g_MAX_BIDS : Glo K mg "MAX_BIDS" (.int 8)
  g_MAX_START : Glo K mg "MAX_START" (.int 100)
  g_MAX_STEP : Glo K mg "MAX_STEP" (.int 50)
  g_MAX_STEPS : Glo K mg "MAX_STEPS" (.int 4)
  g_NOBODY : Glo K mg "NOBODY" (.tuple [(.str (PySem.Str.ofString "")), (.int 0), (.int 0)])
  g_RAISED : Glo K mg "RAISED" (.str (PySem.Str.ofString "raised"))
  g_REFUSED : Glo K mg "REFUSED" (.str (PySem.Str.ofString "refused"))
  x_err : Exs K mg (PySem.Str.ofString "BidError") [(PySem.Str.ofString "NothingToUndo")]
  f_is_int : ∃ f fd, FnP K "is_int" s_is_int f fd ∧ mg "is_int" = some (.ref f)
  f_is_bidder : ∃ f fd, FnP K "is_bidder" s_is_bidder f fd ∧ mg "is_bidder" = some (.ref f)
  f_step_up : ∃ f fd, FnP K "step_up" s_step_up f fd ∧ mg "step_up" = some (.ref f)
  f_with_reserve : ∃ f fd, FnP K "with_reserve" s_with_reserve f fd ∧ mg "with_reserve" = some (.ref f)
  f_Desk___len__ : ∃ f fd, FnM K "__len__" "Desk.__len__" s_Desk___len__ f fd ∧ Meth K (dkC K) "__len__" f
  f_Desk___eq__ : ∃ f fd, FnM K "__eq__" "Desk.__eq__" s_Desk___eq__ f fd ∧ Meth K (dkC K) "__eq__" f
  f_Desk_bids : ∃ f fd, FnM K "bids" "Desk.bids" s_Desk_bids f fd ∧ Meth K (dkC K) "bids" f
  f_Desk_change : ∃ f fd, FnM K "change" "Desk.change" s_Desk_change f fd ∧ Meth K (dkC K) "change" f
  f_Desk_undo : ∃ f fd, FnM K "undo" "Desk.undo" s_Desk_undo f fd ∧ Meth K (dkC K) "undo" f
  f_Desk_redo : ∃ f fd, FnM K "redo" "Desk.redo" s_Desk_redo f fd ∧ Meth K (dkC K) "redo" f
  f_law_drawn : ∃ f fd, FnP K "_law_drawn" s_law_drawn f fd ∧ mg "_law_drawn" = some (.ref f)
  f_is_step : ∃ f fd, FnP K "is_step" s_is_step f fd ∧ mg "is_step" = some (.ref f)
  f_is_bid : ∃ f fd, FnP K "is_bid" s_is_bid f fd ∧ mg "is_bid" = some (.ref f)
  f_is_refused : ∃ f fd, FnP K "is_refused" s_is_refused f fd ∧ mg "is_refused" = some (.ref f)
  f_law_sale : ∃ f fd, FnP K "_law_sale" s_law_sale f fd ∧ mg "_law_sale" = some (.ref f)
  f_law_bids : ∃ f fd, FnP K "_law_bids" s_law_bids f fd ∧ mg "_law_bids" = some (.ref f)
  f_are_steps : ∃ f fd, FnP K "are_steps" s_are_steps f fd ∧ mg "are_steps" = some (.ref f)
  f_are_bids : ∃ f fd, FnP K "are_bids" s_are_bids f fd ∧ mg "are_bids" = some (.ref f)
  f_advance : ∃ f fd, FnP K "advance" s_advance f fd ∧ mg "advance" = some (.ref f)
  f_is_sale : ∃ f fd, FnP K "is_sale" s_is_sale f fd ∧ mg "is_sale" = some (.ref f)
  f_find_states : ∃ f fd, FnP K "find_states" s_find_states f fd ∧ mg "find_states" = some (.ref f)
  f_check_sale : ∃ f fd, FnP K "check_sale" s_check_sale f fd ∧ mg "check_sale" = some (.ref f)
  f_find_result : ∃ f fd, FnP K "find_result" s_find_result f fd ∧ mg "find_result" = some (.ref f)
  f_find_refused : ∃ f fd, FnP K "find_refused" s_find_refused f fd ∧ mg "find_refused" = some (.ref f)
  f_check_bids : ∃ f fd, FnP K "check_bids" s_check_bids f fd ∧ mg "check_bids" = some (.ref f)
  f_Desk___init__ : ∃ f fd, FnM K "__init__" "Desk.__init__" s_Desk___init__ f fd ∧ Mk K (dkC K) f ∧ mg "Desk" = some (.ref (dkC K))
  f_Desk_result : ∃ f fd, FnM K "result" "Desk.result" s_Desk_result f fd ∧ Meth K (dkC K) "result" f
  f_result : ∃ f fd, FnP K "result" s_result f fd ∧ mg "result" = some (.ref f)
  f_states : ∃ f fd, FnP K "states" s_states f fd ∧ mg "states" = some (.ref f)
  f_refused : ∃ f fd, FnP K "refused" s_refused f fd ∧ mg "refused" = some (.ref f)
  f_Desk_bid : ∃ f fd, FnM K "bid" "Desk.bid" s_Desk_bid f fd ∧ Meth K (dkC K) "bid" f
  f_Desk_lower : ∃ f fd, FnM K "lower" "Desk.lower" s_Desk_lower f fd ∧ Meth K (dkC K) "lower" f
  f_law_ends : ∃ f fd, FnP K "_law_ends" s_law_ends f fd ∧ mg "_law_ends" = some (.ref f)
  f_Desk_copy : ∃ f fd, FnM K "copy" "Desk.copy" s_Desk_copy f fd ∧ Meth K (dkC K) "copy" f
  f_law_back : ∃ f fd, FnP K "_law_back" s_law_back f fd ∧ mg "_law_back" = some (.ref f)
  f_law : ∃ f fd, FnP K "law" s_law f fd ∧ mg "law" = some (.ref f)
theorem ok_is_int {P : Program} {w : World} {K : PySem.W.Frag} {mg : Str → Option Value} {base : Heap} (h : Fx K mg) : Dn P w K mg base 1 "is_int" 3 (mDef m_is_int 3) := by
  obtain ⟨f, fd, F, hg⟩ := h.f_is_int
  have hN := sc_is_int.nd
  refine dn_mk F sc_is_int hg (F.bindsN fun _ _ _ _ _ _ us hl => match us, hl with | [_, _, _], _ => rfl) (by decide) fun cdv A outer s H E hr => ?_
  unfold m_is_int
  exact (sb_one (ss_ret [] (se_and (se_isi .int (se_var 0) h.z_isinstance h.z_int) (se_and (se_not (se_isi .bool (se_var 0) h.z_isinstance h.z_bool)) (se_one (se_chain od_le od_le (se_var 1) (se_var 0) (se_var 2)))))))
theorem ok_is_bidder {P : Program} {w : World} {K : PySem.W.Frag} {mg : Str → Option Value} {base : Heap} (h : Fx K mg) : Dn P w K mg base 1 "is_bidder" 1 (mDef m_is_bidder 1) := by
  obtain ⟨f, fd, F, hg⟩ := h.f_is_bidder
  have hN := sc_is_bidder.nd
  refine dn_mk F sc_is_bidder hg (F.bindsN fun _ _ _ _ _ _ us hl => match us, hl with | [_], _ => rfl) (by decide) fun cdv A outer s H E hr => ?_
  unfold m_is_bidder
  exact (sb_one (ss_ret [] (se_and (se_isi .str (se_var 0) h.z_isinstance h.z_str) (se_and (se_cmp (od_eq hr) (se_bi cd_len h.z_len (sa_cons (se_var 0) sa_nil)) se_int) (se_one (se_cmp (od_in hr) (se_var 0) (se_glob h.g_LETTERS)))))))
theorem ok_step_up {P : Program} {w : World} {K : PySem.W.Frag} {mg : Str → Option Value} {base : Heap} (h : Fx K mg) : Dn P w K mg base 1 "step_up" 2 (mDef m_step_up 4) := by
  obtain ⟨f, fd, F, hg⟩ := h.f_step_up
  have hN := sc_step_up.nd
  refine dn_mk F sc_step_up hg (F.bindsN fun _ _ _ _ _ _ us hl => match us, hl with | [_, _], _ => rfl) (by decide) fun cdv A outer s H E hr => ?_
  unfold m_step_up
  exact (sb_one (ss_ret [] (se_op od_add (se_var 1) (se_ix id_ix (se_l (sl_lc (own := [((PySem.Str.ofString "bound"), 2), ((PySem.Str.ofString "step"), 3)]) (is := [2, 3]) rfl hN (si_val (se_ix id_ix (se_var 0) se_int)) (blkc (N := ["sale", "price", "bound", "step"]) (sc := (defScope s_step_up)) (by decide +kernel)) (fun _ _ _ _ _ => (sg_tup rfl (sgs_cons (sg_name 2 hN) (sgs_cons (sg_name 3 hN) sgs_nil)))) (fun _ _ _ _ _ => (sts_one (st_cmp od_le (se_var 2) (se_var 1)))) (fun _ _ _ _ _ => (se_var 3)) (by decide))) (se_neg se_int)))))
theorem ok_with_reserve {P : Program} {w : World} {K : PySem.W.Frag} {mg : Str → Option Value} {base : Heap} (h : Fx K mg) : Dn P w K mg base 1 "with_reserve" 2 (mDef m_with_reserve 5) := by
  obtain ⟨f, fd, F, hg⟩ := h.f_with_reserve
  have hN := sc_with_reserve.nd
  refine dn_mk F sc_with_reserve hg (F.bindsN fun _ _ _ _ _ _ us hl => match us, hl with | [_, _], _ => rfl) (by decide) fun cdv A outer s H E hr => ?_
  unfold m_with_reserve
  exact (sb_cons (ss_asg [] (se_var 1) (sg_tup rfl (sgs_cons (sg_name 2 hN) (sgs_cons (sg_name 3 hN) (sgs_cons (sg_name 4 hN) sgs_nil)))))
    (sb_one (ss_ret [] (se_if (st_cmp od_ge (se_var 4) (se_ix id_ix (se_var 0) se_int)) (se_tup (sa_cons (se_var 2) (sa_cons (se_bi (cd_max rfl) h.z_max (sa_cons (se_var 3) (sa_cons (se_ix id_ix (se_var 0) se_int) sa_nil))) (sa_cons (se_var 4) sa_nil)))) (se_var 1)))))
theorem ok_Desk___len__ {P : Program} {w : World} {K : PySem.W.Frag} {mg : Str → Option Value} {base : Heap} (h : Fx K mg) : Mn P w K mg base 1 "__len__" 1 (mDef m_Desk___len__ 1) := by
  obtain ⟨f, fd, F, hg⟩ := h.f_Desk___len__
  have hN := sc_Desk___len__.nd
  refine mn_mk F sc_Desk___len__ hg (F.bindsN fun _ _ _ _ _ _ us hl => match us, hl with | [_], _ => rfl) (by decide) fun cdv A outer s H E hr => ?_
  unfold m_Desk___len__
  exact (sb_one (ss_ret [] (se_bi cd_len h.z_len (sa_cons (se_ix id_ix (se_fldP (se_var 0)) se_int) sa_nil))))
theorem ok_Desk___eq__ {P : Program} {w : World} {K : PySem.W.Frag} {mg : Str → Option Value} {base : Heap} (h : Fx K mg) : EqD P w K mg base 1 (mDef m_Desk___eq__ 2) := by
  obtain ⟨f, fd, F, hg⟩ := h.f_Desk___eq__
  have hN := sc_Desk___eq__.nd
  refine ⟨mn_mk F sc_Desk___eq__ hg (F.bindsN fun _ _ _ _ _ _ us hl => match us, hl with | [_, _], _ => rfl) (by decide) (fun cdv A outer s H E hr => ?_), h.dk⟩
  unfold m_Desk___eq__
  exact (sb_one (ss_ret [] (se_and (se_isiD h.dk h.g_Desk (se_var 1) h.z_isinstance) (se_one (se_cmp (od_eq hr) (se_fldP (se_var 0)) (se_fldP (se_var 1)))))))
theorem ok_Desk_bids {P : Program} {w : World} {K : PySem.W.Frag} {mg : Str → Option Value} {base : Heap} (h : Fx K mg) : Mn P w K mg base 1 "bids" 1 (mDef m_Desk_bids 1) := by
  obtain ⟨f, fd, F, hg⟩ := h.f_Desk_bids
  have hN := sc_Desk_bids.nd
  refine mn_mk F sc_Desk_bids hg (F.bindsN fun _ _ _ _ _ _ us hl => match us, hl with | [_], _ => rfl) (by decide) fun cdv A outer s H E hr => ?_
  unfold m_Desk_bids
  exact (sb_one (ss_ret [] (se_bt cd_list h.z_list (sa_cons (se_ix id_ix (se_fldP (se_var 0)) se_int) sa_nil))))
theorem ok_Desk_change {P : Program} {w : World} {K : PySem.W.Frag} {mg : Str → Option Value} {base : Heap} (h : Fx K mg) : MnW P w K mg base 1 "change" 3 (mDefW wm_Desk_change 3) := by
  obtain ⟨f, fd, F, hg⟩ := h.f_Desk_change
  have hN := sc_Desk_change.nd
  refine mnW_mk F sc_Desk_change hg (F.bindsN fun _ _ _ _ _ _ us hl => match us, hl with | [_, _, _], _ => rfl) (by decide) fun cdv A outer s H E hr => ?_
  unfold wm_Desk_change
  exact (wb_cons (ws_faD 0)
    (wb_cons (ws_fsP 0 (se_tup (sa_cons (se_var 1) (sa_cons (se_var 2) sa_nil))))
    (wb_one (ws_fsU 0 (sl_lst sa_nil)))))
theorem ok_Desk_undo {P : Program} {w : World} {K : PySem.W.Frag} {mg : Str → Option Value} {base : Heap} (h : Fx K mg) : MnW P w K mg base 1 "undo" 1 (mDefW wm_Desk_undo 1) := by
  obtain ⟨f, fd, F, hg⟩ := h.f_Desk_undo
  have hN := sc_Desk_undo.nd
  refine mnW_mk F sc_Desk_undo hg (F.bindsN fun _ _ _ _ _ _ us hl => match us, hl with | [_], _ => rfl) (by decide) fun cdv A outer s H E hr => ?_
  unfold wm_Desk_undo
  exact (wb_cons (ws_if (wt_rd (st_cmp (od_eq hr) (se_fldD (se_var 0)) (se_l (sl_lst sa_nil)))) (wb_one (ws_up (ss_raise rfl (takes_of rfl rfl rfl rfl) h.e_NothingToUndo))) wb_nil)
    (wb_cons (ws_faU 0)
    (wb_one (ws_fpD 0))))
theorem ok_Desk_redo {P : Program} {w : World} {K : PySem.W.Frag} {mg : Str → Option Value} {base : Heap} (h : Fx K mg) : MnW P w K mg base 1 "redo" 1 (mDefW wm_Desk_redo 1) := by
  obtain ⟨f, fd, F, hg⟩ := h.f_Desk_redo
  have hN := sc_Desk_redo.nd
  refine mnW_mk F sc_Desk_redo hg (F.bindsN fun _ _ _ _ _ _ us hl => match us, hl with | [_], _ => rfl) (by decide) fun cdv A outer s H E hr => ?_
  unfold wm_Desk_redo
  exact (wb_cons (ws_if (wt_rd (st_cmp (od_eq hr) (se_fldU (se_var 0)) (se_l (sl_lst sa_nil)))) (wb_one (ws_up (ss_raise rfl (takes_of rfl rfl rfl rfl) h.e_NothingToUndo))) wb_nil)
    (wb_cons (ws_faD 0)
    (wb_one (ws_fpU 0))))
theorem ok_law_drawn {P : Program} {w : World} {K : PySem.W.Frag} {mg : Str → Option Value} {base : Heap} (h : Fx K mg) : Dn P w K mg base 1 "_law_drawn" 3 (mDef m_law_drawn 6) := by
  obtain ⟨f, fd, F, hg⟩ := h.f_law_drawn
  have hN := sc_law_drawn.nd
  refine dn_mk F sc_law_drawn hg (F.bindsN fun _ _ _ _ _ _ us hl => match us, hl with | [_, _, _], _ => rfl) (by decide) fun cdv A outer s H E hr => ?_
  unfold m_law_drawn
  exact (sb_cons (ss_set 3 [] (se_op od_mul se_int (se_var 1)) hN)
    (sb_cons (ss_if [] (st_cmp (od_ne hr) (se_var 0) (se_l (sl_lst sa_nil))) (sb_cons (ss_set 3 [] (se_ix id_ix (se_var 0) (se_op od_mod (se_var 1) (se_bi cd_len h.z_len (sa_cons (se_var 0) sa_nil)))) hN)
    (sb_cons (ss_set 4 [] (se_op od_div (se_var 1) (se_bi cd_len h.z_len (sa_cons (se_var 0) sa_nil))) hN)
    (sb_cons (ss_if [] (st_w (sw_and (st_cmp od_ge (se_var 3) (se_op od_pow se_int se_int)) (sw_and1 (st_cmp od_lt (se_var 4) se_int)))) (sb_cons (ss_set 5 [] (se_op od_div (se_var 3) (se_op od_pow se_int se_int)) hN)
    (sb_cons (ss_while 1000 [] (passes_of rfl) (st_w (sw_and (st_cmp od_gt (se_var 5) se_int) (sw_and1 (st_cmp od_gt (se_var 4) se_int)))) (sb_cons (ss_set 5 [] (se_op od_div (se_var 5) se_int) hN)
    (sb_one (ss_set 4 [] (se_op od_sub (se_var 4) se_int) hN))))
    (sb_one (ss_if [] (st_cmp od_gt (se_var 5) se_int) (sb_one (ss_ret [] (se_op od_mod (se_op od_mod (se_var 5) se_int) (se_var 2)))) sb_nil)))) sb_nil)
    (sb_one (ss_set 3 [] (se_op od_add (se_var 3) (se_op od_mul se_int (se_op od_div (se_var 1) (se_bi cd_len h.z_len (sa_cons (se_var 0) sa_nil))))) hN))))) sb_nil)
    (sb_cons (ss_set 3 [] (se_op od_mod (se_op od_add (se_op od_mul (se_op od_mod (se_var 3) se_int) se_int) (se_op od_mul se_int (se_op od_add (se_var 1) se_int))) se_int) hN)
    (sb_cons (ss_set 3 [] (se_op od_mod (se_op od_add (se_op od_mul (se_var 3) (se_var 3)) (se_op od_div (se_var 3) se_int)) se_int) hN)
    (sb_one (ss_ret [] (se_op od_mod (se_op od_div (se_op od_mod (se_op od_add (se_op od_mul (se_var 3) (se_var 3)) (se_op od_div (se_var 3) se_int)) se_int) se_int) (se_var 2))))))))
theorem ok_is_step {P : Program} {w : World} {K : PySem.W.Frag} {mg : Str → Option Value} {base : Heap} (h : Fx K mg) : Dn P w K mg base 2 "is_step" 1 (mDef m_is_step 1) := by
  obtain ⟨f, fd, F, hg⟩ := h.f_is_step
  have hN := sc_is_step.nd
  refine dn_mk F sc_is_step hg (F.bindsN fun _ _ _ _ _ _ us hl => match us, hl with | [_], _ => rfl) (by decide) fun cdv A outer s H E hr => ?_
  unfold m_is_step
  exact (sb_cons (ss_if [] (st_w (sw_or (st_not (st_val (se_isi .tuple (se_var 0) h.z_isinstance h.z_tuple))) (sw_or1 (st_cmp (od_ne hr) (se_bi cd_len h.z_len (sa_cons (se_var 0) sa_nil)) se_int)))) (sb_one (ss_ret [] se_bl)) sb_nil)
    (sb_one (ss_ret [] (se_and (se_call ((ok_is_int h).mono (k := 1) (by decide)) hr (passes_call (takes_of rfl rfl rfl rfl) (fun _ _ _ _ h => h)) (sa_cons (se_ix id_ix (se_var 0) se_int) (sa_cons se_int (sa_cons (se_glob h.g_MAX_AMOUNT) sa_nil)))) (se_one (se_call ((ok_is_int h).mono (k := 1) (by decide)) hr (passes_call (takes_of rfl rfl rfl rfl) (fun _ _ _ _ h => h)) (sa_cons (se_ix id_ix (se_var 0) se_int) (sa_cons se_int (sa_cons (se_glob h.g_MAX_STEP) sa_nil)))))))))
theorem ok_is_bid {P : Program} {w : World} {K : PySem.W.Frag} {mg : Str → Option Value} {base : Heap} (h : Fx K mg) : Dn P w K mg base 2 "is_bid" 1 (mDef m_is_bid 1) := by
  obtain ⟨f, fd, F, hg⟩ := h.f_is_bid
  have hN := sc_is_bid.nd
  refine dn_mk F sc_is_bid hg (F.bindsN fun _ _ _ _ _ _ us hl => match us, hl with | [_], _ => rfl) (by decide) fun cdv A outer s H E hr => ?_
  unfold m_is_bid
  exact (sb_cons (ss_if [] (st_w (sw_or (st_not (st_val (se_isi .tuple (se_var 0) h.z_isinstance h.z_tuple))) (sw_or1 (st_cmp (od_ne hr) (se_bi cd_len h.z_len (sa_cons (se_var 0) sa_nil)) se_int)))) (sb_one (ss_ret [] se_bl)) sb_nil)
    (sb_one (ss_ret [] (se_and (se_call ((ok_is_bidder h).mono (k := 1) (by decide)) hr (passes_call (takes_of rfl rfl rfl rfl) (fun _ _ _ _ h => h)) (sa_cons (se_ix id_ix (se_var 0) se_int) sa_nil)) (se_one (se_call ((ok_is_int h).mono (k := 1) (by decide)) hr (passes_call (takes_of rfl rfl rfl rfl) (fun _ _ _ _ h => h)) (sa_cons (se_ix id_ix (se_var 0) se_int) (sa_cons se_int (sa_cons (se_glob h.g_MAX_AMOUNT) sa_nil)))))))))
theorem ok_is_refused {P : Program} {w : World} {K : PySem.W.Frag} {mg : Str → Option Value} {base : Heap} (h : Fx K mg) : Dn P w K mg base 2 "is_refused" 3 (mDef m_is_refused 6) := by
  obtain ⟨f, fd, F, hg⟩ := h.f_is_refused
  have hN := sc_is_refused.nd
  refine dn_mk F sc_is_refused hg (F.bindsN fun _ _ _ _ _ _ us hl => match us, hl with | [_, _, _], _ => rfl) (by decide) fun cdv A outer s H E hr => ?_
  unfold m_is_refused
  exact (sb_cons (ss_asg [] (se_var 1) (sg_tup rfl (sgs_cons (sg_name 3 hN) (sgs_cons (sg_name 4 hN) (sgs_cons (sg_name 5 hN) sgs_nil)))))
    (sb_cons (ss_if [] (st_cmp (od_eq hr) (se_var 3) se_str) (sb_one (ss_ret [] (se_cmp od_lt (se_ix id_ix (se_var 2) se_int) (se_ix id_ix (se_var 0) se_int)))) sb_nil)
    (sb_cons (ss_if [] (st_cmp (od_eq hr) (se_ix id_ix (se_var 2) se_int) (se_var 3)) (sb_one (ss_ret [] (se_cmp od_le (se_ix id_ix (se_var 2) se_int) (se_var 5)))) sb_nil)
    (sb_one (ss_ret [] (se_cmp od_lt (se_ix id_ix (se_var 2) se_int) (se_call ((ok_step_up h).mono (k := 1) (by decide)) hr (passes_call (takes_of rfl rfl rfl rfl) (fun _ _ _ _ h => h)) (sa_cons (se_var 0) (sa_cons (se_var 4) sa_nil)))))))))
theorem ok_law_sale {P : Program} {w : World} {K : PySem.W.Frag} {mg : Str → Option Value} {base : Heap} (h : Fx K mg) : Dn P w K mg base 2 "_law_sale" 2 (mDef m_law_sale 6) := by
  obtain ⟨f, fd, F, hg⟩ := h.f_law_sale
  have hN := sc_law_sale.nd
  refine dn_mk F sc_law_sale hg (F.bindsN fun _ _ _ _ _ _ us hl => match us, hl with | [_, _], _ => rfl) (by decide) fun cdv A outer s H E hr => ?_
  unfold m_law_sale
  exact (sb_cons (ss_own 2 [] (sl_lst (sa_cons (se_tup (sa_cons se_int (sa_cons (se_op od_add se_int (se_call ((ok_law_drawn h).mono (k := 1) (by decide)) hr (passes_call (takes_of rfl rfl rfl rfl) (fun _ _ _ _ h => h)) (sa_cons (se_var 0) (sa_cons (se_var 1) (sa_cons se_int sa_nil))))) sa_nil))) sa_nil)) hN)
    (sb_cons (ss_for [] (passes_of rfl) rfl (si_range1 h.z_range (sa_cons (se_call ((ok_law_drawn h).mono (k := 1) (by decide)) hr (passes_call (takes_of rfl rfl rfl rfl) (fun _ _ _ _ h => h)) (sa_cons (se_var 0) (sa_cons (se_op od_add (se_var 1) se_int) (sa_cons se_int sa_nil)))) sa_nil)) (sg_name 3 hN) (sb_cons (ss_set 5 [] (se_op od_add (se_op od_add (se_ix id_ix (se_ixo 2 (se_neg se_int)) se_int) se_int) (se_call ((ok_law_drawn h).mono (k := 1) (by decide)) hr (passes_call (takes_of rfl rfl rfl rfl) (fun _ _ _ _ h => h)) (sa_cons (se_var 0) (sa_cons (se_op od_add (se_op od_add (se_var 1) se_int) (se_var 3)) (sa_cons se_int sa_nil))))) hN)
    (sb_one (ss_app 2 [] (se_tup (sa_cons (se_var 5) (sa_cons (se_op od_add (se_op od_add (se_ix id_ix (se_ixo 2 (se_neg se_int)) se_int) se_int) (se_call ((ok_law_drawn h).mono (k := 1) (by decide)) hr (passes_call (takes_of rfl rfl rfl rfl) (fun _ _ _ _ h => h)) (sa_cons (se_var 0) (sa_cons (se_op od_add (se_op od_add (se_var 1) se_int) (se_var 3)) (sa_cons se_int sa_nil))))) sa_nil)))))))
    (sb_cons (ss_set 4 [] (se_op od_add se_int (se_call ((ok_law_drawn h).mono (k := 1) (by decide)) hr (passes_call (takes_of rfl rfl rfl rfl) (fun _ _ _ _ h => h)) (sa_cons (se_var 0) (sa_cons (se_op od_add (se_var 1) se_int) (sa_cons se_int sa_nil))))) hN)
    (sb_one (ss_ret [2] (se_tup (sa_cons (se_bt cd_tuple h.z_tuple (sa_cons (se_var 2) sa_nil)) (sa_cons (se_var 4) (sa_cons (se_op od_add (se_var 4) (se_ix id_ix (se_l (sl_lst (sa_cons se_int (sa_cons (se_call ((ok_law_drawn h).mono (k := 1) (by decide)) hr (passes_call (takes_of rfl rfl rfl rfl) (fun _ _ _ _ h => h)) (sa_cons (se_var 0) (sa_cons (se_op od_add (se_var 1) se_int) (sa_cons se_int sa_nil)))) sa_nil)))) (se_call ((ok_law_drawn h).mono (k := 1) (by decide)) hr (passes_call (takes_of rfl rfl rfl rfl) (fun _ _ _ _ h => h)) (sa_cons (se_var 0) (sa_cons (se_op od_add (se_var 1) se_int) (sa_cons se_int sa_nil)))))) sa_nil)))))))))
theorem ok_law_bids {P : Program} {w : World} {K : PySem.W.Frag} {mg : Str → Option Value} {base : Heap} (h : Fx K mg) : Dn P w K mg base 2 "_law_bids" 3 (mDef m_law_bids 6) := by
  obtain ⟨f, fd, F, hg⟩ := h.f_law_bids
  have hN := sc_law_bids.nd
  refine dn_mk F sc_law_bids hg (F.bindsN fun _ _ _ _ _ _ us hl => match us, hl with | [_, _, _], _ => rfl) (by decide) fun cdv A outer s H E hr => ?_
  unfold m_law_bids
  exact (sb_cons (ss_own 3 [] (sl_lst sa_nil) hN)
    (sb_cons (ss_for [] (passes_of rfl) rfl (si_range1 h.z_range (sa_cons (se_call ((ok_law_drawn h).mono (k := 1) (by decide)) hr (passes_call (takes_of rfl rfl rfl rfl) (fun _ _ _ _ h => h)) (sa_cons (se_var 0) (sa_cons (se_var 1) (sa_cons (se_op od_add (se_var 2) se_int) sa_nil)))) sa_nil)) (sg_name 4 hN) (sb_cons (ss_set 5 [] (se_op od_add se_int (se_call ((ok_law_drawn h).mono (k := 1) (by decide)) hr (passes_call (takes_of rfl rfl rfl rfl) (fun _ _ _ _ h => h)) (sa_cons (se_var 0) (sa_cons (se_op od_add (se_op od_add (se_var 1) se_int) (se_op od_mul se_int (se_var 4))) (sa_cons (se_ix id_ix (se_l (sl_lst (sa_cons se_int (sa_cons se_int (sa_cons se_int sa_nil))))) (se_call ((ok_law_drawn h).mono (k := 1) (by decide)) hr (passes_call (takes_of rfl rfl rfl rfl) (fun _ _ _ _ h => h)) (sa_cons (se_var 0) (sa_cons (se_op od_add (se_op od_add (se_var 1) se_int) (se_op od_mul se_int (se_var 4))) (sa_cons se_int sa_nil))))) sa_nil))))) hN)
    (sb_one (ss_app 3 [] (se_tup (sa_cons (se_ix id_ix se_str (se_call ((ok_law_drawn h).mono (k := 1) (by decide)) hr (passes_call (takes_of rfl rfl rfl rfl) (fun _ _ _ _ h => h)) (sa_cons (se_var 0) (sa_cons (se_op od_add (se_op od_add (se_var 1) se_int) (se_op od_mul se_int (se_var 4))) (sa_cons se_int sa_nil))))) (sa_cons (se_var 5) sa_nil)))))))
    (sb_one (ss_ret [3] (se_var 3)))))
theorem ok_are_steps {P : Program} {w : World} {K : PySem.W.Frag} {mg : Str → Option Value} {base : Heap} (h : Fx K mg) : Dn P w K mg base 3 "are_steps" 1 (mDef m_are_steps 5) := by
  obtain ⟨f, fd, F, hg⟩ := h.f_are_steps
  have hN := sc_are_steps.nd
  refine dn_mk F sc_are_steps hg (F.bindsN fun _ _ _ _ _ _ us hl => match us, hl with | [_], _ => rfl) (by decide) fun cdv A outer s H E hr => ?_
  unfold m_are_steps
  exact (sb_cons (ss_if [] (st_w (sw_or (st_not (st_val (se_isi .tuple (se_var 0) h.z_isinstance h.z_tuple))) (sw_or (st_not (st_chain od_le od_le se_int (se_bi cd_len h.z_len (sa_cons (se_var 0) sa_nil)) (se_glob h.g_MAX_STEPS))) (sw_or1 (st_not (st_val (se_bi (cd_all rfl) h.z_all (sa_cons (se_l (sl_lc (own := [((PySem.Str.ofString "step"), 4)]) (is := [4]) rfl hN (si_val (se_var 0)) (blkc (N := ["value", "rising", "one", "other", "step"]) (sc := (defScope s_are_steps)) (by decide +kernel)) (fun _ _ _ _ _ => (sg_name 4 hN)) (fun _ _ _ _ _ => sts_nil) (fun _ _ _ _ _ => (se_call ((ok_is_step h).mono (k := 2) (by decide)) hr passL (sa_cons (se_var 4) sa_nil))) (by decide))) sa_nil)))))))) (sb_one (ss_ret [] se_bl)) sb_nil)
    (sb_cons (ss_setLc 1 [] (own := [((PySem.Str.ofString "one"), 2), ((PySem.Str.ofString "other"), 3)]) (is := [2, 3]) rfl hN (si_zip h.z_zip (sa_cons (se_var 0) (sa_cons (se_slice (se_var 0) (so_some se_int) so_none) sa_nil))) (blkc (N := ["value", "rising", "one", "other", "step"]) (sc := (defScope s_are_steps)) (by decide +kernel)) (fun _ _ _ _ _ => (sg_tup rfl (sgs_cons (sg_name 2 hN) (sgs_cons (sg_name 3 hN) sgs_nil)))) (fun _ _ _ _ _ => sts_nil) (fun _ _ _ _ _ => (se_and (se_cmp od_lt (se_ix id_ix (se_var 2) se_int) (se_ix id_ix (se_var 3) se_int)) (se_one (se_cmp od_lt (se_ix id_ix (se_var 2) se_int) (se_ix id_ix (se_var 3) se_int))))) (by decide))
    (sb_one (ss_ret [] (se_and (se_cmp (od_eq hr) (se_ix id_ix (se_ix id_ix (se_var 0) se_int) se_int) se_int) (se_one (se_bi (cd_all rfl) h.z_all (sa_cons (se_var 1) sa_nil))))))))
theorem ok_are_bids {P : Program} {w : World} {K : PySem.W.Frag} {mg : Str → Option Value} {base : Heap} (h : Fx K mg) : Dn P w K mg base 3 "are_bids" 1 (mDef m_are_bids 2) := by
  obtain ⟨f, fd, F, hg⟩ := h.f_are_bids
  have hN := sc_are_bids.nd
  refine dn_mk F sc_are_bids hg (F.bindsN fun _ _ _ _ _ _ us hl => match us, hl with | [_], _ => rfl) (by decide) fun cdv A outer s H E hr => ?_
  unfold m_are_bids
  exact (sb_cons (ss_if [] (st_w (sw_or (st_not (st_val (se_isi .list (se_var 0) h.z_isinstance h.z_list))) (sw_or1 (st_cmp od_gt (se_bi cd_len h.z_len (sa_cons (se_var 0) sa_nil)) (se_glob h.g_MAX_BIDS))))) (sb_one (ss_ret [] se_bl)) sb_nil)
    (sb_one (ss_ret [] (se_bi (cd_all rfl) h.z_all (sa_cons (se_l (sl_lc (own := [((PySem.Str.ofString "bid"), 1)]) (is := [1]) rfl hN (si_val (se_var 0)) (blkc (N := ["candidate", "bid"]) (sc := (defScope s_are_bids)) (by decide +kernel)) (fun _ _ _ _ _ => (sg_name 1 hN)) (fun _ _ _ _ _ => sts_nil) (fun _ _ _ _ _ => (se_call ((ok_is_bid h).mono (k := 2) (by decide)) hr passL (sa_cons (se_var 1) sa_nil))) (by decide))) sa_nil)))))
theorem ok_advance {P : Program} {w : World} {K : PySem.W.Frag} {mg : Str → Option Value} {base : Heap} (h : Fx K mg) : Dn P w K mg base 3 "advance" 3 (mDef m_advance 6) := by
  obtain ⟨f, fd, F, hg⟩ := h.f_advance
  have hN := sc_advance.nd
  refine dn_mk F sc_advance hg (F.bindsN fun _ _ _ _ _ _ us hl => match us, hl with | [_, _, _], _ => rfl) (by decide) fun cdv A outer s H E hr => ?_
  unfold m_advance
  exact (sb_cons (ss_if [] (st_val (se_call ((ok_is_refused h).mono (k := 2) (by decide)) hr (passes_call (takes_of rfl rfl rfl rfl) (fun _ _ _ _ h => h)) (sa_cons (se_var 0) (sa_cons (se_var 1) (sa_cons (se_var 2) sa_nil))))) (sb_one (ss_ret [] (se_var 1))) sb_nil)
    (sb_cons (ss_asg [] (se_var 1) (sg_tup rfl (sgs_cons (sg_name 3 hN) (sgs_cons (sg_name 4 hN) (sgs_cons (sg_name 5 hN) sgs_nil)))))
    (sb_cons (ss_if [] (st_cmp (od_eq hr) (se_var 3) se_str) (sb_one (ss_ret [] (se_call ((ok_with_reserve h).mono (k := 2) (by decide)) hr (passes_call (takes_of rfl rfl rfl rfl) (fun _ _ _ _ h => h)) (sa_cons (se_var 0) (sa_cons (se_tup (sa_cons (se_ix id_ix (se_var 2) se_int) (sa_cons (se_ix id_ix (se_var 0) se_int) (sa_cons (se_ix id_ix (se_var 2) se_int) sa_nil)))) sa_nil))))) sb_nil)
    (sb_cons (ss_if [] (st_cmp (od_eq hr) (se_ix id_ix (se_var 2) se_int) (se_var 3)) (sb_one (ss_ret [] (se_call ((ok_with_reserve h).mono (k := 2) (by decide)) hr (passes_call (takes_of rfl rfl rfl rfl) (fun _ _ _ _ h => h)) (sa_cons (se_var 0) (sa_cons (se_tup (sa_cons (se_var 3) (sa_cons (se_var 4) (sa_cons (se_ix id_ix (se_var 2) se_int) sa_nil)))) sa_nil))))) sb_nil)
    (sb_cons (ss_if [] (st_cmp od_le (se_ix id_ix (se_var 2) se_int) (se_var 5)) (sb_one (ss_ret [] (se_call ((ok_with_reserve h).mono (k := 2) (by decide)) hr (passes_call (takes_of rfl rfl rfl rfl) (fun _ _ _ _ h => h)) (sa_cons (se_var 0) (sa_cons (se_tup (sa_cons (se_var 3) (sa_cons (se_bi (cd_min rfl) h.z_min (sa_cons (se_var 5) (sa_cons (se_call ((ok_step_up h).mono (k := 2) (by decide)) hr (passes_call (takes_of rfl rfl rfl rfl) (fun _ _ _ _ h => h)) (sa_cons (se_var 0) (sa_cons (se_ix id_ix (se_var 2) se_int) sa_nil))) sa_nil))) (sa_cons (se_var 5) sa_nil)))) sa_nil))))) sb_nil)
    (sb_one (ss_ret [] (se_call ((ok_with_reserve h).mono (k := 2) (by decide)) hr (passes_call (takes_of rfl rfl rfl rfl) (fun _ _ _ _ h => h)) (sa_cons (se_var 0) (sa_cons (se_tup (sa_cons (se_ix id_ix (se_var 2) se_int) (sa_cons (se_bi (cd_min rfl) h.z_min (sa_cons (se_ix id_ix (se_var 2) se_int) (sa_cons (se_call ((ok_step_up h).mono (k := 2) (by decide)) hr (passes_call (takes_of rfl rfl rfl rfl) (fun _ _ _ _ h => h)) (sa_cons (se_var 0) (sa_cons (se_var 5) sa_nil))) sa_nil))) (sa_cons (se_ix id_ix (se_var 2) se_int) sa_nil)))) sa_nil))))))))))
theorem ok_is_sale {P : Program} {w : World} {K : PySem.W.Frag} {mg : Str → Option Value} {base : Heap} (h : Fx K mg) : Dn P w K mg base 4 "is_sale" 1 (mDef m_is_sale 4) := by
  obtain ⟨f, fd, F, hg⟩ := h.f_is_sale
  have hN := sc_is_sale.nd
  refine dn_mk F sc_is_sale hg (F.bindsN fun _ _ _ _ _ _ us hl => match us, hl with | [_], _ => rfl) (by decide) fun cdv A outer s H E hr => ?_
  unfold m_is_sale
  exact (sb_cons (ss_if [] (st_w (sw_or (st_not (st_val (se_isi .tuple (se_var 0) h.z_isinstance h.z_tuple))) (sw_or (st_cmp (od_ne hr) (se_bi cd_len h.z_len (sa_cons (se_var 0) sa_nil)) se_int) (sw_or1 (st_not (st_val (se_call ((ok_are_steps h).mono (k := 3) (by decide)) hr (passes_call (takes_of rfl rfl rfl rfl) (fun _ _ _ _ h => h)) (sa_cons (se_ix id_ix (se_var 0) se_int) sa_nil)))))))) (sb_one (ss_ret [] se_bl)) sb_nil)
    (sb_cons (ss_asg [] (se_var 0) (sg_tup rfl (sgs_cons (sg_name 1 hN) (sgs_cons (sg_name 2 hN) (sgs_cons (sg_name 3 hN) sgs_nil)))))
    (sb_one (ss_ret [] (se_and (se_call ((ok_is_int h).mono (k := 3) (by decide)) hr (passes_call (takes_of rfl rfl rfl rfl) (fun _ _ _ _ h => h)) (sa_cons (se_var 2) (sa_cons se_int (sa_cons (se_glob h.g_MAX_START) sa_nil)))) (se_one (se_call ((ok_is_int h).mono (k := 3) (by decide)) hr (passes_call (takes_of rfl rfl rfl rfl) (fun _ _ _ _ h => h)) (sa_cons (se_var 3) (sa_cons (se_var 2) (sa_cons (se_glob h.g_MAX_AMOUNT) sa_nil))))))))))
theorem ok_find_states {P : Program} {w : World} {K : PySem.W.Frag} {mg : Str → Option Value} {base : Heap} (h : Fx K mg) : Dn P w K mg base 4 "find_states" 2 (mDef m_find_states 5) := by
  obtain ⟨f, fd, F, hg⟩ := h.f_find_states
  have hN := sc_find_states.nd
  refine dn_mk F sc_find_states hg (F.bindsN fun _ _ _ _ _ _ us hl => match us, hl with | [_, _], _ => rfl) (by decide) fun cdv A outer s H E hr => ?_
  unfold m_find_states
  exact (sb_cons (ss_par2 3 4 [] rfl hN (sp_o (sl_lst sa_nil) (sp_v (se_glob h.g_NOBODY) sp_nil)))
    (sb_cons (ss_for [] (passes_of rfl) rfl (si_val (se_var 1)) (sg_name 2 hN) (sb_cons (ss_set 4 [] (se_call ((ok_advance h).mono (k := 3) (by decide)) hr (passes_call (takes_of rfl rfl rfl rfl) (fun _ _ _ _ h => h)) (sa_cons (se_var 0) (sa_cons (se_var 4) (sa_cons (se_var 2) sa_nil)))) hN)
    (sb_one (ss_app 3 [] (se_var 4)))))
    (sb_one (ss_ret [3] (se_var 3)))))
theorem ok_check_sale {P : Program} {w : World} {K : PySem.W.Frag} {mg : Str → Option Value} {base : Heap} (h : Fx K mg) : Dn P w K mg base 5 "check_sale" 1 (mDef m_check_sale 1) := by
  obtain ⟨f, fd, F, hg⟩ := h.f_check_sale
  have hN := sc_check_sale.nd
  refine dn_mk F sc_check_sale hg (F.bindsN fun _ _ _ _ _ _ us hl => match us, hl with | [_], _ => rfl) (by decide) fun cdv A outer s H E hr => ?_
  unfold m_check_sale
  exact (sb_one (ss_if [] (st_not (st_val (se_call ((ok_is_sale h).mono (k := 4) (by decide)) hr (passes_call (takes_of rfl rfl rfl rfl) (fun _ _ _ _ h => h)) (sa_cons (se_var 0) sa_nil)))) (sb_one (ss_raise rfl (takes_of rfl rfl rfl rfl) h.e_InvalidSale)) sb_nil))
theorem ok_find_result {P : Program} {w : World} {K : PySem.W.Frag} {mg : Str → Option Value} {base : Heap} (h : Fx K mg) : Dn P w K mg base 5 "find_result" 2 (mDef m_find_result 2) := by
  obtain ⟨f, fd, F, hg⟩ := h.f_find_result
  have hN := sc_find_result.nd
  refine dn_mk F sc_find_result hg (F.bindsN fun _ _ _ _ _ _ us hl => match us, hl with | [_, _], _ => rfl) (by decide) fun cdv A outer s H E hr => ?_
  unfold m_find_result
  exact (sb_one (ss_ret [] (se_ix id_ix (se_op od_add (se_l (sl_lst (sa_cons (se_glob h.g_NOBODY) sa_nil))) (se_call ((ok_find_states h).mono (k := 4) (by decide)) hr (passes_call (takes_of rfl rfl rfl rfl) (fun _ _ _ _ h => h)) (sa_cons (se_var 0) (sa_cons (se_var 1) sa_nil)))) (se_neg se_int))))
theorem ok_find_refused {P : Program} {w : World} {K : PySem.W.Frag} {mg : Str → Option Value} {base : Heap} (h : Fx K mg) : Dn P w K mg base 5 "find_refused" 2 (mDef m_find_refused 5) := by
  obtain ⟨f, fd, F, hg⟩ := h.f_find_refused
  have hN := sc_find_refused.nd
  refine dn_mk F sc_find_refused hg (F.bindsN fun _ _ _ _ _ _ us hl => match us, hl with | [_, _], _ => rfl) (by decide) fun cdv A outer s H E hr => ?_
  unfold m_find_refused
  exact (sb_cons (ss_set 2 [] (se_op od_add (se_l (sl_lst (sa_cons (se_glob h.g_NOBODY) sa_nil))) (se_call ((ok_find_states h).mono (k := 4) (by decide)) hr (passes_call (takes_of rfl rfl rfl rfl) (fun _ _ _ _ h => h)) (sa_cons (se_var 0) (sa_cons (se_var 1) sa_nil)))) hN)
    (sb_one (ss_ret [] (se_l (sl_lc (own := [((PySem.Str.ofString "index"), 3), ((PySem.Str.ofString "bid"), 4)]) (is := [3, 4]) rfl hN (si_enum h.z_enumerate (sa_cons (se_var 1) sa_nil)) (blkc (N := ["sale", "bids", "known", "index", "bid"]) (sc := (defScope s_find_refused)) (by decide +kernel)) (fun _ _ _ _ _ => (sg_tup rfl (sgs_cons (sg_name 3 hN) (sgs_cons (sg_name 4 hN) sgs_nil)))) (fun _ _ _ _ _ => (sts_one (st_val (se_call ((ok_is_refused h).mono (k := 4) (by decide)) hr passL (sa_cons (se_var 0) (sa_cons (se_ix id_ix (se_var 2) (se_var 3)) (sa_cons (se_var 4) sa_nil))))))) (fun _ _ _ _ _ => (se_var 3)) (by decide))))))
theorem ok_check_bids {P : Program} {w : World} {K : PySem.W.Frag} {mg : Str → Option Value} {base : Heap} (h : Fx K mg) : Dn P w K mg base 6 "check_bids" 2 (mDef m_check_bids 2) := by
  obtain ⟨f, fd, F, hg⟩ := h.f_check_bids
  have hN := sc_check_bids.nd
  refine dn_mk F sc_check_bids hg (F.bindsN fun _ _ _ _ _ _ us hl => match us, hl with | [_, _], _ => rfl) (by decide) fun cdv A outer s H E hr => ?_
  unfold m_check_bids
  exact (sb_cons (ss_expr [] (se_call ((ok_check_sale h).mono (k := 5) (by decide)) hr (passes_call (takes_of rfl rfl rfl rfl) (fun _ _ _ _ h => h)) (sa_cons (se_var 0) sa_nil)))
    (sb_one (ss_if [] (st_not (st_val (se_call ((ok_are_bids h).mono (k := 5) (by decide)) hr (passes_call (takes_of rfl rfl rfl rfl) (fun _ _ _ _ h => h)) (sa_cons (se_var 1) sa_nil)))) (sb_one (ss_raise rfl (takes_of rfl rfl rfl rfl) h.e_InvalidBids)) sb_nil)))
theorem ok_Desk___init__ {P : Program} {w : World} {K : PySem.W.Frag} {mg : Str → Option Value} {base : Heap} (h : Fx K mg) : MkD P w K mg base 6 (mDef m_check_sale 1) := by
  obtain ⟨f, fd, F, hm, hg⟩ := h.f_Desk___init__
  have hN := sc_Desk___init__.nd
  refine mkD_mk F sc_Desk___init__ (F.bindsN fun _ _ _ _ _ _ us hl => match us, hl with | [_, _], _ => rfl) hm hg h.dk rfl fun cdv A outer s H E hr => ?_
  exact init_run (ss_expr [] (se_call ((ok_check_sale h).mono (k := 5) (by decide)) hr (passes_call (takes_of rfl rfl rfl rfl) (fun _ _ _ _ h => h)) (sa_cons (se_var 1) sa_nil))) (ps_fld (pe_var (i := 0) rfl (.inl rfl)) (se_tup (sa_cons (se_var 1) (sa_cons (se_tup sa_nil) sa_nil))) rfl) (ps_fld (pe_var (i := 0) rfl (.inl rfl)) (sl_lst sa_nil) rfl) (ps_fld (pe_var (i := 0) rfl (.inl rfl)) (sl_lst sa_nil) rfl)
theorem ok_Desk_result {P : Program} {w : World} {K : PySem.W.Frag} {mg : Str → Option Value} {base : Heap} (h : Fx K mg) : Mn P w K mg base 6 "result" 1 (mDef m_Desk_result 1) := by
  obtain ⟨f, fd, F, hg⟩ := h.f_Desk_result
  have hN := sc_Desk_result.nd
  refine mn_mk F sc_Desk_result hg (F.bindsN fun _ _ _ _ _ _ us hl => match us, hl with | [_], _ => rfl) (by decide) fun cdv A outer s H E hr => ?_
  unfold m_Desk_result
  exact (sb_one (ss_ret [] (se_call ((ok_find_result h).mono (k := 5) (by decide)) hr (passes_call (takes_of rfl rfl rfl rfl) (fun _ _ _ _ h => h)) (sa_cons (se_ix id_ix (se_fldP (se_var 0)) se_int) (sa_cons (se_meth0 ((ok_Desk_bids h).mono (k := 5) (by decide)) h.dk.cl hr (passes_call (takes_of rfl rfl rfl rfl) (fun _ _ _ _ h => h)) (se_var 0)) sa_nil)))))
theorem ok_result {P : Program} {w : World} {K : PySem.W.Frag} {mg : Str → Option Value} {base : Heap} (h : Fx K mg) : Dn P w K mg base 7 "result" 2 (mDef m_result 2) := by
  obtain ⟨f, fd, F, hg⟩ := h.f_result
  have hN := sc_result.nd
  refine dn_mk F sc_result hg (F.bindsN fun _ _ _ _ _ _ us hl => match us, hl with | [_, _], _ => rfl) (by decide) fun cdv A outer s H E hr => ?_
  unfold m_result
  exact (sb_cons (ss_expr [] (se_call ((ok_check_bids h).mono (k := 6) (by decide)) hr (passes_call (takes_of rfl rfl rfl rfl) (fun _ _ _ _ h => h)) (sa_cons (se_var 0) (sa_cons (se_var 1) sa_nil))))
    (sb_one (ss_ret [] (se_call ((ok_find_result h).mono (k := 6) (by decide)) hr (passes_call (takes_of rfl rfl rfl rfl) (fun _ _ _ _ h => h)) (sa_cons (se_var 0) (sa_cons (se_var 1) sa_nil))))))
theorem ok_states {P : Program} {w : World} {K : PySem.W.Frag} {mg : Str → Option Value} {base : Heap} (h : Fx K mg) : Dn P w K mg base 7 "states" 2 (mDef m_states 2) := by
  obtain ⟨f, fd, F, hg⟩ := h.f_states
  have hN := sc_states.nd
  refine dn_mk F sc_states hg (F.bindsN fun _ _ _ _ _ _ us hl => match us, hl with | [_, _], _ => rfl) (by decide) fun cdv A outer s H E hr => ?_
  unfold m_states
  exact (sb_cons (ss_expr [] (se_call ((ok_check_bids h).mono (k := 6) (by decide)) hr (passes_call (takes_of rfl rfl rfl rfl) (fun _ _ _ _ h => h)) (sa_cons (se_var 0) (sa_cons (se_var 1) sa_nil))))
    (sb_one (ss_ret [] (se_call ((ok_find_states h).mono (k := 6) (by decide)) hr (passes_call (takes_of rfl rfl rfl rfl) (fun _ _ _ _ h => h)) (sa_cons (se_var 0) (sa_cons (se_var 1) sa_nil))))))
theorem ok_refused {P : Program} {w : World} {K : PySem.W.Frag} {mg : Str → Option Value} {base : Heap} (h : Fx K mg) : Dn P w K mg base 7 "refused" 2 (mDef m_refused 2) := by
  obtain ⟨f, fd, F, hg⟩ := h.f_refused
  have hN := sc_refused.nd
  refine dn_mk F sc_refused hg (F.bindsN fun _ _ _ _ _ _ us hl => match us, hl with | [_, _], _ => rfl) (by decide) fun cdv A outer s H E hr => ?_
  unfold m_refused
  exact (sb_cons (ss_expr [] (se_call ((ok_check_bids h).mono (k := 6) (by decide)) hr (passes_call (takes_of rfl rfl rfl rfl) (fun _ _ _ _ h => h)) (sa_cons (se_var 0) (sa_cons (se_var 1) sa_nil))))
    (sb_one (ss_ret [] (se_call ((ok_find_refused h).mono (k := 6) (by decide)) hr (passes_call (takes_of rfl rfl rfl rfl) (fun _ _ _ _ h => h)) (sa_cons (se_var 0) (sa_cons (se_var 1) sa_nil))))))
theorem ok_Desk_bid {P : Program} {w : World} {K : PySem.W.Frag} {mg : Str → Option Value} {base : Heap} (h : Fx K mg) : MnW P w K mg base 7 "bid" 3 (mDefW wm_Desk_bid 7) := by
  obtain ⟨f, fd, F, hg⟩ := h.f_Desk_bid
  have hN := sc_Desk_bid.nd
  refine mnW_mk F sc_Desk_bid hg (F.bindsN fun _ _ _ _ _ _ us hl => match us, hl with | [_, _, _], _ => rfl) (by decide) fun cdv A outer s H E hr => ?_
  unfold wm_Desk_bid
  exact (wb_cons (ws_asg (we_rd (se_fldP (se_var 0))) (sg_tup rfl (sgs_cons (sg_name 5 hN) (sgs_cons (sg_name 6 hN) sgs_nil))))
    (wb_cons (ws_up (ss_if [] (st_not (st_val (se_call ((ok_is_bid h).mono (k := 6) (by decide)) hr (passes_call (takes_of rfl rfl rfl rfl) (fun _ _ _ _ h => h)) (sa_cons (se_tup (sa_cons (se_var 1) (sa_cons (se_var 2) sa_nil))) sa_nil)))) (sb_one (ss_raise rfl (takes_of rfl rfl rfl rfl) h.e_InvalidBid)) sb_nil))
    (wb_cons (ws_up (ss_if [] (st_cmp od_ge (se_bi cd_len h.z_len (sa_cons (se_var 6) sa_nil)) (se_glob h.g_MAX_BIDS)) (sb_one (ss_raise rfl (takes_of rfl rfl rfl rfl) h.e_TooLarge)) sb_nil))
    (wb_cons (ws_set 3 (we_rd (se_meth0 ((ok_Desk_result h).mono (k := 6) (by decide)) h.dk.cl hr (passes_call (takes_of rfl rfl rfl rfl) (fun _ _ _ _ h => h)) (se_var 0))) hN)
    (wb_cons (ws_expr (we_meth 0 ((ok_Desk_change h).mono (k := 6) (by decide)) h.dk.cl hr (passes_call (takes_of rfl rfl rfl rfl) (fun _ _ _ _ h => h)) (sda_d (se_var 5) (sda_d (se_op od_add (se_var 6) (se_tup (sa_cons (se_tup (sa_cons (se_var 1) (sa_cons (se_var 2) sa_nil))) sa_nil))) sda_nil))))
    (wb_cons (ws_set 4 (we_rd (se_meth0 ((ok_Desk_result h).mono (k := 6) (by decide)) h.dk.cl hr (passes_call (takes_of rfl rfl rfl rfl) (fun _ _ _ _ h => h)) (se_var 0))) hN)
    (wb_cons (ws_up (ss_if [] (st_val (se_call ((ok_is_refused h).mono (k := 6) (by decide)) hr (passes_call (takes_of rfl rfl rfl rfl) (fun _ _ _ _ h => h)) (sa_cons (se_var 5) (sa_cons (se_var 3) (sa_cons (se_tup (sa_cons (se_var 1) (sa_cons (se_var 2) sa_nil))) sa_nil))))) (sb_one (ss_ret [] (se_glob h.g_REFUSED))) sb_nil))
    (wb_cons (ws_up (ss_if [] (st_cmp (od_ne hr) (se_ix id_ix (se_var 4) se_int) (se_ix id_ix (se_var 3) se_int)) (sb_one (ss_ret [] (se_glob h.g_LEADS))) sb_nil))
    (wb_one (ws_up (ss_ret [] (se_if (st_cmp od_gt (se_ix id_ix (se_var 4) se_int) (se_ix id_ix (se_var 3) se_int)) (se_glob h.g_RAISED) (se_glob h.g_KEPT)))))))))))))
theorem ok_Desk_lower {P : Program} {w : World} {K : PySem.W.Frag} {mg : Str → Option Value} {base : Heap} (h : Fx K mg) : MnW P w K mg base 7 "lower" 2 (mDefW wm_Desk_lower 6) := by
  obtain ⟨f, fd, F, hg⟩ := h.f_Desk_lower
  have hN := sc_Desk_lower.nd
  refine mnW_mk F sc_Desk_lower hg (F.bindsN fun _ _ _ _ _ _ us hl => match us, hl with | [_, _], _ => rfl) (by decide) fun cdv A outer s H E hr => ?_
  unfold wm_Desk_lower
  exact (wb_cons (ws_asg (we_rd (se_fldP (se_var 0))) (sg_tup rfl (sgs_cons (sg_tup rfl (sgs_cons (sg_name 3 hN) (sgs_cons (sg_name 4 hN) (sgs_cons (sg_name 5 hN) sgs_nil)))) (sgs_cons (sg_name 2 hN) sgs_nil))))
    (wb_cons (ws_up (ss_if [] (st_not (st_val (se_call ((ok_is_int h).mono (k := 6) (by decide)) hr (passes_call (takes_of rfl rfl rfl rfl) (fun _ _ _ _ h => h)) (sa_cons (se_var 1) (sa_cons (se_var 4) (sa_cons (se_op od_sub (se_var 5) se_int) sa_nil)))))) (sb_one (ss_raise rfl (takes_of rfl rfl rfl rfl) h.e_InvalidPrice)) sb_nil))
    (wb_cons (ws_expr (we_meth 0 ((ok_Desk_change h).mono (k := 6) (by decide)) h.dk.cl hr (passes_call (takes_of rfl rfl rfl rfl) (fun _ _ _ _ h => h)) (sda_d (se_tup (sa_cons (se_var 3) (sa_cons (se_var 4) (sa_cons (se_var 1) sa_nil)))) (sda_d (se_var 2) sda_nil))))
    (wb_one (ws_ret (we_rd (se_meth0 ((ok_Desk_result h).mono (k := 6) (by decide)) h.dk.cl hr (passes_call (takes_of rfl rfl rfl rfl) (fun _ _ _ _ h => h)) (se_var 0))))))))
theorem ok_law_ends {P : Program} {w : World} {K : PySem.W.Frag} {mg : Str → Option Value} {base : Heap} (h : Fx K mg) : DnW P w K mg base 7 "_law_ends" 2 (mDefW wm_law_ends 4) := by
  obtain ⟨f, fd, F, hg⟩ := h.f_law_ends
  have hN := sc_law_ends.nd
  refine dnW_mk F sc_law_ends hg (F.bindsN fun _ _ _ _ _ _ us hl => match us, hl with | [_, _], _ => rfl) (by decide) fun cdv A outer s H E hr => ?_
  unfold wm_law_ends
  exact (wb_cons (ws_own 2 (sl_lst (sa_cons (se_tup (sa_cons (se_meth0 ((ok_Desk_bids h).mono (k := 6) (by decide)) h.dk.cl hr (passes_call (takes_of rfl rfl rfl rfl) (fun _ _ _ _ h => h)) (se_var 0)) (sa_cons (se_meth0 ((ok_Desk_result h).mono (k := 6) (by decide)) h.dk.cl hr (passes_call (takes_of rfl rfl rfl rfl) (fun _ _ _ _ h => h)) (se_var 0)) sa_nil))) sa_nil)) hN)
    (wb_cons (ws_while 100 (passes_of rfl) (wt_fz [2] (st_cmp od_lt (se_bi cd_len h.z_len (sa_cons (se_var 2) sa_nil)) se_int)) (wb_one (ws_tryF (nm := (PySem.Str.ofString "NothingToUndo")) h.x_err rfl rfl hN (i := 3) (fi := 2) rfl rfl rfl (by decide) ((takes_of rfl rfl rfl rfl).imp (fun _ _ _ _ z => z.elim)) (by decide) (fun pn xe => (st_cmp (od_eq hr) (se_var 1) se_int)) (fun Wx pn xe ps => (es_meth0 0 ((ok_Desk_undo h).mono (k := 6) (by decide)) h.dk.cl hr ps)) (fun Wx pn xe ps => (es_meth0 0 ((ok_Desk_redo h).mono (k := 6) (by decide)) h.dk.cl hr ps)) (fun pn xe t po => (ws_app 2 (se_tup (sa_cons (se_meth0 ((ok_Desk_bids h).mono (k := 6) (by decide)) h.dk.cl hr (passes_call t (fun _ _ _ _ h => h)) (se_var 0)) (sa_cons (se_meth0 ((ok_Desk_result h).mono (k := 6) (by decide)) h.dk.cl hr (passes_call t (fun _ _ _ _ h => h)) (se_var 0)) sa_nil))))) (fun a oe pn S => hd_ifl (pe_of (isi_one S (cn := (PySem.Str.ofString "NothingToUndo")) (by simp) h.z_isinstance rfl) fun σ H Q ⟨q1, q2⟩ => ⟨q1, by rw [decide_eq_true rfl]; exact q2⟩) (pe_var (i := 2) rfl (.inl rfl)) pe_non) (fun _ _ => rfl) (fun _ _ => rfl))))
    (wb_one (ws_up (ss_ret [] se_non)))))
theorem ok_Desk_copy {P : Program} {w : World} {K : PySem.W.Frag} {mg : Str → Option Value} {base : Heap} (h : Fx K mg) : CpD P w K mg base 8 (mDef m_check_sale 1) := by
  obtain ⟨f, fd, F, hg⟩ := h.f_Desk_copy
  have hN := sc_Desk_copy.nd
  refine cpD_mk F sc_Desk_copy (F.bindsN fun _ _ _ _ _ _ us hl => match us, hl with | [_], _ => rfl) hg rfl fun cdv A outer s H E hr => ?_
  exact copy_run (ps_set (i := 1) hN rfl (.inl rfl) (pe_newD ((ok_Desk___init__ h).mono (k := 6) (by decide)) hr (passes_call (takes_of rfl rfl rfl rfl) (fun _ _ _ _ h => h)) (se_ix id_ix (se_fldP (se_var 0)) se_int)) rfl (.inl rfl)) (ps_asg (pe_tup (pa_cons (se_fldP (se_var 0)) (pa_cons (sl_list (se_fldD (se_var 0)) h.z_list) (pa_cons (sl_list (se_fldU (se_var 0)) h.z_list) pa_nil)))) (pg_tup rfl (pgs_cons (pg_fld (pe_var (i := 1) rfl (.inl rfl))) (pgs_cons (pg_fld (pe_var (i := 1) rfl (.inl rfl))) (pgs_cons (pg_fld (pe_var (i := 1) rfl (.inl rfl))) pgs_nil))))) (ps_ret (pe_var (i := 1) rfl (.inl rfl)))
theorem ok_Desk_bids_L {P : Program} {w : World} {K : PySem.W.Frag} {mg : Str → Option Value} {base : Heap} (h : Fx K mg) : MnL P w K mg base 1 "bids" 1 (mDefL mwl_bids 1) := by
  obtain ⟨f, fd, F, hg⟩ := h.f_Desk_bids
  have hN := sc_Desk_bids.nd
  refine mnL_mk F sc_Desk_bids hg (F.bindsN fun _ _ _ _ _ _ us hl => match us, hl with | [_], _ => rfl) (by decide) rfl fun cdv A outer s H E hr => ?_
  unfold mwl_bids
  exact sl_listM (se_ix id_ix (se_fldP (se_var 0)) se_int) h.z_list
theorem ok_law_back {P : Program} {w : World} {K : PySem.W.Frag} {mg : Str → Option Value} {base : Heap} (h : Fx K mg) : DnW P w K mg base 9 "_law_back" 4 (mDefW wm_law_back 15) := by
  obtain ⟨f, fd, F, hg⟩ := h.f_law_back
  have hN := sc_law_back.nd
  refine dnW_mk F sc_law_back hg (F.bindsN fun _ _ _ _ _ _ us hl => match us, hl with | [_, _, _, _], _ => rfl) (by decide) fun cdv A outer s H E hr => ?_
  unfold wm_law_back
  exact (wb_cons (ws_up (ss_set 4 [] (se_call ((ok_law_drawn h).mono (k := 8) (by decide)) hr (passes_call (takes_of rfl rfl rfl rfl) (fun _ _ _ _ h => h)) (sa_cons (se_var 0) (sa_cons se_int (sa_cons (se_bi cd_len h.z_len (sa_cons (se_var 3) sa_nil)) sa_nil)))) hN))
    (wb_cons (ws_for (passes_of rfl) rfl (si_range1 h.z_range (sa_cons (se_var 4) sa_nil)) (sg_name 5 hN) (wb_one (ws_expr (we_meth0 2 ((ok_Desk_undo h).mono (k := 8) (by decide)) h.dk.cl hr (passes_call (takes_of rfl rfl rfl rfl) (fun _ _ _ _ h => h))))))
    (wb_cons (ws_par2 9 10 rfl hN (wi_v (we_up (se_op od_sub (se_op od_sub (se_bi cd_len h.z_len (sa_cons (se_var 3) sa_nil)) se_int) (se_var 4)))) (wi_a (wx_copy 2 ((ok_Desk_copy h).mono (k := 8) (by decide)) h.dk.cl hr (passes_call (takes_of rfl rfl rfl rfl) (fun _ _ _ _ h => h)))))
    (wb_cons (ws_if (wt_rd (st_w (sw_or (st_cmp (od_ne hr) (se_tup (sa_cons (se_meth0 ((ok_Desk_bids h).mono (k := 8) (by decide)) h.dk.cl hr (passes_call (takes_of rfl rfl rfl rfl) (fun _ _ _ _ h => h)) (se_var 2)) (sa_cons (se_meth0 ((ok_Desk_result h).mono (k := 8) (by decide)) h.dk.cl hr (passes_call (takes_of rfl rfl rfl rfl) (fun _ _ _ _ h => h)) (se_var 2)) sa_nil))) (se_ix id_ix (se_var 3) (se_var 9))) (sw_or (st_not (st_cmp (od_eqK ((ok_Desk___eq__ h).mono (k := 8) (by decide)) hr (passes_call (takes_of rfl rfl rfl rfl) (fun _ _ _ _ h => h))) (se_var 10) (se_var 2))) (sw_or1 (st_cmp (od_neK ((ok_Desk___eq__ h).mono (k := 7) (by decide)) hr (passes_call (takes_of rfl rfl rfl rfl) (fun _ _ _ _ h => h))) (se_var 10) (se_var 2))))))) (wb_one (ws_up (ss_ret [] se_bl))) wb_nil)
    (wb_cons (ws_if (wt_w (sww_or (wt_cmp (od_ne hr) (we_call ((ok_law_ends h).mono (k := 8) (by decide)) hr (passes_call (takes_of rfl rfl rfl rfl) (fun _ _ _ _ h => h)) (sda_a 10 (sda_d se_int sda_nil))) (we_up (se_slice (se_var 3) (so_some (se_var 9)) so_none))) (sww_or1 (wt_cmp (od_ne hr) (we_call ((ok_law_ends h).mono (k := 8) (by decide)) hr (passes_call (takes_of rfl rfl rfl rfl) (fun _ _ _ _ h => h)) (sda_a 10 (sda_d se_int sda_nil))) (we_up (se_l (sl_revM (se_var 3)))))))) (wb_one (ws_up (ss_ret [] se_bl))) wb_nil)
    (wb_cons (ws_if (wt_rd (st_cmp (od_neK ((ok_Desk___eq__ h).mono (k := 7) (by decide)) hr (passes_call (takes_of rfl rfl rfl rfl) (fun _ _ _ _ h => h))) (se_var 10) (se_makeD ((ok_Desk___init__ h).mono (k := 7) (by decide)) hr (passes_call (takes_of rfl rfl rfl rfl) (fun _ _ _ _ h => h)) (se_var 1)))) (wb_one (ws_up (ss_ret [] se_bl))) wb_nil)
    (wb_cons (ws_if (wt_rd (st_w (sw_or (st_cmp (od_ne hr) (se_tup (sa_cons (se_meth0 ((ok_Desk_bids h).mono (k := 8) (by decide)) h.dk.cl hr (passes_call (takes_of rfl rfl rfl rfl) (fun _ _ _ _ h => h)) (se_var 2)) (sa_cons (se_meth0 ((ok_Desk_result h).mono (k := 8) (by decide)) h.dk.cl hr (passes_call (takes_of rfl rfl rfl rfl) (fun _ _ _ _ h => h)) (se_var 2)) sa_nil))) (se_ix id_ix (se_var 3) (se_var 9))) (sw_or1 (st_cmp (od_ne hr) (se_cmp (od_eqK ((ok_Desk___eq__ h).mono (k := 8) (by decide)) hr (passes_call (takes_of rfl rfl rfl rfl) (fun _ _ _ _ h => h))) (se_var 10) (se_var 2)) (se_cmp (od_eq hr) (se_var 9) se_int)))))) (wb_one (ws_up (ss_ret [] se_bl))) wb_nil)
    (wb_cons (ws_if (wt_rd (st_cmp (od_eqK ((ok_Desk___eq__ h).mono (k := 8) (by decide)) hr (passes_call (takes_of rfl rfl rfl rfl) (fun _ _ _ _ h => h))) (se_var 2) (se_ix id_ix (se_var 3) (se_var 9)))) (wb_one (ws_up (ss_ret [] se_bl))) wb_nil)
    (wb_cons (ws_if (wt_cmp (od_ne hr) (we_callX ((ok_law_ends h).mono (k := 8) (by decide)) hr (passes_call (takes_of rfl rfl rfl rfl) (fun _ _ _ _ h => h)) (wda_cons (wi_a (wx_copy 2 ((ok_Desk_copy h).mono (k := 8) (by decide)) h.dk.cl hr (passes_call (takes_of rfl rfl rfl rfl) (fun _ _ _ _ h => h)))) (wda_cons (wi_v (we_up se_int)) wda_nil))) (we_up (se_l (sl_revM (se_slice (se_var 3) so_none (so_some (se_op od_add (se_var 9) se_int))))))) (wb_one (ws_up (ss_ret [] se_bl))) wb_nil)
    (wb_cons (ws_own 6 (sl_meth0 ((ok_Desk_bids_L h).mono (k := 8) (by decide)) h.dk.cl hr (passes_call (takes_of rfl rfl rfl rfl) (fun _ _ _ _ h => h)) (se_var 2)) hN)
    (wb_cons (ws_up (ss_app 6 [] (se_tup (sa_cons se_str (sa_cons se_int sa_nil)))))
    (wb_cons (ws_if (wt_fz [6] (st_cmp (od_eq hr) (se_meth0 ((ok_Desk_bids h).mono (k := 8) (by decide)) h.dk.cl hr (passes_call (takes_of rfl rfl rfl rfl) (fun _ _ _ _ h => h)) (se_var 2)) (se_var 6))) (wb_one (ws_up (ss_ret [] se_bl))) wb_nil)
    (wb_cons (ws_setS 7 (wi_a (wx_new ((ok_Desk___init__ h).mono (k := 7) (by decide)) hr (passes_call (takes_of rfl rfl rfl rfl) (fun _ _ _ _ h => h)) (se_var 1))) hN)
    (wb_cons (ws_for (passes_of rfl) rfl (si_val (se_ix id_ix (se_ix id_ix (se_var 3) (se_var 9)) se_int)) (sg_tup rfl (sgs_cons (sg_name 11 hN) (sgs_cons (sg_name 12 hN) sgs_nil))) (wb_one (ws_expr (we_meth 7 ((ok_Desk_bid h).mono (k := 8) (by decide)) h.dk.cl hr (passes_call (takes_of rfl rfl rfl rfl) (fun _ _ _ _ h => h)) (sda_d (se_var 11) (sda_d (se_var 12) sda_nil))))))
    (wb_cons (ws_if (wt_rd (st_w (sw_or (st_cmp (od_ne hr) (se_lenD ((ok_Desk___len__ h).mono (k := 7) (by decide)) hr (passes_call (takes_of rfl rfl rfl rfl) (fun _ _ _ _ h => h)) (se_var 7) h.z_len) (se_lenD ((ok_Desk___len__ h).mono (k := 7) (by decide)) hr (passes_call (takes_of rfl rfl rfl rfl) (fun _ _ _ _ h => h)) (se_var 2) h.z_len)) (sw_or1 (st_cmp (od_ne hr) (se_cmp (od_eqK ((ok_Desk___eq__ h).mono (k := 8) (by decide)) hr (passes_call (takes_of rfl rfl rfl rfl) (fun _ _ _ _ h => h))) (se_var 7) (se_var 2)) (se_cmp od_le (se_var 9) (se_bi cd_len h.z_len (sa_cons (se_ix id_ix (se_ix id_ix (se_var 3) (se_neg se_int)) se_int) sa_nil)))))))) (wb_one (ws_up (ss_ret [] se_bl))) wb_nil)
    (wb_cons (ws_up (ss_set 8 [] (se_tup (sa_cons (se_tup (sa_cons (se_tup (sa_cons se_int (sa_cons se_int sa_nil))) sa_nil)) (sa_cons se_int (sa_cons se_int sa_nil)))) hN))
    (wb_cons (ws_par2 13 14 rfl hN (wi_a (wx_new ((ok_Desk___init__ h).mono (k := 7) (by decide)) hr (passes_call (takes_of rfl rfl rfl rfl) (fun _ _ _ _ h => h)) (se_var 8))) (wi_a (wx_new ((ok_Desk___init__ h).mono (k := 7) (by decide)) hr (passes_call (takes_of rfl rfl rfl rfl) (fun _ _ _ _ h => h)) (se_var 8))))
    (wb_cons (ws_expr (we_meth 13 ((ok_Desk_lower h).mono (k := 8) (by decide)) h.dk.cl hr (passes_call (takes_of rfl rfl rfl rfl) (fun _ _ _ _ h => h)) (sda_d se_int sda_nil)))
    (wb_one (ws_ret (we_rd (se_and (se_cmp od_is (se_cmp (od_eqK ((ok_Desk___eq__ h).mono (k := 8) (by decide)) hr (passes_call (takes_of rfl rfl rfl rfl) (fun _ _ _ _ h => h))) (se_var 13) (se_var 14)) se_bl) (se_and (se_cmp (od_eq hr) (se_lenD ((ok_Desk___len__ h).mono (k := 7) (by decide)) hr (passes_call (takes_of rfl rfl rfl rfl) (fun _ _ _ _ h => h)) (se_var 13) h.z_len) se_int) (se_one (se_cmp (od_eqK ((ok_Desk___eq__ h).mono (k := 8) (by decide)) hr (passes_call (takes_of rfl rfl rfl rfl) (fun _ _ _ _ h => h))) (se_var 14) (se_makeD ((ok_Desk___init__ h).mono (k := 7) (by decide)) hr (passes_call (takes_of rfl rfl rfl rfl) (fun _ _ _ _ h => h)) (se_var 8)))))))))))))))))))))))))))
theorem ok_law {P : Program} {w : World} {K : PySem.W.Frag} {mg : Str → Option Value} {base : Heap} (h : Fx K mg) {f : Addr} {fd : FuncData} (F : FnP K "law" s_law f fd) : FnOk P w K mg base (L2.CX P w) 10 f fd ["_law_script"] (spN K mg 12 wl1_k66 (mDef m_check_sale 1) wla_k66 wli_k66 3 [4, 5] wlr_k66) := by
  have hN := sc_law.nd
  refine fnN_mk F sc_law (by decide) rfl (fun cdv A outer s H E hr => ?_) (fun cdv A outer s H E hr => ?_)
  · unfold wl1_k66
    exact (ss_par2 1 2 [] rfl hN (sp_v (se_call ((ok_law_sale h).mono (k := 9) (by decide)) hr (passes_call (takes_of rfl rfl rfl rfl) (fun _ _ _ _ h => h)) (sa_cons (se_var 0) (sa_cons se_int sa_nil))) (sp_v (se_call ((ok_law_bids h).mono (k := 9) (by decide)) hr (passes_call (takes_of rfl rfl rfl rfl) (fun _ _ _ _ h => h)) (sa_cons (se_var 0) (sa_cons se_int (sa_cons se_int sa_nil)))) sp_nil)))
  · unfold wla_k66 wli_k66 wlr_k66
    exact wb_newpar3 3 4 5 ((ok_Desk___init__ h).mono (k := 8) (by decide)) hr (passes_call (takes_of rfl rfl rfl rfl) (fun _ _ _ _ h => h)) (se_var 1) rfl hN (sp_o (sl_lst (sa_cons (se_tup (sa_cons (se_l (sl_lst sa_nil)) (sa_cons (se_tup (sa_cons se_str (sa_cons se_int (sa_cons se_int sa_nil)))) sa_nil))) sa_nil)) (sp_v (se_call ((ok_refused h).mono (k := 9) (by decide)) hr (passes_call (takes_of rfl rfl rfl rfl) (fun _ _ _ _ h => h)) (sa_cons (se_var 1) (sa_cons (se_var 2) sa_nil))) sp_nil)) rfl (wb_cons (ws_for (passes_of rfl) rfl (si_enum h.z_enumerate (sa_cons (se_var 2) sa_nil)) (sg_tup rfl (sgs_cons (sg_name 6 hN) (sgs_cons (sg_name 7 hN) sgs_nil))) (wb_cons (ws_par2 10 11 rfl hN (wi_v (we_meth 3 ((ok_Desk_bid h).mono (k := 9) (by decide)) h.dk.cl hr (passes_call (takes_of rfl rfl rfl rfl) (fun _ _ _ _ h => h)) (sda_d (se_ix id_ix (se_var 7) se_int) (sda_d (se_ix id_ix (se_var 7) se_int) sda_nil)))) (wi_v (we_up (se_ix id_ix (se_ixo 4 (se_neg se_int)) se_int))))
    (wb_cons (ws_app 4 (se_tup (sa_cons (se_meth0 ((ok_Desk_bids h).mono (k := 9) (by decide)) h.dk.cl hr (passes_call (takes_of rfl rfl rfl rfl) (fun _ _ _ _ h => h)) (se_var 3)) (sa_cons (se_meth0 ((ok_Desk_result h).mono (k := 9) (by decide)) h.dk.cl hr (passes_call (takes_of rfl rfl rfl rfl) (fun _ _ _ _ h => h)) (se_var 3)) sa_nil))))
    (wb_cons (ws_up (ss_set 8 [] (se_ix id_ix (se_ixo 4 (se_neg se_int)) se_int) hN))
    (wb_cons (ws_if (wt_rd (st_w (sw_or (st_cmp (od_ne hr) (se_meth0 ((ok_Desk_bids h).mono (k := 9) (by decide)) h.dk.cl hr (passes_call (takes_of rfl rfl rfl rfl) (fun _ _ _ _ h => h)) (se_var 3)) (se_slice (se_var 2) so_none (so_some (se_op od_add (se_var 6) se_int)))) (sw_or1 (st_cmp (od_ne hr) (se_var 8) (se_ix id_ix (se_call ((ok_states h).mono (k := 9) (by decide)) hr (passes_call (takes_of rfl rfl rfl rfl) (fun _ _ _ _ h => h)) (sa_cons (se_var 1) (sa_cons (se_var 2) sa_nil))) (se_var 6))))))) (wb_one (ws_up (ss_ret [] se_bl))) wb_nil)
    (wb_cons (ws_up (ss_if [] (st_cmp (od_ne hr) (se_cmp (od_eq hr) (se_var 10) se_str) (se_cmp (od_in hr) (se_var 6) (se_var 5))) (sb_one (ss_ret [] se_bl)) sb_nil))
    (wb_cons (ws_up (ss_if [] (st_cmp (od_ne hr) (se_cmp (od_eq hr) (se_var 10) se_str) (se_cmp (od_ne hr) (se_ix id_ix (se_var 8) se_int) (se_ix id_ix (se_var 11) se_int))) (sb_one (ss_ret [] se_bl)) sb_nil))
    (wb_cons (ws_up (ss_if [] (st_cmp (od_ne hr) (se_cmp (od_eq hr) (se_var 10) se_str) (se_and (se_cmp (od_eq hr) (se_ix id_ix (se_var 8) se_int) (se_ix id_ix (se_var 11) se_int)) (se_one (se_cmp od_gt (se_ix id_ix (se_var 8) se_int) (se_ix id_ix (se_var 11) se_int))))) (sb_one (ss_ret [] se_bl)) sb_nil))
    (wb_cons (ws_up (ss_if [] (st_cmp (od_notinTu hr) (se_var 10) (se_tup (sa_cons se_str (sa_cons se_str (sa_cons se_str (sa_cons se_str sa_nil)))))) (sb_one (ss_ret [] se_bl)) sb_nil))
    (wb_one (ws_up (ss_if [] (st_w (sw_and (st_cmp (od_eq hr) (se_var 10) se_str) (sw_and1 (st_cmp (od_ne hr) (se_var 8) (se_var 11))))) (sb_one (ss_ret [] se_bl)) sb_nil))))))))))))
    (wb_cons (ws_if (wt_up (st_cmp od_gt (se_ix id_ix (se_var 1) se_int) (se_ix id_ix (se_var 1) se_int))) (wb_cons (ws_up (ss_set 9 [] (se_tup (sa_cons (se_ix id_ix (se_var 1) se_int) (sa_cons (se_ix id_ix (se_var 1) se_int) (sa_cons (se_op od_add (se_ix id_ix (se_var 1) se_int) (se_call ((ok_law_drawn h).mono (k := 9) (by decide)) hr (passes_call (takes_of rfl rfl rfl rfl) (fun _ _ _ _ h => h)) (sa_cons (se_var 0) (sa_cons se_int (sa_cons (se_op od_sub (se_ix id_ix (se_var 1) se_int) (se_ix id_ix (se_var 1) se_int)) sa_nil))))) sa_nil)))) hN))
    (wb_cons (ws_if (wt_cmp (od_ne hr) (we_meth 3 ((ok_Desk_lower h).mono (k := 9) (by decide)) h.dk.cl hr (passes_call (takes_of rfl rfl rfl rfl) (fun _ _ _ _ h => h)) (sda_d (se_ix id_ix (se_var 9) se_int) sda_nil)) (we_up (se_call ((ok_result h).mono (k := 9) (by decide)) hr (passes_call (takes_of rfl rfl rfl rfl) (fun _ _ _ _ h => h)) (sa_cons (se_var 9) (sa_cons (se_var 2) sa_nil))))) (wb_one (ws_up (ss_ret [] se_bl))) wb_nil)
    (wb_cons (ws_if (wt_rd (st_w (sw_or (st_cmp (od_ne hr) (se_meth0 ((ok_Desk_result h).mono (k := 9) (by decide)) h.dk.cl hr (passes_call (takes_of rfl rfl rfl rfl) (fun _ _ _ _ h => h)) (se_var 3)) (se_call ((ok_result h).mono (k := 9) (by decide)) hr (passes_call (takes_of rfl rfl rfl rfl) (fun _ _ _ _ h => h)) (sa_cons (se_var 9) (sa_cons (se_var 2) sa_nil)))) (sw_or1 (st_cmp (od_ne hr) (se_meth0 ((ok_Desk_bids h).mono (k := 9) (by decide)) h.dk.cl hr (passes_call (takes_of rfl rfl rfl rfl) (fun _ _ _ _ h => h)) (se_var 3)) (se_var 2)))))) (wb_one (ws_up (ss_ret [] se_bl))) wb_nil)
    (wb_one (ws_app 4 (se_tup (sa_cons (se_var 2) (sa_cons (se_meth0 ((ok_Desk_result h).mono (k := 9) (by decide)) h.dk.cl hr (passes_call (takes_of rfl rfl rfl rfl) (fun _ _ _ _ h => h)) (se_var 3)) sa_nil)))))))) wb_nil)
    (wb_one (ws_fzS [4] (ws_ret (we_call ((ok_law_back h).mono (k := 9) (by decide)) hr (passes_call (takes_of rfl rfl rfl rfl) (fun _ _ _ _ h => h)) (sda_d (se_var 0) (sda_d (se_var 1) (sda_a 3 (sda_d (se_var 4) sda_nil))))))))))
def d_is_int : He.DefD := ⟨("is_int", none), "is_int", "is_int", defArgs s_is_int, defBody s_is_int, defScope s_is_int, [], []⟩
def d_is_bidder : He.DefD := ⟨("is_bidder", none), "is_bidder", "is_bidder", defArgs s_is_bidder, defBody s_is_bidder, defScope s_is_bidder, [], []⟩
def d_step_up : He.DefD := ⟨("step_up", none), "step_up", "step_up", defArgs s_step_up, defBody s_step_up, defScope s_step_up, [], []⟩
def d_with_reserve : He.DefD := ⟨("with_reserve", none), "with_reserve", "with_reserve", defArgs s_with_reserve, defBody s_with_reserve, defScope s_with_reserve, [], []⟩
def d_Desk___len__ : He.DefD := ⟨("Desk", some "__len__"), "__len__", "Desk.__len__", defArgs s_Desk___len__, defBody s_Desk___len__, defScope s_Desk___len__, [], []⟩
def d_Desk___eq__ : He.DefD := ⟨("Desk", some "__eq__"), "__eq__", "Desk.__eq__", defArgs s_Desk___eq__, defBody s_Desk___eq__, defScope s_Desk___eq__, [], []⟩
def d_Desk_bids : He.DefD := ⟨("Desk", some "bids"), "bids", "Desk.bids", defArgs s_Desk_bids, defBody s_Desk_bids, defScope s_Desk_bids, [], []⟩
def d_Desk_change : He.DefD := ⟨("Desk", some "change"), "change", "Desk.change", defArgs s_Desk_change, defBody s_Desk_change, defScope s_Desk_change, [], []⟩
def d_Desk_undo : He.DefD := ⟨("Desk", some "undo"), "undo", "Desk.undo", defArgs s_Desk_undo, defBody s_Desk_undo, defScope s_Desk_undo, [], []⟩
def d_Desk_redo : He.DefD := ⟨("Desk", some "redo"), "redo", "Desk.redo", defArgs s_Desk_redo, defBody s_Desk_redo, defScope s_Desk_redo, [], []⟩
def d_law_drawn : He.DefD := ⟨("_law_drawn", none), "_law_drawn", "_law_drawn", defArgs s_law_drawn, defBody s_law_drawn, defScope s_law_drawn, [], []⟩
def d_is_step : He.DefD := ⟨("is_step", none), "is_step", "is_step", defArgs s_is_step, defBody s_is_step, defScope s_is_step, [], []⟩
def d_is_bid : He.DefD := ⟨("is_bid", none), "is_bid", "is_bid", defArgs s_is_bid, defBody s_is_bid, defScope s_is_bid, [], []⟩
def d_is_refused : He.DefD := ⟨("is_refused", none), "is_refused", "is_refused", defArgs s_is_refused, defBody s_is_refused, defScope s_is_refused, [], []⟩
def d_law_sale : He.DefD := ⟨("_law_sale", none), "_law_sale", "_law_sale", defArgs s_law_sale, defBody s_law_sale, defScope s_law_sale, [], []⟩
def d_law_bids : He.DefD := ⟨("_law_bids", none), "_law_bids", "_law_bids", defArgs s_law_bids, defBody s_law_bids, defScope s_law_bids, [], []⟩
def d_are_steps : He.DefD := ⟨("are_steps", none), "are_steps", "are_steps", defArgs s_are_steps, defBody s_are_steps, defScope s_are_steps, [], []⟩
def d_are_bids : He.DefD := ⟨("are_bids", none), "are_bids", "are_bids", defArgs s_are_bids, defBody s_are_bids, defScope s_are_bids, [], []⟩
def d_advance : He.DefD := ⟨("advance", none), "advance", "advance", defArgs s_advance, defBody s_advance, defScope s_advance, [], []⟩
def d_is_sale : He.DefD := ⟨("is_sale", none), "is_sale", "is_sale", defArgs s_is_sale, defBody s_is_sale, defScope s_is_sale, [], []⟩
def d_find_states : He.DefD := ⟨("find_states", none), "find_states", "find_states", defArgs s_find_states, defBody s_find_states, defScope s_find_states, [], []⟩
def d_check_sale : He.DefD := ⟨("check_sale", none), "check_sale", "check_sale", defArgs s_check_sale, defBody s_check_sale, defScope s_check_sale, [], []⟩
def d_find_result : He.DefD := ⟨("find_result", none), "find_result", "find_result", defArgs s_find_result, defBody s_find_result, defScope s_find_result, [], []⟩
def d_find_refused : He.DefD := ⟨("find_refused", none), "find_refused", "find_refused", defArgs s_find_refused, defBody s_find_refused, defScope s_find_refused, [], []⟩
def d_check_bids : He.DefD := ⟨("check_bids", none), "check_bids", "check_bids", defArgs s_check_bids, defBody s_check_bids, defScope s_check_bids, [], []⟩
def d_Desk___init__ : He.DefD := ⟨("Desk", some "__init__"), "__init__", "Desk.__init__", defArgs s_Desk___init__, defBody s_Desk___init__, defScope s_Desk___init__, [], []⟩
def d_Desk_result : He.DefD := ⟨("Desk", some "result"), "result", "Desk.result", defArgs s_Desk_result, defBody s_Desk_result, defScope s_Desk_result, [], []⟩
def d_result : He.DefD := ⟨("result", none), "result", "result", defArgs s_result, defBody s_result, defScope s_result, [], []⟩
def d_states : He.DefD := ⟨("states", none), "states", "states", defArgs s_states, defBody s_states, defScope s_states, [], []⟩
def d_refused : He.DefD := ⟨("refused", none), "refused", "refused", defArgs s_refused, defBody s_refused, defScope s_refused, [], []⟩
def d_Desk_bid : He.DefD := ⟨("Desk", some "bid"), "bid", "Desk.bid", defArgs s_Desk_bid, defBody s_Desk_bid, defScope s_Desk_bid, [], []⟩
def d_Desk_lower : He.DefD := ⟨("Desk", some "lower"), "lower", "Desk.lower", defArgs s_Desk_lower, defBody s_Desk_lower, defScope s_Desk_lower, [], []⟩
def d_law_ends : He.DefD := ⟨("_law_ends", none), "_law_ends", "_law_ends", defArgs s_law_ends, defBody s_law_ends, defScope s_law_ends, [], []⟩
def d_Desk_copy : He.DefD := ⟨("Desk", some "copy"), "copy", "Desk.copy", defArgs s_Desk_copy, defBody s_Desk_copy, defScope s_Desk_copy, [], []⟩
def d_law_back : He.DefD := ⟨("_law_back", none), "_law_back", "_law_back", defArgs s_law_back, defBody s_law_back, defScope s_law_back, [], []⟩
def d_law : He.DefD := ⟨("law", none), "law", "law", defArgs s_law, defBody s_law, defScope s_law, [], []⟩
def fns : List He.DefD := [d_is_int, d_is_bidder, d_step_up, d_with_reserve, d_Desk___len__, d_Desk___eq__, d_Desk_bids, d_Desk_change, d_Desk_undo, d_Desk_redo, d_law_drawn, d_is_step, d_is_bid, d_is_refused, d_law_sale, d_law_bids, d_are_steps, d_are_bids, d_advance, d_is_sale, d_find_states, d_check_sale, d_find_result, d_find_refused, d_check_bids, d_Desk___init__, d_Desk_result, d_result, d_states, d_refused, d_Desk_bid, d_Desk_lower, d_law_ends, d_Desk_copy, d_law_back, d_law]
def fas : List He.Fa := [.free "all", .free "bool", .free "enumerate", .free "int", .free "isinstance", .free "len", .free "list", .free "max", .free "min", .free "range", .free "str", .free "tuple", .free "zip", .glo "InvalidBid", .exc "InvalidBid", .glo "InvalidBids", .exc "InvalidBids", .glo "InvalidPrice", .exc "InvalidPrice", .glo "InvalidSale", .exc "InvalidSale", .glo "NothingToUndo", .exc "NothingToUndo", .glo "TooLarge", .exc "TooLarge", .str "KEPT" "kept", .str "LEADS" "leads", .str "LETTERS" "abcdef", .int "MAX_AMOUNT" 200, .int "MAX_BIDS" 8, .int "MAX_START" 100, .int "MAX_STEP" 50, .int "MAX_STEPS" 4, .glo "NOBODY", .str "RAISED" "raised", .str "REFUSED" "refused", .glo "BidError", .cls "Desk", .noat "Desk" "present", .noat "Desk" "done", .noat "Desk" "undone", .glo "Desk", .glo "is_int", .glo "is_bidder", .glo "step_up", .glo "with_reserve", .meth "Desk" "__len__", .meth "Desk" "__eq__", .meth "Desk" "bids", .meth "Desk" "change", .meth "Desk" "undo", .meth "Desk" "redo", .glo "_law_drawn", .glo "is_step", .glo "is_bid", .glo "is_refused", .glo "_law_sale", .glo "_law_bids", .glo "are_steps", .glo "are_bids", .glo "advance", .glo "is_sale", .glo "find_states", .glo "check_sale", .glo "find_result", .glo "find_refused", .glo "check_bids", .mkr "Desk", .meth "Desk" "result", .glo "result", .glo "states", .glo "refused", .meth "Desk" "bid", .meth "Desk" "lower", .glo "_law_ends", .meth "Desk" "copy", .glo "_law_back", .glo "law"]
def exs (K : PySem.W.Frag) : Bool := He.tupB K "NOBODY" [.str "", .int 0, .int 0] && exsB K (PySem.Str.ofString "BidError") [(PySem.Str.ofString "NothingToUndo")] && dskB K
theorem ex_part0 {K : PySem.W.Frag} (h : exs K = true) : He.tupB K "NOBODY" [.str "", .int 0, .int 0] = true := by
  unfold exs at h
  simp only [Bool.and_eq_true] at h
  simp only [h]
theorem ex_part1 {K : PySem.W.Frag} (h : exs K = true) : exsB K (PySem.Str.ofString "BidError") [(PySem.Str.ofString "NothingToUndo")] = true := by
  unfold exs at h
  simp only [Bool.and_eq_true] at h
  simp only [h]
theorem ex_part2 {K : PySem.W.Frag} (h : exs K = true) : dskB K = true := by
  unfold exs at h
  simp only [Bool.and_eq_true] at h
  simp only [h]
abbrev RR : PySem.W.OpenRow := PySem.W.OpenLaw.row PySem.Challenge.rw_proxybids_k66_whole_desk
abbrev hk : PySem.W.Hook := He.hookX 5 fas fns [] [] exs
def ob (s : PySem.W.SharedT) : He.AlX := He.obsX 5 fas fns [] [] exs (HandSHeadRun.getT s)
theorem ob_eq (s : PySem.W.SharedT) : ob s = hk.obs s.abs := He.obsX_eq (HandSHeadRun.getT_eq s)
def loose : List PySem.Str := (["BidError", "InvalidSale", "InvalidPrice", "InvalidBids", "InvalidBid", "TooLarge", "NothingToUndo", "MAX_STEPS", "MAX_AMOUNT", "MAX_STEP", "MAX_START", "MAX_BIDS", "LETTERS", "is_int", "is_step", "are_steps", "is_sale", "is_bidder", "is_bid", "are_bids", "check_sale", "check_bids", "step_up", "NOBODY", "with_reserve", "is_refused", "advance", "find_states", "find_result", "result"] : List PySem.Str) ++ (["states", "find_refused", "refused", "REFUSED", "LEADS", "RAISED", "KEPT", "Desk", "_law_drawn", "_law_sale", "_law_bids", "_law_ends", "_law_back"] : List PySem.Str)
theorem run_eq (w : World) : HandSHeadRun.RunEq RR (PySem.W.view RR.prog [48]) hk ob 100000 loose w := by
  intro os
  kernel_rfl
theorem fx_of {w : World} {K : PySem.W.Frag} {h : Heap} {mg : Str → Option Value} (X : K.In h) (G : h.Ns mainGlobals mg) (c : He.SaysX fas fns [] [] exs w h K) : Fx K mg :=
  { z_all := He.free_ok X G (c.t.d.fact 0 (f := .free "all") rfl)
    z_bool := He.free_ok X G (c.t.d.fact 1 (f := .free "bool") rfl)
    z_enumerate := He.free_ok X G (c.t.d.fact 2 (f := .free "enumerate") rfl)
    z_int := He.free_ok X G (c.t.d.fact 3 (f := .free "int") rfl)
    z_isinstance := He.free_ok X G (c.t.d.fact 4 (f := .free "isinstance") rfl)
    z_len := He.free_ok X G (c.t.d.fact 5 (f := .free "len") rfl)
    z_list := He.free_ok X G (c.t.d.fact 6 (f := .free "list") rfl)
    z_max := He.free_ok X G (c.t.d.fact 7 (f := .free "max") rfl)
    z_min := He.free_ok X G (c.t.d.fact 8 (f := .free "min") rfl)
    z_range := He.free_ok X G (c.t.d.fact 9 (f := .free "range") rfl)
    z_str := He.free_ok X G (c.t.d.fact 10 (f := .free "str") rfl)
    z_tuple := He.free_ok X G (c.t.d.fact 11 (f := .free "tuple") rfl)
    z_zip := He.free_ok X G (c.t.d.fact 12 (f := .free "zip") rfl)
    e_InvalidBid := ⟨_, He.glo_ok X G (c.t.d.fact 13 (f := .glo "InvalidBid") rfl), He.exc_ok (c.t.d.fact 14 (f := .exc "InvalidBid") rfl)⟩
    e_InvalidBids := ⟨_, He.glo_ok X G (c.t.d.fact 15 (f := .glo "InvalidBids") rfl), He.exc_ok (c.t.d.fact 16 (f := .exc "InvalidBids") rfl)⟩
    e_InvalidPrice := ⟨_, He.glo_ok X G (c.t.d.fact 17 (f := .glo "InvalidPrice") rfl), He.exc_ok (c.t.d.fact 18 (f := .exc "InvalidPrice") rfl)⟩
    e_InvalidSale := ⟨_, He.glo_ok X G (c.t.d.fact 19 (f := .glo "InvalidSale") rfl), He.exc_ok (c.t.d.fact 20 (f := .exc "InvalidSale") rfl)⟩
    e_NothingToUndo := ⟨_, He.glo_ok X G (c.t.d.fact 21 (f := .glo "NothingToUndo") rfl), He.exc_ok (c.t.d.fact 22 (f := .exc "NothingToUndo") rfl)⟩
    e_TooLarge := ⟨_, He.glo_ok X G (c.t.d.fact 23 (f := .glo "TooLarge") rfl), He.exc_ok (c.t.d.fact 24 (f := .exc "TooLarge") rfl)⟩
    g_KEPT := by
      obtain ⟨t, e⟩ := He.str_ok X G (c.t.d.fact 25 (f := .str "KEPT" "kept") rfl)
      exact ⟨_, .str "kept", e, ⟨_, rfl⟩, fun _ => .str _⟩
    g_LEADS := by
      obtain ⟨t, e⟩ := He.str_ok X G (c.t.d.fact 26 (f := .str "LEADS" "leads") rfl)
      exact ⟨_, .str "leads", e, ⟨_, rfl⟩, fun _ => .str _⟩
    g_LETTERS := by
      obtain ⟨t, e⟩ := He.str_ok X G (c.t.d.fact 27 (f := .str "LETTERS" "abcdef") rfl)
      exact ⟨_, .str "abcdef", e, ⟨_, rfl⟩, fun _ => .str _⟩
    g_MAX_AMOUNT := by
      obtain ⟨t, e⟩ := He.int_ok X G (c.t.d.fact 28 (f := .int "MAX_AMOUNT" 200) rfl)
      exact ⟨_, .int 200, e, ⟨_, rfl⟩, fun _ => .int _⟩
    g_MAX_BIDS := by
      obtain ⟨t, e⟩ := He.int_ok X G (c.t.d.fact 29 (f := .int "MAX_BIDS" 8) rfl)
      exact ⟨_, .int 8, e, ⟨_, rfl⟩, fun _ => .int _⟩
    g_MAX_START := by
      obtain ⟨t, e⟩ := He.int_ok X G (c.t.d.fact 30 (f := .int "MAX_START" 100) rfl)
      exact ⟨_, .int 100, e, ⟨_, rfl⟩, fun _ => .int _⟩
    g_MAX_STEP := by
      obtain ⟨t, e⟩ := He.int_ok X G (c.t.d.fact 31 (f := .int "MAX_STEP" 50) rfl)
      exact ⟨_, .int 50, e, ⟨_, rfl⟩, fun _ => .int _⟩
    g_MAX_STEPS := by
      obtain ⟨t, e⟩ := He.int_ok X G (c.t.d.fact 32 (f := .int "MAX_STEPS" 4) rfl)
      exact ⟨_, .int 4, e, ⟨_, rfl⟩, fun _ => .int _⟩
    g_NOBODY := ⟨_, .ref (He.ga K "NOBODY"), He.glo_ok X G (c.t.d.fact 33 (f := .glo "NOBODY") rfl), rfl, fun _ => .tup (He.tupB_ok (vs := [.str "", .int 0, .int 0]) (ex_part0 c.more) _) (.cons (.str _) (.cons (.int _) (.cons (.int _) .nil)))⟩
    g_RAISED := by
      obtain ⟨t, e⟩ := He.str_ok X G (c.t.d.fact 34 (f := .str "RAISED" "raised") rfl)
      exact ⟨_, .str "raised", e, ⟨_, rfl⟩, fun _ => .str _⟩
    g_REFUSED := by
      obtain ⟨t, e⟩ := He.str_ok X G (c.t.d.fact 35 (f := .str "REFUSED" "refused") rfl)
      exact ⟨_, .str "refused", e, ⟨_, rfl⟩, fun _ => .str _⟩
    x_err := exs_of (He.glo_ok X G (c.t.d.fact 36 (f := .glo "BidError") rfl)) (all_cons (He.glo_ok X G (c.t.d.fact 21 (f := .glo "NothingToUndo") rfl)) all_nil) (ex_part1 c.more)
    g_Desk := He.glo_ok X G (c.t.d.fact 41 (f := .glo "Desk") rfl)
    dk := dsk_of (He.cls_ok (c.t.d.fact 37 (f := .cls "Desk") rfl)) (He.noat_ok (c.t.d.fact 38 (f := .noat "Desk" "present") rfl)) (He.noat_ok (c.t.d.fact 39 (f := .noat "Desk" "done") rfl)) (He.noat_ok (c.t.d.fact 40 (f := .noat "Desk" "undone") rfl)) (ex_part2 c.more)
    f_is_int := by
      obtain ⟨fd, F⟩ := c.t.d.def_ 0 (d := d_is_int) rfl
      exact ⟨_, fd, F, He.glo_ok X G (c.t.d.fact 42 (f := .glo "is_int") rfl)⟩
    f_is_bidder := by
      obtain ⟨fd, F⟩ := c.t.d.def_ 1 (d := d_is_bidder) rfl
      exact ⟨_, fd, F, He.glo_ok X G (c.t.d.fact 43 (f := .glo "is_bidder") rfl)⟩
    f_step_up := by
      obtain ⟨fd, F⟩ := c.t.d.def_ 2 (d := d_step_up) rfl
      exact ⟨_, fd, F, He.glo_ok X G (c.t.d.fact 44 (f := .glo "step_up") rfl)⟩
    f_with_reserve := by
      obtain ⟨fd, F⟩ := c.t.d.def_ 3 (d := d_with_reserve) rfl
      exact ⟨_, fd, F, He.glo_ok X G (c.t.d.fact 45 (f := .glo "with_reserve") rfl)⟩
    f_Desk___len__ := by
      obtain ⟨fd, F⟩ := c.t.d.def_ 4 (d := d_Desk___len__) rfl
      exact ⟨_, fd, F, He.meth_ok (c.t.d.fact 46 (f := .meth "Desk" "__len__") rfl)⟩
    f_Desk___eq__ := by
      obtain ⟨fd, F⟩ := c.t.d.def_ 5 (d := d_Desk___eq__) rfl
      exact ⟨_, fd, F, He.meth_ok (c.t.d.fact 47 (f := .meth "Desk" "__eq__") rfl)⟩
    f_Desk_bids := by
      obtain ⟨fd, F⟩ := c.t.d.def_ 6 (d := d_Desk_bids) rfl
      exact ⟨_, fd, F, He.meth_ok (c.t.d.fact 48 (f := .meth "Desk" "bids") rfl)⟩
    f_Desk_change := by
      obtain ⟨fd, F⟩ := c.t.d.def_ 7 (d := d_Desk_change) rfl
      exact ⟨_, fd, F, He.meth_ok (c.t.d.fact 49 (f := .meth "Desk" "change") rfl)⟩
    f_Desk_undo := by
      obtain ⟨fd, F⟩ := c.t.d.def_ 8 (d := d_Desk_undo) rfl
      exact ⟨_, fd, F, He.meth_ok (c.t.d.fact 50 (f := .meth "Desk" "undo") rfl)⟩
    f_Desk_redo := by
      obtain ⟨fd, F⟩ := c.t.d.def_ 9 (d := d_Desk_redo) rfl
      exact ⟨_, fd, F, He.meth_ok (c.t.d.fact 51 (f := .meth "Desk" "redo") rfl)⟩
    f_law_drawn := by
      obtain ⟨fd, F⟩ := c.t.d.def_ 10 (d := d_law_drawn) rfl
      exact ⟨_, fd, F, He.glo_ok X G (c.t.d.fact 52 (f := .glo "_law_drawn") rfl)⟩
    f_is_step := by
      obtain ⟨fd, F⟩ := c.t.d.def_ 11 (d := d_is_step) rfl
      exact ⟨_, fd, F, He.glo_ok X G (c.t.d.fact 53 (f := .glo "is_step") rfl)⟩
    f_is_bid := by
      obtain ⟨fd, F⟩ := c.t.d.def_ 12 (d := d_is_bid) rfl
      exact ⟨_, fd, F, He.glo_ok X G (c.t.d.fact 54 (f := .glo "is_bid") rfl)⟩
    f_is_refused := by
      obtain ⟨fd, F⟩ := c.t.d.def_ 13 (d := d_is_refused) rfl
      exact ⟨_, fd, F, He.glo_ok X G (c.t.d.fact 55 (f := .glo "is_refused") rfl)⟩
    f_law_sale := by
      obtain ⟨fd, F⟩ := c.t.d.def_ 14 (d := d_law_sale) rfl
      exact ⟨_, fd, F, He.glo_ok X G (c.t.d.fact 56 (f := .glo "_law_sale") rfl)⟩
    f_law_bids := by
      obtain ⟨fd, F⟩ := c.t.d.def_ 15 (d := d_law_bids) rfl
      exact ⟨_, fd, F, He.glo_ok X G (c.t.d.fact 57 (f := .glo "_law_bids") rfl)⟩
    f_are_steps := by
      obtain ⟨fd, F⟩ := c.t.d.def_ 16 (d := d_are_steps) rfl
      exact ⟨_, fd, F, He.glo_ok X G (c.t.d.fact 58 (f := .glo "are_steps") rfl)⟩
    f_are_bids := by
      obtain ⟨fd, F⟩ := c.t.d.def_ 17 (d := d_are_bids) rfl
      exact ⟨_, fd, F, He.glo_ok X G (c.t.d.fact 59 (f := .glo "are_bids") rfl)⟩
    f_advance := by
      obtain ⟨fd, F⟩ := c.t.d.def_ 18 (d := d_advance) rfl
      exact ⟨_, fd, F, He.glo_ok X G (c.t.d.fact 60 (f := .glo "advance") rfl)⟩
    f_is_sale := by
      obtain ⟨fd, F⟩ := c.t.d.def_ 19 (d := d_is_sale) rfl
      exact ⟨_, fd, F, He.glo_ok X G (c.t.d.fact 61 (f := .glo "is_sale") rfl)⟩
    f_find_states := by
      obtain ⟨fd, F⟩ := c.t.d.def_ 20 (d := d_find_states) rfl
      exact ⟨_, fd, F, He.glo_ok X G (c.t.d.fact 62 (f := .glo "find_states") rfl)⟩
    f_check_sale := by
      obtain ⟨fd, F⟩ := c.t.d.def_ 21 (d := d_check_sale) rfl
      exact ⟨_, fd, F, He.glo_ok X G (c.t.d.fact 63 (f := .glo "check_sale") rfl)⟩
    f_find_result := by
      obtain ⟨fd, F⟩ := c.t.d.def_ 22 (d := d_find_result) rfl
      exact ⟨_, fd, F, He.glo_ok X G (c.t.d.fact 64 (f := .glo "find_result") rfl)⟩
    f_find_refused := by
      obtain ⟨fd, F⟩ := c.t.d.def_ 23 (d := d_find_refused) rfl
      exact ⟨_, fd, F, He.glo_ok X G (c.t.d.fact 65 (f := .glo "find_refused") rfl)⟩
    f_check_bids := by
      obtain ⟨fd, F⟩ := c.t.d.def_ 24 (d := d_check_bids) rfl
      exact ⟨_, fd, F, He.glo_ok X G (c.t.d.fact 66 (f := .glo "check_bids") rfl)⟩
    f_Desk___init__ := by
      obtain ⟨fd, F⟩ := c.t.d.def_ 25 (d := d_Desk___init__) rfl
      exact ⟨_, fd, F, He.mkr_ok (c.t.d.fact 67 (f := .mkr "Desk") rfl), He.glo_ok X G (c.t.d.fact 41 (f := .glo "Desk") rfl)⟩
    f_Desk_result := by
      obtain ⟨fd, F⟩ := c.t.d.def_ 26 (d := d_Desk_result) rfl
      exact ⟨_, fd, F, He.meth_ok (c.t.d.fact 68 (f := .meth "Desk" "result") rfl)⟩
    f_result := by
      obtain ⟨fd, F⟩ := c.t.d.def_ 27 (d := d_result) rfl
      exact ⟨_, fd, F, He.glo_ok X G (c.t.d.fact 69 (f := .glo "result") rfl)⟩
    f_states := by
      obtain ⟨fd, F⟩ := c.t.d.def_ 28 (d := d_states) rfl
      exact ⟨_, fd, F, He.glo_ok X G (c.t.d.fact 70 (f := .glo "states") rfl)⟩
    f_refused := by
      obtain ⟨fd, F⟩ := c.t.d.def_ 29 (d := d_refused) rfl
      exact ⟨_, fd, F, He.glo_ok X G (c.t.d.fact 71 (f := .glo "refused") rfl)⟩
    f_Desk_bid := by
      obtain ⟨fd, F⟩ := c.t.d.def_ 30 (d := d_Desk_bid) rfl
      exact ⟨_, fd, F, He.meth_ok (c.t.d.fact 72 (f := .meth "Desk" "bid") rfl)⟩
    f_Desk_lower := by
      obtain ⟨fd, F⟩ := c.t.d.def_ 31 (d := d_Desk_lower) rfl
      exact ⟨_, fd, F, He.meth_ok (c.t.d.fact 73 (f := .meth "Desk" "lower") rfl)⟩
    f_law_ends := by
      obtain ⟨fd, F⟩ := c.t.d.def_ 32 (d := d_law_ends) rfl
      exact ⟨_, fd, F, He.glo_ok X G (c.t.d.fact 74 (f := .glo "_law_ends") rfl)⟩
    f_Desk_copy := by
      obtain ⟨fd, F⟩ := c.t.d.def_ 33 (d := d_Desk_copy) rfl
      exact ⟨_, fd, F, He.meth_ok (c.t.d.fact 75 (f := .meth "Desk" "copy") rfl)⟩
    f_law_back := by
      obtain ⟨fd, F⟩ := c.t.d.def_ 34 (d := d_law_back) rfl
      exact ⟨_, fd, F, He.glo_ok X G (c.t.d.fact 76 (f := .glo "_law_back") rfl)⟩
    f_law := by
      obtain ⟨fd, F⟩ := c.t.d.def_ 35 (d := d_law) rfl
      exact ⟨_, fd, F, He.glo_ok X G (c.t.d.fact 77 (f := .glo "law") rfl)⟩ }
end PD

open PySem PySem.W PySem.Calls PyProof.Rows
theorem PySem.Challenge.cw_proxybids_k66_whole_desk_holds : PySem.Challenge.rw_proxybids_k66_whole_desk.Holds := by
  w_on; o_law
  refine HandSHeadRun.head_any (r := OpenLaw.row PySem.Challenge.rw_proxybids_k66_whole_desk) (q := view (OpenLaw.row PySem.Challenge.rw_proxybids_k66_whole_desk).prog [48]) (H := PD.hk) (ob := PD.ob) (M := 100000) (loose := PD.loose) (d := HandSHeadRun.topDef (OpenLaw.row PySem.Challenge.rw_proxybids_k66_whole_desk).prog 48) (kwd := []) PD.ob_eq
    (by kernel_rfl) (fun s => by kernel_rfl) PD.run_eq (by kernel_rfl) (by kernel_rfl) (by kernel_rfl) (by rfl) (by first | assumption | decide +kernel) (by decide +kernel) ⟨rfl, rfl, rfl, rfl, rfl, by decide +kernel⟩ ?hw ?hc
  case hw => w_witness2
  case hc =>
    refine L2.walk_ofE (l := PySem.Challenge.rw_proxybids_k66_whole_desk) (n := 63) (k := 10) (x := "_law_script") (CX := PD.CXA (PySem.Challenge.rw_proxybids_k66_whole_desk).prog) rfl (by decide) (by kernel_rfl) ⟨rfl, by decide, by decide⟩ ?F PD.cxa_no
    intro w mg fa h Y G hmg0
    obtain ⟨K, KX, c⟩ := Y
    have hmg : mg ("law" : PySem.Str) = some (.ref fa) := by
      have e : (HandSHeadRun.topDef (OpenLaw.row PySem.Challenge.rw_proxybids_k66_whole_desk).prog 48).name = ("law" : PySem.Str) := by kernel_rfl
      rw [← e]
      exact hmg0
    have hx := PD.fx_of (w := w) KX G c
    obtain ⟨f2, fd, F, hg⟩ := hx.f_law
    rw [hmg] at hg
    cases hg
    exact ⟨K, fd, _, KX, fun s v => L2.FunD.bindsA (ps := ["_law_script"]) F (fun _ _ _ _ _ _ us hl => match us, hl with | [_], _ => rfl) s [v] rfl,
      fun H a ns hl _ hS => PD.sp_lawN H a ns hS (PD.law_true ns hl), fun base _ _ => PD.fn_a (PD.ok_law (P := (PySem.Challenge.rw_proxybids_k66_whole_desk).prog) (w := w) (base := base) hx F)⟩
