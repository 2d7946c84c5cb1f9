import PyProof.Rows.All
import Wide.All
import OpenK.AllK
import Wide.FinOn
import KE.KStateDown
import Lean
import HandS.ForMost
import HandS.Exc
import HandS.TryOnly
import HandS.ExcOwn
import HandS.WordsExc
import HandS.Deep
import HandS.Style
import HandS.TupAny
import HandS.Wide
import HandS.IsInst
import HandS.HeadHook1
import HandS.Conv
import HandS.RaiseMore
import HandS.Zip
import HandS.SortInts
import HandS.Defaults
import HandS.HeadEnd
import HandS.ExcIs
import HandS.Head0
import HandS.Head1
import HandS.Head2
import HandS.HeadHook2
import HandS.HeadHook3
import HandS.HeadHook4
import HandS.SetFor
import HandS.Strs
import HandS.Text
import HandS.More
import PyProof.CollectStr
import KE.DataMinMax
import KE.SortData
import HandS.Dict
import HandS.Iter
import HandS.SetTxt0
import HandS.Set
import HandS.TupSets
import HandS.Lambda
import HandS.HotCalls
import KE.DataFind
import HandS.NestedK
import KE.Datum
import HandS.HeadWalk
import HandS.EndTab
import PySem.Challenge.RW_proxybids_k26_errors
set_option Elab.async false
set_option linter.all false
set_option maxRecDepth 100000
set_option maxHeartbeats 4000000
/-! A data layer over the hand layer: mirrors as pure functions over PyData, one soundness rule a construct. -/
namespace PD
open PySem PySem.Spec PyProof.Rows L2

/-! ### results -/
/-- what a piece comes to: a value, an exception of a class of the text (by name), or not told -/
inductive R (α : Type) where
  | ok (a : α)
  | ex (c : Str)
  | no
def R.bind {α β : Type} : R α → (α → R β) → R β
  | .ok a, f => f a
  | .ex c, _ => .ex c
  | .no, _ => .no
@[simp] theorem R.bind_ok {α β : Type} (a : α) (f : α → R β) : (R.ok a).bind f = f a := rfl
@[simp] theorem R.bind_ex {α β : Type} (c : Str) (f : α → R β) : (R.ex c : R α).bind f = .ex c := rfl
@[simp] theorem R.bind_no {α β : Type} (f : α → R β) : (R.no : R α).bind f = .no := rfl

/-- a slot: nothing known, a value that is shared, a list of the slot's own (it may be changed) -/
inductive Sl where
  | no
  | v (d : PyData)
  | own (ds : List PyData)
  | ad (a : Addr)
abbrev Gam := List Sl
abbrev M := Gam → R PyData
def gat : Gam → Nat → Sl
  | [], _ => .no
  | s :: _, 0 => s
  | _ :: r, n + 1 => gat r n
@[simp] theorem gat_nil (n : Nat) : gat [] n = .no := rfl
@[simp] theorem gat_zero (s : Sl) (r : Gam) : gat (s :: r) 0 = s := rfl
@[simp] theorem gat_succ (s : Sl) (r : Gam) (n : Nat) : gat (s :: r) (n + 1) = gat r n := rfl
theorem gat_set : ∀ (Γ : Gam) (i j : Nat) (s : Sl), gat (Γ.set i s) j = if j = i ∧ i < Γ.length then s else gat Γ j
  | [], i, j, s => by simp
  | a :: r, 0, 0, s => by simp
  | a :: r, 0, j + 1, s => by simp
  | a :: r, i + 1, 0, s => by simp
  | a :: r, i + 1, j + 1, s => by
    simp only [List.set_cons_succ, gat_succ, gat_set r i j s, List.length_cons, Nat.add_lt_add_iff_right, Nat.add_right_cancel_iff]
theorem gat_ge : ∀ {Γ : Gam} {i : Nat}, Γ.length ≤ i → gat Γ i = .no
  | [], _, _ => rfl
  | a :: r, 0, h => by simp at h
  | a :: r, i + 1, h => gat_ge (Γ := r) (by simpa using h)
theorem gat_lt {Γ : Gam} {i : Nat} (h : gat Γ i ≠ .no) : i < Γ.length := Nat.lt_of_not_le fun z => h (gat_ge z)

/-! ### heaps: G, what is shared, within H -/
abbrev Le (G H : Hp) : Prop := ∀ a o, G a = some o → H a = some o
structure Gr (G H G' H' : Hp) : Prop where
  g : Le G G'
  h : Le H H'
  s : Le G' H'
  fr : ∀ a, H a ≠ none → G a = none → G' a = none
theorem Gr.refl {G H : Hp} (s : Le G H) : Gr G H G H := ⟨fun _ _ e => e, fun _ _ e => e, s, fun _ _ e => e⟩
theorem Gr.trans {G H G1 H1 G2 H2 : Hp} (a : Gr G H G1 H1) (b : Gr G1 H1 G2 H2) : Gr G H G2 H2 where
  g := fun x o e => b.g x o (a.g x o e)
  h := fun x o e => b.h x o (a.h x o e)
  s := b.s
  fr := fun x hx hg => b.fr x (fun z => hx (by
    cases q : H x with
    | none => rfl
    | some o => rw [a.h x o q] at z; cases z)) (a.fr x hx hg)
/-- H alone grows -/
theorem Gr.grow {G H H' : Hp} (s : Le G H) (h : Le H H') : Gr G H G H' := ⟨fun _ _ e => e, h, fun a o e => h a o (s a o e), fun _ _ e => e⟩
theorem le_upd {H : Hp} {p : Addr} {o : HO} (h : H p = none) : Le H (upd H p o) := fun a u e => by
  rw [upd_ne (ne_of_none e h)]
  exact e
theorem le_none {H H' : Hp} (l : Le H H') {p : Addr} (h : H' p = none) : H p = none := by
  cases q : H p with
  | none => rfl
  | some o => rw [l p o q] at h; cases h
theorem le_trans {G H K : Hp} (a : Le G H) (b : Le H K) : Le G K := fun x o e => b x o (a x o e)
/-- a new object that is shared at once -/
theorem Gr.new {G H : Hp} {p : Addr} {o : HO} (s : Le G H) (h : H p = none) : Gr G H (upd G p o) (upd H p o) where
  g := le_upd (le_none s h)
  h := le_upd h
  s := fun a u e => by
    by_cases q : a = p
    · subst q; rw [upd_same] at e ⊢; exact e
    · rw [upd_ne q] at e ⊢; exact s a u e
  fr := fun a ha hg => by
    have q : a ≠ p := fun z => by subst z; exact ha h
    rw [upd_ne q]; exact hg
/-- an own object of H is shared from here on -/
theorem Le.share {G H : Hp} {p : Addr} {o : HO} (s : Le G H) (h : H p = some o) : Le (upd G p o) H := fun a u e => by
  by_cases q : a = p
  · subst q; rw [upd_same] at e; rw [h]; exact e
  · rw [upd_ne q] at e; exact s a u e

theorem rd_le {G H : Hp} {a : Addr} {u : HO} (e : Le G H) (h : Rd G a u) : Rd H a u := by
  rcases h with h | ⟨o, h⟩
  · exact Or.inl (e a _ h)
  · exact Or.inr ⟨o, e a _ h⟩
/-- the class Desk, as the head tells of it -/
abbrev dkC (K : PySem.W.Frag) : Addr := He.ga K "Desk"
structure DskC (K : PySem.W.Frag) : Prop where
  cl : Cls K (dkC K)
  n1 : NoAttr K (dkC K) "present"
  n2 : NoAttr K (dkC K) "done"
  n3 : NoAttr K (dkC K) "undone"
  ha : PySem.W.findIn K (.ref (dkC K)) "__class__" = some (some (.builtin "object.__class__"))
  hn : PySem.W.specialIn K (.builtin "object.__class__") "__get__" = some (some (.builtin "getset_descriptor.__get__"))
  htk : PySem.W.takesIn K (.builtin "object.__class__") = some true
  hm : PySem.W.mroIn K (dkC K) (.type "object") = some true
  kit : ∀ n ∈ ["int", "bool", "str", "tuple", "list"], PySem.W.kitOne K (.ref (dkC K)) (.type n) = some false
  kD : PySem.W.kitOne K (.ref (dkC K)) (.ref (dkC K)) = some true
  kT : PySem.W.kitOne K (.type "tuple") (.ref (dkC K)) = some false
  ne : PySem.W.findIn K (.ref (dkC K)) "__ne__" = some (some (.builtin "object.__ne__"))
  sT : PySem.W.subIn K (.type "tuple") (.ref (dkC K)) = some false
def fsD (tp : V) (l1 l2 : Addr) : List (Str × V) := [(PySem.Str.ofString "present", tp), (PySem.Str.ofString "done", .ref l1), (PySem.Str.ofString "undone", .ref l2)]
mutual
/-- a value is the datum d: lists tracked, tuples tracked or of the written part; the law's script (a list of ints that is only read) is a dict from its ints to None -/
inductive Dq (K : PySem.W.Frag) (H : Hp) : V → PyData → Prop
  | non : Dq K H .non .none
  | bl (b : Bool) : Dq K H (.bl b) (.bool b)
  | int (i : Int) : Dq K H (.int i) (.int i)
  | str (x : Str) : Dq K H (.str x) (.str x)
  | lst {a : Addr} {xs : List V} {ds : List PyData} : H a = some (.lst xs) → DqAll K H xs ds → Dq K H (.ref a) (.list ds)
  | tup {a : Addr} {xs : List V} {ds : List PyData} : SqT K H a xs → DqAll K H xs ds → Dq K H (.ref a) (.tuple ds)
  | scr {a : Addr} {ns : List Int} : SqL K H a (ns.map V.int) → Dq K H (.ref a) (.dict (ns.map fun n => (.int n, .none)))
  | dct {a : Addr} {o : Obj} {kvs : List (Str × Int)} : H a = some (.frz o (.dK (kvs.map fun p => ((Sum.inr p.1 : Key), V.int p.2)))) → Dq K H (.ref a) (.dict ((.none, .none) :: kvs.map fun p => (.str p.1, .int p.2)))
  | dsk {a dx l1 l2 : Addr} {tp : V} {ds : List PyData} : DskC K → H a = some (.ins (dkC K) dx (fsD tp l1 l2)) → H dx = some (.own a) → DqAll K H [tp, .ref l1, .ref l2] ds → Dq K H (.ref a) (.dict [(.bool true, .list ds)])
  | dsl {a dx l1 l2 : Addr} {tp : V} {p : PyData} : DskC K → H a = some (.ins (dkC K) dx (fsD tp l1 l2)) → H dx = some (.own a) → Dq K H tp p → Dq K H (.ref a) (.dict [(.bool false, p)])
inductive DqAll (K : PySem.W.Frag) (H : Hp) : List V → List PyData → Prop
  | nil : DqAll K H [] []
  | cons {v : V} {vs : List V} {d : PyData} {ds : List PyData} : Dq K H v d → DqAll K H vs ds → DqAll K H (v :: vs) (d :: ds)
end
section
variable {K : PySem.W.Frag} {G H : Hp} {a : Addr} {xs : List V}
theorem shp {ds : List PyData} (h : SeqAt.shaped (.list ds) = true) : ∀ d ∈ ds, SeqAt.shaped d = true := by
  have h0 : PyData.canLayAll0 ds = true ∧ PyData.depthAll ds + 1 ≤ 64 := by
    unfold SeqAt.shaped at h
    simpa [PyData.canLay0, PyData.depth] using h
  obtain ⟨h1, h2⟩ := h0
  suffices hs : ∀ d ∈ ds, d.canLay0 = true ∧ d.depth ≤ 64 by
    intro d hd
    unfold SeqAt.shaped
    simp [hs d hd]
  have go : ∀ (ds : List PyData), PyData.canLayAll0 ds = true → PyData.depthAll ds ≤ 64 → ∀ d ∈ ds, d.canLay0 = true ∧ d.depth ≤ 64 := by
    intro ds
    induction ds with
    | nil => intro _ _ d h; simp at h
    | cons e es ih =>
      intro a b d hd
      simp only [PyData.canLayAll0, PyData.depthAll, Bool.and_eq_true] at a b
      rcases List.mem_cons.mp hd with rfl | hd
      · exact ⟨a.1, by omega⟩
      · exact ih a.2 (by omega) d hd
  exact go ds h1 (by omega)
theorem shp' {ds : List PyData} (h : SeqAt.shaped (.tuple ds) = true) : ∀ d ∈ ds, SeqAt.shaped d = true := shp (by
  unfold SeqAt.shaped at h ⊢
  simpa [PyData.canLay0, PyData.depth] using h)
/-- the script as a datum: its list -/
def unS : PyData → PyData
  | .dict ((.none, x) :: r) => .dict ((.none, x) :: r)
  | .dict ((.bool b, x) :: r) => .dict ((.bool b, x) :: r)
  | .dict kvs => .list (kvs.map (·.1))
  | d => d
theorem sql_le (e : Le G H) (h : SqL K G a xs) : SqL K H a xs := by
  rcases h with h | h
  · exact Or.inl (rd_le e h)
  · exact Or.inr h
theorem sqt_le (e : Le G H) (h : SqT K G a xs) : SqT K H a xs := by
  rcases h with h | h
  · exact Or.inl (rd_le e h)
  · exact Or.inr h
mutual
theorem dp_le (e : Le G H) : ∀ {d : PyData} {v : V}, Dq K G v d → Dq K H v d
  | _, _, .non => .non
  | _, _, .bl b => .bl b
  | _, _, .int i => .int i
  | _, _, .str x => .str x
  | _, _, .lst h a => .lst (e _ _ h) (dpa_le e a)
  | _, _, .tup h a => .tup (sqt_le e h) (dpa_le e a)
  | _, _, .scr h => .scr (sql_le e h)
  | _, _, .dct h => .dct (e _ _ h)
  | _, _, .dsk c h1 h2 a => .dsk c (e _ _ h1) (e _ _ h2) (dpa_le e a)
  | _, _, .dsl c h1 h2 a => .dsl c (e _ _ h1) (e _ _ h2) (dp_le e a)
theorem dpa_le (e : Le G H) : ∀ {ds : List PyData} {vs : List V}, DqAll K G vs ds → DqAll K H vs ds
  | _, _, .nil => .nil
  | _, _, .cons h1 h2 => .cons (dp_le e h1) (dpa_le e h2)
end
theorem sq1 (l : Le G H) (h : G a = some (.lst xs)) : SqL K H a xs := .inl (.inl (l _ _ h))
mutual
theorem dq_dp0 : ∀ {d : PyData} {v : V}, Dq K G v d → SeqAt.shaped d = true → Dp K G v d
  | .none, _, h, _ => by cases h; exact .non
  | .bool b, _, h, _ => by cases h; exact .bl b
  | .int i, _, h, _ => by cases h; exact .int i
  | .str x, _, h, _ => by cases h; exact .str x
  | .list ds, _, h, s => by
    cases h with
    | lst hs ha => exact .lst (.inl (.inl hs)) (dqa_dpa ha (shp s))
  | .tuple ds, _, h, s => by
    cases h with
    | tup hs ha => exact .tup hs (dqa_dpa ha (shp' s))
  | .dict _, _, h, s => by simp [SeqAt.shaped, PyData.canLay0] at s
theorem dqa_dpa : ∀ {ds : List PyData} {vs : List V}, DqAll K G vs ds → (∀ d ∈ ds, SeqAt.shaped d = true) → DpAll K G vs ds
  | [], _, h, _ => by cases h; exact .nil
  | d :: ds, _, h, s => by
    cases h with
    | cons h1 h2 => exact .cons (dq_dp0 h1 (s d (by simp))) (dqa_dpa h2 fun x hx => s x (by simp [hx]))
end
theorem dqs_dp (ns : List Int) : DpAll K G (ns.map V.int) (ns.map PyData.int) := by
  induction ns with
  | nil => exact .nil
  | cons n ns ih => exact .cons (.int n) ih
theorem dq_dp {d : PyData} {v : V} (h : Dq K G v d) (s : SeqAt.shaped (unS d) = true) : Dp K G v (unS d) := by
  cases h with
  | scr hs =>
    rename_i a ns
    have e : unS (.dict (ns.map fun n => (PyData.int n, PyData.none))) = .list (ns.map PyData.int) := by cases ns <;> simp [unS, List.map_map, Function.comp_def]
    rw [e]
    exact .lst hs (dqs_dp ns)
  | dct hs => simp [unS, SeqAt.shaped, PyData.canLay0] at s
  | dsk _ _ _ _ => simp [unS, SeqAt.shaped, PyData.canLay0] at s
  | dsl _ _ _ _ => simp [unS, SeqAt.shaped, PyData.canLay0] at s
  | non => exact .non
  | bl b => exact .bl b
  | int i => exact .int i
  | str x => exact .str x
  | lst h1 a1 => exact dq_dp0 (.lst h1 a1) s
  | tup h1 a1 => exact dq_dp0 (.tup h1 a1) s
theorem dpa_len : ∀ {vs : List V} {ds : List PyData}, DqAll K G vs ds → vs.length = ds.length
  | [], _, h => by cases h; rfl
  | v :: vs, _, h => by
    cases h with
    | cons h1 h2 => simp [dpa_len h2]
theorem dpa_get : ∀ {vs : List V} {ds : List PyData} {i : Nat} {d : PyData}, DqAll K G vs ds → ds[i]? = some d → ∃ v, vs[i]? = some v ∧ Dq K G v d
  | [], _, i, d, h, e => by cases h; simp at e
  | v :: vs, _, 0, d, h, e => by
    cases h with
    | cons h1 h2 => simp at e; subst e; exact ⟨v, rfl, h1⟩
  | v :: vs, _, i + 1, d, h, e => by
    cases h with
    | cons h1 h2 =>
      obtain ⟨x, q, r⟩ := dpa_get h2 (i := i) (by simpa using e)
      exact ⟨x, by simpa using q, r⟩
theorem dpa_get' {vs : List V} {ds : List PyData} {i : Nat} {v : V} (h : DqAll K G vs ds) (e : vs[i]? = some v) : ∃ d, ds[i]? = some d ∧ Dq K G v d := by
  have hl := dpa_len h
  have hi : i < vs.length := (List.getElem?_eq_some_iff.mp e).1
  obtain ⟨v', q, r⟩ := dpa_get h (i := i) (d := ds[i]'(by omega)) (by simp [← hl, hi])
  rw [e] at q; cases q
  exact ⟨_, by simp [← hl, hi], r⟩
theorem dpa_append : ∀ {vs ws : List V} {ds es : List PyData}, DqAll K G vs ds → DqAll K G ws es → DqAll K G (vs ++ ws) (ds ++ es)
  | [], _, _, _, h, h' => by cases h; exact h'
  | v :: vs, ws, _, es, h, h' => by
    cases h with
    | cons h1 h2 => exact .cons h1 (dpa_append h2 h')
theorem dpa_drop : ∀ {vs : List V} {ds : List PyData} (n : Nat), DqAll K G vs ds → DqAll K G (vs.drop n) (ds.drop n)
  | _, _, 0, h => h
  | [], _, n + 1, h => by cases h; exact .nil
  | v :: vs, _, n + 1, h => by
    cases h with
    | cons h1 h2 => exact dpa_drop n h2
theorem dpa_take : ∀ {vs : List V} {ds : List PyData} (n : Nat), DqAll K G vs ds → DqAll K G (vs.take n) (ds.take n)
  | _, _, 0, h => .nil
  | [], _, n + 1, h => by cases h; exact .nil
  | v :: vs, _, n + 1, h => by
    cases h with
    | cons h1 h2 => exact .cons h1 (dpa_take n h2)
theorem dpa_one {v : V} {d : PyData} (h : Dq K G v d) : DqAll K G [v] [d] := .cons h .nil
theorem dpa_rev : ∀ {vs : List V} {ds : List PyData}, DqAll K G vs ds → DqAll K G vs.reverse ds.reverse
  | [], _, h => by cases h; exact .nil
  | v :: vs, _, h => by
    cases h with
    | cons h1 h2 =>
      rw [List.reverse_cons, List.reverse_cons]
      exact dpa_append (dpa_rev h2) (dpa_one h1)
theorem dpa_rep {v : V} {d : PyData} (h : Dq K G v d) : ∀ n : Nat, DqAll K G (List.replicate n v) (List.replicate n d)
  | 0 => .nil
  | n + 1 => .cons h (dpa_rep h n)
/-- lists of ints -/
theorem dpa_ints : ∀ {vs : List V} {ns : List Int}, DqAll K G vs (ns.map PyData.int) → vs = ns.map V.int
  | _, [], h => by cases h; rfl
  | _, n :: ns, h => by
    cases h with
    | cons h1 h2 => cases h1; rw [dpa_ints h2]; rfl
theorem dpa_ofInts : ∀ (ns : List Int), DqAll K G (ns.map V.int) (ns.map PyData.int)
  | [] => .nil
  | n :: ns => .cons (.int n) (dpa_ofInts ns)
theorem dpa_strs : ∀ {vs : List V} {ns : List Str}, DqAll K G vs (ns.map PyData.str) → vs = ns.map V.str
  | _, [], h => by cases h; rfl
  | _, n :: ns, h => by
    cases h with
    | cons h1 h2 => cases h1; rw [dpa_strs h2]; rfl
theorem dpa_ofStrs : ∀ (ns : List Str), DqAll K G (ns.map V.str) (ns.map PyData.str)
  | [] => .nil
  | n :: ns => .cons (.str n) (dpa_ofStrs ns)
theorem dpa_bls : ∀ {vs : List V} {ns : List Bool}, DqAll K G vs (ns.map PyData.bool) → vs = ns.map V.bl
  | _, [], h => by cases h; rfl
  | _, n :: ns, h => by
    cases h with
    | cons h1 h2 => cases h1; rw [dpa_bls h2]; rfl
theorem dpa_ofBls : ∀ (ns : List Bool), DqAll K G (ns.map V.bl) (ns.map PyData.bool)
  | [] => .nil
  | n :: ns => .cons (.bl n) (dpa_ofBls ns)
end

/-! ### the state -/
structure SR (K : PySem.W.Frag) (B G H : Hp) (σ : L2.St) (Γ : Gam) : Prop where
  sub : Le G H
  len : σ.length = Γ.length
  val : ∀ i d, gat Γ i = .v d → ∃ x, σ[i]? = some (some x) ∧ Dq K G x d
  own : ∀ i ds, gat Γ i = .own ds → ∃ p xs, σ[i]? = some (some (.ref p)) ∧ H p = some (.lst xs) ∧ G p = none ∧ DqAll K G xs ds
  inj : ∀ i j ds es p, gat Γ i = .own ds → gat Γ j = .own es → σ[i]? = some (some (.ref p)) → σ[j]? = some (some (.ref p)) → i = j
  nw : ∀ i ds p, gat Γ i = .own ds → σ[i]? = some (some (.ref p)) → B p = none
  adr : ∀ i a, gat Γ i = .ad a → σ[i]? = some (some (.ref a))
section
variable {K : PySem.W.Frag} {B G H G' H' : Hp} {σ : L2.St} {Γ : Gam}
theorem SR.gr (s : SR K B G H σ Γ) (g : Gr G H G' H') : SR K B G' H' σ Γ where
  sub := g.s
  len := s.len
  val := fun i d e => let ⟨x, a, b⟩ := s.val i d e; ⟨x, a, dp_le g.g b⟩
  own := fun i ds e => let ⟨p, xs, a, b, c, d⟩ := s.own i ds e; ⟨p, xs, a, g.h _ _ b, g.fr p (by rw [b]; simp) c, dpa_le g.g d⟩
  inj := s.inj
  nw := s.nw
  adr := s.adr
/-- a value is stored -/
theorem SR.setV (s : SR K B G H σ Γ) {i : Nat} {x : V} {d : PyData} (h : Dq K G x d) : SR K B G H (σ.set i (some x)) (Γ.set i (.v d)) where
  sub := s.sub
  len := by simp [s.len]
  val := fun j e q => by
    rw [gat_set] at q
    split at q
    · rename_i z
      obtain ⟨z1, z2⟩ := z
      subst z1
      cases q
      exact ⟨x, by rw [List.getElem?_set_self (by rw [s.len]; exact z2)], h⟩
    · rename_i z
      obtain ⟨y, a, b⟩ := s.val j e q
      refine ⟨y, ?_, b⟩
      have hj := gat_lt (Γ := Γ) (i := j) (by rw [q]; simp)
      by_cases ji : j = i
      · subst ji; exact absurd ⟨rfl, hj⟩ z
      · rw [List.getElem?_set_ne (Ne.symm ji)]; exact a
  own := fun j ds q => by
    rw [gat_set] at q
    split at q
    · cases q
    · rename_i z
      obtain ⟨p, xs, a, b⟩ := s.own j ds q
      refine ⟨p, xs, ?_, b⟩
      have hj := gat_lt (Γ := Γ) (i := j) (by rw [q]; simp)
      by_cases ji : j = i
      · subst ji; exact absurd ⟨rfl, hj⟩ z
      · rw [List.getElem?_set_ne (Ne.symm ji)]; exact a
  inj := fun j l ds es p q1 q2 a1 a2 => by
    rw [gat_set] at q1 q2
    split at q1
    · cases q1
    split at q2
    · cases q2
    rename_i z1 z2
    have hj := gat_lt (Γ := Γ) (i := j) (by rw [q1]; simp)
    have hl := gat_lt (Γ := Γ) (i := l) (by rw [q2]; simp)
    have ji : j ≠ i := fun e => by subst e; exact z1 ⟨rfl, hj⟩
    have li : l ≠ i := fun e => by subst e; exact z2 ⟨rfl, hl⟩
    rw [List.getElem?_set_ne (Ne.symm ji)] at a1
    rw [List.getElem?_set_ne (Ne.symm li)] at a2
    exact s.inj j l ds es p q1 q2 a1 a2
  nw := fun j ds p q1 a1 => by
    rw [gat_set] at q1
    split at q1
    · cases q1
    rename_i z1
    have hj := gat_lt (Γ := Γ) (i := j) (by rw [q1]; simp)
    have ji : j ≠ i := fun e => by subst e; exact z1 ⟨rfl, hj⟩
    rw [List.getElem?_set_ne (Ne.symm ji)] at a1
    exact s.nw j ds p q1 a1
  adr := fun j u q => by
    rw [gat_set] at q
    split at q
    · cases q
    · rename_i z
      have hj := gat_lt (Γ := Γ) (i := j) (by rw [q]; simp)
      have ji : j ≠ i := fun e => by subst e; exact z ⟨rfl, hj⟩
      rw [List.getElem?_set_ne (Ne.symm ji)]
      exact s.adr j u q
/-- a list that is new, or whose slot is this one, is stored as the slot's own -/
theorem SR.setO (s : SR K B G H σ Γ) {i : Nat} {p : Addr} {xs : List V} {ds : List PyData} (hp : H p = some (.lst xs)) (hg : G p = none) (hb : B p = none) (h : DqAll K G xs ds)
    (ne : ∀ j es, j ≠ i → gat Γ j = .own es → σ[j]? ≠ some (some (.ref p))) : SR K B G H (σ.set i (some (.ref p))) (Γ.set i (.own ds)) where
  sub := s.sub
  len := by simp [s.len]
  val := fun j e q => by
    rw [gat_set] at q
    split at q
    · cases q
    · rename_i z
      obtain ⟨y, a, b⟩ := s.val j e q
      refine ⟨y, ?_, b⟩
      have hj := gat_lt (Γ := Γ) (i := j) (by rw [q]; simp)
      by_cases ji : j = i
      · subst ji; exact absurd ⟨rfl, hj⟩ z
      · rw [List.getElem?_set_ne (Ne.symm ji)]; exact a
  own := fun j es q => by
    rw [gat_set] at q
    split at q
    · rename_i z
      obtain ⟨z1, z2⟩ := z
      subst z1
      cases q
      exact ⟨p, xs, by rw [List.getElem?_set_self (by rw [s.len]; exact z2)], hp, hg, h⟩
    · rename_i z
      obtain ⟨p', xs', a, b⟩ := s.own j es q
      refine ⟨p', xs', ?_, b⟩
      have hj := gat_lt (Γ := Γ) (i := j) (by rw [q]; simp)
      by_cases ji : j = i
      · subst ji; exact absurd ⟨rfl, hj⟩ z
      · rw [List.getElem?_set_ne (Ne.symm ji)]; exact a
  inj := fun j l es fs q q1 q2 a1 a2 => by
    rw [gat_set] at q1 q2
    by_cases ji : j = i
    · by_cases li : l = i
      · rw [ji, li]
      · rw [if_neg (fun z => li z.1)] at q2
        rw [List.getElem?_set_ne (Ne.symm li)] at a2
        by_cases hi : i < Γ.length
        · subst ji
          rw [List.getElem?_set_self (by rw [s.len]; exact hi)] at a1
          cases a1
          exact absurd a2 (ne l fs li q2)
        · subst ji
          rw [if_neg (fun z => hi z.2)] at q1
          exact absurd (gat_lt (Γ := Γ) (i := j) (by rw [q1]; simp)) hi
    · rw [if_neg (fun z => ji z.1)] at q1
      rw [List.getElem?_set_ne (Ne.symm ji)] at a1
      by_cases li : l = i
      · by_cases hi : i < Γ.length
        · subst li
          rw [List.getElem?_set_self (by rw [s.len]; exact hi)] at a2
          cases a2
          exact absurd a1 (ne j es ji q1)
        · subst li
          rw [if_neg (fun z => hi z.2)] at q2
          exact absurd (gat_lt (Γ := Γ) (i := l) (by rw [q2]; simp)) hi
      · rw [if_neg (fun z => li z.1)] at q2
        rw [List.getElem?_set_ne (Ne.symm li)] at a2
        exact s.inj j l es fs q q1 q2 a1 a2
  nw := fun j es q q1 a1 => by
    rw [gat_set] at q1
    by_cases ji : j = i
    · by_cases hi : i < Γ.length
      · subst ji
        rw [List.getElem?_set_self (by rw [s.len]; exact hi)] at a1
        cases a1
        exact hb
      · subst ji
        rw [if_neg (fun z => hi z.2)] at q1
        exact absurd (gat_lt (Γ := Γ) (i := j) (by rw [q1]; simp)) hi
    · rw [if_neg (fun z => ji z.1)] at q1
      rw [List.getElem?_set_ne (Ne.symm ji)] at a1
      exact s.nw j es q q1 a1
  adr := fun j u q => by
    rw [gat_set] at q
    split at q
    · cases q
    · rename_i z
      have hj := gat_lt (Γ := Γ) (i := j) (by rw [q]; simp)
      have ji : j ≠ i := fun e => by subst e; exact z ⟨rfl, hj⟩
      rw [List.getElem?_set_ne (Ne.symm ji)]
      exact s.adr j u q
/-- an own list is shared from here on -/
def fz1 (i : Nat) (Γ : Gam) : Gam := match gat Γ i with
  | .own ds => Γ.set i (.v (.list ds))
  | _ => Γ
theorem SR.fz1 (s : SR K B G H σ Γ) (i : Nat) : ∃ G', Le G G' ∧ SR K B G' H σ (PD.fz1 i Γ) ∧ ∀ a, G' a ≠ none → G a ≠ none ∨ ∃ ds, gat Γ i = .own ds ∧ σ[i]? = some (some (.ref a)) := by
  unfold PD.fz1
  split
  · rename_i ds q
    obtain ⟨p, xs, a, b, c, d⟩ := s.own i ds q
    have hi := gat_lt (Γ := Γ) (i := i) (by rw [q]; simp)
    have lg : Le G (upd G p (.lst xs)) := le_upd c
    refine ⟨upd G p (.lst xs), lg, ⟨s.sub.share b, by simp [s.len], fun j e z => ?_, fun j es z => ?_, fun j l es fs u z1 z2 => ?_, fun j es u z1 a1 => ?_, fun j u z => ?_⟩, fun u hu => ?_⟩
    · rw [gat_set] at z
      split at z
      · rename_i z0
        obtain ⟨z1, z2⟩ := z0
        subst z1
        cases z
        exact ⟨_, a, .lst upd_same (dpa_le lg d)⟩
      · obtain ⟨y, a', b'⟩ := s.val j e z
        exact ⟨y, a', dp_le lg b'⟩
    · rw [gat_set] at z
      split at z
      · cases z
      · rename_i z0
        obtain ⟨p', xs', a', b', c', d'⟩ := s.own j es z
        refine ⟨p', xs', a', b', ?_, dpa_le lg d'⟩
        have ne : p' ≠ p := fun e => by
          subst e
          exact z0 ⟨s.inj j i es ds p' z q a' a, hi⟩
        rw [upd_ne ne]; exact c'
    · rw [gat_set] at z1 z2
      split at z1
      · cases z1
      split at z2
      · cases z2
      exact s.inj j l es fs u z1 z2
    · rw [gat_set] at z1
      split at z1
      · cases z1
      exact s.nw j es u z1 a1
    · rw [gat_set] at z
      split at z
      · cases z
      exact s.adr j u z
    · by_cases e : u = p
      · subst e; exact .inr ⟨ds, q, a⟩
      · rw [upd_ne e] at hu; exact .inl hu
  · exact ⟨G, fun _ _ e => e, s, fun _ h => .inl h⟩
def fz : List Nat → Gam → Gam
  | [], Γ => Γ
  | i :: r, Γ => fz r (PD.fz1 i Γ)
theorem SR.fzs : ∀ (l : List Nat) {G : Hp} {Γ : Gam}, SR K B G H σ Γ → Gr G H G H → ∃ G', Le G G' ∧ SR K B G' H σ (fz l Γ) ∧ ∀ a, B a ≠ none → G a = none → G' a = none
  | [], G, Γ, s, _ => ⟨G, fun _ _ e => e, s, fun _ _ e => e⟩
  | i :: r, G, Γ, s, g => by
    obtain ⟨G1, l1, s1, f1⟩ := s.fz1 i
    obtain ⟨G2, l2, s2, f2⟩ := SR.fzs r s1 (Gr.refl s1.sub)
    refine ⟨G2, le_trans l1 l2, s2, fun a ha hg => f2 a ha ?_⟩
    cases q : G1 a with
    | none => rfl
    | some o =>
      rcases f1 a (by rw [q]; simp) with z | ⟨ds, z1, z2⟩
      · exact absurd hg z
      · exact absurd (s.nw i ds a z1 z2) ha
@[simp] theorem fz_nil (Γ : Gam) : fz [] Γ = Γ := rfl
@[simp] theorem fz_cons (i : Nat) (r : List Nat) (Γ : Gam) : fz (i :: r) Γ = fz r (PD.fz1 i Γ) := rfl
end
end PD

/-! The data layer: expressions. -/
namespace PD
open PySem PySem.Spec PyProof.Rows L2

/-- the class that a name stands for -/
def cV (mg : Str → Option Value) (c : Str) : Value := (mg c).getD .none
section
variable {α β γ : Type}
/-- what is wanted behind a piece: of its value (Rl: how it lies), of an exception -/
def Po (Rl : Hp → α → β → Prop) (mg : Str → Option Value) (E : XK) (G H : Hp) (Q : α → Hp → Prop) : R β → Prop
  | .ok d => ∀ x G' H', Gr G H G' H' → Rl G' x d → Q x H'
  | .ex c => ∀ H', Le H H' → E (cV mg c) none H'
  | .no => False
def tX (K : PySem.W.Frag) (Rl : Hp → α → β → Prop) (mg : Str → Option Value) (E : XK) (m : Gam → R β) : L2.St → Hp → (α → Hp → Prop) → Prop :=
  fun σ H Q => ∃ B Γ G, SR K B G H σ Γ ∧ Po Rl mg E G H Q (m Γ)
variable {Rl : Hp → α → β → Prop} {Rk : Hp → γ → δ → Prop} {mg : Str → Option Value} {E : XK} {G H G' H' : Hp}
theorem Po.gr {Q : α → Hp → Prop} {r : R β} (h : Po Rl mg E G H Q r) (g : Gr G H G' H') : Po Rl mg E G' H' Q r := by
  cases r with
  | ok d => exact fun x G2 H2 g2 r => h x G2 H2 (g.trans g2) r
  | ex c => exact fun H2 l => h H2 (le_trans g.h l)
  | no => exact h
theorem Po.bind {δ : Type} {Rk : Hp → γ → δ → Prop} {Q : γ → Hp → Prop} {Q' : α → Hp → Prop} {r : R β} {f : β → R δ} (h : Po Rk mg E G H Q (r.bind f))
    (k : ∀ d x G' H', r = .ok d → Gr G H G' H' → Rl G' x d → Po Rk mg E G' H' Q (f d) → Q' x H') : Po Rl mg E G H Q' r := by
  cases r with
  | ok d => exact fun x G' H' g dx => k d x G' H' rfl g dx (Po.gr (r := f d) h g)
  | ex c => exact h
  | no => exact h
theorem Po.ok {Q : α → Hp → Prop} {d : β} {x : α} (h : Po Rl mg E G H Q (.ok d)) (s : Le G H) (r : Rl G x d) : Q x H := h x G H (Gr.refl s) r
end
/-- a value, a list of values, a truth value, an int of a slice -/
abbrev DT (K : PySem.W.Frag) (mg : Str → Option Value) (E : XK) (m : M) : TE := tX K (Dq K) mg E m
abbrev RB : Hp → Bool → Bool → Prop := fun _ b c => b = c
abbrev SE (X : Cx) (E : XK) (e : Expr) (m : M) : Prop := PE X e (tX X.K (Dq X.K) X.mg E m)
abbrev ST (X : Cx) (E : XK) (e : Expr) (m : Gam → R Bool) : Prop := PT X e (tX X.K RB X.mg E m)
structure SA (X : Cx) (E : XK) (es : List Expr) (m : Gam → R (List PyData)) : Prop where
  pa : PA X es (tX X.K (DqAll X.K) X.mg E m)
  ln : ∀ Γ ds, m Γ = .ok ds → ds.length = es.length

theorem pe_of {X : Cx} {e : Expr} {t t' : TE} (h : PE X e t) (i : ∀ σ H Q, t' σ H Q → t σ H Q) : PE X e t' := ⟨fun pins s σ H Q I q => h.run pins s σ H Q I (i σ H Q q)⟩
theorem pt_of {X : Cx} {e : Expr} {t t' : TT} (h : PT X e t) (i : ∀ σ H Q, t' σ H Q → t σ H Q) : PT X e t' := ⟨fun pins s σ H Q I q => h.run pins s σ H Q I (i σ H Q q)⟩
theorem pa_of {X : Cx} {e : List Expr} {t t' : TA} (h : PA X e t) (i : ∀ σ H Q, t' σ H Q → t σ H Q) : PA X e t' := ⟨fun pos pins s σ H Q I q => h.run pos pins s σ H Q I (i σ H Q q)⟩
/-- sizes, as the machine keeps them -/
def Siz (K : PySem.W.Frag) (H : Hp) : Prop := ∀ a xs, (SqL K H a xs ∨ SqT K H a xs) → xs.length ≤ sizeLine
theorem siz_of {X : Cx} {pins σ H s} (I : Inv X pins σ H s) : Siz X.K H := fun a xs h => by
  rcases h with h | h
  · obtain ⟨_, _, _, z⟩ := I.list h; exact z
  · obtain ⟨_, _, _, z⟩ := I.tuple h; exact z

section
variable {X : Cx} {E : XK} {a b e : Expr} {es : List Expr} {ma mb : M} {pos : Pos}

/-! ### names, constants -/
def mC (d : PyData) : M := fun _ => .ok d
def mVar (i : Nat) : M := fun Γ => match gat Γ i with
  | .v d => .ok d
  | _ => .no
theorem se_var (i : Nat) {x : Str} (hN : X.N[i]? = some x := by rfl) (hv : Vis X.env.scope x := by first | exact Or.inl rfl | exact Or.inr (Or.inl rfl) | exact Or.inr (Or.inr rfl)) (hd : (x == ("__debug__" : Str)) = false := by decide)
    (hcd : (x == ("__classdict__" : Str)) = false := by decide) : SE X E (.Name x pos) (mVar i) := pe_of (pe_var hN hv hd hcd) fun σ H Q ⟨B0, Γ, G, sr, po⟩ => by
  unfold mVar at po
  split at po
  · rename_i d q
    obtain ⟨x, hx, dx⟩ := sr.val i d q
    exact ⟨x, hx, po.ok sr.sub dx⟩
  · exact po.elim
theorem se_c {d : PyData} {v : V} (h : PE X e (tC v)) (hd : ∀ G, Dq X.K G v d) : SE X E e (mC d) := pe_of h fun σ H Q ⟨B0, Γ, G, sr, po⟩ => Po.ok (d := d) po sr.sub (hd G)
theorem se_int {i j} : SE X E (.Constant (.int i) j pos) (mC (.int i)) := se_c pe_int fun G => .int i
theorem se_bl {b j} : SE X E (.Constant (.bool b) j pos) (mC (.bool b)) := se_c pe_bl fun G => .bl b
theorem se_non {j} : SE X E (.Constant .none j pos) (mC .none) := se_c pe_non fun G => .non
theorem se_str {x j} : SE X E (.Constant (.str x) j pos) (mC (.str x)) := se_c pe_str fun G => .str x
/-- a constant of the module's -/
structure Glo (K : PySem.W.Frag) (mg : Str → Option Value) (x : Str) (d : PyData) : Prop where
  ex : ∃ u v, mg x = some u ∧ RelV v u ∧ ∀ G, Dq K G v d
theorem se_glob {x : Str} {d : PyData} (h : Glo X.K X.mg x d) (hg : Gl X x := by exact rfl) (hd : (x == ("__debug__" : Str)) = false := by decide) : SE X E (.Name x pos) (mC d) := by
  obtain ⟨u, v, hm, r, q⟩ := h.ex
  exact se_c (pe_glob hg hm r hd) q

/-! ### operators -/
def mOp (g : PyData → PyData → R PyData) (ma mb : M) : M := fun Γ => (ma Γ).bind fun x => (mb Γ).bind fun y => g x y
def rD (K : PySem.W.Frag) (mg : Str → Option Value) (E : XK) (g : PyData → PyData → R PyData) : R2 := fun x y H Q => ∃ G d e, Le G H ∧ Dq K G x d ∧ Dq K G y e ∧ Po (Dq K) mg E G H Q (g d e)
abbrev OD (X : Cx) (E : XK) (f : Value → Value → Sem Value) (g : PyData → PyData → R PyData) : Prop := OpR X f (rD X.K X.mg E g)
theorem od_of {f : Value → Value → Sem Value} {g : PyData → PyData → R PyData} {r : R2} (h : OpR X f r)
    (i : ∀ G H x y d e Q, Siz X.K H → Le G H → Dq X.K G x d → Dq X.K G y e → Po (Dq X.K) X.mg E G H Q (g d e) → r x y H Q) : OD X E f g := by
  intro pins s σ H x y v u Q I rx ry q
  obtain ⟨G, d, e, l, dx, dy, po⟩ := q
  exact h pins s σ H x y v u Q I rx ry (i G H x y d e Q (siz_of I) l dx dy po)
theorem tOp_of {r : R2} {g : PyData → PyData → R PyData} {σ H Q} (hr : r = rD X.K X.mg E g) (h : DT X.K X.mg E (mOp g ma mb) σ H Q) : tOp r (DT X.K X.mg E ma) (DT X.K X.mg E mb) σ H Q := by
  subst hr
  obtain ⟨B0, Γ, G, sr, po⟩ := h
  exact ⟨B0, Γ, G, sr, Po.bind po fun d x G1 H1 _ g1 dx po1 => ⟨B0, Γ, G1, sr.gr g1, Po.bind po1 fun e y G2 H2 _ g2 dy po2 => ⟨G2, d, e, g2.s, dp_le g2.g dx, dy, po2⟩⟩⟩
theorem se_op {op : Operator} {g : PyData → PyData → R PyData} (ho : OD X E (binaryOp op) g) (ha : SE X E a ma) (hb : SE X E b mb) : SE X E (.BinOp a op b pos) (mOp g ma mb) :=
  pe_of (pe_op ho ha hb) fun σ H Q h => tOp_of rfl h
theorem se_cmp {op : CmpOp} {g : PyData → PyData → R PyData} (ho : OD X E (compareOp op) g) (ha : SE X E a ma) (hb : SE X E b mb) (hm : behindInMarks op b = false := by first | exact nomark _ | rfl) : SE X E (.Compare a [op] [b] pos) (mOp g ma mb) :=
  pe_of (pe_cmpR ho ha hb hm) fun σ H Q h => tOp_of rfl h
/-- a value that is a bool -/
def asB : PyData → R Bool
  | .bool b => .ok b
  | _ => .no
@[simp] theorem asB_bool (b : Bool) : asB (.bool b) = .ok b := rfl
def mB (m : M) : Gam → R Bool := fun Γ => (m Γ).bind asB
theorem tTest_of {m : M} {σ H Q} (h : tX X.K RB X.mg E (mB m) σ H Q) : DT X.K X.mg E m σ H fun x H1 => ∃ k, x = .bl k ∧ Q k H1 := by
  obtain ⟨B0, Γ, G, sr, po⟩ := h
  refine ⟨B0, Γ, G, sr, Po.bind po fun d x G1 H1 _ g1 dx po1 => ?_⟩
  cases dx with
  | bl b => exact ⟨b, rfl, po1.ok g1.s rfl⟩
  | _ => exact po1.elim
theorem st_cmp {op : CmpOp} {g : PyData → PyData → R PyData} (ho : OD X E (compareOp op) g) (ha : SE X E a ma) (hb : SE X E b mb) (hm : behindInMarks op b = false := by first | exact nomark _ | rfl) : ST X E (.Compare a [op] [b] pos) (mB (mOp g ma mb)) :=
  pt_of (pt_cmpR ho ha hb hm) fun σ H Q h => by
    have h1 := tTest_of (m := mOp g ma mb) h
    exact tOp_of rfl h1
theorem st_val {m : M} (h : SE X E e m) (he : ∀ whole, isTrue e X.env whole = (do let v ← whole; standAt e.pos; holding [v] (truthy v)) := by intro _; rfl) : ST X E e (mB m) :=
  pt_of (pt_val h he) fun σ H Q h => tTest_of h
/-! and, or, not, as tests -/
def mAnd (a b : Gam → R Bool) : Gam → R Bool := fun Γ => (a Γ).bind fun c => if c = true then b Γ else .ok false
def mOr (a b : Gam → R Bool) : Gam → R Bool := fun Γ => (a Γ).bind fun c => if c = true then .ok true else b Γ
def mNot (a : Gam → R Bool) : Gam → R Bool := fun Γ => (a Γ).bind fun c => .ok (!c)
abbrev SW (X : Cx) (E : XK) (e : Expr) (m : Gam → R Bool) : Prop := PW X e (tX X.K RB X.mg E m)
theorem pw_of {X : Cx} {e : Expr} {t t' : TT} (h : PW X e t) (i : ∀ σ H Q, t' σ H Q → t σ H Q) : PW X e t' := ⟨fun wh pins s σ H Q I q => h.run wh pins s σ H Q I (i σ H Q q)⟩
variable {ta tb : Gam → R Bool} {rest : List Expr}
theorem sw_and1 (ha : ST X E a ta) : SW X E (.BoolOp .And [a] pos) ta := pw_and1 ha
theorem sw_or1 (ha : ST X E a ta) : SW X E (.BoolOp .Or [a] pos) ta := pw_or1 ha
theorem sw_and (ha : ST X E a ta) (hb : SW X E (.BoolOp .And (b :: rest) pos) tb) : SW X E (.BoolOp .And (a :: b :: rest) pos) (mAnd ta tb) :=
  pw_of (pw_and ha hb) fun σ H Q ⟨B0, Γ, G, sr, po⟩ => ⟨B0, Γ, G, sr, Po.bind po fun c x G1 H1 _ g1 dx po1 => by
    cases dx
    cases c with
    | true => exact ⟨B0, Γ, G1, sr.gr g1, po1⟩
    | false => exact po1.ok g1.s rfl⟩
theorem sw_or (ha : ST X E a ta) (hb : SW X E (.BoolOp .Or (b :: rest) pos) tb) : SW X E (.BoolOp .Or (a :: b :: rest) pos) (mOr ta tb) :=
  pw_of (pw_or ha hb) fun σ H Q ⟨B0, Γ, G, sr, po⟩ => ⟨B0, Γ, G, sr, Po.bind po fun c x G1 H1 _ g1 dx po1 => by
    cases dx
    cases c with
    | false => exact ⟨B0, Γ, G1, sr.gr g1, po1⟩
    | true => exact po1.ok g1.s rfl⟩
theorem st_w {m : Gam → R Bool} (h : SW X E e m) : ST X E e m := h.pt
theorem st_not (ha : ST X E a ta) : ST X E (.UnaryOp .Not a pos) (mNot ta) :=
  pt_of (pt_not ha) fun σ H Q ⟨B0, Γ, G, sr, po⟩ => ⟨B0, Γ, G, sr, Po.bind po fun c x G1 H1 _ g1 dx po1 => by
    cases dx
    exact po1.ok g1.s rfl⟩
/-! .. as values -/
def mAndV (a b : M) : M := fun Γ => (a Γ).bind fun d => (asB d).bind fun c => if c = true then b Γ else .ok (.bool false)
def mOrV (a b : M) : M := fun Γ => (a Γ).bind fun d => (asB d).bind fun c => if c = true then .ok (.bool true) else b Γ
def mNotV (a : M) : M := fun Γ => (a Γ).bind fun d => (asB d).bind fun c => .ok (.bool (!c))
theorem se_one {op : BoolOp} (h : SE X E a ma) : SE X E (.BoolOp op [a] pos) ma := pe_one h
theorem se_and (ha : SE X E a ma) (hb : SE X E (.BoolOp .And (b :: rest) pos) mb) : SE X E (.BoolOp .And (a :: b :: rest) pos) (mAndV ma mb) :=
  pe_of (pe_and ha hb) fun σ H Q ⟨B0, Γ, G, sr, po⟩ => ⟨B0, Γ, G, sr, Po.bind po fun d x G1 H1 _ g1 dx po1 => by
    cases dx with
    | bl c =>
      refine ⟨c, rfl, ?_⟩
      cases c with
      | true => exact ⟨B0, Γ, G1, sr.gr g1, po1⟩
      | false => exact Po.ok (d := PyData.bool false) po1 g1.s (.bl _)
    | _ => exact po1.elim⟩
theorem se_or (ha : SE X E a ma) (hb : SE X E (.BoolOp .Or (b :: rest) pos) mb) : SE X E (.BoolOp .Or (a :: b :: rest) pos) (mOrV ma mb) :=
  pe_of (pe_or ha hb) fun σ H Q ⟨B0, Γ, G, sr, po⟩ => ⟨B0, Γ, G, sr, Po.bind po fun d x G1 H1 _ g1 dx po1 => by
    cases dx with
    | bl c =>
      refine ⟨c, rfl, ?_⟩
      cases c with
      | false => exact ⟨B0, Γ, G1, sr.gr g1, po1⟩
      | true => exact Po.ok (d := PyData.bool true) po1 g1.s (.bl _)
    | _ => exact po1.elim⟩
theorem se_not (ha : SE X E a ma) : SE X E (.UnaryOp .Not a pos) (mNotV ma) :=
  pe_of (pe_not ha) fun σ H Q ⟨B0, Γ, G, sr, po⟩ => ⟨B0, Γ, G, sr, Po.bind po fun d x G1 H1 _ g1 dx po1 => by
    cases dx with
    | bl c => exact ⟨c, rfl, Po.ok (d := PyData.bool (!c)) po1 g1.s (.bl _)⟩
    | _ => exact po1.elim⟩
/-- a if t else b -/
def mIf (t : Gam → R Bool) (a b : M) : M := fun Γ => (t Γ).bind fun c => if c = true then a Γ else b Γ
theorem se_if {c : Expr} (hc : ST X E c ta) (ha : SE X E a ma) (hb : SE X E b mb) : SE X E (.IfExp c a b pos) (mIf ta ma mb) :=
  pe_of (pe_ifExp hc ha hb) fun σ H Q ⟨B0, Γ, G, sr, po⟩ => ⟨B0, Γ, G, sr, Po.bind po fun c x G1 H1 _ g1 dx po1 => by
    cases dx
    cases c with
    | true => exact ⟨B0, Γ, G1, sr.gr g1, po1⟩
    | false => exact ⟨B0, Γ, G1, sr.gr g1, po1⟩⟩
/-- a < b < c -/
def mChain (g g' : PyData → PyData → R PyData) (ma mb mc : M) : M := fun Γ => (ma Γ).bind fun x => (mb Γ).bind fun y => (g x y).bind fun k => (asB k).bind fun c => if c = true then (mc Γ).bind fun z => g' y z else .ok (.bool false)
theorem tChain_of {r r' : R2} {g g' : PyData → PyData → R PyData} {mc : M} {σ H Q} (hr : r = rD X.K X.mg E g) (hr' : r' = rD X.K X.mg E g') (h : DT X.K X.mg E (mChain g g' ma mb mc) σ H Q) : tChain r r' (DT X.K X.mg E ma) (DT X.K X.mg E mb) (DT X.K X.mg E mc) σ H Q := by
  subst hr hr'
  obtain ⟨B0, Γ, G, sr, po⟩ := h
  refine ⟨B0, Γ, G, sr, Po.bind po fun d x G1 H1 _ g1 dx po1 => ⟨B0, Γ, G1, sr.gr g1, Po.bind po1 fun e y G2 H2 _ g2 dy po2 => ⟨G2, d, e, g2.s, dp_le g2.g dx, dy, Po.bind po2 fun k z G3 H3 _ g3 dz po3 => ?_⟩⟩⟩
  cases dz with
  | bl c =>
    refine ⟨c, rfl, ?_⟩
    cases c with
    | true =>
      rw [if_pos rfl]
      exact ⟨B0, Γ, G3, ((sr.gr g1).gr g2).gr g3, Po.bind po3 fun l w G4 H4 _ g4 dw po4 => ⟨G4, e, l, g4.s, dp_le g4.g (dp_le g3.g dy), dw, po4⟩⟩
    | false =>
      rw [if_neg Bool.false_ne_true]
      exact Po.ok (d := PyData.bool false) po3 g3.s (.bl _)
  | _ => exact po3.elim
theorem se_chain {c : Expr} {mc : M} {op op' : CmpOp} {g g' : PyData → PyData → R PyData} (ho : OD X E (compareOp op) g) (ho' : OD X E (compareOp op') g') (ha : SE X E a ma) (hb : SE X E b mb) (hc : SE X E c mc) (hm : lastMarks [op, op'] [b, c] = false := by with_unfolding_all rfl) :
    SE X E (.Compare a [op, op'] [b, c] pos) (mChain g g' ma mb mc) := pe_of (pe_chain ho ho' ha hb hc (hm := hm)) fun σ H Q h => tChain_of rfl rfl h
theorem st_chain {c : Expr} {mc : M} {op op' : CmpOp} {g g' : PyData → PyData → R PyData} (ho : OD X E (compareOp op) g) (ho' : OD X E (compareOp op') g') (ha : SE X E a ma) (hb : SE X E b mb) (hc : SE X E c mc) (hm : lastMarks [op, op'] [b, c] = false := by with_unfolding_all rfl) :
    ST X E (.Compare a [op, op'] [b, c] pos) (mB (mChain g g' ma mb mc)) := pt_of (pt_chain ho ho' ha hb hc (hm := hm)) fun σ H Q h => tChain_of rfl rfl (tTest_of h)

/-! ### argument lists, displays -/
def mNil : Gam → R (List PyData) := fun _ => .ok []
def mCons (m : M) (r : Gam → R (List PyData)) : Gam → R (List PyData) := fun Γ => (m Γ).bind fun d => (r Γ).bind fun ds => .ok (d :: ds)
theorem sa_nil : SA X E [] mNil := ⟨pa_of pa_nil fun σ H Q ⟨B0, Γ, G, sr, po⟩ => Po.ok (d := ([] : List PyData)) po sr.sub .nil, fun Γ ds h => by cases h; rfl⟩
theorem sa_cons {m : M} {r : Gam → R (List PyData)} (ha : SE X E e m) (hr : SA X E es r) (hs : starEach (e :: es) X.env = (false, eval e X.env) :: starEach es X.env := by rfl) : SA X E (e :: es) (mCons m r) where
  pa := pa_of (pa_cons ha hr.pa hs) fun σ H Q ⟨B0, Γ, G, sr, po⟩ => ⟨B0, Γ, G, sr, Po.bind po fun d x G1 H1 _ g1 dx po1 => ⟨B0, Γ, G1, sr.gr g1, Po.bind po1 fun ds xs G2 H2 _ g2 dxs po2 => Po.ok (d := d :: ds) po2 g2.s (.cons (dp_le g2.g dx) dxs)⟩⟩
  ln := fun Γ ds h => by
    unfold mCons at h
    cases h1 : m Γ with
    | ok d =>
      rw [h1] at h
      cases h2 : r Γ with
      | ok ds' => rw [R.bind_ok, h2] at h; cases h; simp [hr.ln Γ _ h2]
      | ex c => rw [R.bind_ok, h2] at h; cases h
      | no => rw [R.bind_ok, h2] at h; cases h
    | ex c => rw [h1] at h; cases h
    | no => rw [h1] at h; cases h
def mTup (m : Gam → R (List PyData)) : M := fun Γ => (m Γ).bind fun ds => .ok (.tuple ds)
theorem sz_of {n : Nat} (h : n ≤ 100000) : n ≤ sizeLine := Nat.le_trans h (by decide)
theorem se_tup {k} {m : Gam → R (List PyData)} (h : SA X E es m) (hz : es.length ≤ 100000 := by decide) : SE X E (.Tuple es k pos) (mTup m) :=
  pe_of (pe_tup h.pa) fun σ H Q ⟨B0, Γ, G, sr, po⟩ => ⟨B0, Γ, G, sr, Po.bind po fun ds xs G1 H1 q g1 dx po1 => ⟨sz_of (by rw [dpa_len dx, h.ln Γ ds q]; exact hz), fun p hp => by
    exact po1 (.ref p) _ _ (Gr.new g1.s hp) (.tup (.inl (.inl upd_same)) (dpa_le (le_upd (le_none g1.s hp)) dx))⟩⟩

/-! ### a new list -/
/-- what is wanted behind a piece that makes a new list: it lies at p, not shared -/
def PoL (K : PySem.W.Frag) (mg : Str → Option Value) (E : XK) (G H : Hp) (Q : VK) : R (List PyData) → Prop
  | .ok ds => ∀ p xs G' H', Gr G H G' H' → H p = none → H' p = some (.lst xs) → G' p = none → DqAll K G' xs ds → Q (.ref p) H'
  | .ex c => ∀ H', Le H H' → E (cV mg c) none H'
  | .no => False
def tL (K : PySem.W.Frag) (mg : Str → Option Value) (E : XK) (m : Gam → R (List PyData)) : TE := fun σ H Q => ∃ B Γ G, SR K B G H σ Γ ∧ PoL K mg E G H Q (m Γ)
abbrev SL (X : Cx) (E : XK) (e : Expr) (m : Gam → R (List PyData)) : Prop := PE X e (tL X.K X.mg E m)
def mL (m : Gam → R (List PyData)) : M := fun Γ => (m Γ).bind fun ds => .ok (.list ds)
/-- it is shared at once -/
theorem pol_share {K : PySem.W.Frag} {mg : Str → Option Value} {G H : Hp} {Q : VK} {r : R (List PyData)} (po : Po (Dq K) mg E G H Q (r.bind fun ds => .ok (.list ds))) : PoL K mg E G H Q r := by
  cases r with
  | ok ds =>
    intro p xs G' H' g hp hp' hg dx
    have l : Le G' (upd G' p (.lst xs)) := le_upd hg
    refine po (.ref p) (upd G' p (.lst xs)) H' ⟨le_trans g.g l, g.h, g.s.share hp', fun a ha hga => ?_⟩ (.lst upd_same (dpa_le l dx))
    have ne : a ≠ p := fun z => by subst z; exact ha hp
    rw [upd_ne ne]
    exact g.fr a ha hga
  | ex c => exact po
  | no => exact po
theorem se_l {m : Gam → R (List PyData)} (h : SL X E e m) : SE X E e (mL m) := pe_of h fun σ H Q ⟨B0, Γ, G, sr, po⟩ => ⟨B0, Γ, G, sr, pol_share po⟩
theorem sl_lst {m : Gam → R (List PyData)} (h : SA X E es m) (hz : es.length ≤ 100000 := by decide) : SL X E (.List es pos) m :=
  pe_of (pe_lst h.pa) fun σ H Q ⟨B0, Γ, G, sr, po⟩ => ⟨B0, Γ, G, sr, by
    cases q : m Γ with
    | ok ds =>
      rw [q] at po
      intro xs G1 H1 g1 dx
      refine ⟨sz_of (by rw [dpa_len dx, h.ln Γ ds q]; exact hz), fun p hp => ?_⟩
      exact po p xs G1 _ ⟨g1.g, le_trans g1.h (le_upd hp), le_trans g1.s (le_upd hp), g1.fr⟩ (le_none g1.h hp) upd_same (le_none g1.s hp) dx
    | ex c => rw [q] at po; exact po
    | no => rw [q] at po; exact po⟩

/-! ### calls -/
def mCall (g : List PyData → R PyData) (m : Gam → R (List PyData)) : M := fun Γ => (m Γ).bind g
/-- the promise of a def by its mirror -/
def spD (K : PySem.W.Frag) (mg : Str → Option Value) (n : Nat) (g : List PyData → R PyData) : Sp := fun vs H Q E => ∃ G ds, Le G H ∧ DqAll K G vs ds ∧ ds.length = n ∧ Po (Dq K) mg E G H Q (g ds)
theorem spD_len {K : PySem.W.Frag} {mg : Str → Option Value} {n : Nat} {g : List PyData → R PyData} {vs H Q E} (h : spD K mg n g vs H Q E) : vs.length = n := by
  obtain ⟨G, ds, _, d, e, _⟩ := h
  rw [dpa_len d, e]
/-- a def of the module, as callers have it -/
structure Dn (P : Program) (w : World) (K : PySem.W.Frag) (mg : Str → Option Value) (base : Heap) (k : Nat) (x : Str) (n : Nat) (g : List PyData → R PyData) : Prop where
  ex : ∃ f fd ps, mg x = some (.ref f) ∧ ps.length = n ∧ FnOk P w K mg base (L2.CX P w) k f fd ps (spD K mg n g) ∧ PySem.W.keepIn K (.ref f) = true ∧ Binds K fd ps []
theorem Dn.mono {P w K mg base} {j k : Nat} {x n g} (h : Dn P w K mg base j x n g) (l : j ≤ k) : Dn P w K mg base k x n g := by
  obtain ⟨f, fd, ps, a, b, c, d⟩ := h.ex
  exact ⟨f, fd, ps, a, b, c.mono l, d⟩
theorem se_call {x : Str} {p : Pos} {k n : Nat} {g : List PyData → R PyData} {m : Gam → R (List PyData)} (D : Dn X.prog X.w X.K X.mg X.base k x n g) (hr : Room k X.A) (hx : Passes (L2.CX X.prog X.w) X E) (ha : SA X E (e :: es) m)
    (hn : (e :: es).length = n := by rfl) (hg : Gl X x := by exact rfl)
    (he : starEach (e :: es) X.env = (false, eval e X.env) :: starEach es X.env := by rfl) (hpl : (backTo pos (starEach es X.env)).any (·.1) = false := by rfl) (hd : (x == ("__debug__" : Str)) = false := by decide) :
    SE X E (.Call (.Name x p) (e :: es) [] pos) (mCall g m) := by
  obtain ⟨f, fd, ps, hm, hl, F, kp, hb⟩ := D.ex
  refine pe_of (pe_call F hr hg hm kp hb .nil hx ha.pa (hdb := hd) (he := he) (hpl := hpl)) fun σ H Q ⟨B0, Γ, G, sr, po⟩ => ⟨B0, Γ, G, sr, Po.bind po fun ds xs G1 H1 q g1 dx po1 => ?_⟩
  rw [List.append_nil]
  exact ⟨G1, ds, g1.s, dx, by rw [ha.ln Γ ds q]; exact hn, po1⟩
theorem se_call0 {x : Str} {p : Pos} {k : Nat} {g : List PyData → R PyData} (D : Dn X.prog X.w X.K X.mg X.base k x 0 g) (hr : Room k X.A) (hx : Passes (L2.CX X.prog X.w) X E) (hg : Gl X x := by exact rfl) (hd : (x == ("__debug__" : Str)) = false := by decide) :
    SE X E (.Call (.Name x p) [] [] pos) (mCall g mNil) := by
  obtain ⟨f, fd, ps, hm, hl, F, kp, hb⟩ := D.ex
  exact pe_of (pe_call0 F hr hg hm kp hb .nil hx (hdb := hd)) fun σ H Q ⟨B0, Γ, G, sr, po⟩ => ⟨G, [], sr.sub, .nil, rfl, po⟩
/-- a built-in function, by values -/
def rC (K : PySem.W.Frag) (mg : Str → Option Value) (E : XK) (g : List PyData → R PyData) : List V → Hp → VK → Prop := fun vs H Q => ∃ G ds, Le G H ∧ DqAll K G vs ds ∧ Po (Dq K) mg E G H Q (g ds)
abbrev CD (X : Cx) (E : XK) (f : Value) (g : List PyData → R PyData) : Prop := CallR X f (rC X.K X.mg E g)
theorem cd_of {f : Value} {g : List PyData → R PyData} {r : List V → Hp → VK → Prop} (h : CallR X f r)
    (i : ∀ G H vs ds Q, Siz X.K H → Le G H → DqAll X.K G vs ds → Po (Dq X.K) X.mg E G H Q (g ds) → r vs H Q) : CD X E f g := by
  intro pins s σ H vs us Q I r q
  obtain ⟨G, ds, l, dx, po⟩ := q
  exact h pins s σ H vs us Q I r (i G H vs ds Q (siz_of I) l dx po)
theorem se_bi {id : String} {x : Str} {p : Pos} {g : List PyData → R PyData} {m : Gam → R (List PyData)} (hc : CD X E (.builtin id) g) (hm : X.mg x = none) (ha : SA X E (e :: es) m) (hv : bootBuiltins x = some (.builtin id) := by decide +kernel) (hg : Gl X x := by exact rfl)
    (hn : x ≠ "__name__" := by decide) (hd : (x == ("__debug__" : Str)) = false := by decide)
    (he : starEach (e :: es) X.env = (false, eval e X.env) :: starEach es X.env := by rfl) (hpl : (backTo pos (starEach es X.env)).any (·.1) = false := by rfl) : SE X E (.Call (.Name x p) (e :: es) [] pos) (mCall g m) :=
  pe_of (pe_callB hc hg hm hv ha.pa hn hd he hpl) fun σ H Q ⟨B0, Γ, G, sr, po⟩ => ⟨B0, Γ, G, sr, Po.bind po fun ds xs G1 H1 q g1 dx po1 => ⟨G1, ds, g1.s, dx, po1⟩⟩
theorem se_bt {T : String} {x : Str} {p : Pos} {g : List PyData → R PyData} {m : Gam → R (List PyData)} (hc : CD X E (.type T) g) (hm : X.mg x = none) (ha : SA X E (e :: es) m) (hv : bootBuiltins x = some (.type T) := by decide +kernel) (hg : Gl X x := by exact rfl)
    (hn : x ≠ "__name__" := by decide) (hd : (x == ("__debug__" : Str)) = false := by decide)
    (he : starEach (e :: es) X.env = (false, eval e X.env) :: starEach es X.env := by rfl) (hpl : (backTo pos (starEach es X.env)).any (·.1) = false := by rfl) : SE X E (.Call (.Name x p) (e :: es) [] pos) (mCall g m) :=
  pe_of (pe_callTy hc hg hm hv ha.pa hn hd he hpl) fun σ H Q ⟨B0, Γ, G, sr, po⟩ => ⟨B0, Γ, G, sr, Po.bind po fun ds xs G1 H1 q g1 dx po1 => ⟨G1, ds, g1.s, dx, po1⟩⟩
end
end PD

/-! The data layer: operators, subscripts, slices, methods. -/
namespace PD
open PySem PySem.Spec PyProof.Rows L2

section
variable {X : Cx} {E : XK}
/-- a new list, a new tuple, shared at once -/
theorem po_lst {K : PySem.W.Frag} {mg} {G H : Hp} {Q : VK} {xs : List V} {ds : List PyData} {p : Addr} (po : Po (Dq K) mg E G H Q (.ok (.list ds))) (l : Le G H) (hp : H p = none) (h : DqAll K G xs ds) : Q (.ref p) (upd H p (.lst xs)) :=
  po (.ref p) _ _ (Gr.new l hp) (.lst upd_same (dpa_le (le_upd (le_none l hp)) h))
theorem po_tup {K : PySem.W.Frag} {mg} {G H : Hp} {Q : VK} {xs : List V} {ds : List PyData} {p : Addr} (po : Po (Dq K) mg E G H Q (.ok (.tuple ds))) (l : Le G H) (hp : H p = none) (h : DqAll K G xs ds) : Q (.ref p) (upd H p (.tup xs)) :=
  po (.ref p) _ _ (Gr.new l hp) (.tup (.inl (.inl upd_same)) (dpa_le (le_upd (le_none l hp)) h))
theorem dqa_nil {K : PySem.W.Frag} {G : Hp} {xs : List V} (h : DqAll K G xs []) : xs = [] := by cases h; rfl
theorem dqa_nil' {K : PySem.W.Frag} {G : Hp} {ds : List PyData} (h : DqAll K G [] ds) : ds = [] := by cases h; rfl
def dAdd : PyData → PyData → R PyData
  | .int i, .int j => .ok (.int (i + j))
  | .str a, .str b => if a.length + b.length ≤ 100000 then .ok (.str (a ++ b)) else .no
  | .list a, .list b => if a.length + b.length ≤ 100000 then .ok (.list (a ++ b)) else .no
  | .tuple a, .tuple b => if a.length + b.length ≤ 100000 then .ok (.tuple (a ++ b)) else .no
  | _, _ => .no
theorem od_add : OD X E (binaryOp .Add) dAdd := od_of (op_add.or (op_add_str.or (op_cat.or op_catA))) fun G H x y d e Q sz l dx dy po => by
  cases dx with
  | int i =>
    cases dy with
    | int j => exact .inl ⟨i, j, rfl, rfl, Po.ok (d := PyData.int (i + j)) po l (.int _)⟩
    | _ => exact po.elim
  | str a =>
    cases dy with
    | str b =>
      have po : Po (Dq X.K) X.mg E G H Q (if a.length + b.length ≤ 100000 then .ok (.str (a ++ b)) else .no) := po
      split at po
      · rename_i h
        exact .inr (.inl ⟨a, b, rfl, rfl, sz_of h, Po.ok (d := PyData.str (a ++ b)) po l (.str _)⟩)
      · exact po.elim
    | _ => exact po.elim
  | lst h1 a1 =>
    cases dy with
    | lst h2 a2 =>
      rename_i pa xs ds pb ys es
      have po : Po (Dq X.K) X.mg E G H Q (if ds.length + es.length ≤ 100000 then .ok (.list (ds ++ es)) else .no) := po
      split at po
      · rename_i h
        exact .inr (.inr (.inl ⟨pa, pb, xs, ys, rfl, rfl, l _ _ h1, l _ _ h2, sz_of (by rw [dpa_len a1, dpa_len a2]; exact h), fun p hp => po_lst po l hp (dpa_append a1 a2)⟩))
      · exact po.elim
    | _ => exact po.elim
  | tup h1 a1 =>
    cases dy with
    | tup h2 a2 =>
      rename_i pa xs ds pb ys es
      have po : Po (Dq X.K) X.mg E G H Q (if ds.length + es.length ≤ 100000 then .ok (.tuple (ds ++ es)) else .no) := po
      split at po
      · rename_i h
        refine .inr (.inr (.inr ⟨pa, pb, xs, ys, rfl, rfl, sqt_le l h1, sqt_le l h2, sz_of (by rw [dpa_len a1, dpa_len a2]; exact h), fun e => ?_, fun e1 e2 => ?_, fun _ _ p hp => po_tup po l hp (dpa_append a1 a2)⟩))
        · subst e
          have := dqa_nil' a1; subst this
          exact Po.ok (d := PyData.tuple es) po l (.tup h2 a2)
        · subst e2
          have := dqa_nil' a2; subst this
          rw [List.append_nil] at po
          exact Po.ok (d := PyData.tuple ds) po l (.tup h1 a1)
      · exact po.elim
    | _ => exact po.elim
  | _ => exact po.elim
/-! ### - * // % ** -/
def dSub : PyData → PyData → R PyData
  | .int i, .int j => .ok (.int (i - j))
  | _, _ => .no
theorem od_sub : OD X E (binaryOp .Sub) dSub := od_of op_sub fun G H x y d e Q sz l dx dy po => by
  cases dx with
  | int i =>
    cases dy with
    | int j => exact ⟨i, j, rfl, rfl, Po.ok (d := PyData.int (i - j)) po l (.int _)⟩
    | _ => exact po.elim
  | _ => exact po.elim
theorem dqa_rep {K : PySem.W.Frag} {G : Hp} {xs : List V} {ds : List PyData} (h : DqAll K G xs ds) : ∀ n : Nat, DqAll K G (List.replicate n xs).flatten (List.replicate n ds).flatten
  | 0 => .nil
  | n + 1 => by
    rw [List.replicate_succ, List.replicate_succ, List.flatten_cons, List.flatten_cons]
    exact dpa_append h (dqa_rep h n)
def dMul : PyData → PyData → R PyData
  | .int i, .int j => if (-(2 ^ 64) < i ∧ i < 2 ^ 64) ∨ (-(2 ^ 64) < j ∧ j < 2 ^ 64) then .ok (.int (i * j)) else .no
  | .list a, .int k => if (0 ≤ k ∧ k ≤ 100000) ∧ a.length * k.toNat ≤ 100000 then .ok (.list (List.replicate k.toNat a).flatten) else .no
  | _, _ => .no
theorem od_mul : OD X E (binaryOp .Mult) dMul := od_of (op_mul.or op_rep) fun G H x y d e Q sz l dx dy po => by
  cases dx with
  | int i =>
    cases dy with
    | int j =>
      have po : Po (Dq X.K) X.mg E G H Q (if (-(2 ^ 64) < i ∧ i < 2 ^ 64) ∨ (-(2 ^ 64) < j ∧ j < 2 ^ 64) then .ok (.int (i * j)) else .no) := po
      split at po
      · rename_i h
        exact .inl ⟨i, j, rfl, rfl, h, Po.ok (d := PyData.int (i * j)) po l (.int _)⟩
      · exact po.elim
    | _ => exact po.elim
  | lst h1 a1 =>
    rename_i pa xs ds
    cases dy with
    | int k =>
      have po : Po (Dq X.K) X.mg E G H Q (if (0 ≤ k ∧ k ≤ 100000) ∧ ds.length * k.toNat ≤ 100000 then .ok (.list (List.replicate k.toNat ds).flatten) else .no) := po
      split at po
      · rename_i h
        exact .inr ⟨pa, k, xs, rfl, rfl, l _ _ h1, by omega, by omega, sz_of (by rw [dpa_len a1]; exact h.2), fun p hp => po_lst po l hp (dqa_rep a1 _)⟩
      · exact po.elim
    | _ => exact po.elim
  | _ => exact po.elim
def dDiv : PyData → PyData → R PyData
  | .int i, .int j => if 0 < j ∧ j < 2 ^ 64 then .ok (.int (i / j)) else .no
  | _, _ => .no
theorem od_div : OD X E (binaryOp .FloorDiv) dDiv := od_of op_fdivW fun G H x y d e Q sz l dx dy po => by
  cases dx with
  | int i =>
    cases dy with
    | int j =>
      have po : Po (Dq X.K) X.mg E G H Q (if 0 < j ∧ j < 2 ^ 64 then .ok (.int (i / j)) else .no) := po
      split at po
      · rename_i h
        exact ⟨i, j, rfl, rfl, wide_div (b := 64) h.1 (by have := h.2; omega) (by decide) (by decide), Po.ok (d := PyData.int (i / j)) po l (.int _)⟩
      · exact po.elim
    | _ => exact po.elim
  | _ => exact po.elim
def dMod : PyData → PyData → R PyData
  | .int i, .int j => if 0 < j then .ok (.int (i % j)) else .no
  | _, _ => .no
theorem od_mod : OD X E (binaryOp .Mod) dMod := od_of op_mod fun G H x y d e Q sz l dx dy po => by
  cases dx with
  | int i =>
    cases dy with
    | int j =>
      have po : Po (Dq X.K) X.mg E G H Q (if 0 < j then .ok (.int (i % j)) else .no) := po
      split at po
      · rename_i h
        exact ⟨i, j, rfl, rfl, h, Po.ok (d := PyData.int (i % j)) po l (.int _)⟩
      · exact po.elim
    | _ => exact po.elim
  | _ => exact po.elim
def dPow : PyData → PyData → R PyData
  | .int i, .int j => if 0 ≤ j ∧ j ≤ 1000000 ∧ i.natAbs < 2 ^ 64 then .ok (.int (i ^ j.toNat)) else .no
  | _, _ => .no
theorem od_pow : OD X E (binaryOp .Pow) dPow := od_of op_pow fun G H x y d e Q sz l dx dy po => by
  cases dx with
  | int i =>
    cases dy with
    | int j =>
      have po : Po (Dq X.K) X.mg E G H Q (if 0 ≤ j ∧ j ≤ 1000000 ∧ i.natAbs < 2 ^ 64 then .ok (.int (i ^ j.toNat)) else .no) := po
      split at po
      · rename_i h
        exact ⟨i, j, rfl, rfl, h, Po.ok (d := PyData.int (i ^ j.toNat)) po l (.int _)⟩
      · exact po.elim
    | _ => exact po.elim
  | _ => exact po.elim
/-- -x -/
def dNeg : PyData → R PyData
  | .int i => .ok (.int (-i))
  | _ => .no
def mNeg (m : M) : M := fun Γ => (m Γ).bind dNeg
theorem se_neg {a : Expr} {ma : M} {pos : Pos} (ha : SE X E a ma) : SE X E (.UnaryOp .USub a pos) (mNeg ma) := pe_of (pe_un un_neg ha) fun σ H Q ⟨B0, Γ, G, sr, po⟩ => ⟨B0, Γ, G, sr, Po.bind po fun d x G1 H1 _ g1 dx po1 => by
  cases dx with
  | int i => exact ⟨i, rfl, Po.ok (d := PyData.int (-i)) po1 g1.s (.int _)⟩
  | _ => exact po1.elim⟩
/-! ### comparisons -/
def dCmp (f : Int → Int → Bool) : PyData → PyData → R PyData
  | .int i, .int j => .ok (.bool (f i j))
  | _, _ => .no
@[simp] theorem dCmp_int (f : Int → Int → Bool) (i j : Int) : dCmp f (.int i) (.int j) = .ok (.bool (f i j)) := rfl
theorem od_cmp {op : CmpOp} {f : Int → Int → Bool} (h : OpR X (compareOp op) (rI0 fun i j => .bl (f i j))) : OD X E (compareOp op) (dCmp f) := od_of h fun G H x y d e Q sz l dx dy po => by
  cases dx with
  | int i =>
    cases dy with
    | int j => exact ⟨i, j, rfl, rfl, Po.ok (d := PyData.bool (f i j)) po l (.bl _)⟩
    | _ => exact po.elim
  | _ => exact po.elim
abbrev dLt := dCmp fun i j => decide (i < j)
abbrev dLe := dCmp fun i j => decide (i ≤ j)
abbrev dGt := dCmp fun i j => decide (j < i)
abbrev dGe := dCmp fun i j => decide (j ≤ i)
theorem od_lt : OD X E (compareOp .Lt) dLt := od_cmp op_lt
theorem od_le : OD X E (compareOp .LtE) dLe := od_cmp op_le
theorem od_gt : OD X E (compareOp .Gt) dGt := od_cmp op_gt
theorem od_ge : OD X E (compareOp .GtE) dGe := od_cmp op_ge
/-- == of two scalars of one kind, told at once -/
def sEq : PyData → PyData → Option Bool
  | .int i, .int j => some (decide (i = j))
  | .str a, .str b => some (decide (a = b))
  | .bool a, .bool b => some (decide (a = b))
  | _, _ => none
def eqD (d e : PyData) : R Bool := match sEq d e with
  | some b => .ok b
  | none => if SeqAt.shaped (unS d) = true ∧ SeqAt.shaped (unS e) = true then .ok (PyData.eqv (unS d) (unS e)) else .no
def dEq (d e : PyData) : R PyData := (eqD d e).bind fun b => .ok (.bool b)
def dNe (d e : PyData) : R PyData := (eqD d e).bind fun b => .ok (.bool (!b))
theorem eqD_cases {K : PySem.W.Frag} {G : Hp} {x y : V} {d e : PyData} {b : Bool} (dx : Dq K G x d) (dy : Dq K G y e) (h : eqD d e = .ok b) : (scal x y = true ∧ b = decide (x = y)) ∨ (SeqAt.shaped (unS d) = true ∧ SeqAt.shaped (unS e) = true ∧ b = PyData.eqv (unS d) (unS e)) := by
  unfold eqD at h
  cases q : sEq d e with
  | some c =>
    rw [q] at h
    cases h
    cases dx <;> cases dy <;> simp only [sEq] at q <;> cases q <;> exact .inl ⟨rfl, by simp⟩
  | none =>
    rw [q] at h
    dsimp only at h
    split at h
    · rename_i z
      cases h
      exact .inr ⟨z.1, z.2, rfl⟩
    · cases h
theorem od_eq {k : Nat} (hr : Room k X.A) : OD X E (compareOp .Eq) dEq := od_of (op_eq.or (op_eqD hr.units)) fun G H x y d e Q sz l dx dy po => by
  unfold dEq at po
  cases q : eqD d e with
  | ok b =>
    rw [q, R.bind_ok] at po
    have po := Po.ok (d := PyData.bool b) po l (.bl b)
    rcases eqD_cases dx dy q with ⟨h1, h2⟩ | ⟨h1, h2, h3⟩
    · subst h2; exact .inl ⟨h1, po⟩
    · subst h3; exact .inr ⟨unS d, unS e, dq_dp (dp_le l dx) h1, dq_dp (dp_le l dy) h2, h1, h2, po⟩
  | ex c =>
    unfold eqD at q
    split at q
    · cases q
    · split at q <;> cases q
  | no => rw [q] at po; exact po.elim
theorem od_ne {k : Nat} (hr : Room k X.A) : OD X E (compareOp .NotEq) dNe := od_of (op_ne.or (op_neD hr.units)) fun G H x y d e Q sz l dx dy po => by
  unfold dNe at po
  cases q : eqD d e with
  | ok b =>
    rw [q, R.bind_ok] at po
    have po := Po.ok (d := PyData.bool (!b)) po l (.bl _)
    rcases eqD_cases dx dy q with ⟨h1, h2⟩ | ⟨h1, h2, h3⟩
    · subst h2; exact .inl ⟨h1, po⟩
    · subst h3; exact .inr ⟨unS d, unS e, dq_dp (dp_le l dx) h1, dq_dp (dp_le l dy) h2, h1, h2, po⟩
  | ex c =>
    unfold eqD at q
    split at q
    · cases q
    · split at q <;> cases q
  | no => rw [q] at po; exact po.elim
/-- in, not in -/
def inD : PyData → PyData → R Bool
  | .str a, .str b => match a.cps.toList with
    | [c] => .ok (decide (c ∈ b.cps.toList))
    | _ => .no
  | x, .list ds => if SeqAt.shaped x = true ∧ SeqAt.shaped (.list ds) = true then .ok (ds.any fun z => PyData.eqv z x) else .no
  | _, _ => .no
def dIn (d e : PyData) : R PyData := (inD d e).bind fun b => .ok (.bool b)
def dNotIn (d e : PyData) : R PyData := (inD d e).bind fun b => .ok (.bool (!b))
theorem str_one {a : Str} {c : Nat} (h : a.cps.toList = [c]) : a = ⟨#[c]⟩ := by
  obtain ⟨l⟩ := a
  obtain ⟨l⟩ := l
  have h : l = [c] := h
  subst h
  rfl
theorem inD_cases {K : PySem.W.Frag} {G : Hp} {x y : V} {d e : PyData} {b : Bool} (dx : Dq K G x d) (dy : Dq K G y e) (h : inD d e = .ok b) :
    (∃ (c : Nat) (z : Str), x = .str ⟨#[c]⟩ ∧ y = .str z ∧ b = decide (c ∈ z.cps.toList)) ∨ (∃ ds, e = .list ds ∧ SeqAt.shaped d = true ∧ SeqAt.shaped (.list ds) = true ∧ b = ds.any fun z => PyData.eqv z d) := by
  cases dy with
  | str z =>
    cases dx with
    | str a =>
      simp only [inD] at h
      split at h
      · rename_i c q
        cases h
        exact .inl ⟨c, z, by rw [str_one q], rfl, rfl⟩
      · cases h
    | _ => simp only [inD] at h; cases h
  | lst h2 a2 =>
    rename_i p ys es
    have h : (if SeqAt.shaped d = true ∧ SeqAt.shaped (.list es) = true then R.ok (es.any fun z => PyData.eqv z d) else .no) = .ok b := by
      rw [← h]; cases d <;> rfl
    split at h
    · rename_i z
      cases h
      exact .inr ⟨es, rfl, z.1, z.2, rfl⟩
    · cases h
  | _ => cases dx <;> simp only [inD] at h <;> cases h
theorem inD_noex {d e : PyData} {c : Str} (h : inD d e = .ex c) : False := by
  unfold inD at h
  split at h
  · split at h <;> cases h
  · split at h <;> cases h
  · cases h
theorem od_in {k : Nat} (hr : Room k X.A) : OD X E (compareOp .In) dIn := od_of (op_in_sign.or (op_inD (by have := hr.un; omega))) fun G H x y d e Q sz l dx dy po => by
  unfold dIn at po
  cases q : inD d e with
  | ok b =>
    rw [q, R.bind_ok] at po
    have po := Po.ok (d := PyData.bool b) po l (.bl b)
    rcases inD_cases dx dy q with ⟨c, z, h1, h2, h3⟩ | ⟨ds, h0, h1, h2, h3⟩
    · subst h3; exact .inl ⟨c, z, h1, h2, po⟩
    · subst h0 h3; exact .inr ⟨d, ds, dq_dp0 (dp_le l dx) h1, dq_dp0 (dp_le l dy) h2, h1, h2, po⟩
  | ex c => exact (inD_noex q).elim
  | no => rw [q] at po; exact po.elim
theorem od_notin {k : Nat} (hr : Room k X.A) : OD X E (compareOp .NotIn) dNotIn := od_of (op_notIn_sign.or (op_notInD (by have := hr.un; omega))) fun G H x y d e Q sz l dx dy po => by
  unfold dNotIn at po
  cases q : inD d e with
  | ok b =>
    rw [q, R.bind_ok] at po
    have po := Po.ok (d := PyData.bool (!b)) po l (.bl _)
    rcases inD_cases dx dy q with ⟨c, z, h1, h2, h3⟩ | ⟨ds, h0, h1, h2, h3⟩
    · subst h3; exact .inl ⟨c, z, h1, h2, po⟩
    · subst h0 h3; exact .inr ⟨d, ds, dq_dp0 (dp_le l dx) h1, dq_dp0 (dp_le l dy) h2, h1, h2, po⟩
  | ex c => exact (inD_noex q).elim
  | no => rw [q] at po; exact po.elim
/-- is None, is True -/
def isD : PyData → PyData → R Bool
  | .none, .none => .ok true
  | .bool _, .none => .ok false
  | .int _, .none => .ok false
  | .str _, .none => .ok false
  | .list _, .none => .ok false
  | .tuple _, .none => .ok false
  | .bool a, .bool b => .ok (decide (a = b))
  | _, _ => .no
def dIs (d e : PyData) : R PyData := (isD d e).bind fun b => .ok (.bool b)
def dIsNot (d e : PyData) : R PyData := (isD d e).bind fun b => .ok (.bool (!b))
theorem isD_cases {K : PySem.W.Frag} {G : Hp} {x y : V} {d e : PyData} {b : Bool} (dx : Dq K G x d) (dy : Dq K G y e) (h : isD d e = .ok b) :
    (y = .non ∧ b = decide (x = .non)) ∨ (∃ p q : Bool, x = .bl p ∧ y = .bl q ∧ b = decide (p = q)) := by
  cases dy with
  | non => cases dx <;> simp only [isD] at h <;> cases h <;> exact .inl ⟨rfl, by simp⟩
  | bl q =>
    cases dx with
    | bl p => simp only [isD] at h; cases h; exact .inr ⟨p, q, rfl, rfl, rfl⟩
    | _ => simp only [isD] at h; cases h
  | _ => cases dx <;> simp only [isD] at h <;> cases h
theorem isD_noex {d e : PyData} {c : Str} (h : isD d e = .ex c) : False := by unfold isD at h; split at h <;> cases h
theorem od_is : OD X E (compareOp .Is) dIs := od_of (op_isN.or op_isBl) fun G H x y d e Q sz l dx dy po => by
  unfold dIs at po
  cases q : isD d e with
  | ok b =>
    rw [q, R.bind_ok] at po
    have po := Po.ok (d := PyData.bool b) po l (.bl b)
    rcases isD_cases dx dy q with ⟨h1, h2⟩ | ⟨p, r, h1, h2, h3⟩
    · subst h1 h2; exact .inl ⟨rfl, po⟩
    · subst h1 h2 h3; exact .inr ⟨p, r, rfl, rfl, po⟩
  | ex c => exact (isD_noex q).elim
  | no => rw [q] at po; exact po.elim
theorem od_isnot : OD X E (compareOp .IsNot) dIsNot := od_of (op_notN.or op_notBl) fun G H x y d e Q sz l dx dy po => by
  unfold dIsNot at po
  cases q : isD d e with
  | ok b =>
    rw [q, R.bind_ok] at po
    have po := Po.ok (d := PyData.bool (!b)) po l (.bl _)
    rcases isD_cases dx dy q with ⟨h1, h2⟩ | ⟨p, r, h1, h2, h3⟩
    · subst h1 h2; exact .inl ⟨rfl, po⟩
    · subst h1 h2 h3; exact .inr ⟨p, r, rfl, rfl, po⟩
  | ex c => exact (isD_noex q).elim
  | no => rw [q] at po; exact po.elim

/-! ### subscripts -/
def oR {α : Type} : Option α → R α
  | some a => .ok a
  | none => .no
@[simp] theorem oR_some {α : Type} (a : α) : oR (some a) = .ok a := rfl
@[simp] theorem oR_none {α : Type} : (oR none : R α) = .no := rfl
def dIx : PyData → PyData → R PyData
  | .list ds, .int i => oR (atI ds i)
  | .dict ((.none, _) :: _), .int _ => .no
  | .dict ((.bool _, _) :: _), .int _ => .no
  | .dict kvs, .int i => oR (atI (kvs.map (·.1)) i)
  | .tuple ds, .int i => oR (atI ds i)
  | .str z, .int i => if z.length ≤ 100000 then (oR (atI z.cps.toList i)).bind fun c => .ok (.str ⟨#[c]⟩) else .no
  | _, _ => .no
theorem dqa_atI {K : PySem.W.Frag} {G : Hp} {xs : List V} {ds : List PyData} {i : Int} {d : PyData} (h : DqAll K G xs ds) (e : atI ds i = some d) : ∃ v, atI xs i = some v ∧ Dq K G v d := by
  unfold atI at e ⊢
  rw [dpa_len h]
  cases q : ixN ds.length i with
  | none => rw [q] at e; cases e
  | some j =>
    rw [q] at e
    exact dpa_get h e
theorem oR_ok {α β : Type} {Rl : Hp → β → α → Prop} {mg} {G H : Hp} {Q : β → Hp → Prop} {o : Option α} (po : Po Rl mg E G H Q (oR o)) : ∃ a, o = some a ∧ Po Rl mg E G H Q (.ok a) := by
  cases o with
  | some a => exact ⟨a, rfl, po⟩
  | none => exact po.elim
abbrev ID (X : Cx) (E : XK) (g : PyData → PyData → R PyData) : Prop := IxR X (rD X.K X.mg E g)
theorem dIx_no {d e : PyData} (h : ∀ i, e ≠ .int i) : dIx d e = .no := by
  unfold dIx
  split
  all_goals first | rfl | exact absurd rfl (h _)
theorem id_ix : ID X E dIx := by
  intro va sl pins s σ H x y v u Q I rx ry q hsub
  obtain ⟨G, d, e, l, dx, dy, po⟩ := q
  refine ix_seq va sl pins s σ H x y v u Q I rx ry ?_ hsub
  cases dy with
  | int i =>
    cases dx with
    | lst h1 a1 =>
      rename_i p xs ds
      obtain ⟨a, q, po⟩ := oR_ok (o := atI ds i) po
      obtain ⟨v, e, dv⟩ := dqa_atI a1 q
      exact .inl ⟨p, xs, i, v, rfl, rfl, (sq1 l h1), e, po.ok l dv⟩
    | scr h1 =>
      rename_i p ns
      replace po : Po (Dq X.K) X.mg E G H Q (oR (atI ((ns.map fun n => (PyData.int n, PyData.none)).map (·.1)) i)) := by
        cases ns <;> exact po
      have e : ((ns.map fun n => (PyData.int n, PyData.none)).map (·.1)) = ns.map PyData.int := by simp [List.map_map, Function.comp_def]
      rw [e] at po
      obtain ⟨a, q, po⟩ := oR_ok po
      obtain ⟨v, e, dv⟩ := dqa_atI (dpa_ofInts (K := X.K) (G := G) ns) q
      exact .inl ⟨p, ns.map V.int, i, v, rfl, rfl, sql_le l h1, e, po.ok l dv⟩
    | tup h1 a1 =>
      rename_i p xs ds
      obtain ⟨a, q, po⟩ := oR_ok (o := atI ds i) po
      obtain ⟨v, e, dv⟩ := dqa_atI a1 q
      exact .inr (.inl ⟨p, xs, i, v, rfl, rfl, sqt_le l h1, e, po.ok l dv⟩)
    | str z =>
      have po : Po (Dq X.K) X.mg E G H Q (if z.length ≤ 100000 then (oR (atI z.cps.toList i)).bind fun c => .ok (.str ⟨#[c]⟩) else .no) := po
      split at po
      · rename_i h
        cases q : atI z.cps.toList i with
        | some c =>
          rw [q] at po
          exact .inr (.inr ⟨z, i, c, rfl, rfl, sz_of h, q, Po.ok (d := PyData.str ⟨#[c]⟩) po l (.str _)⟩)
        | none => rw [q] at po; exact po.elim
      · exact po.elim
    | _ => exact po.elim
  | _ =>
    rw [dIx_no (by simp)] at po
    exact po.elim
theorem se_ix {a b : Expr} {ma mb : M} {pos : Pos} {g : PyData → PyData → R PyData} (hr : ID X E g) (ha : SE X E a ma) (hb : SE X E b mb) (hs : PlainIx b := by exact fun _ _ => rfl) : SE X E (.Subscript a b pos) (mOp g ma mb) :=
  pe_of (pe_ix hr ha hb hs) fun σ H Q h => tOp_of rfl h
/-- an item of a slot's list, own or shared -/
def mIxO (i : Nat) (mi : M) : M := fun Γ => match gat Γ i with
  | .own ds => (mi Γ).bind fun k => dIx (.list ds) k
  | .v d => (mi Γ).bind fun k => dIx d k
  | .ad _ => .no
  | .no => .no
theorem se_ixo (i : Nat) {x : Str} {p pos : Pos} {b : Expr} {mb : M} (hb : SE X E b mb) (hN : X.N[i]? = some x := by rfl) (hv : Vis X.env.scope x := by first | exact Or.inl rfl | exact Or.inr (Or.inl rfl) | exact Or.inr (Or.inr rfl)) (hs : PlainIx b := by exact fun _ _ => rfl) (hd : (x == ("__debug__" : Str)) = false := by decide)
    (hcd : (x == ("__classdict__" : Str)) = false := by decide) : SE X E (.Subscript (.Name x p) b pos) (mIxO i mb) := by
  have rule : IxR X (fun x y H Q => rIxL X.K x y H Q ∨ rD X.K X.mg E dIx x y H Q) := ix_list.or id_ix
  refine pe_of (pe_ix rule (pe_var (i := i) hN hv hd hcd) hb hs) fun σ H Q ⟨B0, Γ, G, sr, po⟩ => ?_
  unfold mIxO at po
  show ∃ v, σ[i]? = some (some v) ∧ _
  cases q : gat Γ i with
  | own ds =>
    rw [q] at po
    obtain ⟨a, xs, e1, e2, e3, e4⟩ := sr.own i ds q
    refine ⟨.ref a, e1, B0, Γ, G, sr, Po.bind po fun k y G1 H1 _ g1 dy po1 => ?_⟩
    cases dy with
    | int j =>
      obtain ⟨d, q2, po2⟩ := oR_ok (o := atI ds j) po1
      obtain ⟨v, e, dv⟩ := dqa_atI e4 q2
      exact .inl ⟨a, xs, j, v, rfl, rfl, .inl (.inl (g1.h _ _ e2)), e, po2.ok g1.s (dp_le g1.g dv)⟩
    | _ => exact po1.elim
  | v d =>
    rw [q] at po
    obtain ⟨x0, e1, e2⟩ := sr.val i d q
    refine ⟨x0, e1, B0, Γ, G, sr, Po.bind po fun k y G1 H1 _ g1 dy po1 => ?_⟩
    exact .inr ⟨G1, d, k, g1.s, dp_le g1.g e2, dy, po1⟩
  | ad _ => rw [q] at po; exact po.elim
  | no => rw [q] at po; exact po.elim
end
end PD

/-! The data layer: what is walked, comprehensions, statements. -/
namespace PD
open PySem PySem.Spec PyProof.Rows L2

/-! ### what is walked -/
structure ItD (K : PySem.W.Frag) (J : It) (G : Hp) (ds : List PyData) : Prop where
  go : ∀ i G1 H1, Le G G1 → Le G1 H1 → i < ds.length → J.go i H1
  stop : ∀ G1 H1, Le G G1 → Le G1 H1 → J.stop ds.length H1
  sz : ds.length ≤ sizeLine
  yld : ∀ i G1 H1 x H2 d, Le G G1 → Le G1 H1 → ds[i]? = some d → J.yld i H1 x H2 → ∃ G2, Gr G1 H1 G2 H2 ∧ Dq K G2 x d
def PoI (K : PySem.W.Frag) (mg : Str → Option Value) (E : XK) (G H : Hp) (Q : It → Hp → Prop) : R (List PyData) → Prop
  | .ok ds => ∀ J G' H', Gr G H G' H' → ItD K J G' ds → Q J H'
  | .ex c => ∀ H', Le H H' → E (cV mg c) none H'
  | .no => False
def tIt (K : PySem.W.Frag) (mg : Str → Option Value) (E : XK) (m : Gam → R (List PyData)) : TI := fun σ H Q => ∃ B Γ G, SR K B G H σ Γ ∧ PoI K mg E G H Q (m Γ)
abbrev SI (X : Cx) (E : XK) (tg e : Expr) (m : Gam → R (List PyData)) : Prop := PI X tg e (tIt X.K X.mg E m)
theorem pi_of {X : Cx} {tg e : Expr} {t t' : TI} (h : PI X tg e t) (i : ∀ σ H Q, t' σ H Q → t σ H Q) : PI X tg e t' := ⟨fun pins s σ H Q I q => h.run pins s σ H Q I (i σ H Q q)⟩
theorem pi_siz {X : Cx} {tg e : Expr} {t : TI} (h : PI X tg e t) : PI X tg e (fun σ H Q => t σ H fun J H' => Siz X.K H' → Q J H') := ⟨fun pins s σ H Q I q =>
  thn (h.run pins s σ H _ I q) fun v s1 h1 => thn h1 fun itv s2 ⟨it, fp, tn, J, H', e, I2, T, st, f, r⟩ => ⟨it, fp, tn, J, H', e, I2, T, st, f, r (siz_of I2)⟩⟩
theorem PoI.gr {K mg} {E : XK} {G H G' H' : Hp} {Q : It → Hp → Prop} {r : R (List PyData)} (h : PoI K mg E G H Q r) (g : Gr G H G' H') : PoI K mg E G' H' Q r := by
  cases r with
  | ok d => exact fun x G2 H2 g2 r => h x G2 H2 (g.trans g2) r
  | ex c => exact fun H2 l => h H2 (le_trans g.h l)
  | no => exact h
theorem PoI.bind {α β : Type} {Rl : Hp → α → β → Prop} {K mg} {E : XK} {G H : Hp} {Q : It → Hp → Prop} {Q' : α → Hp → Prop} {r : R β} {f : β → R (List PyData)} (h : PoI K mg E G H Q (r.bind f))
    (k : ∀ d x G' H', r = .ok d → Gr G H G' H' → Rl G' x d → PoI K mg E G' H' Q (f d) → Q' x H') : Po Rl mg E G H Q' r := by
  cases r with
  | ok d => exact fun x G' H' g dx => k d x G' H' rfl g dx (PoI.gr (r := f d) h g)
  | ex c => exact h
  | no => exact h
/-- the items of a list, a tuple, a text -/
def itemsD : PyData → R (List PyData)
  | .list ds => .ok ds
  | .tuple ds => .ok ds
  | .str z => if z.length ≤ 100000 then .ok (z.cps.toList.map fun c => .str ⟨#[c]⟩) else .no
  | _ => .no
def mItems (m : M) : Gam → R (List PyData) := fun Γ => (m Γ).bind itemsD
section
variable {X : Cx} {E : XK} {tg e : Expr}
theorem pi_or {t t' : TI} (h : PI X tg e t) (h' : PI X tg e t') : PI X tg e (fun σ H Q => t σ H Q ∨ t' σ H Q) := ⟨fun pins s σ H Q I q => q.elim (h.run pins s σ H Q I) (h'.run pins s σ H Q I)⟩
theorem itd_list {K : PySem.W.Frag} {G : Hp} {a : Addr} {xs : List V} {ds : List PyData} (h : SqL K G a xs) (d : DqAll K G xs ds) (z : xs.length ≤ sizeLine) : ItD K (Itl K a) G ds where
  go := fun i G1 H1 l1 l2 hi => ⟨xs, xs[i]'(by rw [dpa_len d]; exact hi), sql_le l2 (sql_le l1 h), by simp⟩
  stop := fun G1 H1 l1 l2 => ⟨xs, sql_le l2 (sql_le l1 h), by rw [dpa_len d]; exact Nat.le_refl _⟩
  sz := by rw [← dpa_len d]; exact z
  yld := fun i G1 H1 x H2 e l1 l2 hd ⟨e1, q⟩ => by
    subst e1
    have hx := q xs (sql_le l2 (sql_le l1 h))
    obtain ⟨v, hv, dv⟩ := dpa_get d hd
    rw [hx] at hv; cases hv
    exact ⟨G1, Gr.refl l2, dp_le l1 dv⟩
theorem itd_tup {K : PySem.W.Frag} {G : Hp} {a : Addr} {xs : List V} {ds : List PyData} (h : SqT K G a xs) (d : DqAll K G xs ds) (z : xs.length ≤ sizeLine) : ItD K (Itt K a) G ds where
  go := fun i G1 H1 l1 l2 hi => ⟨xs, xs[i]'(by rw [dpa_len d]; exact hi), sqt_le l2 (sqt_le l1 h), by simp⟩
  stop := fun G1 H1 l1 l2 => ⟨xs, sqt_le l2 (sqt_le l1 h), by rw [dpa_len d]; exact Nat.le_refl _⟩
  sz := by rw [← dpa_len d]; exact z
  yld := fun i G1 H1 x H2 e l1 l2 hd ⟨e1, q⟩ => by
    subst e1
    have hx := q xs (sqt_le l2 (sqt_le l1 h))
    obtain ⟨v, hv, dv⟩ := dpa_get d hd
    rw [hx] at hv; cases hv
    exact ⟨G1, Gr.refl l2, dp_le l1 dv⟩
theorem itd_str {K : PySem.W.Frag} {G : Hp} {z : Str} (z0 : z.cps.size ≤ sizeLine) : ItD K (Its z) G (z.cps.toList.map fun c => .str ⟨#[c]⟩) where
  go := fun i G1 H1 l1 l2 hi => by
    show i < z.cps.size
    simpa using hi
  stop := fun G1 H1 l1 l2 => by simp [Its]
  sz := by simpa using z0
  yld := fun i G1 H1 x H2 e l1 l2 hd ⟨e1, c, hc, ex⟩ => by
    subst e1 ex
    rw [List.getElem?_map, Array.getElem?_toList, hc] at hd
    cases hd
    exact ⟨G1, Gr.refl l2, .str _⟩
theorem si_val {m : M} (h : SE X E e m) : SI X E tg e (mItems m) := pi_of (pi_siz (pi_or (pi_list h) (pi_or (pi_tup h) (pi_str h)))) fun σ H Q ⟨B0, Γ, G, sr, po⟩ => by
  unfold mItems at po
  cases q : m Γ with
  | no => rw [q] at po; exact po.elim
  | ex c => rw [q] at po; exact .inl ⟨B0, Γ, G, sr, by rw [q]; exact po⟩
  | ok d =>
    rw [q, R.bind_ok] at po
    cases d with
    | list ds =>
      refine .inl ⟨B0, Γ, G, sr, ?_⟩
      rw [q]
      intro x G1 H1 g1 dx
      cases dx with
      | lst h1 a1 => exact ⟨_, rfl, ⟨_, sq1 g1.s h1⟩, fun zz => po _ G1 H1 g1 (itd_list (.inl (.inl h1)) a1 (zz _ _ (.inl (sq1 g1.s h1))))⟩
    | tuple ds =>
      refine .inr (.inl ⟨B0, Γ, G, sr, ?_⟩)
      rw [q]
      intro x G1 H1 g1 dx
      cases dx with
      | tup h1 a1 => exact ⟨_, rfl, ⟨_, sqt_le g1.s h1⟩, fun zz => po _ G1 H1 g1 (itd_tup h1 a1 (zz _ _ (.inr (sqt_le g1.s h1))))⟩
    | str z =>
      replace po : PoI X.K X.mg E G H Q (if z.length ≤ 100000 then .ok (z.cps.toList.map fun c => .str ⟨#[c]⟩) else .no) := po
      refine .inr (.inr ⟨B0, Γ, G, sr, ?_⟩)
      rw [q]
      intro x G1 H1 g1 dx
      cases dx
      split at po
      · rename_i hz
        exact ⟨z, rfl, fun zz => po _ G1 H1 g1 (itd_str (sz_of hz))⟩
      · exact po.elim
    | _ => exact po.elim
/-- lo, lo + 1, .. -/
def intsFrom (lo : Int) (n : Nat) : List PyData := (List.range n).map fun i => .int (lo + (i : Nat))
theorem intsFrom_length (lo : Int) (n : Nat) : (intsFrom lo n).length = n := by simp [intsFrom]
theorem itd_rng {K : PySem.W.Frag} {G : Hp} {lo : Int} {n : Nat} (z : n ≤ sizeLine) : ItD K (Itr lo n) G (intsFrom lo n) where
  go := fun i G1 H1 l1 l2 hi => by rw [intsFrom_length] at hi; exact hi
  stop := fun G1 H1 l1 l2 => by rw [intsFrom_length]; exact Nat.le_refl _
  sz := by rw [intsFrom_length]; exact z
  yld := fun i G1 H1 x H2 e l1 l2 hd ⟨e1, ex⟩ => by
    subst e1 ex
    unfold intsFrom at hd
    rw [List.getElem?_map] at hd
    cases q : (List.range n)[i]? with
    | none => rw [q] at hd; cases hd
    | some j =>
      rw [q] at hd
      cases hd
      have hj := List.getElem?_eq_some_iff.mp q
      obtain ⟨h1, h2⟩ := hj
      rw [List.getElem_range] at h2
      subst h2
      exact ⟨G1, Gr.refl l2, .int _⟩
def rngD : List PyData → R (List PyData)
  | [.int n] => if -1000000 ≤ n ∧ n ≤ 1000000 then .ok (intsFrom 0 n.toNat) else .no
  | [.int a, .int b] => if (-1000000 ≤ a ∧ a ≤ 1000000) ∧ -1000000 ≤ b ∧ b ≤ 1000000 then .ok (intsFrom a (b - a).toNat) else .no
  | _ => .no
def mRng (m : Gam → R (List PyData)) : Gam → R (List PyData) := fun Γ => (m Γ).bind rngD
theorem si_range1 {a : Expr} {m : Gam → R (List PyData)} {p pos : Pos} (hm : X.mg "range" = none) (ha : SA X E [a] m) (hg : Gl X "range" := by exact rfl) (hs : starEach [a] X.env = [(false, eval a X.env)] := by rfl) :
    SI X E tg (.Call (.Name "range" p) [a] [] pos) (mRng m) := pi_of (pi_range1 hg hm ha.pa hs) fun σ H Q ⟨B0, Γ, G, sr, po⟩ => ⟨B0, Γ, G, sr, PoI.bind po fun ds vs G1 H1 q g1 dx po1 => by
  have hl := ha.ln Γ ds q
  match ds, hl with
  | [d], _ =>
    cases dx with
    | cons d1 d2 =>
      cases d2
      cases d1 with
      | int n =>
        have po1 : PoI X.K X.mg E G1 H1 Q (if -1000000 ≤ n ∧ n ≤ 1000000 then .ok (intsFrom 0 n.toNat) else .no) := po1
        split at po1
        · exact ⟨n, rfl, by omega, by omega, po1 _ G1 H1 (Gr.refl g1.s) (itd_rng (Nat.le_trans (m := 2000000) (by omega) (by decide)))⟩
        · exact po1.elim
      | _ => exact po1.elim⟩
theorem si_range2 {a b : Expr} {m : Gam → R (List PyData)} {p pos : Pos} (hm : X.mg "range" = none) (ha : SA X E [a, b] m) (hg : Gl X "range" := by exact rfl) (hs : starEach [a, b] X.env = [(false, eval a X.env), (false, eval b X.env)] := by rfl) (hs2 : starEach [b] X.env = [(false, eval b X.env)] := by rfl) :
    SI X E tg (.Call (.Name "range" p) [a, b] [] pos) (mRng m) := pi_of (pi_range2 hg hm ha.pa hs hs2) fun σ H Q ⟨B0, Γ, G, sr, po⟩ => ⟨B0, Γ, G, sr, PoI.bind po fun ds vs G1 H1 q g1 dx po1 => by
  have hl := ha.ln Γ ds q
  match ds, hl with
  | [d, e], _ =>
    cases dx with
    | cons d1 d2 =>
      cases d2 with
      | cons d2 d3 =>
        cases d3
        cases d1 with
        | int a =>
          cases d2 with
          | int b =>
            have po1 : PoI X.K X.mg E G1 H1 Q (if (-1000000 ≤ a ∧ a ≤ 1000000) ∧ -1000000 ≤ b ∧ b ≤ 1000000 then .ok (intsFrom a (b - a).toNat) else .no) := po1
            split at po1
            · exact ⟨a, b, rfl, ⟨by omega, by omega, by omega, by omega⟩, po1 _ G1 H1 (Gr.refl g1.s) (itd_rng (Nat.le_trans (m := 2000000) (by omega) (by decide)))⟩
            · exact po1.elim
          | _ => exact po1.elim
        | _ => cases d2 <;> exact po1.elim⟩
/-- enumerate(list) -/
def enumFrom : Nat → List PyData → List PyData
  | _, [] => []
  | n, d :: ds => .tuple [.int (n : Nat), d] :: enumFrom (n + 1) ds
theorem enumFrom_length : ∀ (n : Nat) (ds : List PyData), (enumFrom n ds).length = ds.length
  | _, [] => rfl
  | n, d :: ds => by simp [enumFrom, enumFrom_length (n + 1) ds]
theorem enumFrom_get : ∀ (n : Nat) (ds : List PyData) (i : Nat), (enumFrom n ds)[i]? = (ds[i]?).map fun d => .tuple [.int ((n + i : Nat) : Int), d]
  | _, [], i => by simp [enumFrom]
  | n, d :: ds, 0 => by simp [enumFrom]
  | n, d :: ds, i + 1 => by
    simp only [enumFrom, List.getElem?_cons_succ, enumFrom_get (n + 1) ds i]
    rw [show n + 1 + i = n + (i + 1) by omega]
theorem itd_enum {K : PySem.W.Frag} {G : Hp} {a : Addr} {xs : List V} {ds : List PyData} (h : SqL K G a xs) (d : DqAll K G xs ds) (z : xs.length ≤ sizeLine) : ItD K (Ite K a) G (enumFrom 0 ds) where
  go := fun i G1 H1 l1 l2 hi => by
    rw [enumFrom_length] at hi
    exact ⟨xs, xs[i]'(by rw [dpa_len d]; exact hi), sql_le l2 (sql_le l1 h), by simp⟩
  stop := fun G1 H1 l1 l2 => ⟨xs, sql_le l2 (sql_le l1 h), by rw [enumFrom_length, dpa_len d]; exact Nat.le_refl _⟩
  sz := by rw [enumFrom_length, ← dpa_len d]; exact z
  yld := fun i G1 H1 x H2 e l1 l2 hd ⟨T, y, e1, hT, e2, q⟩ => by
    subst e1 e2
    have hx := q xs (sql_le l2 (sql_le l1 h))
    rw [enumFrom_get] at hd
    obtain ⟨d', hd', dv⟩ := dpa_get' d hx
    rw [hd'] at hd
    cases hd
    have lu : Le G1 (upd G1 T (.tup [.int (i : Nat), y])) := le_upd (le_none l2 hT)
    refine ⟨upd G1 T (.tup [.int (i : Nat), y]), Gr.new l2 hT, .tup (.inl (.inl upd_same)) (.cons ?_ (.cons (dp_le lu (dp_le l1 dv)) .nil))⟩
    rw [Nat.zero_add]
    exact .int _
def enumD : List PyData → R (List PyData)
  | [.list ds] => .ok (enumFrom 0 ds)
  | _ => .no
def mEnum (m : Gam → R (List PyData)) : Gam → R (List PyData) := fun Γ => (m Γ).bind enumD
theorem si_enum {a : Expr} {m : Gam → R (List PyData)} {elts : List Expr} {kk : Nat} {p pos tpos : Pos} (hm : X.mg "enumerate" = none) (ha : SA X E [a] m) (hg : Gl X "enumerate" := by exact rfl) (hs : starEach [a] X.env = [(false, eval a X.env)] := by rfl) :
    SI X E (.Tuple elts kk tpos) (.Call (.Name "enumerate" p) [a] [] pos) (mEnum m) := pi_of (pi_siz (pi_enum hg hm ha.pa hs)) fun σ H Q ⟨B0, Γ, G, sr, po⟩ => ⟨B0, Γ, G, sr, PoI.bind po fun ds vs G1 H1 q g1 dx po1 => by
  have hl := ha.ln Γ ds q
  match ds, hl with
  | [d], _ =>
    cases dx with
    | cons d1 d2 =>
      cases d2
      cases d1 with
      | lst h1 a1 => exact ⟨_, _, rfl, (sq1 g1.s h1), fun zz => po1 _ G1 H1 (Gr.refl g1.s) (itd_enum (.inl (.inl h1)) a1 (zz _ _ (.inl ((sq1 g1.s h1)))))⟩
      | _ => exact po1.elim⟩
/-- zip of two lists, of two tuples -/
def zipL : List PyData → List PyData → List PyData
  | d :: ds, e :: es => .tuple [d, e] :: zipL ds es
  | _, _ => []
theorem zipL_length : ∀ (ds es : List PyData), (zipL ds es).length = min ds.length es.length
  | [], _ => by simp [zipL]
  | _ :: _, [] => by simp [zipL]
  | d :: ds, e :: es => by simp [zipL, zipL_length ds es]
theorem zipL_get : ∀ (ds es : List PyData) (i : Nat) (d e : PyData), ds[i]? = some d → es[i]? = some e → (zipL ds es)[i]? = some (.tuple [d, e])
  | d :: ds, e :: es, 0, _, _, h1, h2 => by simp at h1 h2; subst h1 h2; rfl
  | d :: ds, e :: es, i + 1, x, y, h1, h2 => by
    simp only [zipL, List.getElem?_cons_succ]
    exact zipL_get ds es i x y (by simpa using h1) (by simpa using h2)
  | [], _, i, _, _, h1, _ => by simp at h1
  | _ :: _, [], i, _, _, _, h2 => by simp at h2
def zipD : List PyData → R (List PyData)
  | [.list ds, .list es] => .ok (zipL ds es)
  | [.tuple ds, .tuple es] => .ok (zipL ds es)
  | _ => .no
theorem itd_zip {K : PySem.W.Frag} {G : Hp} {a b : Addr} {xs ys : List V} {ds es : List PyData} (h : SqL K G a xs) (h' : SqL K G b ys) (d : DqAll K G xs ds) (d' : DqAll K G ys es) (z : xs.length ≤ sizeLine) : ItD K (Itz K a b) G (zipL ds es) where
  go := fun i G1 H1 l1 l2 hi => by
    rw [zipL_length] at hi
    have e1 := dpa_len d
    have e2 := dpa_len d'
    exact ⟨xs, ys, xs[i]'(by omega), ys[i]'(by omega), sql_le l2 (sql_le l1 h), sql_le l2 (sql_le l1 h'), by simp, by simp⟩
  stop := fun G1 H1 l1 l2 => by
    have e1 := dpa_len d
    have e2 := dpa_len d'
    exact ⟨xs, ys, sql_le l2 (sql_le l1 h), sql_le l2 (sql_le l1 h'), by rw [zipL_length]; omega⟩
  sz := by rw [zipL_length, ← dpa_len d]; omega
  yld := fun i G1 H1 x H2 e l1 l2 hd ⟨T, y, y', e1, hT, e2, q, q'⟩ => by
    subst e1 e2
    obtain ⟨d1, hd1, dv1⟩ := dpa_get' d (q xs (sql_le l2 (sql_le l1 h)))
    obtain ⟨d2, hd2, dv2⟩ := dpa_get' d' (q' ys (sql_le l2 (sql_le l1 h')))
    rw [zipL_get ds es i d1 d2 hd1 hd2] at hd
    cases hd
    have lu : Le G1 (upd G1 T (.tup [y, y'])) := le_upd (le_none l2 hT)
    exact ⟨_, Gr.new l2 hT, .tup (.inl (.inl upd_same)) (.cons (dp_le lu (dp_le l1 dv1)) (.cons (dp_le lu (dp_le l1 dv2)) .nil))⟩
theorem itd_zipT {K : PySem.W.Frag} {G : Hp} {a b : Addr} {xs ys : List V} {ds es : List PyData} (h : SqT K G a xs) (h' : SqT K G b ys) (d : DqAll K G xs ds) (d' : DqAll K G ys es) (z : xs.length ≤ sizeLine) : ItD K (RZ.ItzT K a b) G (zipL ds es) where
  go := fun i G1 H1 l1 l2 hi => by
    rw [zipL_length] at hi
    have e1 := dpa_len d
    have e2 := dpa_len d'
    exact ⟨xs, ys, xs[i]'(by omega), ys[i]'(by omega), sqt_le l2 (sqt_le l1 h), sqt_le l2 (sqt_le l1 h'), by simp, by simp⟩
  stop := fun G1 H1 l1 l2 => by
    have e1 := dpa_len d
    have e2 := dpa_len d'
    exact ⟨xs, ys, sqt_le l2 (sqt_le l1 h), sqt_le l2 (sqt_le l1 h'), by rw [zipL_length]; omega⟩
  sz := by rw [zipL_length, ← dpa_len d]; omega
  yld := fun i G1 H1 x H2 e l1 l2 hd ⟨T, y, y', e1, hT, e2, q, q'⟩ => by
    subst e1 e2
    obtain ⟨d1, hd1, dv1⟩ := dpa_get' d (q xs (sqt_le l2 (sqt_le l1 h)))
    obtain ⟨d2, hd2, dv2⟩ := dpa_get' d' (q' ys (sqt_le l2 (sqt_le l1 h')))
    rw [zipL_get ds es i d1 d2 hd1 hd2] at hd
    cases hd
    have lu : Le G1 (upd G1 T (.tup [y, y'])) := le_upd (le_none l2 hT)
    exact ⟨_, Gr.new l2 hT, .tup (.inl (.inl upd_same)) (.cons (dp_le lu (dp_le l1 dv1)) (.cons (dp_le lu (dp_le l1 dv2)) .nil))⟩
def mZip (m : Gam → R (List PyData)) : Gam → R (List PyData) := fun Γ => (m Γ).bind zipD
theorem si_zip {a b : Expr} {m : Gam → R (List PyData)} {elts : List Expr} {kk : Nat} {p pos tpos : Pos} (hm : X.mg "zip" = none) (ha : SA X E [a, b] m) (hg : Gl X "zip" := by exact rfl) (hs : starEach [a, b] X.env = (false, eval a X.env) :: starEach [b] X.env := by rfl) (hpl : (backTo pos (starEach [b] X.env)).any (·.1) = false := by rfl) :
    SI X E (.Tuple elts kk tpos) (.Call (.Name "zip" p) [a, b] [] pos) (mZip m) := pi_of (pi_siz (RZ.pi_zipA hg hm ha.pa hs hpl)) fun σ H Q ⟨B0, Γ, G, sr, po⟩ => ⟨B0, Γ, G, sr, PoI.bind po fun ds vs G1 H1 q g1 dx po1 => by
  have hl := ha.ln Γ ds q
  match ds, hl with
  | [d, e], _ =>
    cases dx with
    | cons d1 d2 =>
      cases d2 with
      | cons d2 d3 =>
        cases d3
        cases d1 with
        | lst h1 a1 =>
          cases d2 with
          | lst h2 a2 => exact ⟨_, _, _, _, rfl, .inl ⟨(sq1 g1.s h1), (sq1 g1.s h2), fun zz => po1 _ G1 H1 (Gr.refl g1.s) (itd_zip (.inl (.inl h1)) (.inl (.inl h2)) a1 a2 (zz _ _ (.inl ((sq1 g1.s h1)))))⟩⟩
          | _ => exact po1.elim
        | tup h1 a1 =>
          cases d2 with
          | tup h2 a2 => exact ⟨_, _, _, _, rfl, .inr ⟨sqt_le g1.s h1, sqt_le g1.s h2, fun zz => po1 _ G1 H1 (Gr.refl g1.s) (itd_zipT h1 h2 a1 a2 (zz _ _ (.inr (sqt_le g1.s h1))))⟩⟩
          | _ => exact po1.elim
        | _ => cases d2 <;> exact po1.elim⟩
end

/-! ### targets -/
abbrev Bd := PyData → Gam → Option Gam
def bName (i : Nat) : Bd := fun d Γ => some (Γ.set i (.v d))
def bAll : List Bd → List PyData → Gam → Option Gam
  | [], [], Γ => some Γ
  | b :: bs, d :: ds, Γ => (b d Γ).bind fun Γ1 => bAll bs ds Γ1
  | _, _, _ => none
def bTup (bs : List Bd) : Bd := fun d Γ => match d with
  | .tuple ds => bAll bs ds Γ
  | _ => none
/-- only the slots `is` have changed -/
def Wp (is : List Nat) (σ σ' : L2.St) : Prop := ∀ vs : List Nat, (∀ i ∈ is, i ∈ vs) → wipe σ' vs = wipe σ vs
theorem wipe_get (σ : L2.St) : ∀ (vs : List Nat) (j : Nat), (wipe σ vs)[j]? = if j ∈ vs ∧ j < σ.length then some none else σ[j]?
  | [], j => by simp [wipe]
  | v :: vs, j => by
    unfold wipe
    rw [List.getElem?_set, wipe_length, wipe_get σ vs j]
    by_cases h1 : v = j
    · subst h1
      by_cases h2 : v < σ.length
      · simp [h2]
      · simp [h2, List.getElem?_eq_none (Nat.le_of_not_lt h2)]
    · simp [h1, Ne.symm h1]
theorem wp_set {σ : L2.St} {i : Nat} {x : Option V} : Wp [i] σ (σ.set i x) := fun vs h => by
  apply List.ext_getElem?
  intro j
  rw [wipe_get, wipe_get, List.length_set, List.getElem?_set]
  have hi := h i (by simp)
  by_cases e : i = j
  · subst e
    by_cases l : i < σ.length
    · simp [hi, l]
    · simp [l, List.getElem?_eq_none (Nat.le_of_not_lt l)]
  · simp [e]
theorem Wp.trans {is js : List Nat} {σ σ1 σ2 : L2.St} (a : Wp is σ σ1) (b : Wp js σ1 σ2) : Wp (is ++ js) σ σ2 := fun vs h =>
  (b vs fun i hi => h i (List.mem_append_right _ hi)).trans (a vs fun i hi => h i (List.mem_append_left _ hi))
def tG (K : PySem.W.Frag) (is : List Nat) (b : Bd) : TG := fun v σ H Q => ∃ B Γ G d, SR K B G H σ Γ ∧ Dq K G v d ∧ match b d Γ with
  | some Γ' => ∀ σ', SR K B G H σ' Γ' → Wp is σ σ' → Q σ' H
  | none => False
def tGs (K : PySem.W.Frag) (is : List Nat) (bs : List Bd) : TGs := fun vs σ H Q => ∃ B Γ G ds, SR K B G H σ Γ ∧ DqAll K G vs ds ∧ match bAll bs ds Γ with
  | some Γ' => ∀ σ', SR K B G H σ' Γ' → Wp is σ σ' → Q σ' H
  | none => False
abbrev SG (X : Cx) (tg : Expr) (is : List Nat) (b : Bd) : Prop := PG X tg (tG X.K is b)
structure SGs (X : Cx) (tgs : List Expr) (is : List Nat) (bs : List Bd) : Prop where
  pg : PGs X tgs (tGs X.K is bs)
  ln : bs.length = tgs.length
theorem pg_of {X : Cx} {tg : Expr} {t t' : TG} (h : PG X tg t) (i : ∀ v σ H Q, t' v σ H Q → t v σ H Q) : PG X tg t' := ⟨fun pins s σ H v u Q I r q => h.run pins s σ H v u Q I r (i v σ H Q q)⟩
theorem pgs_of {X : Cx} {tg : List Expr} {t t' : TGs} (h : PGs X tg t) (i : ∀ v σ H Q, t' v σ H Q → t v σ H Q) : PGs X tg t' := ⟨fun pins s σ H v u Q I r q => h.run pins s σ H v u Q I r (i v σ H Q q)⟩
section
variable {X : Cx} {pos : Pos}
theorem sg_name (i : Nat) {x : Str} (hN : X.N.Nodup) (hi : X.N[i]? = some x := by rfl) (hx : Loc X.env.scope x := by first | exact .inl rfl | exact .inr rfl) (hf : X.fn x = true ∨ X.env.scope.names.lookup x = some .local := by first | exact .inl rfl | exact .inr rfl | assumption) : SG X (.Name x pos) [i] (bName i) :=
  pg_of (pg_name hN hi hx hf) fun v σ H Q ⟨B, Γ, G, d, sr, dv, q⟩ => q _ (sr.setV dv) wp_set
theorem sgs_nil : SGs X [] [] [] := ⟨pgs_of pgs_nil fun vs σ H Q ⟨B, Γ, G, ds, sr, dv, q⟩ => by
  cases dv with
  | nil => exact ⟨rfl, q _ sr fun _ _ => rfl⟩
  | cons => exact q.elim, rfl⟩
theorem sgs_cons {e : Expr} {es : List Expr} {b : Bd} {bs : List Bd} {is js : List Nat} (h1 : SG X e is b) (h2 : SGs X es js bs)
    (hs : (assignEach (e :: es) X.env).map (·.2) = assign e X.env :: (assignEach es X.env).map (·.2) := by rfl) : SGs X (e :: es) (is ++ js) (b :: bs) := ⟨pgs_of (pgs_cons h1 h2.pg hs) fun vs σ H Q ⟨B, Γ, G, ds, sr, dv, q⟩ => by
  cases dv with
  | nil => exact q.elim
  | @cons v vs d ds d1 d2 =>
    refine ⟨v, vs, rfl, B, Γ, G, d, sr, d1, ?_⟩
    have q : match (b d Γ).bind fun Γ1 => bAll bs ds Γ1 with
      | some Γ' => ∀ σ', SR X.K B G H σ' Γ' → Wp (is ++ js) σ σ' → Q σ' H
      | none => False := q
    cases e : b d Γ with
    | none => rw [e] at q; exact q.elim
    | some Γ1 =>
      rw [e] at q
      have q : match bAll bs ds Γ1 with
        | some Γ' => ∀ σ', SR X.K B G H σ' Γ' → Wp (is ++ js) σ σ' → Q σ' H
        | none => False := q
      refine fun σ' sr' w1 => ⟨B, Γ1, G, ds, sr', d2, ?_⟩
      cases e2 : bAll bs ds Γ1 with
      | none => rw [e2] at q; exact q.elim
      | some Γ2 =>
        rw [e2] at q
        exact fun σ2 sr2 w2 => q σ2 sr2 (w1.trans w2), by simp [h2.ln]⟩
theorem sg_tup {es : List Expr} {k : Nat} {bs : List Bd} {is : List Nat} (hc : X.calm = true) (h : SGs X es is bs)
    (hn : (assignEach es X.env).length = bs.length := by rfl) (hst : (assignEach es X.env).findIdx? (·.1) = none := by rfl) : SG X (.Tuple es k pos) is (bTup bs) :=
  pg_of (pg_tup hc h.pg hn hst) fun v σ H Q ⟨B, Γ, G, d, sr, dv, q⟩ => by
    cases dv with
    | @tup a xs ds h1 a1 =>
      refine ⟨a, xs, rfl, sqt_le sr.sub h1, ?_, B, Γ, G, ds, sr, a1, q⟩
      rw [dpa_len a1]
      have go : ∀ (bs : List Bd) (ds : List PyData) (Γ : Gam), bAll bs ds Γ ≠ none → ds.length = bs.length := by
        intro bs
        induction bs with
        | nil => intro ds Γ h; cases ds with
          | nil => rfl
          | cons => exact absurd rfl h
        | cons b bs ih => intro ds Γ h; cases ds with
          | nil => exact absurd rfl h
          | cons d ds =>
            cases e : b d Γ with
            | none => simp [bAll, e] at h
            | some Γ1 => simp [bAll, e] at h; simp [ih ds Γ1 h]
      refine go bs ds Γ fun z => ?_
      have q : match bAll bs ds Γ with
        | some Γ' => ∀ σ', SR X.K B G H σ' Γ' → Wp is σ σ' → Q σ' H
        | none => False := q
      rw [z] at q
      exact q
    | _ => exact q.elim
end
end PD

/-! The data layer: comprehensions, statements. -/
namespace PD
open PySem PySem.Spec PyProof.Rows L2

/-! ### a comprehension -/
def wpG (Γ : Gam) : List Nat → Gam
  | [] => Γ
  | v :: vs => (wpG Γ vs).set v .no
@[simp] theorem wpG_nil (Γ : Gam) : wpG Γ [] = Γ := rfl
@[simp] theorem wpG_cons (Γ : Gam) (v : Nat) (vs : List Nat) : wpG Γ (v :: vs) = (wpG Γ vs).set v .no := rfl
def lcGo (b : Bd) (mt : Gam → R Bool) (me : M) (Γ : Gam) : List PyData → R (List PyData)
  | [] => .ok []
  | d :: ds => match b d Γ with
    | none => .no
    | some Γ1 => match mt Γ1 with
      | .ok true => match me Γ1 with
        | .ok y => match lcGo b mt me Γ ds with
          | .ok ys => .ok (y :: ys)
          | _ => .no
        | _ => .no
      | .ok false => lcGo b mt me Γ ds
      | _ => .no
def mLc (own : List Nat) (ms : Gam → R (List PyData)) (b : Bd) (mt : Gam → R Bool) (me : M) : Gam → R (List PyData) := fun Γ => (ms Γ).bind fun ds => lcGo b mt me (wpG Γ own) ds
section
variable {K : PySem.W.Frag} {B G H : Hp} {σ : L2.St} {Γ : Gam}
theorem SR.setN (s : SR K B G H σ Γ) (i : Nat) : SR K B G H (σ.set i none) (Γ.set i .no) := by
  have old : ∀ j, gat (Γ.set i .no) j ≠ .no → j ≠ i ∧ gat (Γ.set i .no) j = gat Γ j ∧ (σ.set i none)[j]? = σ[j]? := fun j h => by
    have ji : j ≠ i := fun e => by
      subst e
      rw [gat_set] at h
      split at h
      · exact h rfl
      · rename_i z
        by_cases l : j < Γ.length
        · exact z ⟨rfl, l⟩
        · exact h (gat_ge (Nat.le_of_not_lt l))
    refine ⟨ji, ?_, List.getElem?_set_ne (Ne.symm ji)⟩
    rw [gat_set, if_neg (fun z => ji z.1)]
  refine ⟨s.sub, by simp [s.len], fun j d h => ?_, fun j ds h => ?_, fun j l ds es p h1 h2 a1 a2 => ?_, fun j ds p h a => ?_, fun j u h => ?_⟩
  · obtain ⟨_, e1, e2⟩ := old j (by rw [h]; simp)
    rw [e2]; exact s.val j d (e1 ▸ h)
  · obtain ⟨_, e1, e2⟩ := old j (by rw [h]; simp)
    rw [e2]; exact s.own j ds (e1 ▸ h)
  · obtain ⟨_, e1, e2⟩ := old j (by rw [h1]; simp)
    obtain ⟨_, e3, e4⟩ := old l (by rw [h2]; simp)
    rw [e2] at a1; rw [e4] at a2
    exact s.inj j l ds es p (e1 ▸ h1) (e3 ▸ h2) a1 a2
  · obtain ⟨_, e1, e2⟩ := old j (by rw [h]; simp)
    rw [e2] at a
    exact s.nw j ds p (e1 ▸ h) a
  · obtain ⟨_, e1, e2⟩ := old j (by rw [h]; simp)
    rw [e2]
    exact s.adr j u (e1 ▸ h)
theorem SR.wipe (s : SR K B G H σ Γ) : ∀ vs : List Nat, SR K B G H (L2.wipe σ vs) (wpG Γ vs)
  | [] => s
  | v :: vs => (SR.wipe s vs).setN v
end
abbrev STs (X : Cx) (E : XK) (ifs : List Expr) (m : Gam → R Bool) : Prop := PTs X ifs (tX X.K RB X.mg E m)
def mT : Gam → R Bool := fun _ => .ok true
theorem pts_of {X : Cx} {e : List Expr} {t t' : TT} (h : PTs X e t) (i : ∀ σ H Q, t' σ H Q → t σ H Q) : PTs X e t' := ⟨fun pins s σ H Q I q => h.run pins s σ H Q I (i σ H Q q)⟩
theorem sts_nil {X : Cx} {E : XK} : STs X E [] mT := pts_of pts_nil fun σ H Q ⟨B, Γ, G, sr, po⟩ => Po.ok (Rl := RB) (d := true) (x := true) po sr.sub rfl
theorem sts_one {X : Cx} {E : XK} {c : Expr} {m : Gam → R Bool} (h : ST X E c m) : STs X E [c] m := pts_one h
theorem lcGo_noex {b : Bd} {mt : Gam → R Bool} {me : M} {Γ : Gam} {c : Str} : ∀ {ds : List PyData}, lcGo b mt me Γ ds ≠ .ex c
  | [], h => by cases h
  | d :: ds, h => by
    unfold lcGo at h
    split at h
    · cases h
    · split at h
      · split at h
        · split at h <;> cases h
        · cases h
      · exact lcGo_noex h
      · cases h
/-- the reading of a comprehension -/
theorem tLc_of {K : PySem.W.Frag} {mg : Str → Option Value} {E : XK} {own is : List Nat} {ms : Gam → R (List PyData)} {b : Bd} {mt : Gam → R Bool} {me : M} {σ : L2.St} {H : Hp} {Q : VK} (his : ∀ i ∈ is, i ∈ own)
    (h : tL K mg E (mLc own ms b mt me) σ H Q) : tLc (tIt K mg E ms) (tG K is b) (tX K RB mg (fun _ _ _ => False) mt) (tX K (Dq K) mg (fun _ _ _ => False) me) own σ H Q := by
  obtain ⟨B, Γ, G, sr, po⟩ := h
  refine ⟨B, Γ, G, sr, ?_⟩
  unfold mLc at po
  cases q : ms Γ with
  | no => rw [q] at po; exact po
  | ex c => rw [q] at po; exact po
  | ok ds =>
    rw [q, R.bind_ok] at po
    intro J G1 H1 g1 it D hD
    have hGD : G1 D = none := le_none g1.s hD
    have hBD : ∀ u, H1 D = some u → False := fun u e => by rw [hD] at e; cases e
    refine ⟨fun i m Hc => m = ds.length - i ∧ i ≤ ds.length ∧ ∃ Gi acc ys zs, SR K B Gi Hc (L2.wipe σ own) (wpG Γ own) ∧ Le G1 Gi ∧ Le H1 Hc ∧ (∀ a, H1 a ≠ none → G1 a = none → Gi a = none) ∧ Gi D = none ∧
      Hc D = some (.lst acc) ∧ DqAll K Gi acc ys ∧ ys.length ≤ i ∧ lcGo b mt me (wpG Γ own) (ds.drop i) = .ok zs ∧ lcGo b mt me (wpG Γ own) ds = .ok (ys ++ zs), ?_, ?_⟩
    · cases e : lcGo b mt me (wpG Γ own) ds with
      | ok zs =>
        exact ⟨ds.length, by simp, Nat.zero_le _, G1, [], [], zs, ((sr.gr g1).gr (Gr.grow g1.s (le_upd hD))).wipe own, fun _ _ z => z, le_upd hD, fun _ _ z => z, hGD, upd_same, .nil, Nat.le_refl _, by simpa using e, by simpa using e⟩
      | ex c => exact absurd e lcGo_noex
      | no => rw [e] at po; exact po.elim
    · rintro i m Hc ⟨rfl, hi, Gi, acc, ys, zs, sri, l1, l2, fr, hgd, hcd, dac, hys, hz, hall⟩
      by_cases hlt : i < ds.length
      · refine .inr ⟨it.go i Gi Hc l1 sri.sub hlt, fun H' => ∃ Gi acc ys zs, SR K B Gi H' (L2.wipe σ own) (wpG Γ own) ∧ Le G1 Gi ∧ Le H1 H' ∧ (∀ a, H1 a ≠ none → G1 a = none → Gi a = none) ∧ Gi D = none ∧
          H' D = some (.lst acc) ∧ DqAll K Gi acc ys ∧ ys.length ≤ i + 1 ∧ lcGo b mt me (wpG Γ own) (ds.drop (i + 1)) = .ok zs ∧ lcGo b mt me (wpG Γ own) ds = .ok (ys ++ zs), fun H' w => ⟨ds.length - (i + 1), by omega, rfl, hlt, w⟩, fun x H' hy => ?_⟩
        obtain ⟨d, hd⟩ : ∃ d, ds[i]? = some d := ⟨ds[i], by simp [hlt]⟩
        have hdrop : ds.drop i = d :: ds.drop (i + 1) := by
          rw [List.drop_eq_getElem_cons hlt]
          have : ds[i] = d := by simpa [hlt] using hd
          rw [this]
        obtain ⟨G2, g2, dx⟩ := it.yld i Gi Hc x H' d l1 sri.sub hd hy
        rw [hdrop] at hz
        unfold lcGo at hz
        refine ⟨B, wpG Γ own, G2, d, sri.gr g2, dx, ?_⟩
        split at hz
        · cases hz
        · rename_i Γ1 eb
          rw [eb]
          intro σ2 sr2 w2
          have hw : L2.wipe σ2 own = L2.wipe σ own := by
            rw [w2 own his]
            apply List.ext_getElem?
            intro j
            rw [wipe_get, wipe_length, wipe_get]
            by_cases h1 : j ∈ own ∧ j < σ.length
            · simp [h1]
            · simp [h1]
          have hww : ∀ {s2 : L2.St}, L2.wipe s2 own = L2.wipe σ own → L2.wipe (L2.wipe σ own) own = L2.wipe σ own := fun _ => by
            apply List.ext_getElem?
            intro j
            rw [wipe_get, wipe_length, wipe_get]
            by_cases h1 : j ∈ own ∧ j < σ.length
            · simp [h1]
            · simp [h1]
          refine ⟨hw, B, Γ1, G2, sr2, ?_⟩
          cases et : mt Γ1 with
          | no => rw [et] at hz; cases hz
          | ex c => rw [et] at hz; cases hz
          | ok k =>
            rw [et] at hz
            intro k' G3 H3 g3 ek
            have ek : k' = k := ek
            subst ek
            have l3 : Le G1 G3 := le_trans l1 (le_trans g2.g g3.g)
            have hl3 : Le H1 H3 := le_trans l2 (le_trans g2.h g3.h)
            have hH2 : H' D = some (.lst acc) := g2.h _ _ hcd
            have hH3 : H3 D = some (.lst acc) := g3.h _ _ hH2
            have hg2 : G2 D = none := g2.fr D (by rw [hcd]; simp) hgd
            have hg3 : G3 D = none := g3.fr D (by rw [hH2]; simp) hg2
            have fr3 : ∀ a, H1 a ≠ none → G1 a = none → G3 a = none := fun a h1 h2 => by
              have n1 : ∀ {Hx : Hp}, Le H1 Hx → Hx a ≠ none := fun {Hx} l z => h1 (le_none l z)
              exact g3.fr a (n1 (le_trans l2 g2.h)) (g2.fr a (n1 l2) (fr a h1 h2))
            cases k' with
            | false =>
              rw [if_neg Bool.false_ne_true]
              exact ⟨G3, acc, ys, zs, (sri.gr g2).gr g3, l3, hl3, fr3, hg3, hH3, dpa_le (le_trans g2.g g3.g) dac, Nat.le_succ_of_le hys, hz, hall⟩
            | true =>
              rw [if_pos rfl]
              refine ⟨B, Γ1, G3, sr2.gr g3, ?_⟩
              dsimp only at hz
              cases ee : me Γ1 with
              | no => rw [ee] at hz; cases hz
              | ex c => rw [ee] at hz; cases hz
              | ok y =>
                rw [ee] at hz
                dsimp only at hz
                intro yv G4 H4 g4 dy
                have hH4 : H4 D = some (.lst acc) := g4.h _ _ hH3
                have hg4 : G4 D = none := g4.fr D (by rw [hH3]; simp) hg3
                have fr4 : ∀ a, H1 a ≠ none → G1 a = none → G4 a = none := fun a h1 h2 => g4.fr a (fun z => h1 (le_none hl3 z)) (fr3 a h1 h2)
                cases ez : lcGo b mt me (wpG Γ own) (ds.drop (i + 1)) with
                | no => rw [ez] at hz; cases hz
                | ex c => rw [ez] at hz; cases hz
                | ok zs' =>
                  rw [ez] at hz
                  cases hz
                  have hsz := it.sz
                  have hal := dpa_len dac
                  have s4 : SR K B G4 H4 (L2.wipe σ own) (wpG Γ own) := ((sri.gr g2).gr g3).gr g4
                  refine ⟨acc, hH4, by omega, G4, acc ++ [yv], ys ++ [y], zs', ⟨fun a u e => ?_, s4.len, s4.val, fun j es z => ?_, s4.inj, s4.nw, s4.adr⟩, le_trans l3 g4.g, fun a u e => ?_, fr4, hg4, upd_same, dpa_append (dpa_le (le_trans (le_trans g2.g g3.g) g4.g) dac) (dpa_one dy), by simp; omega, rfl, by simpa using hall⟩
                  · have ne : a ≠ D := fun z => by subst z; rw [hg4] at e; cases e
                    rw [upd_ne ne]; exact s4.sub a u e
                  · obtain ⟨p, xs, e1, e2, e3, e4⟩ := s4.own j es z
                    obtain ⟨p0, xs0, f1, f2, f3, f4⟩ := (sr.wipe own).own j es z
                    have ep : p = p0 := by rw [e1] at f1; cases f1; rfl
                    have ne : p ≠ D := fun z => by
                      subst ep
                      rw [z] at f2
                      exact hBD _ (g1.h _ _ f2)
                    exact ⟨p, xs, e1, by rw [upd_ne ne]; exact e2, e3, e4⟩
                  · have ne : a ≠ D := fun z => by subst z; exact hBD u e
                    rw [upd_ne ne]; exact g4.h _ _ (hl3 _ _ e)
      · have ei : i = ds.length := by omega
        subst ei
        rw [List.drop_length] at hz
        cases hz
        rw [hall] at po
        rw [List.append_nil] at po
        refine .inl ⟨it.stop Gi Hc l1 sri.sub, ?_⟩
        refine po D acc Gi Hc ⟨le_trans g1.g l1, le_trans g1.h l2, sri.sub, fun a h1 h2 => ?_⟩ (le_none g1.h hD) hcd hgd dac
        exact fr a (fun z => h1 (le_none g1.h z)) (g1.fr a h1 h2)
theorem blkc {N : List Str} {sc scope : Scope} {own : List (Str × Nat)} (h : blkC N sc scope own = true) : blkC N sc scope own = true := h
section
variable {X : Cx} {E : XK}
theorem sl_lc {elt tg iter : Expr} {ifs : List Expr} {scope : Scope} {own : List (Str × Nat)} {is : List Nat} {pos : Pos} {ms : Gam → R (List PyData)} {b : Bd} {mt : Gam → R Bool} {me : M} (hc : X.calm = true) (hN : X.N.Nodup) (hi : SI X E tg iter ms) (ok : blkC X.N X.env.scope scope own = true)
    (hg : ∀ (s : Shared) (H : Hp) (C : Addr) (cl : List (Str × Addr)) (fp : List Addr), SG (X.blk s H scope (compEnvC scope cl C X.env) fp) tg is b) (ht : ∀ (s : Shared) (H : Hp) (C : Addr) (cl : List (Str × Addr)) (fp : List Addr), STs (X.blk s H scope (compEnvC scope cl C X.env) fp) E0 ifs mt)
    (he : ∀ (s : Shared) (H : Hp) (C : Addr) (cl : List (Str × Addr)) (fp : List Addr), SE (X.blk s H scope (compEnvC scope cl C X.env) fp) E0 elt me) (his : ∀ i ∈ is, i ∈ own.map (·.2)) (hs : ∀ x, foldedSetIterable iter X.env x = pure x := by intro _; rfl) :
    SL X E (.ListComp elt [⟨tg, iter, ifs, 0⟩] scope pos) (mLc (own.map (·.2)) ms b mt me) := pe_of (pe_lc hc hN hi (blkOk_by ok) hg ht he hs) fun σ H Q h => tLc_of his h
end
end PD

/-! The data layer: statements. -/
namespace PD
open PySem PySem.Spec PyProof.Rows L2

inductive Out where
  | nx (Γ : Gam)
  | bk (Γ : Gam)
  | ct (Γ : Gam)
  | rt (d : PyData)
  | ex (c : Str)
  | no
abbrev MS := Gam → Out
/-- the state within a def that was entered at (G0, H0) -/
structure SZ (K : PySem.W.Frag) (G0 H0 G H : Hp) (σ : L2.St) (Γ : Gam) : Prop where
  sr : SR K H0 G H σ Γ
  gr : Gr G0 H0 G H
def PoS (K : PySem.W.Frag) (mg : Str → Option Value) (E : XK) (G0 H0 : Hp) (D : Ends) : Out → Prop
  | .nx Γ => ∀ σ' G' H', SZ K G0 H0 G' H' σ' Γ → D.nx σ' H'
  | .bk Γ => ∀ σ' G' H', SZ K G0 H0 G' H' σ' Γ → D.bk σ' H'
  | .ct Γ => ∀ σ' G' H', SZ K G0 H0 G' H' σ' Γ → D.ct σ' H'
  | .rt d => ∀ x G' H', Gr G0 H0 G' H' → Dq K G' x d → D.rt x H'
  | .ex c => ∀ H', Le H0 H' → E (cV mg c) none H'
  | .no => False
def tS (K : PySem.W.Frag) (mg : Str → Option Value) (E : XK) (m : MS) : TS := fun D σ H => ∃ G0 H0 G Γ, SZ K G0 H0 G H σ Γ ∧ PoS K mg E G0 H0 D (m Γ)
abbrev SS (X : Cx) (E : XK) (st : Stmt) (m : MS) : Prop := PS X st (tS X.K X.mg E m)
abbrev SB (X : Cx) (E : XK) (st : List Stmt) (m : MS) : Prop := PSs X st (tS X.K X.mg E m)
theorem ps_of {X : Cx} {st : Stmt} {t t' : TS} (h : PS X st t) (i : ∀ D σ H, t' D σ H → t D σ H) : PS X st t' := ⟨fun pins s σ H D I q => h.run pins s σ H D I (i D σ H q)⟩
theorem pss_of {X : Cx} {st : List Stmt} {t t' : TS} (h : PSs X st t) (i : ∀ D σ H, t' D σ H → t D σ H) : PSs X st t' := ⟨fun pins s σ H D I q => h.run pins s σ H D I (i D σ H q)⟩
section
variable {K : PySem.W.Frag} {mg : Str → Option Value} {G0 H0 G H G' H' : Hp} {σ : L2.St} {Γ : Gam}
theorem SZ.go (s : SZ K G0 H0 G H σ Γ) (g : Gr G H G' H') : SZ K G0 H0 G' H' σ Γ := ⟨s.sr.gr g, s.gr.trans g⟩
theorem SZ.setV (s : SZ K G0 H0 G H σ Γ) {i : Nat} {x : V} {d : PyData} (h : Dq K G x d) : SZ K G0 H0 G H (σ.set i (some x)) (Γ.set i (.v d)) := ⟨s.sr.setV h, s.gr⟩
theorem SZ.fzs (s : SZ K G0 H0 G H σ Γ) (l : List Nat) : ∃ G1, Le G G1 ∧ SZ K G0 H0 G1 H σ (fz l Γ) := by
  obtain ⟨G1, l1, s1, f1⟩ := s.sr.fzs l (Gr.refl s.sr.sub)
  exact ⟨G1, l1, s1, ⟨le_trans s.gr.g l1, s.gr.h, s1.sub, fun a h1 h2 => f1 a h1 (s.gr.fr a h1 h2)⟩⟩
end
/-- a datum without objects of its own -/
def flatD : PyData → Bool
  | .list _ => false
  | .tuple _ => false
  | .dict _ => false
  | _ => true
theorem dq_flat {K : PySem.W.Frag} {G G' : Hp} {v : V} {d : PyData} (h : Dq K G v d) (f : flatD d = true) : Dq K G' v d := by
  cases h with
  | non => exact .non
  | bl b => exact .bl b
  | int i => exact .int i
  | str x => exact .str x
  | lst _ _ => cases f
  | tup _ _ => cases f
  | scr _ => cases f
  | dct _ => cases f
  | dsk _ _ _ _ => cases f
  | dsl _ _ _ _ => cases f
/-- evaluate, the slots l shared for that time; shared for good where the value is an object -/
def mEv (l : List Nat) (m : M) (Γ : Gam) (k : PyData → Gam → Out) : Out := match m (fz l Γ) with
  | .ok d => k d (if flatD d then Γ else fz l Γ)
  | .ex c => .ex c
  | .no => .no
def mEvB (l : List Nat) (m : Gam → R Bool) (Γ : Gam) (k : Bool → Out) : Out := match m (fz l Γ) with
  | .ok b => k b
  | .ex c => .ex c
  | .no => .no
def mEvL (l : List Nat) (m : Gam → R (List PyData)) (Γ : Gam) (k : List PyData → Out) : Out := match m (fz l Γ) with
  | .ok b => k b
  | .ex c => .ex c
  | .no => .no
section
variable {K : PySem.W.Frag} {mg : Str → Option Value} {E : XK} {G0 H0 G H : Hp} {D : Ends} {σ : L2.St} {Γ : Gam}
theorem ev_core {l : List Nat} {m : M} {k : PyData → Gam → Out} (s : SZ K G0 H0 G H σ Γ) (po : PoS K mg E G0 H0 D (mEv l m Γ k)) {Q : VK}
    (q : ∀ x H' d Γ1 G', Le H H' → SZ K G0 H0 G' H' σ Γ1 → Dq K G' x d → PoS K mg E G0 H0 D (k d Γ1) → Q x H') : tX K (Dq K) mg E m σ H Q := by
  obtain ⟨G1, l1, s1⟩ := s.fzs l
  unfold mEv at po
  refine ⟨H0, fz l Γ, G1, s1.sr, ?_⟩
  cases e : m (fz l Γ) with
  | no => rw [e] at po; exact po.elim
  | ex c => rw [e] at po; exact fun H' lh => po H' (le_trans s.gr.h lh)
  | ok d =>
    rw [e] at po
    intro x G2 H2 g2 dx
    cases f : flatD d with
    | true =>
      simp only [f, if_true] at po
      exact q x H2 d Γ G g2.h (s.go (Gr.grow s.sr.sub g2.h)) (dq_flat dx f) po
    | false =>
      simp only [f, Bool.false_eq_true, if_false] at po
      exact q x H2 d (fz l Γ) G2 g2.h (s1.go g2) dx po
theorem ev_coreB {l : List Nat} {m : Gam → R Bool} {k : Bool → Out} (s : SZ K G0 H0 G H σ Γ) (po : PoS K mg E G0 H0 D (mEvB l m Γ k)) {Q : Bool → Hp → Prop}
    (q : ∀ b H', SZ K G0 H0 G H' σ Γ → PoS K mg E G0 H0 D (k b) → Q b H') : tX K RB mg E m σ H Q := by
  obtain ⟨G1, l1, s1⟩ := s.fzs l
  unfold mEvB at po
  refine ⟨H0, fz l Γ, G1, s1.sr, ?_⟩
  cases e : m (fz l Γ) with
  | no => rw [e] at po; exact po.elim
  | ex c => rw [e] at po; exact fun H' lh => po H' (le_trans s.gr.h lh)
  | ok d =>
    rw [e] at po
    intro x G2 H2 g2 dx
    have dx : x = d := dx
    subst dx
    exact q x H2 (s.go (Gr.grow s.sr.sub g2.h)) po
/-- a new list that becomes a slot's own -/
theorem ev_coreL {l : List Nat} {m : Gam → R (List PyData)} {k : List PyData → Out} (s : SZ K G0 H0 G H σ Γ) (po : PoS K mg E G0 H0 D (mEvL l m Γ k)) {Q : VK}
    (q : ∀ p xs H' ds G', SZ K G0 H0 G' H' σ (fz l Γ) → H p = none → H' p = some (.lst xs) → G' p = none → DqAll K G' xs ds → PoS K mg E G0 H0 D (k ds) → Q (.ref p) H') : tL K mg E m σ H Q := by
  obtain ⟨G1, l1, s1⟩ := s.fzs l
  unfold mEvL at po
  refine ⟨H0, fz l Γ, G1, s1.sr, ?_⟩
  cases e : m (fz l Γ) with
  | no => rw [e] at po; exact po.elim
  | ex c => rw [e] at po; exact fun H' lh => po H' (le_trans s.gr.h lh)
  | ok ds =>
    rw [e] at po
    intro p xs G2 H2 g2 hp hp2 hg2 dx
    exact q p xs H2 ds G2 (s1.go g2) hp hp2 hg2 dx po
end

section
variable {X : Cx} {E : XK} {st : Stmt} {rest : List Stmt} {e : Expr} {m : M} {pos : Pos}
/-! ### blocks -/
def mSeq (a b : MS) : MS := fun Γ => match a Γ with
  | .nx Γ1 => b Γ1
  | o => o
def mSkip : MS := fun Γ => .nx Γ
theorem sb_nil : SB X E [] mSkip := pss_of pss_nil fun D σ H ⟨G0, H0, G, Γ, s, po⟩ => po σ G H s
theorem sb_one {a : MS} (h : SS X E st a) : SB X E [st] a := pss_one h
theorem sb_cons {a b : MS} (h1 : SS X E st a) (h2 : SB X E rest b) : SB X E (st :: rest) (mSeq a b) := pss_of (pss_cons h1 h2) fun D σ H ⟨G0, H0, G, Γ, s, po⟩ => ⟨G0, H0, G, Γ, s, by
  unfold mSeq at po
  cases e : a Γ with
  | nx Γ1 => rw [e] at po; exact fun σ' G' H' s' => ⟨G0, H0, G', Γ1, s', po⟩
  | bk Γ1 => rw [e] at po; exact po
  | ct Γ1 => rw [e] at po; exact po
  | rt d => rw [e] at po; exact po
  | ex c => rw [e] at po; exact po
  | no => rw [e] at po; exact po⟩
theorem ss_pass : SS X E (.Pass pos) mSkip := ps_of ps_pass fun D σ H ⟨G0, H0, G, Γ, s, po⟩ => po σ G H s
def mBreak : MS := fun Γ => .bk Γ
def mCont : MS := fun Γ => .ct Γ
theorem ss_break : SS X E (.Break pos) mBreak := ps_of ps_break fun D σ H ⟨G0, H0, G, Γ, s, po⟩ => po σ G H s
theorem ss_continue : SS X E (.Continue pos) mCont := ps_of ps_continue fun D σ H ⟨G0, H0, G, Γ, s, po⟩ => po σ G H s
/-! ### expressions, return, raise -/
def mDo (l : List Nat) (m : M) : MS := fun Γ => mEv l m Γ fun _ Γ1 => .nx Γ1
theorem ss_expr (l : List Nat) (he : SE X E e m) (hs : swapsWith e none pos.line X.env = pure false := by rfl) : SS X E (.Expr e pos) (mDo l m) :=
  ps_of (ps_expr he hs) fun D σ H ⟨G0, H0, G, Γ, s, po⟩ => ev_core s po fun x H' d Γ1 G' _ s1 dx po1 => po1 σ G' H' s1
def mRet (l : List Nat) (m : M) : MS := fun Γ => mEv l m Γ fun d _ => .rt d
theorem ss_ret (l : List Nat) (he : SE X E e m) : SS X E (.Return (some e) pos) (mRet l m) :=
  ps_of (ps_ret he) fun D σ H ⟨G0, H0, G, Γ, s, po⟩ => ev_core s po fun x H' d Γ1 G' _ s1 dx po1 => po1 x G' H' s1.gr dx
def mRaise (c : Str) : MS := fun _ => .ex c
/-- a class of the text over ValueError -/
structure Exn (K : PySem.W.Frag) (mg : Str → Option Value) (c : Str) : Prop where
  ex : ∃ C, mg c = some (.ref C) ∧ PySem.W.excIn K C [.type "ValueError", .type "Exception", .type "BaseException", .type "object"] "ValueError.__new__" = true ∧ PySem.W.keepIn K (.ref C) = true ∧
    PySem.W.subIn K (.ref C) (.type "BaseException") = some true ∧ PySem.W.typeIn K (.ref C) = some (.type "type")
theorem ss_raise {x c : Str} {j : Nat} {p p2 cpos : Pos} (hc : X.calm = true) (tk : Takes X (fun cls d _ H => E cls d H)) (h : Exn X.K X.mg x) (hg : Gl X x := by exact rfl) (hd : (x == ("__debug__" : Str)) = false := by decide) :
    SS X E (.Raise (some (.Call (.Name x p) [.Constant (.str c) j p2] [] cpos)) none pos) (mRaise x) := by
  obtain ⟨C, h1, h2, h3, h4, h5⟩ := h.ex
  refine ps_of (ps_raise hc tk (pmk_own PySem.F.excBase_ValueError h2 h1 h3 (raises_own h4 h5) hg hd)) fun D σ H ⟨G0, H0, G, Γ, s, po⟩ => ?_
  have q := po H s.gr.h
  unfold cV at q
  rw [h1] at q
  exact q
/-! ### stores -/
def mSet (i : Nat) (l : List Nat) (m : M) : MS := fun Γ => mEv l m Γ fun d Γ1 => .nx (Γ1.set i (.v d))
theorem set_core {K mg} {i : Nat} {l : List Nat} {D : Ends} {σ H} (h : tS K mg E (mSet i l m) D σ H) : tAsg (tX K (Dq K) mg E m) (gName i) D σ H := by
  obtain ⟨G0, H0, G, Γ, s, po⟩ := h
  exact ev_core s po fun x H' d Γ1 G' _ s1 dx po1 => po1 _ G' H' (s1.setV dx)
theorem ss_set (i : Nat) (l : List Nat) {x : Str} {p : Pos} (he : SE X E e m) (hN : X.N.Nodup) (hi : X.N[i]? = some x := by rfl) (hx : Loc X.env.scope x := by first | exact .inl rfl | exact .inr rfl) (hs : swapsWith e (some (.Name x p)) pos.line X.env = pure false := by rfl)
    (hf : X.fn x = true ∨ X.env.scope.names.lookup x = some .local := by first | exact .inl rfl | exact .inr rfl | assumption) : SS X E (.Assign [.Name x p] e pos) (mSet i l m) :=
  ps_of (ps_set hN hi hx he hs hf) fun D σ H h => set_core h
def mOwn (i : Nat) (l : List Nat) (m : Gam → R (List PyData)) : MS := fun Γ => mEvL l m Γ fun ds => .nx ((fz l Γ).set i (.own ds))
theorem own_new {K : PySem.W.Frag} {G0 H0 G H G' H' : Hp} {σ : L2.St} {Γ Γ1 : Gam} {i : Nat} {p : Addr} {xs : List V} {ds : List PyData} (s : SZ K G0 H0 G H σ Γ) (s1 : SZ K G0 H0 G' H' σ Γ1) (hp : H p = none) (hp1 : H' p = some (.lst xs)) (hg : G' p = none) (dx : DqAll K G' xs ds)
    (ho : ∀ j es, gat Γ1 j = .own es → gat Γ j = .own es) : SZ K G0 H0 G' H' (σ.set i (some (.ref p))) (Γ1.set i (.own ds)) :=
  ⟨s1.sr.setO hp1 hg (le_none s.gr.h hp) dx (fun j es _ h1 h2 => by
    obtain ⟨p2, xs2, e1, e2, _⟩ := s.sr.own j es (ho j es h1)
    rw [h2] at e1; cases e1
    rw [hp] at e2; cases e2), s1.gr⟩
theorem fz1_own {i j : Nat} {Γ : Gam} {es : List PyData} (h : gat (fz1 i Γ) j = .own es) : gat Γ j = .own es := by
  unfold fz1 at h
  split at h
  · rw [gat_set] at h
    split at h
    · cases h
    · exact h
  · exact h
theorem fz_own : ∀ {l : List Nat} {j : Nat} {Γ : Gam} {es : List PyData}, gat (fz l Γ) j = .own es → gat Γ j = .own es
  | [], _, _, _, h => h
  | i :: r, _, _, _, h => fz1_own (fz_own (l := r) h)
theorem own_core {K mg} {i : Nat} {l : List Nat} {ml : Gam → R (List PyData)} {D : Ends} {σ H} (h : tS K mg E (mOwn i l ml) D σ H) : tAsg (tL K mg E ml) (gName i) D σ H := by
  obtain ⟨G0, H0, G, Γ, s, po⟩ := h
  exact ev_coreL s po fun p xs H' ds G' s1 hp hp1 hg dx po1 => po1 _ G' H' (own_new s s1 hp hp1 hg dx fun j es => fz_own)
theorem ss_own (i : Nat) (l : List Nat) {x : Str} {p : Pos} {ml : Gam → R (List PyData)} (he : SL X E e ml) (hN : X.N.Nodup) (hi : X.N[i]? = some x := by rfl) (hx : Loc X.env.scope x := by first | exact .inl rfl | exact .inr rfl) (hs : swapsWith e (some (.Name x p)) pos.line X.env = pure false := by rfl)
    (hf : X.fn x = true ∨ X.env.scope.names.lookup x = some .local := by first | exact .inl rfl | exact .inr rfl | assumption) : SS X E (.Assign [.Name x p] e pos) (mOwn i l ml) :=
  ps_of (ps_set hN hi hx he hs hf) fun D σ H h => own_core h
section
variable {elt tg iter : Expr} {ifs : List Expr} {scope : Scope} {own : List (Str × Nat)} {is : List Nat} {lpos : Pos} {ms : Gam → R (List PyData)} {b : Bd} {mt : Gam → R Bool} {me : M}
/-- x = [..], a comprehension on that row, x a local name -/
theorem ss_ownLc (i : Nat) (l : List Nat) {x : Str} {p : Pos} (hc : X.calm = true) (hN : X.N.Nodup) (hi : SI X E tg iter ms) (ok : blkC X.N X.env.scope scope own = true)
    (hg : ∀ (s : Shared) (H : Hp) (C : Addr) (cl : List (Str × Addr)) (fp : List Addr), SG (X.blk s H scope (compEnvC scope cl C X.env) fp) tg is b) (ht : ∀ (s : Shared) (H : Hp) (C : Addr) (cl : List (Str × Addr)) (fp : List Addr), STs (X.blk s H scope (compEnvC scope cl C X.env) fp) E0 ifs mt)
    (he : ∀ (s : Shared) (H : Hp) (C : Addr) (cl : List (Str × Addr)) (fp : List Addr), SE (X.blk s H scope (compEnvC scope cl C X.env) fp) E0 elt me) (his : ∀ i ∈ is, i ∈ own.map (·.2))
    (hy : X.N[i]? = some x := by rfl) (hl : X.env.scope.names.lookup x = some .local := by rfl) (hk : X.env.scope.kind = .function := by rfl) (hp : (p.line == lpos.line) = true := by rfl) (ha : (scope.names.any fun (n, k) => n == x && (k == .local || k == .cell)) = false := by rfl)
    (hs : ∀ x, foldedSetIterable iter X.env x = pure x := by intro _; rfl) :
    SS X E (.Assign [.Name x p] (.ListComp elt [⟨tg, iter, ifs, 0⟩] scope lpos) pos) (mOwn i l (mLc (own.map (·.2)) ms b mt me)) :=
  ps_of (ps_setLc hc hN hy hl (sw_true hk hl hp ha) hi (blkOk_by ok) hg ht he hs) fun D σ H h => tLc_of his (own_core h)
theorem ss_setLc (i : Nat) (l : List Nat) {x : Str} {p : Pos} (hc : X.calm = true) (hN : X.N.Nodup) (hi : SI X E tg iter ms) (ok : blkC X.N X.env.scope scope own = true)
    (hg : ∀ (s : Shared) (H : Hp) (C : Addr) (cl : List (Str × Addr)) (fp : List Addr), SG (X.blk s H scope (compEnvC scope cl C X.env) fp) tg is b) (ht : ∀ (s : Shared) (H : Hp) (C : Addr) (cl : List (Str × Addr)) (fp : List Addr), STs (X.blk s H scope (compEnvC scope cl C X.env) fp) E0 ifs mt)
    (he : ∀ (s : Shared) (H : Hp) (C : Addr) (cl : List (Str × Addr)) (fp : List Addr), SE (X.blk s H scope (compEnvC scope cl C X.env) fp) E0 elt me) (his : ∀ i ∈ is, i ∈ own.map (·.2))
    (hy : X.N[i]? = some x := by rfl) (hl : X.env.scope.names.lookup x = some .local := by rfl) (hk : X.env.scope.kind = .function := by rfl) (hp : (p.line == lpos.line) = true := by rfl) (ha : (scope.names.any fun (n, k) => n == x && (k == .local || k == .cell)) = false := by rfl)
    (hs : ∀ x, foldedSetIterable iter X.env x = pure x := by intro _; rfl) :
    SS X E (.Assign [.Name x p] (.ListComp elt [⟨tg, iter, ifs, 0⟩] scope lpos) pos) (mSet i l (mL (mLc (own.map (·.2)) ms b mt me))) :=
  ps_of (ps_setLc hc hN hy hl (sw_true hk hl hp ha) hi (blkOk_by ok) hg ht he hs) fun D σ H h => tLc_of his (by
    obtain ⟨B, Γ, G, sr, po⟩ : tX X.K (Dq X.K) X.mg E (mL (mLc (own.map (·.2)) ms b mt me)) σ H fun x H1 => gName i x σ H1 D.nx := set_core h
    exact ⟨B, Γ, G, sr, pol_share po⟩)
end
/-- a, b = a tuple -/
def mAsg (b : Bd) (l : List Nat) (m : M) : MS := fun Γ => mEv l m Γ fun d Γ1 => match b d Γ1 with
  | some Γ2 => .nx Γ2
  | none => .no
theorem ss_asg (l : List Nat) {tg : Expr} {is : List Nat} {b : Bd} (he : SE X E e m) (hg : SG X tg is b) (hs : swapsWithSole [tg] e pos.line X.env = pure false := by rfl) (hw : swappedStores [tg] e X.env = pure none := by rfl)
    (h1 : (assignEach [tg] X.env).map (·.2) = [assign tg X.env] := by rfl) : SS X E (.Assign [tg] e pos) (mAsg b l m) :=
  ps_of (ps_asg he hg hs hw h1) fun D σ H ⟨G0, H0, G, Γ, s, po⟩ => ev_core s po fun x H' d Γ1 G' _ s1 dx po1 => by
    refine ⟨H0, Γ1, G', d, s1.sr, dx, ?_⟩
    cases e : b d Γ1 with
    | none => rw [e] at po1; exact po1.elim
    | some Γ2 => rw [e] at po1; exact fun σ' sr' _ => po1 σ' G' H' ⟨sr', s1.gr⟩
/-! ### several stores at once -/
inductive Pi where
  | v (m : M)
  | o (m : Gam → R (List PyData))
def mPis : List Pi → Gam → R (List Sl)
  | [], _ => .ok []
  | .v m :: r, Γ => (m Γ).bind fun d => (mPis r Γ).bind fun ss => .ok (.v d :: ss)
  | .o m :: r, Γ => (m Γ).bind fun d => (mPis r Γ).bind fun ss => .ok (.own d :: ss)
/-- how the items lie; those of one's own were made one after another -/
inductive PiAt (K : PySem.W.Frag) (G' H' : Hp) : Hp → List V → List Sl → Prop
  | nil {H : Hp} : PiAt K G' H' H [] []
  | v {H H1 : Hp} {x : V} {d : PyData} {xs : List V} {ss : List Sl} : Dq K G' x d → Le H H1 → PiAt K G' H' H1 xs ss → PiAt K G' H' H (x :: xs) (.v d :: ss)
  | o {H H1 : Hp} {p : Addr} {vs : List V} {ds : List PyData} {xs : List V} {ss : List Sl} : H p = none → H' p = some (.lst vs) → G' p = none → DqAll K G' vs ds → Le H H1 → H1 p ≠ none → PiAt K G' H' H1 xs ss → PiAt K G' H' H (.ref p :: xs) (.own ds :: ss)
theorem PiAt.len {K : PySem.W.Frag} {G' H' H : Hp} {xs : List V} {ss : List Sl} (h : PiAt K G' H' H xs ss) : xs.length = ss.length := by
  induction h with
  | nil => rfl
  | v _ _ _ ih => simp [ih]
  | o _ _ _ _ _ _ _ ih => simp [ih]
theorem PiAt.up {K : PySem.W.Frag} {G' H' H'' H : Hp} {xs : List V} {ss : List Sl} (h : PiAt K G' H' H xs ss) (l : Le H' H'') : PiAt K G' H'' H xs ss := by
  induction h with
  | nil => exact .nil
  | v a b _ ih => exact .v a b ih
  | o a b c d e f _ ih => exact .o a (l _ _ b) c d e f ih
def tPi (K : PySem.W.Frag) (mg : Str → Option Value) (E : XK) (its : List Pi) : TA := fun σ H Q => ∃ B Γ G, SR K B G H σ Γ ∧ match mPis its Γ with
  | .ok ss => ∀ xs G' H', Gr G H G' H' → PiAt K G' H' H xs ss → Q xs H'
  | .ex c => ∀ H', Le H H' → E (cV mg c) none H'
  | .no => False
abbrev SP2 (X : Cx) (E : XK) (es : List Expr) (its : List Pi) : Prop := PA X es (tPi X.K X.mg E its)
theorem sp_nil : SP2 X E [] [] := pa_of pa_nil fun σ H Q ⟨B, Γ, G, sr, po⟩ => po [] G H (Gr.refl sr.sub) .nil
theorem sp_v {es : List Expr} {its : List Pi} (ha : SE X E e m) (hr : SP2 X E es its) (hs : starEach (e :: es) X.env = (false, eval e X.env) :: starEach es X.env := by rfl) : SP2 X E (e :: es) (.v m :: its) :=
  pa_of (pa_cons ha hr hs) fun σ H Q ⟨B, Γ, G, sr, po⟩ => by
    refine ⟨B, Γ, G, sr, ?_⟩
    have po : match (m Γ).bind fun d => (mPis its Γ).bind fun ss => R.ok (Sl.v d :: ss) with
      | .ok ss => ∀ xs G' H', Gr G H G' H' → PiAt X.K G' H' H xs ss → Q xs H'
      | .ex c => ∀ H', Le H H' → E (cV X.mg c) none H'
      | .no => False := po
    cases e1 : m Γ with
    | no => rw [e1] at po; exact po.elim
    | ex c => rw [e1] at po; exact po
    | ok d =>
      rw [e1, R.bind_ok] at po
      intro x G1 H1 g1 dx
      refine ⟨B, Γ, G1, sr.gr g1, ?_⟩
      cases e2 : mPis its Γ with
      | no => rw [e2] at po; exact po.elim
      | ex c => rw [e2] at po; exact fun H' l => po H' (le_trans g1.h l)
      | ok ss => rw [e2] at po; exact fun xs G' H' g2 ha => po (x :: xs) G' H' (g1.trans g2) (.v (dp_le g2.g dx) g1.h ha)
theorem sp_o {es : List Expr} {its : List Pi} {ml : Gam → R (List PyData)} (ha : SL X E e ml) (hr : SP2 X E es its) (hs : starEach (e :: es) X.env = (false, eval e X.env) :: starEach es X.env := by rfl) : SP2 X E (e :: es) (.o ml :: its) :=
  pa_of (pa_cons ha hr hs) fun σ H Q ⟨B, Γ, G, sr, po⟩ => by
    refine ⟨B, Γ, G, sr, ?_⟩
    have po : match (ml Γ).bind fun d => (mPis its Γ).bind fun ss => R.ok (Sl.own d :: ss) with
      | .ok ss => ∀ xs G' H', Gr G H G' H' → PiAt X.K G' H' H xs ss → Q xs H'
      | .ex c => ∀ H', Le H H' → E (cV X.mg c) none H'
      | .no => False := po
    cases e1 : ml Γ with
    | no => rw [e1] at po; exact po.elim
    | ex c => rw [e1] at po; exact po
    | ok d =>
      rw [e1, R.bind_ok] at po
      intro p vs G1 H1 g1 hp hp1 hg dx
      refine ⟨B, Γ, G1, sr.gr g1, ?_⟩
      cases e2 : mPis its Γ with
      | no => rw [e2] at po; exact po.elim
      | ex c => rw [e2] at po; exact fun H' l => po H' (le_trans g1.h l)
      | ok ss => rw [e2] at po; exact fun xs G' H' g2 ha => po (.ref p :: xs) G' H' (g1.trans g2) (.o hp (g2.h _ _ hp1) (g2.fr p (by rw [hp1]; simp) hg) (dpa_le g2.g dx) g1.h (by rw [hp1]; simp) ha)
def gsetAll : List Nat → List Sl → Gam → Gam
  | i :: is, s :: ss, Γ => gsetAll is ss (Γ.set i s)
  | _, _, Γ => Γ
def ssetAll : List Nat → List V → L2.St → L2.St
  | i :: is, x :: xs, σ => ssetAll is xs (σ.set i (some x))
  | _, _, σ => σ
theorem setAll_ok {K : PySem.W.Frag} {B G' H' : Hp} : ∀ (is : List Nat) {H : Hp} {xs : List V} {ss : List Sl} {σ : L2.St} {Γ : Gam}, SR K B G' H' σ Γ → PiAt K G' H' H xs ss → Le B H →
    (∀ j es p, gat Γ j = .own es → σ[j]? = some (some (.ref p)) → H p ≠ none) → SR K B G' H' (ssetAll is xs σ) (gsetAll is ss Γ)
  | [], _, _, _, _, _, s, h, _, _ => by cases h <;> exact s
  | i :: is, H, _, _, σ, Γ, s, h, lb, ho => by
    cases h with
    | nil => exact s
    | @v _ H1 x d xs ss dx l r =>
      refine setAll_ok is (s.setV dx) r (le_trans lb l) fun j es p h1 h2 => ?_
      rw [gat_set] at h1
      split at h1
      · cases h1
      rename_i z
      have hj := gat_lt (Γ := Γ) (i := j) (by rw [h1]; simp)
      have ji : j ≠ i := fun e => by subst e; exact z ⟨rfl, hj⟩
      rw [List.getElem?_set_ne (Ne.symm ji)] at h2
      exact fun q => ho j es p h1 h2 (le_none l q)
    | @o _ H1 p vs ds xs ss hp hp1 hg dx l hp2 r =>
      refine setAll_ok is (s.setO hp1 hg (le_none lb hp) dx fun j es _ h1 h2 => ho j es p h1 h2 hp) r (le_trans lb l) fun j es q h1 h2 => ?_
      rw [gat_set] at h1
      split at h1
      · rename_i z
        obtain ⟨z1, z2⟩ := z
        subst z1
        rw [List.getElem?_set_self (by rw [s.len]; exact z2)] at h2
        cases h2
        exact hp2
      · rename_i z
        have hj := gat_lt (Γ := Γ) (i := j) (by rw [h1]; simp)
        have ji : j ≠ i := fun e => by subst e; exact z ⟨rfl, hj⟩
        rw [List.getElem?_set_ne (Ne.symm ji)] at h2
        exact fun u => ho j es q h1 h2 (le_none l u)
def mPar (is : List Nat) (l : List Nat) (its : List Pi) : MS := fun Γ => match mPis its (fz l Γ) with
  | .ok ss => .nx (gsetAll is ss (fz l Γ))
  | .ex c => .ex c
  | .no => .no
theorem par_core {K mg} {is l : List Nat} {its : List Pi} {D : Ends} {σ H} (h : tS K mg E (mPar is l its) D σ H) :
    tPi K mg E its σ H fun xs H1 => ∀ H2, Le H1 H2 → xs.length = its.length → D.nx (ssetAll is xs σ) H2 := by
  obtain ⟨G0, H0, G, Γ, s, po⟩ := h
  obtain ⟨G1, l1, s1⟩ := s.fzs l
  unfold mPar at po
  refine ⟨H0, fz l Γ, G1, s1.sr, ?_⟩
  cases e : mPis its (fz l Γ) with
  | no => rw [e] at po; exact po.elim
  | ex c => rw [e] at po; exact fun H' lh => po H' (le_trans s.gr.h lh)
  | ok ss =>
    rw [e] at po
    intro xs G2 H1 g2 pa H2 l2 _
    have g3 : Gr G1 H G2 H2 := ⟨g2.g, le_trans g2.h l2, le_trans g2.s l2, g2.fr⟩
    have pa2 : PiAt K G2 H2 H xs ss := pa.up l2
    refine po _ G2 H2 ⟨setAll_ok is (s1.sr.gr g3) pa2 s.gr.h fun j es p h1 h2 => ?_, s1.gr.trans g3⟩
    obtain ⟨p', xs', e1, e2, _⟩ := s1.sr.own j es h1
    rw [h2] at e1; cases e1
    rw [e2]; simp
theorem mPis_len : ∀ {its : List Pi} {Γ : Gam} {ss : List Sl}, mPis its Γ = .ok ss → ss.length = its.length
  | [], _, _, h => by cases h; rfl
  | .v m :: r, Γ, ss, h => by
    unfold mPis at h
    cases e1 : m Γ with
    | ok d =>
      rw [e1, R.bind_ok] at h
      cases e2 : mPis r Γ with
      | ok ss' => rw [e2] at h; cases h; simp [mPis_len e2]
      | ex c => rw [e2] at h; cases h
      | no => rw [e2] at h; cases h
    | ex c => rw [e1] at h; cases h
    | no => rw [e1] at h; cases h
  | .o m :: r, Γ, ss, h => by
    unfold mPis at h
    cases e1 : m Γ with
    | ok d =>
      rw [e1, R.bind_ok] at h
      cases e2 : mPis r Γ with
      | ok ss' => rw [e2] at h; cases h; simp [mPis_len e2]
      | ex c => rw [e2] at h; cases h
      | no => rw [e2] at h; cases h
    | ex c => rw [e1] at h; cases h
    | no => rw [e1] at h; cases h
/-- the number of items is told -/
theorem tPi_len {K mg} {its : List Pi} {σ H} {Q : List V → Hp → Prop} (h : tPi K mg E its σ H fun xs H1 => xs.length = its.length → Q xs H1) : tPi K mg E its σ H Q := by
  obtain ⟨B, Γ, G, sr, po⟩ := h
  refine ⟨B, Γ, G, sr, ?_⟩
  cases e : mPis its Γ with
  | no => rw [e] at po; exact po
  | ex c => rw [e] at po; exact po
  | ok ss => rw [e] at po; exact fun xs G' H' g pa => po xs G' H' g pa (by rw [pa.len, mPis_len e])
theorem tPi_mono {K mg} {its : List Pi} {σ H} {Q Q' : List V → Hp → Prop} (h : tPi K mg E its σ H Q) (i : ∀ xs H1, Q xs H1 → Q' xs H1) : tPi K mg E its σ H Q' := by
  obtain ⟨B, Γ, G, sr, po⟩ := h
  refine ⟨B, Γ, G, sr, ?_⟩
  cases e : mPis its Γ with
  | no => rw [e] at po; exact po
  | ex c => rw [e] at po; exact po
  | ok ss => rw [e] at po; exact fun xs G' H' g pa => i _ _ (po xs G' H' g pa)
theorem ss_par2 (i j : Nat) (l : List Nat) {x y : Str} {a b : Expr} {its : List Pi} {px py pt : Pos} {kt k2 pt2} (hc : X.calm = true) (hN : X.N.Nodup) (ha : SP2 X E [a, b] its) (hl2 : its.length = 2 := by rfl) (hi : X.N[i]? = some x := by rfl) (hj : X.N[j]? = some y := by rfl) (hij : i ≠ j := by decide)
    (hx : X.env.scope.names.lookup x = some .local := by rfl) (hy : X.env.scope.names.lookup y = some .local := by rfl)
    (hw : swappedStores [.Tuple [.Name x px, .Name y py] kt pt] (.Tuple [a, b] k2 pt2) X.env = pure (some [x, y]) := by rfl)
    (hs : swapsWithSole [.Tuple [.Name x px, .Name y py] kt pt] (.Tuple [a, b] k2 pt2) pos.line X.env = pure false := by rfl) :
    SS X E (.Assign [.Tuple [.Name x px, .Name y py] kt pt] (.Tuple [a, b] k2 pt2) pos) (mPar [i, j] l its) :=
  ps_of (ps_par hc hN hi hj hij hx hy ha hw hs) fun D σ H h => tPi_len (tPi_mono (par_core h) fun xs H1 q e => by
    rw [hl2] at e
    match xs, e with
    | [u, v], _ => exact ⟨u, v, rfl, q H1 (fun _ _ z => z) (by rw [hl2]; rfl)⟩)
theorem ss_par3 (i j k : Nat) (l : List Nat) {x y z : Str} {a b c : Expr} {its : List Pi} {px py pz pt : Pos} {kt k2 pt2} (hc : X.calm = true) (hN : X.N.Nodup) (ha : SP2 X E [a, b, c] its) (hl2 : its.length = 3 := by rfl) (hi : X.N[i]? = some x := by rfl) (hj : X.N[j]? = some y := by rfl) (hk : X.N[k]? = some z := by rfl)
    (hij : i ≠ j := by decide) (hik : i ≠ k := by decide) (hjk : j ≠ k := by decide)
    (hx : X.env.scope.names.lookup x = some .local := by rfl) (hy : X.env.scope.names.lookup y = some .local := by rfl) (hz : X.env.scope.names.lookup z = some .local := by rfl)
    (hw : swappedStores [.Tuple [.Name x px, .Name y py, .Name z pz] kt pt] (.Tuple [a, b, c] k2 pt2) X.env = pure (some [x, y, z]) := by rfl)
    (hs : swapsWithSole [.Tuple [.Name x px, .Name y py, .Name z pz] kt pt] (.Tuple [a, b, c] k2 pt2) pos.line X.env = pure false := by rfl) :
    SS X E (.Assign [.Tuple [.Name x px, .Name y py, .Name z pz] kt pt] (.Tuple [a, b, c] k2 pt2) pos) (mPar [i, j, k] l its) :=
  ps_of (ps_par3 hc hN hi hj hk hij hik hjk hx hy hz ha hw hs) fun D σ H h => tPi_len (tPi_mono (par_core h) fun xs H1 q e => by
    rw [hl2] at e
    match xs, e with
    | [u, v, w], _ => exact ⟨u, v, w, rfl, q H1 (fun _ _ z => z) (by rw [hl2]; rfl)⟩)
/-- names, all at their places -/
structure SNs (X : Cx) (tgs : List Expr) (is : List Nat) : Prop where
  pg : PGs X tgs (fun vs σ H Q => vs.length = is.length ∧ Q (ssetAll is vs σ) H)
theorem sns_nil : SNs X [] [] := ⟨pgs_of pgs_nil fun vs σ H Q ⟨e, q⟩ => by
  cases vs with
  | nil => exact ⟨rfl, q⟩
  | cons => cases e⟩
theorem sns_cons (i : Nat) {x : Str} {p : Pos} {es : List Expr} {is : List Nat} (h2 : SNs X es is) (hN : X.N.Nodup) (hi : X.N[i]? = some x := by rfl) (hx : Loc X.env.scope x := by first | exact .inl rfl | exact .inr rfl) (hf : X.fn x = true ∨ X.env.scope.names.lookup x = some .local := by first | exact .inl rfl | exact .inr rfl | assumption)
    (hs : (assignEach (.Name x p :: es) X.env).map (·.2) = assign (.Name x p) X.env :: (assignEach es X.env).map (·.2) := by rfl) : SNs X (.Name x p :: es) (i :: is) := ⟨pgs_of (pgs_cons (pg_name hN hi hx hf) h2.pg hs) fun vs σ H Q ⟨e, q⟩ => by
  cases vs with
  | nil => cases e
  | cons v vs => exact ⟨v, vs, rfl, by simpa using e, q⟩⟩
/-- .. by a tuple (four and more, or a captured name among them) -/
theorem ss_parT (l : List Nat) {is : List Nat} {ts vs : List Expr} {its : List Pi} {pt : Pos} {kt k2 pt2} (hc : X.calm = true) (hg : SNs X ts is) (ha : SP2 X E vs its) (hl2 : its.length = is.length := by rfl) (hz : is.length ≤ 1000 := by decide)
    (hn : (assignEach ts X.env).length = is.length := by rfl) (hst : (assignEach ts X.env).findIdx? (·.1) = none := by rfl)
    (hs : swapsWithSole [.Tuple ts kt pt] (.Tuple vs k2 pt2) pos.line X.env = pure false := by rfl) (hw : swappedStores [.Tuple ts kt pt] (.Tuple vs k2 pt2) X.env = pure none := by rfl)
    (h1 : (assignEach [.Tuple ts kt pt] X.env).map (·.2) = [assign (.Tuple ts kt pt) X.env] := by rfl) : SS X E (.Assign [.Tuple ts kt pt] (.Tuple vs k2 pt2) pos) (mPar is l its) :=
  ps_of (ps_asg (pe_tup ha) (pg_tup hc hg.pg hn hst) hs hw h1) fun D σ H h => tPi_len (tPi_mono (par_core h) fun xs H1 q e => by
    refine ⟨sz_of (by omega), fun p hp => ⟨p, xs, rfl, .inl (.inl upd_same), by omega, by omega, q _ (le_upd hp) e⟩⟩)
/-! ### append, extend -/
def mApp (i : Nat) (l : List Nat) (m : M) : MS := fun Γ => match gat Γ i with
  | .own _ => mEv l m Γ fun d Γ1 => match gat Γ1 i with
    | .own ds => if ds.length < 100000 then .nx (Γ1.set i (.own (ds ++ [d]))) else .no
    | _ => .no
  | _ => .no
theorem own_mut {K : PySem.W.Frag} {G0 H0 G H : Hp} {σ : L2.St} {Γ : Gam} {i : Nat} {p : Addr} {xs ys : List V} {ds es : List PyData} (s : SZ K G0 H0 G H σ Γ) (hi : gat Γ i = .own ds) (hp : σ[i]? = some (some (.ref p))) (d : DqAll K G ys es) :
    SZ K G0 H0 G (upd H p (.lst ys)) σ (Γ.set i (.own es)) := by
  obtain ⟨p', xs', e1, e2, e3, e4⟩ := s.sr.own i ds hi
  rw [hp] at e1; cases e1
  have hil := gat_lt (Γ := Γ) (i := i) (by rw [hi]; simp)
  have hb := s.sr.nw i ds p hi hp
  have sub : Le G (upd H p (.lst ys)) := fun a u e => by
    have ne : a ≠ p := fun z => by subst z; rw [e3] at e; cases e
    rw [upd_ne ne]; exact s.sr.sub a u e
  refine ⟨⟨sub, by simp [s.sr.len], fun j e q => ?_, fun j fs q => ?_, fun j k fs gs u q1 q2 a1 a2 => ?_, fun j fs u q1 a1 => ?_, fun j u q1 => ?_⟩, ⟨s.gr.g, fun a u e => ?_, sub, s.gr.fr⟩⟩
  · rw [gat_set] at q
    split at q
    · cases q
    · exact s.sr.val j e q
  · rw [gat_set] at q
    split at q
    · rename_i z
      obtain ⟨z1, _⟩ := z
      subst z1
      cases q
      exact ⟨p, ys, hp, upd_same, e3, d⟩
    · rename_i z
      obtain ⟨p2, xs2, f1, f2, f3, f4⟩ := s.sr.own j fs q
      have ne : p2 ≠ p := fun e => by
        subst e
        exact z ⟨s.sr.inj j i fs ds p2 q hi f1 hp, hil⟩
      exact ⟨p2, xs2, f1, by rw [upd_ne ne]; exact f2, f3, f4⟩
  · have own : ∀ {j fs}, gat (Γ.set i (.own es)) j = .own fs → ∃ gs, gat Γ j = .own gs := fun {j fs} q => by
      rw [gat_set] at q
      split at q
      · rename_i z
        obtain ⟨z1, _⟩ := z
        subst z1
        exact ⟨_, hi⟩
      · exact ⟨_, q⟩
    obtain ⟨_, h1⟩ := own q1
    obtain ⟨_, h2⟩ := own q2
    exact s.sr.inj j k _ _ u h1 h2 a1 a2
  · rw [gat_set] at q1
    split at q1
    · rename_i z
      obtain ⟨z1, _⟩ := z
      subst z1
      rw [hp] at a1; cases a1
      exact hb
    · exact s.sr.nw j fs u q1 a1
  · rw [gat_set] at q1
    split at q1
    · cases q1
    · exact s.sr.adr j u q1
  · have ne : a ≠ p := fun z => by subst z; rw [hb] at e; cases e
    rw [upd_ne ne]; exact s.gr.h a u e
theorem ss_app (i : Nat) (l : List Nat) {x : Str} {p ap cp : Pos} (he : SE X E e m) (hN : X.N[i]? = some x := by rfl) (hv : Vis X.env.scope x := by first | exact Or.inl rfl | exact Or.inr (Or.inl rfl) | exact Or.inr (Or.inr rfl)) (hd : (x == ("__debug__" : Str)) = false := by decide) (hcd : (x == ("__classdict__" : Str)) = false := by decide)
    (hbase : attributeBase (.Name x p) "append" X.env (eval (.Name x p) X.env) = eval (.Name x p) X.env := by rfl)
    (hfew : ((backTo cp (starEach [e] X.env)).all (fun x => !x.1) && (backToKw cp (keywordEach [] X.env)).all (fun x => x.1.isSome)
      && decide ([e].length + ([] : List Keyword).length + (if ([] : List Keyword).isEmpty then 0 else 1) < 30)) = true := by rfl)
    (hline : (ap.endLine == cp.line) = true := by rfl) (hst : starEach [e] X.env = (false, eval e X.env) :: starEach [] X.env := by rfl) (hplain : (backTo cp (starEach [] X.env)).any (·.1) = false := by rfl)
    (hs : swapsWith (.Call (.Attribute (.Name x p) "append" ap) [e] [] cp) none pos.line X.env = pure false := by rfl) : SS X E (.Expr (.Call (.Attribute (.Name x p) "append" ap) [e] [] cp) pos) (mApp i l m) :=
  ps_of (ps_expr (pe_bm PySem.F.plainAttrs_list PySem.F.slot_list_append PySem.F.type_list_append mt_append (pe_var (i := i) hN hv hd hcd) (pa_cons he pa_nil hst) hbase hfew hline hst hplain) hs) fun D σ H ⟨G0, H0, G, Γ, s, po⟩ => by
    unfold mApp at po
    cases hi : gat Γ i with
    | no => rw [hi] at po; exact po.elim
    | ad _ => rw [hi] at po; exact po.elim
    | v d => rw [hi] at po; exact po.elim
    | own ds =>
      rw [hi] at po
      obtain ⟨a, xs, e1, e2, e3, e4⟩ := s.sr.own i ds hi
      refine ⟨.ref a, e1, .inl ⟨rfl, xs, .inl (.inl e2)⟩, ev_core s po fun x H1 d Γ1 G1 lh s1 dx po1 => ?_⟩
      split at po1
      · rename_i ds1 h1
        split at po1
        · rename_i hz
          obtain ⟨a', xs', f1, f2, f3, f4⟩ := s1.sr.own i ds1 h1
          rw [e1] at f1; cases f1
          refine ⟨a, xs', x, rfl, rfl, f2, Nat.lt_of_lt_of_le (by rw [dpa_len f4]; exact hz) (by decide : 100000 ≤ sizeLine), ?_⟩
          exact po1 σ G1 _ (own_mut (xs := xs') s1 h1 e1 (dpa_append f4 (dpa_one dx)))
        · exact po1.elim
      · exact po1.elim
def mExt (i : Nat) (l : List Nat) (m : M) : MS := fun Γ => match gat Γ i with
  | .own _ => mEv l m Γ fun d Γ1 => match gat Γ1 i, d with
    | .own ds, .list es => if ds.length + es.length ≤ 100000 then .nx (Γ1.set i (.own (ds ++ es))) else .no
    | _, _ => .no
  | _ => .no
theorem ss_ext (i : Nat) (l : List Nat) {x : Str} {p ap cp : Pos} (he : SE X E e m) (hN : X.N[i]? = some x := by rfl) (hv : Vis X.env.scope x := by first | exact Or.inl rfl | exact Or.inr (Or.inl rfl) | exact Or.inr (Or.inr rfl)) (hd : (x == ("__debug__" : Str)) = false := by decide) (hcd : (x == ("__classdict__" : Str)) = false := by decide)
    (hbase : attributeBase (.Name x p) "extend" X.env (eval (.Name x p) X.env) = eval (.Name x p) X.env := by rfl)
    (hfew : ((backTo cp (starEach [e] X.env)).all (fun x => !x.1) && (backToKw cp (keywordEach [] X.env)).all (fun x => x.1.isSome)
      && decide ([e].length + ([] : List Keyword).length + (if ([] : List Keyword).isEmpty then 0 else 1) < 30)) = true := by rfl)
    (hline : (ap.endLine == cp.line) = true := by rfl) (hst : starEach [e] X.env = (false, eval e X.env) :: starEach [] X.env := by rfl) (hplain : (backTo cp (starEach [] X.env)).any (·.1) = false := by rfl)
    (hs : swapsWith (.Call (.Attribute (.Name x p) "extend" ap) [e] [] cp) none pos.line X.env = pure false := by rfl) : SS X E (.Expr (.Call (.Attribute (.Name x p) "extend" ap) [e] [] cp) pos) (mExt i l m) :=
  ps_of (ps_expr (pe_bm PySem.F.plainAttrs_list PySem.F.slot_list_extend PySem.F.type_list_extend mt_extend (pe_var (i := i) hN hv hd hcd) (pa_cons he pa_nil hst) hbase hfew hline hst hplain) hs) fun D σ H ⟨G0, H0, G, Γ, s, po⟩ => by
    unfold mExt at po
    cases hi : gat Γ i with
    | no => rw [hi] at po; exact po.elim
    | ad _ => rw [hi] at po; exact po.elim
    | v d => rw [hi] at po; exact po.elim
    | own ds =>
      rw [hi] at po
      obtain ⟨a, xs, e1, e2, e3, e4⟩ := s.sr.own i ds hi
      refine ⟨.ref a, e1, .inl ⟨rfl, xs, .inl (.inl e2)⟩, ev_core s po fun x H1 d Γ1 G1 lh s1 dx po1 => ?_⟩
      split at po1
      · rename_i ds1 es h1
        split at po1
        · rename_i hz
          obtain ⟨a', xs', f1, f2, f3, f4⟩ := s1.sr.own i ds1 h1
          rw [e1] at f1; cases f1
          cases dx with
          | @lst b zs _ hb ab =>
            refine ⟨a, b, xs', zs, rfl, rfl, f2, s1.sr.sub _ _ hb, Nat.le_trans (by rw [dpa_len f4, dpa_len ab]; exact hz) (by decide : 100000 ≤ sizeLine), ?_⟩
            exact po1 σ G1 _ (own_mut (xs := xs') s1 h1 e1 (dpa_append f4 ab))
        · exact po1.elim
      · exact po1.elim
/-! ### if, while, for -/
def mIfS (l : List Nat) (t : Gam → R Bool) (a b : MS) : MS := fun Γ => mEvB l t Γ fun c => if c = true then a Γ else b Γ
theorem ss_if (l : List Nat) {c : Expr} {a b : List Stmt} {t : Gam → R Bool} {ma mb : MS} (hc : ST X E c t) (ha : SB X E a ma) (hb : SB X E b mb) : SS X E (.If c a b pos) (mIfS l t ma mb) :=
  ps_of (ps_if hc ha hb) fun D σ H ⟨G0, H0, G, Γ, s, po⟩ => ev_coreB s po fun c H' s1 po1 => by
    cases c with
    | true => exact ⟨G0, H0, G, Γ, s1, po1⟩
    | false => exact ⟨G0, H0, G, Γ, s1, po1⟩
def mWh (l : List Nat) (t : Gam → R Bool) (b : MS) : Nat → MS
  | 0, _ => .no
  | n + 1, Γ => mEvB l t Γ fun c => if c = true then (match b Γ with
    | .nx Γ1 => mWh l t b n Γ1
    | .ct Γ1 => mWh l t b n Γ1
    | .bk Γ1 => .nx Γ1
    | o => o) else .nx Γ
theorem ss_while (n : Nat) (l : List Nat) {c : Expr} {body : List Stmt} {t : Gam → R Bool} {mb : MS} (hp : PassesOwn (model X.prog X.w) X.A X.env X.xe) (hc : ST X E c t) (hb : SB X E body mb) : SS X E (.While c body [] pos) (mWh l t mb n) :=
  ps_of (ps_while hp hc hb) fun D σ H ⟨G0, H0, G, Γ, s, po⟩ => by
    refine ⟨fun k σ H => ∃ G Γ, SZ X.K G0 H0 G H σ Γ ∧ PoS X.K X.mg E G0 H0 D (mWh l t mb k Γ), ⟨n, G, Γ, s, po⟩, ?_⟩
    rintro k σ1 H1 ⟨G1, Γ1, s1, po1⟩
    cases k with
    | zero => exact po1.elim
    | succ k =>
      refine ev_coreB s1 po1 fun c H' s2 po2 => ?_
      cases c with
      | false => exact po2 σ1 G1 H' s2
      | true =>
        refine ⟨fun σ H => ∃ G Γ, SZ X.K G0 H0 G H σ Γ ∧ PoS X.K X.mg E G0 H0 D (mWh l t mb k Γ), fun σ' H' w => ⟨k, Nat.lt_succ_self k, w⟩, G0, H0, G1, Γ1, s2, ?_⟩
        rw [if_pos rfl] at po2
        cases q : mb Γ1 with
        | nx Γ2 => rw [q] at po2; exact fun σ' G' H' s' => ⟨G', Γ2, s', po2⟩
        | ct Γ2 => rw [q] at po2; exact fun σ' G' H' s' => ⟨G', Γ2, s', po2⟩
        | bk Γ2 => rw [q] at po2; exact po2
        | rt d => rw [q] at po2; exact po2
        | ex c => rw [q] at po2; exact po2
        | no => rw [q] at po2; exact po2
def forGo (b : Bd) (body : MS) : List PyData → MS
  | [], Γ => .nx Γ
  | d :: ds, Γ => match b d Γ with
    | none => .no
    | some Γ1 => match body Γ1 with
      | .nx Γ2 => forGo b body ds Γ2
      | .ct Γ2 => forGo b body ds Γ2
      | .bk Γ2 => .nx Γ2
      | o => o
def mFor (l : List Nat) (ms : Gam → R (List PyData)) (b : Bd) (body : MS) : MS := fun Γ => mEvL l ms Γ fun ds => forGo b body ds (fz l Γ)
theorem ss_for (l : List Nat) {tg iter : Expr} {body : List Stmt} {is : List Nat} {ms : Gam → R (List PyData)} {b : Bd} {mb : MS} (hp : PassesOwn (model X.prog X.w) X.A X.env X.xe) (hc : X.calm = true) (hi : SI X E tg iter ms) (hg : SG X tg is b) (hb : SB X E body mb)
    (hs : ∀ x, foldedSetIterable iter X.env x = pure x := by intro _; rfl) : SS X E (.For tg iter body [] pos) (mFor l ms b mb) :=
  ps_of (ps_for hp hc hi hg hb hs) fun D σ H ⟨G0, H0, G, Γ, s, po⟩ => by
    obtain ⟨G1, l1, s1⟩ := s.fzs l
    unfold mFor mEvL at po
    refine ⟨H0, fz l Γ, G1, s1.sr, ?_⟩
    cases q : ms (fz l Γ) with
    | no => rw [q] at po; exact po.elim
    | ex c => rw [q] at po; exact fun H' lh => po H' (le_trans s.gr.h lh)
    | ok ds =>
      rw [q] at po
      intro J G2 H2 g2 it
      refine ⟨fun i m σ H => m = ds.length - i ∧ i ≤ ds.length ∧ ∃ G Γ, SZ X.K G0 H0 G H σ Γ ∧ Le G2 G ∧ PoS X.K X.mg E G0 H0 D (forGo b mb (ds.drop i) Γ), ⟨ds.length, by simp, Nat.zero_le _, G2, fz l Γ, s1.go g2, fun _ _ z => z, by simpa using po⟩, ?_⟩
      rintro i m σ3 H3 ⟨rfl, hi, G3, Γ3, s3, l3, po3⟩
      by_cases hlt : i < ds.length
      · obtain ⟨d, hd⟩ : ∃ d, ds[i]? = some d := ⟨ds[i], by simp [hlt]⟩
        have hdrop : ds.drop i = d :: ds.drop (i + 1) := by
          rw [List.drop_eq_getElem_cons hlt]
          have : ds[i] = d := by simpa [hlt] using hd
          rw [this]
        rw [hdrop] at po3
        unfold forGo at po3
        refine .inr ⟨it.go i G3 H3 l3 s3.sr.sub hlt, fun σ H => ∃ G Γ, SZ X.K G0 H0 G H σ Γ ∧ Le G2 G ∧ PoS X.K X.mg E G0 H0 D (forGo b mb (ds.drop (i + 1)) Γ), fun σ' H' w => ⟨ds.length - (i + 1), by omega, rfl, hlt, w⟩, fun x H' hy => ?_⟩
        obtain ⟨G4, g4, dx⟩ := it.yld i G3 H3 x H' d l3 s3.sr.sub hd hy
        have s4 := s3.go g4
        refine ⟨H0, Γ3, G4, d, s4.sr, dx, ?_⟩
        cases eb : b d Γ3 with
        | none => rw [eb] at po3; exact po3.elim
        | some Γ5 =>
          rw [eb] at po3
          dsimp only at po3
          have gb := (s1.go g2).gr
          have up : ∀ {G H : Hp}, Gr G2 H0 G H → Gr G0 H0 G H := fun {G H} g => ⟨le_trans gb.g g.g, g.h, g.s, fun a h1 h2 => g.fr a h1 (gb.fr a h1 h2)⟩
          refine fun σ' sr' _ => ⟨G2, H0, G4, Γ5, ⟨sr', le_trans l3 g4.g, s4.gr.h, s4.gr.s, fun a h1 h2 => s4.gr.fr a h1 (le_none gb.g h2)⟩, ?_⟩
          cases q2 : mb Γ5 with
          | nx Γ6 => rw [q2] at po3; exact fun σ' G' H' s' => ⟨G', Γ6, ⟨s'.sr, up s'.gr⟩, s'.gr.g, po3⟩
          | ct Γ6 => rw [q2] at po3; exact fun σ' G' H' s' => ⟨G', Γ6, ⟨s'.sr, up s'.gr⟩, s'.gr.g, po3⟩
          | bk Γ6 => rw [q2] at po3; exact fun σ' G' H' s' => po3 σ' G' H' ⟨s'.sr, up s'.gr⟩
          | rt d => rw [q2] at po3; exact fun x G' H' g dx => po3 x G' H' (up g) dx
          | ex c => rw [q2] at po3; exact po3
          | no => rw [q2] at po3; exact po3
      · have ei : i = ds.length := by omega
        subst ei
        rw [List.drop_length] at po3
        exact .inl ⟨it.stop G3 H3 l3 s3.sr.sub, po3 σ3 G3 H3 s3⟩
end
end PD

/-! The data layer: built-ins, slices, methods, a def. -/
namespace PD
open PySem PySem.Spec PyProof.Rows L2

section
variable {X : Cx} {E : XK}
/-! ### built-ins -/
def dLen : List PyData → R PyData
  | [.str z] => if z.length ≤ 100000 then .ok (.int (z.length : Nat)) else .no
  | [.list ds] => .ok (.int (ds.length : Nat))
  | [.dict ((.none, _) :: _)] => .no
  | [.dict ((.bool _, _) :: _)] => .no
  | [.dict kvs] => .ok (.int (kvs.length : Nat))
  | [.tuple ds] => .ok (.int (ds.length : Nat))
  | _ => .no
theorem cd_len : CD X E (.builtin "len") dLen := cd_of (call_len_str.or call_len_seq) fun G H vs ds Q sz l dx po => by
  cases dx with
  | nil => exact po.elim
  | cons d1 d2 =>
    cases d2 with
    | nil =>
      cases d1 with
      | str z =>
        replace po : Po (Dq X.K) X.mg E G H Q (if z.length ≤ 100000 then .ok (.int (z.length : Nat)) else .no) := po
        split at po
        · rename_i h
          exact .inl ⟨z, rfl, sz_of h, Po.ok (d := PyData.int (z.length : Nat)) po l (.int _)⟩
        · exact po.elim
      | @lst a xs es h1 a1 =>
        refine .inr ⟨a, xs, rfl, .inl ((sq1 l h1)), ?_⟩
        rw [dpa_len a1]
        exact Po.ok (d := PyData.int (es.length : Nat)) po l (.int _)
      | @scr a ns h1 =>
        refine .inr ⟨a, _, rfl, .inl (sql_le l h1), ?_⟩
        have e : (ns.map V.int).length = (ns.map fun n => (PyData.int n, PyData.none)).length := by simp
        rw [e]
        replace po : Po (Dq X.K) X.mg E G H Q (.ok (.int ((ns.map fun n => (PyData.int n, PyData.none)).length : Nat))) := by
          cases ns <;> exact po
        exact Po.ok (d := PyData.int _) po l (.int _)
      | @tup a xs es h1 a1 =>
        refine .inr ⟨a, xs, rfl, .inr (sqt_le l h1), ?_⟩
        rw [dpa_len a1]
        exact Po.ok (d := PyData.int (es.length : Nat)) po l (.int _)
      | _ => exact po.elim
    | cons =>
      cases d1 with
      | @scr a ns h1 => cases ns <;> exact po.elim
      | _ => exact po.elim
def intsOf : List PyData → Option (List Int)
  | [] => some []
  | .int i :: r => (intsOf r).map (i :: ·)
  | _ => none
def boolsOf : List PyData → Option (List Bool)
  | [] => some []
  | .bool i :: r => (boolsOf r).map (i :: ·)
  | _ => none
def strsOf : List PyData → Option (List Str)
  | [] => some []
  | .str i :: r => (strsOf r).map (i :: ·)
  | _ => none
theorem intsOf_eq : ∀ {ds : List PyData} {ns : List Int}, intsOf ds = some ns → ds = ns.map PyData.int
  | [], ns, h => by cases h; rfl
  | .int i :: r, ns, h => by
    unfold intsOf at h
    cases e : intsOf r with
    | none => rw [e] at h; cases h
    | some ms => rw [e] at h; cases h; rw [intsOf_eq e]; rfl
  | .none :: _, _, h => by cases h
  | .bool _ :: _, _, h => by cases h
  | .str _ :: _, _, h => by cases h
  | .list _ :: _, _, h => by cases h
  | .tuple _ :: _, _, h => by cases h
  | .dict _ :: _, _, h => by cases h
@[simp] theorem intsOf_map : ∀ ns : List Int, intsOf (ns.map PyData.int) = some ns
  | [] => rfl
  | n :: ns => by simp [intsOf, intsOf_map ns]
theorem boolsOf_eq : ∀ {ds : List PyData} {ns : List Bool}, boolsOf ds = some ns → ds = ns.map PyData.bool
  | [], ns, h => by cases h; rfl
  | .bool i :: r, ns, h => by
    unfold boolsOf at h
    cases e : boolsOf r with
    | none => rw [e] at h; cases h
    | some ms => rw [e] at h; cases h; rw [boolsOf_eq e]; rfl
  | .none :: _, _, h => by cases h
  | .int _ :: _, _, h => by cases h
  | .str _ :: _, _, h => by cases h
  | .list _ :: _, _, h => by cases h
  | .tuple _ :: _, _, h => by cases h
  | .dict _ :: _, _, h => by cases h
@[simp] theorem boolsOf_map : ∀ ns : List Bool, boolsOf (ns.map PyData.bool) = some ns
  | [] => rfl
  | n :: ns => by simp [boolsOf, boolsOf_map ns]
theorem strsOf_eq : ∀ {ds : List PyData} {ns : List Str}, strsOf ds = some ns → ds = ns.map PyData.str
  | [], ns, h => by cases h; rfl
  | .str i :: r, ns, h => by
    unfold strsOf at h
    cases e : strsOf r with
    | none => rw [e] at h; cases h
    | some ms => rw [e] at h; cases h; rw [strsOf_eq e]; rfl
  | .none :: _, _, h => by cases h
  | .int _ :: _, _, h => by cases h
  | .bool _ :: _, _, h => by cases h
  | .list _ :: _, _, h => by cases h
  | .tuple _ :: _, _, h => by cases h
  | .dict _ :: _, _, h => by cases h
@[simp] theorem strsOf_map : ∀ ns : List Str, strsOf (ns.map PyData.str) = some ns
  | [] => rfl
  | n :: ns => by simp [strsOf, strsOf_map ns]
/-- the greatest, the least int -/
def maxI (n : Int) : List Int → Int
  | [] => n
  | m :: r => maxI (if n < m then m else n) r
def minI (n : Int) : List Int → Int
  | [] => n
  | m :: r => minI (if m < n then m else n) r
theorem maxI_spec : ∀ (r : List Int) (n : Int), (maxI n r = n ∨ maxI n r ∈ r) ∧ n ≤ maxI n r ∧ ∀ y ∈ r, y ≤ maxI n r
  | [], n => ⟨.inl rfl, Int.le_refl _, by simp⟩
  | m :: r, n => by
    obtain ⟨h1, h2, h3⟩ := maxI_spec r (if n < m then m else n)
    unfold maxI
    refine ⟨?_, ?_, fun y hy => ?_⟩
    · rcases h1 with h1 | h1
      · rw [h1]; split <;> simp
      · exact .inr (List.mem_cons_of_mem _ h1)
    · refine Int.le_trans ?_ h2; split <;> omega
    · rcases List.mem_cons.mp hy with rfl | hy
      · refine Int.le_trans ?_ h2; split <;> omega
      · exact h3 y hy
theorem minI_spec : ∀ (r : List Int) (n : Int), (minI n r = n ∨ minI n r ∈ r) ∧ minI n r ≤ n ∧ ∀ y ∈ r, minI n r ≤ y
  | [], n => ⟨.inl rfl, Int.le_refl _, by simp⟩
  | m :: r, n => by
    obtain ⟨h1, h2, h3⟩ := minI_spec r (if m < n then m else n)
    unfold minI
    refine ⟨?_, ?_, fun y hy => ?_⟩
    · rcases h1 with h1 | h1
      · rw [h1]; split <;> simp
      · exact .inr (List.mem_cons_of_mem _ h1)
    · refine Int.le_trans h2 ?_; split <;> omega
    · rcases List.mem_cons.mp hy with rfl | hy
      · refine Int.le_trans h2 ?_; split <;> omega
      · exact h3 y hy
def dMax : List PyData → R PyData
  | [.int i, .int j] => .ok (.int (if j > i then j else i))
  | [.list ds] => match intsOf ds with
    | some (n :: ns) => .ok (.int (maxI n ns))
    | _ => .no
  | _ => .no
theorem cd_max (hc : X.calm = true) : CD X E (.builtin "max") dMax := cd_of ((call_max2 hc).or (cr_max hc)) fun G H vs ds Q sz l dx po => by
  cases dx with
  | nil => exact po.elim
  | cons d1 d2 =>
    cases d2 with
    | nil =>
      cases d1 with
      | @lst a xs es h1 a1 =>
        replace po : Po (Dq X.K) X.mg E G H Q (match intsOf es with
          | some (n :: ns) => .ok (.int (maxI n ns))
          | _ => .no) := po
        split at po
        · rename_i n ns e
          have e := intsOf_eq e
          subst e
          have := dpa_ints a1; subst this
          refine .inr ⟨a, n :: ns, rfl, (sq1 l h1), by simp, fun m hm hy => ?_⟩
          obtain ⟨q1, q2, q3⟩ := maxI_spec ns n
          have : m = maxI n ns := by
            have a1 : maxI n ns ≤ m := by
              rcases q1 with q1 | q1
              · rw [q1]; exact hy n (by simp)
              · exact hy _ (List.mem_cons_of_mem _ q1)
            have a2 : m ≤ maxI n ns := by
              rcases List.mem_cons.mp hm with rfl | hm
              · exact q2
              · exact q3 m hm
            omega
          rw [this]
          exact Po.ok (d := PyData.int (maxI n ns)) po l (.int _)
        · exact po.elim
      | _ => exact po.elim
    | cons d2 d3 =>
      cases d3 with
      | nil =>
        cases d1 with
        | int i =>
          cases d2 with
          | int j => exact .inl ⟨i, j, rfl, Po.ok (d := PyData.int (if j > i then j else i)) po l (Dq.int _)⟩
          | _ => exact po.elim
        | _ => cases d2 <;> exact po.elim
      | cons d3 d4 => cases d1 <;> cases d2 <;> exact po.elim
def dMin : List PyData → R PyData
  | [.int i, .int j] => .ok (.int (if j < i then j else i))
  | [.list ds] => match intsOf ds with
    | some (n :: ns) => .ok (.int (minI n ns))
    | _ => .no
  | _ => .no
theorem cd_min (hc : X.calm = true) : CD X E (.builtin "min") dMin := cd_of ((call_min2 hc).or (cr_min hc)) fun G H vs ds Q sz l dx po => by
  cases dx with
  | nil => exact po.elim
  | cons d1 d2 =>
    cases d2 with
    | nil =>
      cases d1 with
      | @lst a xs es h1 a1 =>
        replace po : Po (Dq X.K) X.mg E G H Q (match intsOf es with
          | some (n :: ns) => .ok (.int (minI n ns))
          | _ => .no) := po
        split at po
        · rename_i n ns e
          have e := intsOf_eq e
          subst e
          have := dpa_ints a1; subst this
          refine .inr ⟨a, n :: ns, rfl, (sq1 l h1), by simp, fun m hm hy => ?_⟩
          obtain ⟨q1, q2, q3⟩ := minI_spec ns n
          have : m = minI n ns := by
            have a1 : m ≤ minI n ns := by
              rcases q1 with q1 | q1
              · rw [q1]; exact hy n (by simp)
              · exact hy _ (List.mem_cons_of_mem _ q1)
            have a2 : minI n ns ≤ m := by
              rcases List.mem_cons.mp hm with rfl | hm
              · exact q2
              · exact q3 m hm
            omega
          rw [this]
          exact Po.ok (d := PyData.int (minI n ns)) po l (.int _)
        · exact po.elim
      | _ => exact po.elim
    | cons d2 d3 =>
      cases d3 with
      | nil =>
        cases d1 with
        | int i =>
          cases d2 with
          | int j => exact .inl ⟨i, j, rfl, Po.ok (d := PyData.int (if j < i then j else i)) po l (Dq.int _)⟩
          | _ => exact po.elim
        | _ => cases d2 <;> exact po.elim
      | cons d3 d4 => cases d1 <;> cases d2 <;> exact po.elim
/-- a rule for one list -/
theorem one_list {f : Value} {g : List PyData → R PyData} {r : List V → Hp → VK → Prop} (h : CallR X f r)
    (h0 : ∀ ds, (∀ es, ds ≠ [.list es]) → g ds = .no)
    (i : ∀ G H a xs ds Q, Siz X.K H → Le G H → G a = some (.lst xs) → DqAll X.K G xs ds → Po (Dq X.K) X.mg E G H Q (g [.list ds]) → r [.ref a] H Q) : CD X E f g := cd_of h fun G H vs ds Q sz l dx po => by
  by_cases e : ∃ es, ds = [.list es]
  · obtain ⟨es, rfl⟩ := e
    cases dx with
    | cons d1 d2 =>
      cases d2
      cases d1 with
      | lst h1 a1 => exact i G H _ _ es Q sz l h1 a1 po
  · rw [h0 ds fun es z => e ⟨es, z⟩] at po
    exact po.elim
def dAll : List PyData → R PyData
  | [.list ds] => (oR (boolsOf ds)).bind fun bs => .ok (.bool (bs.all id))
  | _ => .no
theorem cd_all (hc : X.calm = true) : CD X E (.builtin "all") dAll := one_list (cr_all hc) (fun ds h => by
    unfold dAll
    split
    · exact absurd rfl (h _)
    · rfl) fun G H a xs ds Q sz l h1 a1 po => by
  replace po : Po (Dq X.K) X.mg E G H Q ((oR (boolsOf ds)).bind fun bs => .ok (.bool (bs.all id))) := po
  cases e : boolsOf ds with
  | none => rw [e] at po; exact po.elim
  | some bs =>
    rw [e] at po
    have := boolsOf_eq e; subst this
    have := dpa_bls a1; subst this
    exact ⟨a, bs, rfl, (sq1 l h1), Po.ok (d := PyData.bool (bs.all id)) po l (.bl _)⟩
def dAny : List PyData → R PyData
  | [.list ds] => (oR (boolsOf ds)).bind fun bs => .ok (.bool (bs.any id))
  | _ => .no
theorem cd_any (hc : X.calm = true) : CD X E (.builtin "any") dAny := one_list (cr_any hc) (fun ds h => by
    unfold dAny
    split
    · exact absurd rfl (h _)
    · rfl) fun G H a xs ds Q sz l h1 a1 po => by
  replace po : Po (Dq X.K) X.mg E G H Q ((oR (boolsOf ds)).bind fun bs => .ok (.bool (bs.any id))) := po
  cases e : boolsOf ds with
  | none => rw [e] at po; exact po.elim
  | some bs =>
    rw [e] at po
    have := boolsOf_eq e; subst this
    have := dpa_bls a1; subst this
    exact ⟨a, bs, rfl, (sq1 l h1), Po.ok (d := PyData.bool (bs.any id)) po l (.bl _)⟩
def sortI (ns : List Int) : List Int := ns.mergeSort fun x y => decide (x ≤ y)
theorem sortI_perm (ns : List Int) : (sortI ns).Perm ns := List.mergeSort_perm ns _
theorem sortI_sorted (ns : List Int) : (sortI ns).Pairwise (· ≤ ·) := by
  have h := List.pairwise_mergeSort (le := fun x y : Int => decide (x ≤ y)) (fun a b c h1 h2 => by simp at *; omega) (fun a b => by simp; omega) ns
  exact h.imp fun h => by simpa using h
theorem sortI_eq {ns ms : List Int} (h1 : ms.Perm ns) (h2 : ms.Pairwise (· ≤ ·)) : ms = sortI ns :=
  List.Perm.eq_of_pairwise (fun a b _ _ h1 h2 => Int.le_antisymm h1 h2) h2 (sortI_sorted ns) (h1.trans (sortI_perm ns).symm)
def dSortedI : List PyData → R PyData
  | [.list ds] => (oR (intsOf ds)).bind fun ns => .ok (.list ((sortI ns).map .int))
  | _ => .no
theorem cd_sortedI : CD X E (.builtin "sorted") dSortedI := one_list cr_sortedI (fun ds h => by
    unfold dSortedI
    split
    · exact absurd rfl (h _)
    · rfl) fun G H a xs ds Q sz l h1 a1 po => by
  replace po : Po (Dq X.K) X.mg E G H Q ((oR (intsOf ds)).bind fun ns => .ok (.list ((sortI ns).map .int))) := po
  cases e : intsOf ds with
  | none => rw [e] at po; exact po.elim
  | some ns =>
    rw [e] at po
    have := intsOf_eq e; subst this
    have := dpa_ints a1; subst this
    refine ⟨a, ns, rfl, (sq1 l h1), fun ns' p h2 h3 hp => ?_⟩
    have := sortI_eq h2 h3; subst this
    exact po_lst po l hp (dpa_ofInts _)
/-- list(x), tuple(x) -/
def dList : List PyData → R PyData
  | [.list ds] => .ok (.list ds)
  | [.tuple ds] => .ok (.list ds)
  | _ => .no
theorem cd_list : CD X E (.type "list") dList := cd_of call_list_of fun G H vs ds Q sz l dx po => by
  cases dx with
  | nil => exact po.elim
  | cons d1 d2 =>
    cases d2 with
    | nil =>
      cases d1 with
      | @lst a xs es h1 a1 => exact ⟨a, xs, rfl, .inl ((sq1 l h1)), fun p hp => po_lst po l hp a1⟩
      | @tup a xs es h1 a1 => exact ⟨a, xs, rfl, .inr (sqt_le l h1), fun p hp => po_lst po l hp a1⟩
      | _ => exact po.elim
    | cons => cases d1 <;> exact po.elim
def dTuple : List PyData → R PyData
  | [.list ds] => .ok (.tuple ds)
  | [.tuple ds] => .ok (.tuple ds)
  | _ => .no
theorem cd_tuple : CD X E (.type "tuple") dTuple := cd_of call_tuple_of fun G H vs ds Q sz l dx po => by
  cases dx with
  | nil => exact po.elim
  | cons d1 d2 =>
    cases d2 with
    | nil =>
      cases d1 with
      | @lst a xs es h1 a1 => exact ⟨a, xs, rfl, .inl ⟨(sq1 l h1), fun p hp => po_tup po l hp a1⟩⟩
      | @tup a xs es h1 a1 => exact ⟨a, xs, rfl, .inr ⟨sqt_le l h1, Po.ok (d := PyData.tuple es) po l (.tup h1 a1)⟩⟩
      | _ => exact po.elim
    | cons => cases d1 <;> exact po.elim
/-! ### isinstance -/
inductive Ty where
  | int | bool | str | tuple | list
def Ty.nm : Ty → String
  | .int => "int"
  | .bool => "bool"
  | .str => "str"
  | .tuple => "tuple"
  | .list => "list"
def isiD : Ty → PyData → Bool
  | .int, .int _ => true
  | .int, .bool _ => true
  | .bool, .bool _ => true
  | .str, .str _ => true
  | .tuple, .tuple _ => true
  | .list, .list _ => true
  | .list, .dict ((.none, _) :: _) => false
  | .list, .dict ((.bool _, _) :: _) => false
  | .list, .dict _ => true
  | _, _ => false
def tyS : PyData → String
  | .none => "NoneType"
  | .bool _ => "bool"
  | .int _ => "int"
  | .str _ => "str"
  | .list _ => "list"
  | .tuple _ => "tuple"
  | .dict ((.none, _) :: _) => "dict"
  | .dict _ => "list"
theorem kit_all : ∀ t : Ty, ∀ n ∈ ["NoneType", "bool", "int", "str", "list", "tuple", "dict"], kitB n t.nm = some (match t, n with
    | .int, "int" => true
    | .int, "bool" => true
    | .bool, "bool" => true
    | .str, "str" => true
    | .tuple, "tuple" => true
    | .list, "list" => true
    | _, _ => false) := by
  intro t
  cases t <;> decide +kernel
def isDk : PyData → Bool
  | .dict ((.bool _, _) :: _) => true
  | _ => false
theorem kit_d {K : PySem.W.Frag} {G : Hp} {v : V} {d : PyData} (t : Ty) (h : Dq K G v d) (nd : isDk d = false) : PySem.W.kitOne K (.type (tyS d)) (.type t.nm) = some (isiD t d) := by
  cases h with
  | non => exact (kit_ty (kit_all t "NoneType" (by simp))).trans (by cases t <;> rfl)
  | bl b => exact (kit_ty (kit_all t "bool" (by simp))).trans (by cases t <;> rfl)
  | int b => exact (kit_ty (kit_all t "int" (by simp))).trans (by cases t <;> rfl)
  | str b => exact (kit_ty (kit_all t "str" (by simp))).trans (by cases t <;> rfl)
  | lst b c => exact (kit_ty (kit_all t "list" (by simp))).trans (by cases t <;> rfl)
  | tup b c => exact (kit_ty (kit_all t "tuple" (by simp))).trans (by cases t <;> rfl)
  | @scr a ns b => exact (show PySem.W.kitOne K (.type (tyS (.dict (ns.map fun n => (PyData.int n, PyData.none))))) (.type t.nm) = some (isiD t (.dict (ns.map fun n => (PyData.int n, PyData.none)))) by
      have e1 : tyS (.dict (ns.map fun n => (PyData.int n, PyData.none))) = "list" := by cases ns <;> rfl
      have e2 : isiD t (.dict (ns.map fun n => (PyData.int n, PyData.none))) = isiD t (.list []) := by cases ns <;> cases t <;> rfl
      rw [e1, e2]
      exact (kit_ty (kit_all t "list" (by simp))).trans (by cases t <;> rfl))
  | dsk _ _ _ _ => cases nd
  | dsl _ _ _ _ => cases nd
  | dct b => exact (kit_ty (kit_all t "dict" (by simp))).trans (by cases t <;> rfl)
theorem tyx_d {K : PySem.W.Frag} {G H : Hp} {v : V} {d : PyData} (l : Le G H) (h : Dq K G v d) (nd : isDk d = false) : TyX K H v (.type (tyS d)) := by
  cases h with
  | non => exact .base .non
  | bl b => exact .base (.bl b)
  | int i => exact .base (.int i)
  | str x => exact .base (.str x)
  | lst h1 a1 => exact .base (.lst (l _ _ h1))
  | dct h1 => exact .fDict (l _ _ h1)
  | dsk _ _ _ _ => cases nd
  | dsl _ _ _ _ => cases nd
  | @scr a ns h1 =>
    have e1 : tyS (.dict (ns.map fun n => (PyData.int n, PyData.none))) = "list" := by cases ns <;> rfl
    rw [e1]
    rcases h1 with (h1 | ⟨o, h1⟩) | ⟨o, its, n, h1, h2, _⟩
    · exact .base (.lst (l _ _ h1))
    · exact .base (.frz (l _ _ h1))
    · exact .kList h1 h2
  | tup h1 a1 =>
    rcases h1 with (h1 | ⟨o, h1⟩) | ⟨o, its, n, h1, h2, _⟩
    · exact .base (.tup (l _ _ h1))
    · exact .fTuple (l _ _ h1)
    · exact .kTuple h1 h2
theorem ty_d {K : PySem.W.Frag} {G H : Hp} {v : V} {d : PyData} (l : Le G H) (h : Dq K G v d) (t : Ty) : ∃ u, TyX K H v u ∧ PySem.W.kitOne K u (.type t.nm) = some (isiD t d) := by
  cases nd : isDk d with
  | false => exact ⟨_, tyx_d l h nd, kit_d t h nd⟩
  | true =>
    cases h with
    | @scr a ns h1 => cases ns <;> cases nd
    | dsl c h1 h2 h3 => exact ⟨_, .base (.ins (l _ _ h1) c.cl c.ha c.hn c.htk c.hm), (c.kit t.nm (by cases t <;> simp [Ty.nm])).trans (by cases t <;> rfl)⟩
    | dsk c h1 h2 h3 => exact ⟨_, .base (.ins (l _ _ h1) c.cl c.ha c.hn c.htk c.hm), (c.kit t.nm (by cases t <;> simp [Ty.nm])).trans (by cases t <;> rfl)⟩
    | _ => cases nd
def mIsi (t : Ty) (m : M) : M := fun Γ => (m Γ).bind fun d => .ok (.bool (isiD t d))
theorem se_isi (t : Ty) {e : Expr} {m : M} {x : Str} {p p2 pos : Pos} (ha : SE X E e m) (hm : X.mg "isinstance" = none) (hm2 : X.mg x = none) (hv : bootBuiltins x = some (.type t.nm) := by decide +kernel) (hg : Gl X "isinstance" := by exact rfl) (hg2 : Gl X x := by exact rfl)
    (hn : x ≠ "__name__" := by decide) (hd : (x == ("__debug__" : Str)) = false := by decide)
    (he : starEach [e, .Name x p2] X.env = (false, eval e X.env) :: starEach [.Name x p2] X.env := by rfl) (he2 : starEach [.Name x p2] X.env = (false, eval (.Name x p2) X.env) :: starEach [] X.env := by rfl) (hpl : (backTo pos (starEach [.Name x p2] X.env)).any (·.1) = false := by rfl) :
    SE X E (.Call (.Name "isinstance" p) [e, .Name x p2] [] pos) (mIsi t m) :=
  pe_of (pe_callB call_isi hg hm PyProof.Rows.boot_isinstance (pa_cons ha (pa_cons (pe_bltn (v := .ty t.nm) hg2 hm2 hv rfl hn hd) pa_nil he2) he) (he := he) (hpl := hpl)) fun σ H Q ⟨B0, Γ, G, sr, po⟩ => ⟨B0, Γ, G, sr, Po.bind po fun d x G1 H1 _ g1 dx po1 =>
    let ⟨u, t1, t2⟩ := ty_d g1.s dx t
    ⟨x, .ty t.nm, u, .type t.nm, isiD t d, rfl, .ty _, t1, t2, Po.ok (d := PyData.bool (isiD t d)) po1 g1.s (.bl _)⟩⟩
/-! ### slices -/
abbrev RE {α : Type} : Hp → α → α → Prop := fun _ a b => a = b
abbrev SO (X : Cx) (E : XK) (e : Option Expr) (m : Gam → R (Option Int)) : Prop := PO X e (tX X.K RE X.mg E m)
theorem po_of {X : Cx} {e : Option Expr} {t t' : TO} (h : PO X e t) (i : ∀ σ H Q, t' σ H Q → t σ H Q) : PO X e t' := ⟨fun pins s σ H Q I q => h.run pins s σ H Q I (i σ H Q q)⟩
def mPN : Gam → R (Option Int) := fun _ => .ok none
def mPS (m : M) : Gam → R (Option Int) := fun Γ => (m Γ).bind fun d => match d with
  | .int i => .ok (some i)
  | _ => .no
theorem so_none : SO X E none mPN := po_of po_none fun σ H Q ⟨B, Γ, G, sr, po⟩ => Po.ok (Rl := RE) (d := (none : Option Int)) po sr.sub rfl
theorem so_some {e : Expr} {m : M} (h : SE X E e m) : SO X E (some e) (mPS m) := po_of (L2.po_some h) fun σ H Q ⟨B, Γ, G, sr, po⟩ => ⟨B, Γ, G, sr, Po.bind po fun d x G1 H1 _ g1 dx po1 => by
  cases dx with
  | int i => exact ⟨i, rfl, Po.ok (Rl := RE) (d := some i) po1 g1.s rfl⟩
  | _ => exact po1.elim⟩
def cutG {α : Type} (xs : List α) (lo hi : Option Int) : List α := (xs.drop (HT.sIx xs.length 0 lo)).take (HT.sIx xs.length xs.length hi - HT.sIx xs.length 0 lo)
def dSl : PyData → Option Int → Option Int → R PyData
  | .list ds, lo, hi => .ok (.list (cutG ds lo hi))
  | .tuple ds, lo, hi => .ok (.tuple (cutG ds lo hi))
  | .str z, lo, hi => if z.length ≤ 100000 then .ok (.str (cutS z lo hi)) else .no
  | _, _, _ => .no
theorem dqa_cut {K : PySem.W.Frag} {G : Hp} {xs : List V} {ds : List PyData} (h : DqAll K G xs ds) (lo hi : Option Int) : DqAll K G (cutV xs lo hi) (cutG ds lo hi) := by
  unfold cutV cutG
  rw [dpa_len h]
  exact dpa_take _ (dpa_drop _ h)
def mSl (m : M) (lo hi : Gam → R (Option Int)) : M := fun Γ => (m Γ).bind fun d => (lo Γ).bind fun l => (hi Γ).bind fun u => dSl d l u
theorem cutG_all {α : Type} (xs : List α) {lo hi : Option Int} (h : HT.sIx xs.length 0 lo = 0 ∧ HT.sIx xs.length xs.length hi = xs.length) : cutG xs lo hi = xs := by
  unfold cutG
  rw [h.1, h.2]
  simp
theorem se_slice {e : Expr} {m : M} {lo hi : Option Expr} {ml mu : Gam → R (Option Int)} {p2 pos : Pos} (he : SE X E e m) (hl : SO X E lo ml) (hu : SO X E hi mu) : SE X E (.Subscript e (.Slice lo hi none p2) pos) (mSl m ml mu) :=
  pe_of (pe_slice (sl_list.or (sl_tupA.or sl_str)) he hl hu) fun σ H Q ⟨B, Γ, G, sr, po⟩ => ⟨B, Γ, G, sr, Po.bind po fun d x G1 H1 _ g1 dx po1 => ⟨B, Γ, G1, sr.gr g1, Po.bind po1 fun l l' G2 H2 _ g2 el po2 => ⟨B, Γ, G2, (sr.gr g1).gr g2, Po.bind po2 fun u u' G3 H3 _ g3 eu po3 => by
    have el : l' = l := el
    have eu : u' = u := eu
    subst el eu
    have dx := dp_le g3.g (dp_le g2.g dx)
    cases dx with
    | @lst a xs ds h1 a1 => exact .inl ⟨a, xs, rfl, (sq1 g3.s h1), fun p hp => po_lst po3 g3.s hp (dqa_cut a1 _ _)⟩
    | @tup a xs ds h1 a1 =>
      refine .inr (.inl ⟨a, xs, rfl, sqt_le g3.s h1, fun hw => ?_, fun hw p hp => po_tup po3 g3.s hp (dqa_cut a1 _ _)⟩)
      rw [dpa_len a1] at hw
      have e := cutG_all ds hw
      replace po3 : Po (Dq X.K) X.mg E G3 H3 Q (.ok (.tuple (cutG ds l' u'))) := po3
      rw [e] at po3
      exact po3.ok g3.s (.tup h1 a1)
    | str z =>
      replace po3 : Po (Dq X.K) X.mg E G3 H3 Q (if z.length ≤ 100000 then .ok (.str (cutS z l' u')) else .no) := po3
      split at po3
      · rename_i hz
        exact .inr (.inr ⟨z, rfl, sz_of hz, Po.ok (d := PyData.str (cutS z l' u')) po3 g3.s (.str _)⟩)
      · exact po3.elim
    | _ => exact po3.elim⟩⟩⟩
/-! ### list(range(..)), len(set(..)) -/
theorem rgV_d {K : PySem.W.Frag} {G : Hp} (a b : Int) : DqAll K G (rgV a b) (intsFrom a (b - a).toNat) := by
  have h := dpa_ofInts (K := K) (G := G) ((List.range (b - a).toNat).map fun i => a + (i : Nat))
  unfold rgV intsFrom
  simpa [List.map_map, Function.comp_def] using h
def mLstR (m : Gam → R (List PyData)) : M := fun Γ => (m Γ).bind fun ds => (rngD ds).bind fun es => .ok (.list es)
theorem se_listR1 {a : Expr} {m : Gam → R (List PyData)} {p p2 q2 pos : Pos} (hc : X.calm = true) (hm : X.mg "list" = none) (hm2 : X.mg "range" = none) (ha : SA X E [a] m) {m1 : M} (ha1 : SE X E a m1) (e1 : m = mCons m1 mNil) (hg : Gl X "list" := by exact rfl) (hg2 : Gl X "range" := by exact rfl)
    (na : starEach [a] X.env = (false, eval a X.env) :: starEach [] X.env := by rfl) (na2 : starEach [.Call (.Name "range" p2) [a] [] q2] X.env = (false, eval (.Call (.Name "range" p2) [a] [] q2) X.env) :: starEach [] X.env := by rfl) :
    SE X E (.Call (.Name "list" p) [.Call (.Name "range" p2) [a] [] q2] [] pos) (mLstR m) :=
  pe_of (pe_listRg hc hg hm (prg_1 hg2 hm2 ha1 na) na2) fun σ H Q ⟨B, Γ, G, sr, po⟩ => ⟨B, Γ, G, sr, by
    subst e1
    unfold mLstR mCons mNil at po
    cases q : m1 Γ with
    | no => rw [q] at po; exact po.elim
    | ex c => rw [q] at po; exact po
    | ok d =>
      rw [q] at po
      intro x G1 H1 g1 dx
      cases dx with
      | int n =>
        replace po : Po (Dq X.K) X.mg E G H Q ((if -1000000 ≤ n ∧ n ≤ 1000000 then R.ok (intsFrom 0 n.toNat) else .no).bind fun es => .ok (.list es)) := po
        split at po
        · rename_i hn
          refine ⟨n, rfl, ⟨by omega, by omega, by omega, by omega, by omega⟩, fun q hq => ?_⟩
          have e := rgV_d (K := X.K) (G := G1) 0 n
          rw [Int.sub_zero] at e
          exact po_lst (po.gr g1) g1.s hq e
        · exact po.elim
      | _ => exact po.elim⟩
theorem se_listR2 {a b : Expr} {ma mb : M} {p p2 q2 pos : Pos} (hc : X.calm = true) (hm : X.mg "list" = none) (hm2 : X.mg "range" = none) (ha : SE X E a ma) (hb : SE X E b mb) (hg : Gl X "list" := by exact rfl) (hg2 : Gl X "range" := by exact rfl)
    (na : starEach [a, b] X.env = (false, eval a X.env) :: starEach [b] X.env := by rfl) (nb : starEach [b] X.env = (false, eval b X.env) :: starEach [] X.env := by rfl) (hp : (backTo q2 (starEach [b] X.env)).any (·.1) = false := by rfl)
    (na2 : starEach [.Call (.Name "range" p2) [a, b] [] q2] X.env = (false, eval (.Call (.Name "range" p2) [a, b] [] q2) X.env) :: starEach [] X.env := by rfl) :
    SE X E (.Call (.Name "list" p) [.Call (.Name "range" p2) [a, b] [] q2] [] pos) (mLstR (mCons ma (mCons mb mNil))) :=
  pe_of (pe_listRg hc hg hm (prg_2 hg2 hm2 ha hb na nb hp) na2) fun σ H Q ⟨B, Γ, G, sr, po⟩ => ⟨B, Γ, G, sr, by
    unfold mLstR mCons mNil at po
    cases q : ma Γ with
    | no => rw [q] at po; exact po.elim
    | ex c => rw [q] at po; exact po
    | ok d =>
      rw [q, R.bind_ok] at po
      intro x G1 H1 g1 dx
      refine ⟨B, Γ, G1, sr.gr g1, ?_⟩
      cases q2 : mb Γ with
      | no => rw [q2] at po; exact po.elim
      | ex c => rw [q2] at po; exact fun H' l => po H' (le_trans g1.h l)
      | ok e =>
        rw [q2] at po
        intro y G2 H2 g2 dy
        have dx := dp_le g2.g dx
        cases dx with
        | int i =>
          cases dy with
          | int j =>
            replace po : Po (Dq X.K) X.mg E G H Q ((if (-1000000 ≤ i ∧ i ≤ 1000000) ∧ -1000000 ≤ j ∧ j ≤ 1000000 then R.ok (intsFrom i (j - i).toNat) else .no).bind fun es => .ok (.list es)) := po
            split at po
            · rename_i hn
              refine ⟨i, j, rfl, rfl, ⟨by omega, by omega, by omega, by omega, by omega⟩, fun q hq => ?_⟩
              exact po_lst ((po.gr g1).gr g2) g2.s hq (rgV_d i j)
            · exact po.elim
          | _ => exact po.elim
        | _ => cases dy <;> exact po.elim⟩
def dLenSet : PyData → R PyData
  | .list ds => (oR (intsOf ds)).bind fun ns => if ns.Nodup ∧ ns.length ≤ 4000 then .ok (.int (ns.length : Nat)) else .no
  | _ => .no
def mLenSet (m : M) : M := fun Γ => (m Γ).bind dLenSet
theorem se_lenset {a : Expr} {m : M} {p p2 q pos : Pos} (hc : X.calm = true) (hm : X.mg "len" = none) (hm2 : X.mg "set" = none) (ha : SE X E a m) (hg : Gl X "len" := by exact rfl) (hg2 : Gl X "set" := by exact rfl)
    (na : starEach [a] X.env = (false, eval a X.env) :: starEach [] X.env := by rfl) : SE X E (.Call (.Name "len" p) [.Call (.Name "set" p2) [a] [] q] [] pos) (mLenSet m) :=
  pe_of (RZ.pe_lenSetI hg hm hg2 hm2 ha hc na) fun σ H Q ⟨B, Γ, G, sr, po⟩ => ⟨B, Γ, G, sr, Po.bind po fun d x G1 H1 _ g1 dx po1 => by
    cases dx with
    | @lst a xs ds h1 a1 =>
      replace po1 : Po (Dq X.K) X.mg E G1 H1 Q ((oR (intsOf ds)).bind fun ns => if ns.Nodup ∧ ns.length ≤ 4000 then .ok (.int (ns.length : Nat)) else .no) := po1
      cases e : intsOf ds with
      | none => rw [e] at po1; exact po1.elim
      | some ns =>
        rw [e, oR_some, R.bind_ok] at po1
        have := intsOf_eq e; subst this
        have := dpa_ints a1; subst this
        split at po1
        · rename_i h
          exact ⟨a, ns, rfl, (sq1 g1.s h1), h.1, h.2, Po.ok (d := PyData.int (ns.length : Nat)) po1 g1.s (.int _)⟩
        · exact po1.elim
    | _ => exact po1.elim⟩
end
/-! ### a def -/
def mDef (m : MS) (n : Nat) : List PyData → R PyData := fun ds => match m (ds.map .v ++ List.replicate (n - ds.length) .no) with
  | .rt d => .ok d
  | .nx _ => .ok .none
  | .ex c => .ex c
  | _ => .no
theorem gat_start : ∀ (ds : List PyData) (k i : Nat) (d : PyData), gat (ds.map Sl.v ++ List.replicate k .no) i = .v d → ds[i]? = some d
  | [], k, i, d, h => by
    exfalso
    have : ∀ (k i : Nat), gat (List.replicate k .no) i = .no := by
      intro k
      induction k with
      | zero => intro i; rfl
      | succ k ih => intro i; cases i with
        | zero => rfl
        | succ i => exact ih i
    simp [this] at h
  | e :: ds, k, 0, d, h => by simp at h; simp [h]
  | e :: ds, k, i + 1, d, h => by
    simp at h
    simpa using gat_start ds k i d h
theorem gat_start_own : ∀ (ds : List PyData) (k i : Nat) (es : List PyData), gat (ds.map Sl.v ++ List.replicate k .no) i ≠ .own es
  | [], k, i, d, h => by
    have : ∀ (k i : Nat), gat (List.replicate k .no) i = .no := by
      intro k
      induction k with
      | zero => intro i; rfl
      | succ k ih => intro i; cases i with
        | zero => rfl
        | succ i => exact ih i
    simp [this] at h
  | e :: ds, k, 0, d, h => by simp at h
  | e :: ds, k, i + 1, d, h => by
    simp at h
    exact gat_start_own ds k i d h
theorem gat_start_ad : ∀ (ds : List PyData) (k i : Nat) (es : Addr), gat (ds.map Sl.v ++ List.replicate k .no) i ≠ .ad es
  | [], k, i, d, h => by
    have : ∀ (k i : Nat), gat (List.replicate k .no) i = .no := by
      intro k
      induction k with
      | zero => intro i; rfl
      | succ k ih => intro i; cases i with
        | zero => rfl
        | succ i => exact ih i
    simp [this] at h
  | e :: ds, k, 0, d, h => by simp at h
  | e :: ds, k, i + 1, d, h => by
    simp at h
    exact gat_start_ad ds k i d h
theorem sr_start {K : PySem.W.Frag} {G H : Hp} {vs : List V} {ds : List PyData} {N : List Str} (l : Le G H) (d : DqAll K G vs ds) (h : ds.length ≤ N.length) : SZ K G H G H (L2.start N vs) (ds.map .v ++ List.replicate (N.length - ds.length) .no) := by
  have hl := dpa_len d
  refine ⟨⟨l, by simp [L2.start]; omega, fun i e q => ?_, fun i es q => absurd q (gat_start_own _ _ _ _), fun i j es fs p q => absurd q (gat_start_own _ _ _ _), fun i es p q => absurd q (gat_start_own _ _ _ _), fun i a q => absurd q (gat_start_ad _ _ _ _)⟩, Gr.refl l⟩
  have q := gat_start _ _ _ _ q
  obtain ⟨v, hv, dv⟩ := dpa_get d q
  refine ⟨v, ?_, dv⟩
  have hi := (List.getElem?_eq_some_iff.mp hv).1
  unfold L2.start
  rw [List.getElem?_append_left (by simpa using hi), List.getElem?_map, hv]
  rfl
section
variable {P : Program} {w : World} {K : PySem.W.Frag} {mg : Str → Option Value} {base : Heap}
/-- how a def of the text stands behind the top -/
abbrev FnP (K : PySem.W.Frag) (x : Str) (st : Stmt) (f : Addr) (fd : FuncData) : Prop := FunD K x x (defArgs st) (defBody st) (defScope st) [] [] f fd
theorem dn_mk {x : Str} {st : Stmt} {f : Addr} {fd : FuncData} {N ps : List Str} {k : Nat} {m : MS} (F : FnP K x st f fd) (S : FnScope N ps (defScope st)) (hg : mg x = some (.ref f)) (hb : L2.Binds K fd ps []) (hl : ps.length ≤ N.length)
    (body : ∀ (cdv : Value) (A : Around) (outer : List Env) (s : Shared) (H : Hp) (E : XK), Room k (A.deeper (envOfC x (defScope st) s.heap.objs.size f cdv)) →
      SB (cxOf (L2.CX P w) P w K mg base N x (defScope st) f cdv A outer s H E) E (defBody st) m) : Dn P w K mg base (k + 1) x ps.length (mDef m N.length) :=
  ⟨f, fd, ps, hg, rfl, F.ok S (fun vs H Q E h => spD_len h) (fun cdv A outer s H vs Q E hr ⟨G, ds, l, dx, hn, po⟩ => ⟨_, body cdv A outer s H E hr, G, H, G, _, sr_start (N := N) l dx (by rw [hn]; exact hl), by
    replace po : Po (Dq K) mg E G H Q (mDef m N.length ds) := po
    unfold mDef at po
    show PoS K mg E G H { nx := fun _ H' => Q .non H', rt := Q } (m (ds.map .v ++ List.replicate (N.length - ds.length) .no))
    cases e : m (ds.map .v ++ List.replicate (N.length - ds.length) .no) with
    | nx Γ => rw [e] at po; exact fun σ' G' H' s' => po .non G' H' s'.gr .non
    | rt d => rw [e] at po; exact po
    | ex c => rw [e] at po; exact po
    | bk Γ => rw [e] at po; exact po.elim
    | ct Γ => rw [e] at po; exact po.elim
    | no => rw [e] at po; exact po.elim⟩), F.kp, hb⟩
end
end PD

/-! The data layer: how mirrors are reckoned. -/
namespace PD
open PySem L2
section
variable (Γ : Gam) (a b c m : M) (t u : Gam → R Bool) (ms ml : Gam → R (List PyData)) (g g' : PyData → PyData → R PyData) (l : List Nat) (s s' : MS) (i : Nat) (d e : PyData) (ds es : List PyData)
@[simp] theorem ap_C : mC d Γ = .ok d := rfl
@[simp] theorem ap_Var : mVar i Γ = match gat Γ i with
  | .v d => .ok d
  | _ => .no := rfl
@[simp] theorem ap_Op : mOp g a b Γ = (a Γ).bind fun x => (b Γ).bind fun y => g x y := rfl
@[simp] theorem ap_B : mB a Γ = (a Γ).bind asB := rfl
@[simp] theorem ap_And : mAnd t u Γ = (t Γ).bind fun c => if c = true then u Γ else .ok false := rfl
@[simp] theorem ap_Or : mOr t u Γ = (t Γ).bind fun c => if c = true then .ok true else u Γ := rfl
@[simp] theorem ap_Not : mNot t Γ = (t Γ).bind fun c => .ok (!c) := rfl
@[simp] theorem ap_AndV : mAndV a b Γ = (a Γ).bind fun d => (asB d).bind fun c => if c = true then b Γ else .ok (.bool false) := rfl
@[simp] theorem ap_OrV : mOrV a b Γ = (a Γ).bind fun d => (asB d).bind fun c => if c = true then .ok (.bool true) else b Γ := rfl
@[simp] theorem ap_NotV : mNotV a Γ = (a Γ).bind fun d => (asB d).bind fun c => .ok (.bool (!c)) := rfl
@[simp] theorem ap_If : mIf t a b Γ = (t Γ).bind fun c => if c = true then a Γ else b Γ := rfl
@[simp] theorem ap_Chain : mChain g g' a b c Γ = (a Γ).bind fun x => (b Γ).bind fun y => (g x y).bind fun k => (asB k).bind fun q => if q = true then (c Γ).bind fun z => g' y z else .ok (.bool false) := rfl
@[simp] theorem ap_Nil : mNil Γ = .ok [] := rfl
@[simp] theorem ap_Cons : mCons a ms Γ = (a Γ).bind fun d => (ms Γ).bind fun ds => .ok (d :: ds) := rfl
@[simp] theorem ap_Tup : mTup ms Γ = (ms Γ).bind fun ds => .ok (.tuple ds) := rfl
@[simp] theorem ap_L : mL ms Γ = (ms Γ).bind fun ds => .ok (.list ds) := rfl
@[simp] theorem ap_Call (f : List PyData → R PyData) : mCall f ms Γ = (ms Γ).bind f := rfl
@[simp] theorem ap_Neg : mNeg a Γ = (a Γ).bind dNeg := rfl
@[simp] theorem ap_IxO : mIxO i a Γ = match gat Γ i with
  | .own ds => (a Γ).bind fun k => dIx (.list ds) k
  | .v d => (a Γ).bind fun k => dIx d k
  | .ad _ => .no
  | .no => .no := rfl
@[simp] theorem ap_Items : mItems a Γ = (a Γ).bind itemsD := rfl
@[simp] theorem ap_Rng : mRng ms Γ = (ms Γ).bind rngD := rfl
@[simp] theorem ap_Enum : mEnum ms Γ = (ms Γ).bind enumD := rfl
@[simp] theorem ap_Zip : mZip ms Γ = (ms Γ).bind zipD := rfl
@[simp] theorem ap_Name : bName i d Γ = some (Γ.set i (.v d)) := rfl
@[simp] theorem ap_bAll0 : bAll [] [] Γ = some Γ := rfl
@[simp] theorem ap_bAll (p : Bd) (ps : List Bd) : bAll (p :: ps) (d :: ds) Γ = (p d Γ).bind fun Γ1 => bAll ps ds Γ1 := rfl
@[simp] theorem ap_bTup (ps : List Bd) : bTup ps (.tuple ds) Γ = bAll ps ds Γ := rfl
@[simp] theorem ap_Lc (own : List Nat) (p : Bd) : mLc own ms p t a Γ = (ms Γ).bind fun ds => lcGo p t a (wpG Γ own) ds := rfl
@[simp] theorem ap_T : mT Γ = .ok true := rfl
@[simp] theorem ap_Seq : mSeq s s' Γ = match s Γ with
  | .nx Γ1 => s' Γ1
  | o => o := rfl
@[simp] theorem ap_Skip : mSkip Γ = .nx Γ := rfl
@[simp] theorem ap_Break : mBreak Γ = .bk Γ := rfl
@[simp] theorem ap_Cont : mCont Γ = .ct Γ := rfl
@[simp] theorem ap_Raise (c : Str) : mRaise c Γ = .ex c := rfl
@[simp] theorem ap_Do : mDo l a Γ = mEv l a Γ fun _ Γ1 => .nx Γ1 := rfl
@[simp] theorem ap_Ret : mRet l a Γ = mEv l a Γ fun d _ => .rt d := rfl
@[simp] theorem ap_Set : mSet i l a Γ = mEv l a Γ fun d Γ1 => .nx (Γ1.set i (.v d)) := rfl
@[simp] theorem ap_Own : mOwn i l ml Γ = mEvL l ml Γ fun ds => .nx ((fz l Γ).set i (.own ds)) := rfl
@[simp] theorem ap_Asg (p : Bd) : mAsg p l a Γ = mEv l a Γ fun d Γ1 => match p d Γ1 with
  | some Γ2 => .nx Γ2
  | none => .no := rfl
@[simp] theorem ap_Par (is : List Nat) (its : List Pi) : mPar is l its Γ = match mPis its (fz l Γ) with
  | .ok ss => .nx (gsetAll is ss (fz l Γ))
  | .ex c => .ex c
  | .no => .no := rfl
@[simp] theorem ap_App : mApp i l a Γ = match gat Γ i with
  | .own _ => mEv l a Γ fun d Γ1 => match gat Γ1 i with
    | .own ds => if ds.length < 100000 then .nx (Γ1.set i (.own (ds ++ [d]))) else .no
    | _ => .no
  | _ => .no := rfl
@[simp] theorem ap_Ext : mExt i l a Γ = match gat Γ i with
  | .own _ => mEv l a Γ fun d Γ1 => match gat Γ1 i, d with
    | .own ds, .list es => if ds.length + es.length ≤ 100000 then .nx (Γ1.set i (.own (ds ++ es))) else .no
    | _, _ => .no
  | _ => .no := rfl
@[simp] theorem ap_IfS : mIfS l t s s' Γ = mEvB l t Γ fun c => if c = true then s Γ else s' Γ := rfl
@[simp] theorem ap_For (p : Bd) : mFor l ms p s Γ = mEvL l ms Γ fun ds => forGo p s ds (fz l Γ) := rfl
@[simp] theorem ap_Pis0 : mPis [] Γ = .ok [] := rfl
@[simp] theorem ap_PisV (r : List Pi) : mPis (.v a :: r) Γ = (a Γ).bind fun d => (mPis r Γ).bind fun ss => .ok (.v d :: ss) := rfl
@[simp] theorem ap_PisO (r : List Pi) : mPis (.o ml :: r) Γ = (ml Γ).bind fun d => (mPis r Γ).bind fun ss => .ok (.own d :: ss) := rfl
@[simp] theorem ap_gsetAll (is : List Nat) (x : Sl) (ss : List Sl) : gsetAll (i :: is) (x :: ss) Γ = gsetAll is ss (Γ.set i x) := rfl
@[simp] theorem ap_gsetAll0 (ss : List Sl) : gsetAll [] ss Γ = Γ := rfl
@[simp] theorem ap_Isi (ty : Ty) : mIsi ty a Γ = (a Γ).bind fun d => .ok (.bool (isiD ty d)) := rfl
@[simp] theorem ap_PN : mPN Γ = .ok none := rfl
@[simp] theorem ap_PS : mPS a Γ = (a Γ).bind fun d => match d with
  | .int i => .ok (some i)
  | _ => .no := rfl
@[simp] theorem ap_Sl (lo hi : Gam → R (Option Int)) : mSl a lo hi Γ = (a Γ).bind fun d => (lo Γ).bind fun l => (hi Γ).bind fun u => dSl d l u := rfl
@[simp] theorem ap_LstR : mLstR ms Γ = (ms Γ).bind fun ds => (rngD ds).bind fun es => .ok (.list es) := rfl
@[simp] theorem ap_LenSet : mLenSet a Γ = (a Γ).bind dLenSet := rfl
end
/-! evaluation, by the value -/
theorem mEv_ok {l : List Nat} {m : M} {Γ : Gam} {k : PyData → Gam → Out} {d : PyData} (h : m (fz l Γ) = .ok d) : mEv l m Γ k = k d (if flatD d then Γ else fz l Γ) := by unfold mEv; rw [h]
@[simp] theorem mEv_eq (l : List Nat) (m : M) (Γ : Gam) (k : PyData → Gam → Out) : mEv l m Γ k = match m (fz l Γ) with
  | .ok d => k d (if flatD d = true then Γ else fz l Γ)
  | .ex c => .ex c
  | .no => .no := by unfold mEv; cases m (fz l Γ) <;> rfl
theorem mEv_nil (m : M) (Γ : Gam) (k : PyData → Gam → Out) : mEv [] m Γ k = match m Γ with
  | .ok d => k d Γ
  | .ex c => .ex c
  | .no => .no := by unfold mEv; rw [fz_nil]; cases m Γ <;> simp
@[simp] theorem mEvB_eq (l : List Nat) (m : Gam → R Bool) (Γ : Gam) (k : Bool → Out) : mEvB l m Γ k = match m (fz l Γ) with
  | .ok b => k b
  | .ex c => .ex c
  | .no => .no := rfl
@[simp] theorem mEvL_eq (l : List Nat) (m : Gam → R (List PyData)) (Γ : Gam) (k : List PyData → Out) : mEvL l m Γ k = match m (fz l Γ) with
  | .ok b => k b
  | .ex c => .ex c
  | .no => .no := rfl
@[simp] theorem fz1_own_zero (ds : List PyData) (r : Gam) : fz1 0 (.own ds :: r) = .v (.list ds) :: r := rfl
@[simp] theorem fz1_v_zero (d : PyData) (r : Gam) : fz1 0 (.v d :: r) = .v d :: r := rfl
@[simp] theorem fz1_no_zero (r : Gam) : fz1 0 (.no :: r) = .no :: r := rfl
@[simp] theorem fz1_succ (i : Nat) (s : Sl) (r : Gam) : fz1 (i + 1) (s :: r) = s :: fz1 i r := by
  unfold fz1
  simp only [gat_succ]
  split <;> simp
@[simp] theorem flat_none : flatD .none = true := rfl
@[simp] theorem flat_bool (b : Bool) : flatD (.bool b) = true := rfl
@[simp] theorem flat_int (b : Int) : flatD (.int b) = true := rfl
@[simp] theorem flat_str (b : Str) : flatD (.str b) = true := rfl
@[simp] theorem flat_list (b : List PyData) : flatD (.list b) = false := rfl
@[simp] theorem flat_tuple (b : List PyData) : flatD (.tuple b) = false := rfl
/-! operators upon ints -/
@[simp] theorem dAdd_int (i j : Int) : dAdd (.int i) (.int j) = .ok (.int (i + j)) := rfl
@[simp] theorem dSub_int (i j : Int) : dSub (.int i) (.int j) = .ok (.int (i - j)) := rfl
theorem dMul_int (i j : Int) : dMul (.int i) (.int j) = if (-(2 ^ 64) < i ∧ i < 2 ^ 64) ∨ (-(2 ^ 64) < j ∧ j < 2 ^ 64) then .ok (.int (i * j)) else .no := rfl
theorem dMul_r {i j : Int} (h1 : -(2 ^ 64) < j) (h2 : j < 2 ^ 64) : dMul (.int i) (.int j) = .ok (.int (i * j)) := by rw [dMul_int, if_pos (.inr ⟨h1, h2⟩)]
theorem dMul_l {i j : Int} (h1 : -(2 ^ 64) < i) (h2 : i < 2 ^ 64) : dMul (.int i) (.int j) = .ok (.int (i * j)) := by rw [dMul_int, if_pos (.inl ⟨h1, h2⟩)]
theorem dDiv_int {i j : Int} (h1 : 0 < j) (h2 : j < 2 ^ 64) : dDiv (.int i) (.int j) = .ok (PyData.int (i / j)) := by
  show (if 0 < j ∧ j < 2 ^ 64 then R.ok (PyData.int (i / j)) else .no) = _
  rw [if_pos ⟨h1, h2⟩]
theorem dMod_int {i j : Int} (h1 : 0 < j) : dMod (.int i) (.int j) = .ok (PyData.int (i % j)) := by
  show (if 0 < j then R.ok (PyData.int (i % j)) else .no) = _
  rw [if_pos h1]
@[simp] theorem dNeg_int (i : Int) : dNeg (.int i) = .ok (.int (-i)) := rfl
@[simp] theorem eqD_int (i j : Int) : eqD (.int i) (.int j) = .ok (decide (i = j)) := rfl
@[simp] theorem eqD_str (i j : Str) : eqD (.str i) (.str j) = .ok (decide (i = j)) := rfl
@[simp] theorem eqD_bool (i j : Bool) : eqD (.bool i) (.bool j) = .ok (decide (i = j)) := rfl
@[simp] theorem dEq_def (d e : PyData) : dEq d e = (eqD d e).bind fun b => .ok (.bool b) := rfl
@[simp] theorem dNe_def (d e : PyData) : dNe d e = (eqD d e).bind fun b => .ok (.bool (!b)) := rfl
@[simp] theorem dIn_def (d e : PyData) : dIn d e = (inD d e).bind fun b => .ok (.bool b) := rfl
@[simp] theorem dNotIn_def (d e : PyData) : dNotIn d e = (inD d e).bind fun b => .ok (.bool (!b)) := rfl
@[simp] theorem dIs_def (d e : PyData) : dIs d e = (isD d e).bind fun b => .ok (.bool b) := rfl
@[simp] theorem dIsNot_def (d e : PyData) : dIsNot d e = (isD d e).bind fun b => .ok (.bool (!b)) := rfl
@[simp] theorem isD_bool (a b : Bool) : isD (.bool a) (.bool b) = .ok (decide (a = b)) := rfl
@[simp] theorem isD_int_none (a : Int) : isD (.int a) .none = .ok false := rfl
@[simp] theorem isD_str_none (a : Str) : isD (.str a) .none = .ok false := rfl
@[simp] theorem isD_tuple_none (a : List PyData) : isD (.tuple a) .none = .ok false := rfl
@[simp] theorem isD_list_none (a : List PyData) : isD (.list a) .none = .ok false := rfl
@[simp] theorem isD_none_none : isD .none .none = .ok true := rfl
@[simp] theorem isi_int_int (i : Int) : isiD .int (.int i) = true := rfl
@[simp] theorem isi_int_bool (i : Bool) : isiD .int (.bool i) = true := rfl
@[simp] theorem isi_bool_int (i : Int) : isiD .bool (.int i) = false := rfl
@[simp] theorem isi_bool_bool (i : Bool) : isiD .bool (.bool i) = true := rfl
@[simp] theorem isi_tuple (i : List PyData) : isiD .tuple (.tuple i) = true := rfl
@[simp] theorem isi_list (i : List PyData) : isiD .list (.list i) = true := rfl
@[simp] theorem isi_str (i : Str) : isiD .str (.str i) = true := rfl
@[simp] theorem dLen_list (ds : List PyData) : dLen [.list ds] = .ok (.int (ds.length : Nat)) := rfl
@[simp] theorem dLen_tuple (ds : List PyData) : dLen [.tuple ds] = .ok (.int (ds.length : Nat)) := rfl
@[simp] theorem dLen_dict (ns : List Int) : dLen [.dict (ns.map fun n => (.int n, .none))] = .ok (.int (ns.length : Nat)) := by cases ns <;> simp [dLen]
@[simp] theorem dMax_int (i j : Int) : dMax [.int i, .int j] = .ok (.int (if j > i then j else i)) := rfl
@[simp] theorem dMin_int (i j : Int) : dMin [.int i, .int j] = .ok (.int (if j < i then j else i)) := rfl
@[simp] theorem dTuple_list (ds : List PyData) : dTuple [.list ds] = .ok (.tuple ds) := rfl
@[simp] theorem dTuple_tuple (ds : List PyData) : dTuple [.tuple ds] = .ok (.tuple ds) := rfl
@[simp] theorem dList_list (ds : List PyData) : dList [.list ds] = .ok (.list ds) := rfl
@[simp] theorem itemsD_list (ds : List PyData) : itemsD (.list ds) = .ok ds := rfl
@[simp] theorem itemsD_tuple (ds : List PyData) : itemsD (.tuple ds) = .ok ds := rfl
@[simp] theorem dIx_list (ds : List PyData) (i : Int) : dIx (.list ds) (.int i) = oR (atI ds i) := rfl
@[simp] theorem dIx_tuple (ds : List PyData) (i : Int) : dIx (.tuple ds) (.int i) = oR (atI ds i) := rfl
@[simp] theorem atI_0 {α : Type} (x : α) (r : List α) : atI (x :: r) 0 = some x := atI_nat (j := 0) rfl
@[simp] theorem atI_1 {α : Type} (x y : α) (r : List α) : atI (x :: y :: r) 1 = some y := atI_nat (j := 1) rfl
@[simp] theorem atI_2 {α : Type} (x y z : α) (r : List α) : atI (x :: y :: z :: r) 2 = some z := atI_nat (j := 2) rfl
@[simp] theorem boolsOf_mapf {α : Type} (f : α → Bool) : ∀ xs : List α, boolsOf (xs.map fun x => PyData.bool (f x)) = some (xs.map f)
  | [] => rfl
  | x :: xs => by simp [boolsOf, boolsOf_mapf f xs]
@[simp] theorem intsOf_mapf {α : Type} (f : α → Int) : ∀ xs : List α, intsOf (xs.map fun x => PyData.int (f x)) = some (xs.map f)
  | [] => rfl
  | x :: xs => by simp [intsOf, intsOf_mapf f xs]
@[simp] theorem strsOf_mapf {α : Type} (f : α → Str) : ∀ xs : List α, strsOf (xs.map fun x => PyData.str (f x)) = some (xs.map f)
  | [] => rfl
  | x :: xs => by simp [strsOf, strsOf_mapf f xs]
@[simp] theorem dAll_mapf {α : Type} (f : α → Bool) (xs : List α) : dAll [.list (xs.map fun x => PyData.bool (f x))] = .ok (.bool (xs.all f)) := by
  show (oR (boolsOf (xs.map fun x => PyData.bool (f x)))).bind _ = _
  simp [List.all_map, Function.comp_def]
@[simp] theorem dAny_mapf {α : Type} (f : α → Bool) (xs : List α) : dAny [.list (xs.map fun x => PyData.bool (f x))] = .ok (.bool (xs.any f)) := by
  show (oR (boolsOf (xs.map fun x => PyData.bool (f x)))).bind _ = _
  simp [List.any_map, Function.comp_def]
@[simp] theorem dSl_list (ds : List PyData) (l u : Option Int) : dSl (.list ds) l u = .ok (.list (cutG ds l u)) := rfl
@[simp] theorem dSl_tuple (ds : List PyData) (l u : Option Int) : dSl (.tuple ds) l u = .ok (.tuple (cutG ds l u)) := rfl
@[simp] theorem zipD_list (ds es : List PyData) : zipD [.list ds, .list es] = .ok (zipL ds es) := rfl
@[simp] theorem zipD_tuple (ds es : List PyData) : zipD [.tuple ds, .tuple es] = .ok (zipL ds es) := rfl
@[simp] theorem enumD_list (ds : List PyData) : enumD [.list ds] = .ok (enumFrom 0 ds) := rfl
end PD

/-! The data layer: how a law ends. -/
namespace PD
open PySem PySem.Spec PyProof.Rows L2
theorem fn_mk {P : Program} {w : World} {K : PySem.W.Frag} {mg : Str → Option Value} {base : Heap} {x : Str} {st : Stmt} {f : Addr} {fd : FuncData} {N ps : List Str} {k : Nat} {m : MS} (F : FnP K x st f fd) (S : FnScope N ps (defScope st)) (hl : ps.length ≤ N.length)
    (body : ∀ (cdv : Value) (A : Around) (outer : List Env) (s : Shared) (H : Hp) (E : XK), Room k (A.deeper (envOfC x (defScope st) s.heap.objs.size f cdv)) →
      SB (cxOf (L2.CX P w) P w K mg base N x (defScope st) f cdv A outer s H E) E (defBody st) m) : FnOk P w K mg base (L2.CX P w) (k + 1) f fd ps (spD K mg ps.length (mDef m N.length)) :=
  F.ok S (fun vs H Q E h => spD_len h) (fun cdv A outer s H vs Q E hr ⟨G, ds, l, dx, hn, po⟩ => ⟨_, body cdv A outer s H E hr, G, H, G, _, sr_start (N := N) l dx (by rw [hn]; exact hl), by
    replace po : Po (Dq K) mg E G H Q (mDef m N.length ds) := po
    unfold mDef at po
    show PoS K mg E G H { nx := fun _ H' => Q .non H', rt := Q } (m (ds.map .v ++ List.replicate (N.length - ds.length) .no))
    cases e : m (ds.map .v ++ List.replicate (N.length - ds.length) .no) with
    | nx Γ => rw [e] at po; exact fun σ' G' H' s' => po .non G' H' s'.gr .non
    | rt d => rw [e] at po; exact po
    | ex c => rw [e] at po; exact po
    | bk Γ => rw [e] at po; exact po.elim
    | ct Γ => rw [e] at po; exact po.elim
    | no => rw [e] at po; exact po.elim⟩)
/-- an exception's context, in some world -/
def CXA (P : Program) : CXT := fun outer H s E u s' => ∃ w, L2.CX P w outer H s E u s'
theorem fn_a {P : Program} {w : World} {K : PySem.W.Frag} {mg : Str → Option Value} {base : Heap} {k : Nat} {f : Addr} {fd : FuncData} {ps : List Str} {sp : Sp} (F : FnOk P w K mg base (L2.CX P w) k f fd ps sp) : FnOk P w K mg base (CXA P) k f fd ps sp where
  len := F.len
  run := fun A outer s H args us vs Q E hr he hb hv h => codeAny_mono (F.run A outer s H args us vs Q E hr he hb hv h) fun r s' q => by
    cases r with
    | ok fl => cases fl <;> exact q
    | error e => exact ⟨w, q⟩
theorem cxa_no {P : Program} (H : Hp) (s : Shared) (e : Value) (s' : Shared) : CXA P [] H s (fun _ _ _ => False) e s' → False := fun ⟨_, _, _, _, _, _, _, _, _, _, _, _, _, z⟩ => z
theorem sp_law {K : PySem.W.Frag} {mg : Str → Option Value} {g : List PyData → R PyData} (H : Hp) (a : Addr) (ns : List Int) (hS : SqL K H a (ns.map V.int)) (h : g [.dict (ns.map fun n => (.int n, .none))] = .ok (.bool true)) :
    spD K mg 1 g [.ref a] H (fun v _ => v = .bl true) fun _ _ _ => False := by
  refine ⟨H, [.dict (ns.map fun n => (.int n, .none))], fun _ _ e => e, .cons (.scr hS) .nil, rfl, ?_⟩
  rw [h]
  intro x G' H' g dx
  cases dx
  rfl
end PD

/-! The data layer: a call of a def that stands in a list; try. -/
namespace PD
open PySem PySem.Spec PyProof.Rows L2
section
variable {X : Cx} {E : XK} {e : Expr} {es : List Expr} {pos : Pos}
/-! ### [f, g, h][i](..) -/
/-- a def at an address, as callers have it -/
structure DnA (P : Program) (w : World) (K : PySem.W.Frag) (mg : Str → Option Value) (base : Heap) (k : Nat) (f : Addr) (n : Nat) (g : List PyData → R PyData) : Prop where
  ex : ∃ fd ps, ps.length = n ∧ FnOk P w K mg base (L2.CX P w) k f fd ps (spD K mg n g) ∧ PySem.W.keepIn K (.ref f) = true ∧ Binds K fd ps []
inductive FnL (X : Cx) (k n : Nat) : List Expr → List Addr → List (List PyData → R PyData) → Prop
  | nil : FnL X k n [] [] []
  | cons {x : Str} {p : Pos} {f : Addr} {g : List PyData → R PyData} {es fs gs} : Gl X x → (x == ("__debug__" : Str)) = false → X.mg x = some (.ref f) → DnA X.prog X.w X.K X.mg X.base k f n g → starEach (.Name x p :: es) X.env = (false, eval (.Name x p) X.env) :: starEach es X.env →
      FnL X k n es fs gs → FnL X k n (.Name x p :: es) (f :: fs) (g :: gs)
theorem FnL.pa {k n : Nat} {fs : List Addr} {gs : List (List PyData → R PyData)} : ∀ {es : List Expr}, FnL X k n es fs gs → PA X es (fun _ H Q => Q (fs.map V.ref) H) := by
  intro es h
  induction h with
  | nil => exact pa_of pa_nil fun σ H Q q => q
  | cons h1 h2 h3 _ h5 _ ih => exact pa_of (pa_cons (pe_glob (v := V.ref _) h1 h3 rfl h2) ih h5) fun σ H Q q => q
theorem FnL.get {k n : Nat} {fs : List Addr} {gs : List (List PyData → R PyData)} {es : List Expr} (h : FnL X k n es fs gs) : ∀ (j : Nat) (g : List PyData → R PyData), gs[j]? = some g → ∃ f, fs[j]? = some f ∧ DnA X.prog X.w X.K X.mg X.base k f n g := by
  induction h with
  | nil => intro j g q; simp at q
  | cons h1 h2 h3 h4 _ _ ih =>
    intro j g q
    cases j with
    | zero => simp at q; subst q; exact ⟨_, rfl, h4⟩
    | succ j => exact ih j g (by simpa using q)
theorem FnL.len {k n : Nat} {fs : List Addr} {gs : List (List PyData → R PyData)} {es : List Expr} (h : FnL X k n es fs gs) : fs.length = es.length := by
  induction h with
  | nil => rfl
  | cons _ _ _ _ _ _ ih => simp [ih]
theorem fnl_cons {k j n : Nat} {x : Str} {p : Pos} {g : List PyData → R PyData} {es : List Expr} {gs : List (List PyData → R PyData)} (D : Dn X.prog X.w X.K X.mg X.base j x n g) (hk : j ≤ k) (h : ∃ fs : List Addr, FnL X k n es fs gs) (hg : Gl X x := by exact rfl) (hd : (x == ("__debug__" : Str)) = false := by decide)
    (hs : starEach (.Name x p :: es) X.env = (false, eval (.Name x p) X.env) :: starEach es X.env := by rfl) : ∃ fs : List Addr, FnL X k n (.Name x p :: es) fs (g :: gs) := by
  obtain ⟨f, fd, ps, hm, hl, F, kp, hb⟩ := (D.mono hk).ex
  obtain ⟨fs, h⟩ := h
  exact ⟨f :: fs, .cons hg hd hm ⟨fd, ps, hl, F, kp, hb⟩ hs h⟩
theorem fnl_nil {k n : Nat} : ∃ fs : List Addr, FnL X k n [] fs [] := ⟨[], .nil⟩
/-- a call of what an expression gives -/
theorem pe_callE {k n : Nat} {fe : Expr} {tf : TE} {t : TA} (hf : PE X fe tf) (hr : Room k X.A) (hx : Passes (L2.CX X.prog X.w) X E) (ha : PA X (e :: es) t)
    (he : starEach (e :: es) X.env = (false, eval e X.env) :: starEach es X.env := by rfl) (hpl : (backTo pos (starEach es X.env)).any (·.1) = false := by rfl)
    (hc : eval (.Call fe (e :: es) [] pos) X.env = (do callWith pos (← eval fe X.env) [] (backTo pos (starEach (e :: es) X.env)) (backToKw pos (keywordEach [] X.env))) := by rfl) :
    PE X (.Call fe (e :: es) [] pos) (fun σ H Q => tf σ H fun v H1 => ∃ f g, v = .ref f ∧ DnA X.prog X.w X.K X.mg X.base k f n g ∧ t σ H1 fun vs H2 => spD X.K X.mg n g vs H2 Q E) := by
  refine ⟨fun pins s σ H Q I h => Call_ ?_ hc⟩
  refine thn (hf.run pins s σ H _ I h) fun u s1 ⟨v, H1, I1, r1, f, g, e1, D, q⟩ => ?_
  subst e1
  cases r1
  obtain ⟨fd, ps, hl, F, kp, hb⟩ := D.ex
  refine PySem.W.callWith_K (h₀ := X.base) I.ok.mod.kin kp (thn (ha.run pos pins s1 σ _ _ I1 q) fun us s2 ⟨vs, H2, I2, r, q⟩ => ⟨I2.kIn, ?_⟩) he hpl
  exact run_fn F hr hb .nil hx I2 r (by rw [List.append_nil]; exact q)
def mCallL (gs : List (List PyData → R PyData)) (mi : M) (ms : Gam → R (List PyData)) : M := fun Γ => (mi Γ).bind fun k => match k with
  | .int k => if 0 ≤ k then (match gs[k.toNat]? with
    | some g => (ms Γ).bind g
    | none => .no) else .no
  | _ => .no
theorem se_callL {k n : Nat} {ls : List Expr} {p2 p3 : Pos} {ie : Expr} {gs : List (List PyData → R PyData)} {mi : M} {ms : Gam → R (List PyData)} (hL : ∃ fs : List Addr, FnL X k n ls fs gs) (hz : ls.length ≤ 100000) (hi : SE X E ie mi) (hr : Room k X.A) (hx : Passes (L2.CX X.prog X.w) X E) (ha : SA X E (e :: es) ms)
    (hn : (e :: es).length = n := by rfl) (hs : PlainIx ie := by exact fun _ _ => rfl)
    (he : starEach (e :: es) X.env = (false, eval e X.env) :: starEach es X.env := by rfl) (hpl : (backTo pos (starEach es X.env)).any (·.1) = false := by rfl)
    (hc : eval (.Call (.Subscript (.List ls p2) ie p3) (e :: es) [] pos) X.env = (do callWith pos (← eval (.Subscript (.List ls p2) ie p3) X.env) [] (backTo pos (starEach (e :: es) X.env)) (backToKw pos (keywordEach [] X.env))) := by rfl) :
    SE X E (.Call (.Subscript (.List ls p2) ie p3) (e :: es) [] pos) (mCallL gs mi ms) := by
  obtain ⟨fs, L⟩ := hL
  refine pe_of (pe_callE (n := n) (pe_ix ix_list (pe_lst L.pa) hi hs) hr hx ha.pa he hpl hc) fun σ H Q ⟨B0, Γ, G, sr, po⟩ => ⟨sz_of (by rw [List.length_map, L.len]; exact hz), fun p hp => ?_⟩
  have l0 : Le H (upd H p (.lst (fs.map V.ref))) := le_upd hp
  have g0 : Gr G H G (upd H p (.lst (fs.map V.ref))) := ⟨fun _ _ e => e, l0, le_trans sr.sub l0, fun a _ h => h⟩
  refine ⟨B0, Γ, G, sr.gr g0, ?_⟩
  have po2 : Po (Dq X.K) X.mg E G (upd H p (.lst (fs.map V.ref))) Q (mCallL gs mi ms Γ) := po.gr g0
  refine Po.bind po2 fun d x G1 H1 _ g1 dx po1 => ?_
  cases dx with
  | int i =>
    replace po1 : Po (Dq X.K) X.mg E G1 H1 Q (if 0 ≤ i then (match gs[i.toNat]? with | some g => (ms Γ).bind g | none => .no) else .no) := po1
    split at po1
    · rename_i h0
      cases q : gs[i.toNat]? with
      | none => rw [q] at po1; exact po1.elim
      | some g =>
        rw [q] at po1
        obtain ⟨f, hf, D⟩ := L.get i.toNat g q
        have hat : atI (fs.map V.ref) i = some (.ref f) := by
          obtain ⟨j, rfl⟩ : ∃ j : Nat, i = j := ⟨i.toNat, by omega⟩
          simp only [Int.toNat_natCast] at hf
          exact atI_nat (by simp [hf])
        refine ⟨p, fs.map V.ref, i, .ref f, rfl, rfl, .inl (Or.inl (g1.h p _ upd_same)), hat, f, g, rfl, D, B0, Γ, G1, (sr.gr g0).gr g1, ?_⟩
        refine Po.bind po1 fun ds xs G2 H2 q2 g2 dx2 po3 => ?_
        exact ⟨G2, ds, g2.s, dx2, by rw [ha.ln Γ ds q2]; exact hn, po3⟩
    · exact po1.elim
  | _ => exact po1.elim
end
/-! ### the suite of an except clause: which class? -/
structure Exs (K : PySem.W.Frag) (mg : Str → Option Value) (bs : Str) (names : List Str) : Prop where
  ex : ∃ B, mg bs = some (.ref B) ∧ ∀ c ∈ names, ∃ D, mg c = some (.ref D) ∧ ExcC K D ∧ PySem.W.exmOne K (.ref D) (.ref B) = some true ∧ ∀ c2 ∈ names, ∃ D2, mg c2 = some (.ref D2) ∧ PySem.W.kitOne K (.ref D) (.ref D2) = some (decide (c = c2))
/-- the exception at hand is of the class c -/
structure InS (X : Cx) (oe : Obj) (names : List Str) (c : Str) : Prop where
  ex : ∃ D, ExcC X.K D ∧ Zc (.ref D) none oe ∧ (∃ vs, oe.data = .fields vs) ∧ ∀ c2 ∈ names, ∃ D2, X.mg c2 = some (.ref D2) ∧ PySem.W.kitOne X.K (.ref D) (.ref D2) = some (decide (c = c2))
section
variable {X : Cx} {a : Addr} {oe : Obj} {pn : List (Addr × Obj)} {names : List Str} {c : Str} {i jf : Nat} {e : Expr} {es : List Expr} {pos : Pos} {bs bs0 : List Bool}
abbrev AtE (a : Addr) (i : Nat) (σ : L2.St) : Prop := σ[i]? = some (some (.ref a))
theorem isi_one (S : InS X oe names c) {nm cn : Str} {p p1 p2 : Pos} (hcn : cn ∈ names) (hm : X.mg "isinstance" = none) (hN : X.N[i]? = some nm) (hg : Gl X "isinstance" := by exact rfl)
    (hv : Vis X.env.scope nm := by first | exact Or.inl rfl | exact Or.inr (Or.inl rfl) | exact Or.inr (Or.inr rfl)) (hd : (nm == ("__debug__" : Str)) = false := by decide) (hcd : (nm == ("__classdict__" : Str)) = false := by decide)
    (hgc : Gl X cn := by exact rfl) (hdc : (cn == ("__debug__" : Str)) = false := by decide)
    (he : starEach [.Name nm p1, .Name cn p2] X.env = (false, eval (.Name nm p1) X.env) :: starEach [.Name cn p2] X.env := by rfl)
    (he2 : starEach [.Name cn p2] X.env = (false, eval (.Name cn p2) X.env) :: starEach [] X.env := by rfl)
    (hpl : (backTo pos (starEach [.Name cn p2] X.env)).any (·.1) = false := by rfl) :
    PE (X.suite a ((a, oe) :: pn)) (.Call (.Name "isinstance" p) [.Name nm p1, .Name cn p2] [] pos) (fun σ H Q => AtE a i σ ∧ Q (.bl (decide (c = cn))) H) := by
  obtain ⟨D, C, hz, hf, hk⟩ := S.ex
  obtain ⟨D2, h1, h2⟩ := hk cn hcn
  refine pe_of (pe_callB (X := X.suite a ((a, oe) :: pn)) (call_isE (pn := pn) (a := a) C hz hf) hg hm PyProof.Rows.boot_isinstance (pa_cons (pe_var (X := X.suite a ((a, oe) :: pn)) (i := i) hN hv hd hcd) (pa_cons (pe_glob (X := X.suite a ((a, oe) :: pn)) (v := V.ref D2) hgc h1 rfl hdc) pa_nil he2) he) (he := he) (hpl := hpl)) fun σ H Q ⟨q1, q2⟩ => ?_
  exact ⟨.ref a, q1, V.ref D2, .ref D2, _, rfl, fun u h => h, h2, q2⟩
abbrev PAI (X : Cx) (a : Addr) (i : Nat) (es : List Expr) (bs : List Bool) : Prop := PA X es (fun σ H Q => AtE a i σ ∧ Q (bs.map V.bl) H)
theorem isi_nil : PAI X a i [] [] := pa_of pa_nil fun σ H Q q => q.2
theorem isi_cons {b : Bool} (h : PE X e (fun σ H Q => AtE a i σ ∧ Q (.bl b) H)) (t : PAI X a i es bs) (hs : starEach (e :: es) X.env = (false, eval e X.env) :: starEach es X.env := by rfl) : PAI X a i (e :: es) (b :: bs) :=
  pa_of (pa_cons h t hs) fun σ H Q ⟨q1, q2⟩ => ⟨q1, q1, q2⟩
/-- a fresh list of truth values -/
abbrev PEF (X : Cx) (e : Expr) (P : L2.St → Hp → Prop) (bs : List Bool) : Prop := PE X e (fun σ H Q => P σ H ∧ ∀ p H', Le H H' → H' p = some (.lst (bs.map V.bl)) → Q (.ref p) H')
theorem flg_lst {P : L2.St → Hp → Prop} (h : PAI X a i es bs) (hP : ∀ σ H, P σ H → AtE a i σ) (hz : bs.length ≤ 1000 := by exact Nat.le_of_ble_eq_true rfl) : PEF X (.List es pos) P bs :=
  pe_of (pe_lst h) fun σ H Q ⟨q1, q2⟩ => ⟨hP σ H q1, sz_of (by rw [List.length_map]; omega), fun p hp => q2 p _ (le_upd hp) upd_same⟩
theorem flg_cat {P : L2.St → Hp → Prop} {x : Str} {p pos2 : Pos} (h : PAI X a i es bs) (hP : ∀ σ H, P σ H → AtE a i σ ∧ ∃ q, σ[jf]? = some (some (.ref q)) ∧ H q = some (.lst (bs0.map V.bl))) (hN : X.N[jf]? = some x) (hz : bs.length + bs0.length ≤ 1000 := by exact Nat.le_of_ble_eq_true rfl)
    (hv : Vis X.env.scope x := by first | exact Or.inl rfl | exact Or.inr (Or.inl rfl) | exact Or.inr (Or.inr rfl)) (hd : (x == ("__debug__" : Str)) = false := by decide) (hcd : (x == ("__classdict__" : Str)) = false := by decide) :
    PEF X (.BinOp (.Name x p) .Add (.List es pos) pos2) P (bs0 ++ bs) := by
  refine pe_of (pe_op op_cat (pe_var (i := jf) hN hv hd hcd) (pe_lst h)) fun σ H Q ⟨q1, q2⟩ => ?_
  obtain ⟨h1, q, h2, h3⟩ := hP σ H q1
  refine ⟨.ref q, h2, h1, sz_of (by rw [List.length_map]; omega), fun p hp => ?_⟩
  have ne : q ≠ p := fun z => by subst z; rw [hp] at h3; cases h3
  refine ⟨q, p, bs0.map V.bl, bs.map V.bl, rfl, rfl, by rw [upd_ne ne]; exact h3, upd_same, sz_of (by rw [List.length_map, List.length_map]; omega), fun p2 hp2 => ?_⟩
  refine q2 p2 _ (le_trans (le_upd hp) (le_upd hp2)) ?_
  rw [upd_same, List.map_append]
theorem shaped_bools (bs : List Bool) : SeqAt.shaped (.list (bs.map .bool)) = true := by
  have : ∀ bs : List Bool, PyData.canLayAll0 (bs.map PyData.bool) = true ∧ PyData.depthAll (bs.map PyData.bool) = 0 := fun bs => by
    induction bs with
    | nil => exact ⟨rfl, rfl⟩
    | cons b r ih => simp [PyData.canLayAll0, PyData.depthAll, PyData.canLay0, PyData.depth, ih.1, ih.2]
  obtain ⟨h1, h2⟩ := this bs
  simp [SeqAt.shaped, PyData.canLay0, PyData.depth, h1, h2]
theorem dpAll_bools {K : PySem.W.Frag} {H : Hp} : ∀ bs : List Bool, DpAll K H (bs.map V.bl) (bs.map .bool)
  | [] => .nil
  | b :: r => .cons (.bl b) (dpAll_bools r)
theorem idx_pe {P : L2.St → Hp → Prop} {kk : Nat} {apos cp : Pos} (hu : X.A.units + 65 < cLine) (h : PEF X e P bs) {j : Nat} (hj : bs[j]? = some true) (hno : ∀ m, m < j → bs[m]? = some false)
    (hbase : attributeBase e "index" X.env (eval e X.env) = eval e X.env := by rfl)
    (hfew : ((backTo cp (starEach [.Constant (.bool true) kk pos] X.env)).all (fun x => !x.1) && (backToKw cp (keywordEach [] X.env)).all (fun x => x.1.isSome)
      && decide ([Expr.Constant (.bool true) kk pos].length + ([] : List Keyword).length + (if ([] : List Keyword).isEmpty then 0 else 1) < 30)) = true := by rfl)
    (hline : (apos.endLine == cp.line) = true := by rfl) (hs : starEach [.Constant (.bool true) kk pos] X.env = (false, eval (.Constant (.bool true) kk pos) X.env) :: starEach [] X.env := by rfl) (hplain : (backTo cp (starEach [] X.env)).any (·.1) = false := by rfl) :
    PE X (.Call (.Attribute e "index" apos) [.Constant (.bool true) kk pos] [] cp) (fun σ H Q => P σ H ∧ ∀ H', Le H H' → Q (.int (j : Nat)) H') := by
  refine pe_of (pe_bm (T := "list") PySem.F.plainAttrs_list PySem.F.slot_list_index PySem.F.type_list_index (mt_indexD hu) h (pa_cons pe_bl pa_nil hs) hbase hfew hline hs hplain) fun σ H Q ⟨q1, q2⟩ => ⟨q1, fun p H' l hp => ?_⟩
  refine ⟨.inl ⟨rfl, _, .inl (.inl hp)⟩, ?_⟩
  have hsh := shaped_bools bs
  exact ⟨p, .bl true, .bool true, bs.map .bool, j, .bool true, rfl, rfl, .lst (.inl (.inl hp)) (dpAll_bools bs), .bl true, hsh, by decide, by simp [hj], by simp [PyData.eqv],
    fun m z' hm hz' => by
      have := hno m hm
      simp [this] at hz'
      subst hz'
      simp [PyData.eqv], q2 H' l⟩
/-! the two forms of the suite -/
theorem hd_ret {P : L2.St → Hp → Prop} {j : Nat} (h : PE X e (fun σ H Q => P σ H ∧ ∀ H', Le H H' → Q (.int (j : Nat)) H')) : PSs X [.Return (some e) pos] (fun D σ H => P σ H ∧ ∀ H', Le H H' → D.rt (.int (j : Nat)) H') :=
  pss_of (pss_one (ps_ret h)) fun D σ H ⟨q1, q2⟩ => ⟨q1, q2⟩
/-- e at i, flags at jf -/
abbrev FlP (a : Addr) (i jf : Nat) (bs0 : List Bool) : L2.St → Hp → Prop := fun σ H => AtE a i σ ∧ ∃ q, σ[jf]? = some (some (.ref q)) ∧ H q = some (.lst (bs0.map V.bl))
theorem hd_set {P : L2.St → Hp → Prop} {T : (V → Hp → Prop) → Hp → Prop} {rest : List Stmt} {x : Str} {p : Pos} (h : PEF X e P bs) (hP : ∀ σ H, P σ H → AtE a i σ ∧ jf < σ.length) (hT : ∀ D H H', T D H → Le H H' → T D H') (hij : i ≠ jf)
    (hr : PSs X rest (fun D σ H => FlP a i jf bs σ H ∧ T D.rt H)) (hN : X.N.Nodup) (hi : X.N[jf]? = some x := by rfl) (hx : Loc X.env.scope x := by first | exact .inl rfl | exact .inr rfl) (hs : swapsWith e (some (.Name x p)) pos.line X.env = pure false := by rfl)
    (hf : X.fn x = true ∨ X.env.scope.names.lookup x = some .local := by first | exact .inl rfl | exact .inr rfl | assumption) : PSs X (.Assign [.Name x p] e pos :: rest) (fun D σ H => P σ H ∧ T D.rt H) :=
  pss_of (pss_cons (ps_set hN hi hx h hs hf) hr) fun D σ H ⟨q1, q2⟩ => by
    obtain ⟨g1, g2⟩ := hP σ H q1
    refine ⟨q1, fun q H' l hq => ⟨⟨?_, q, ?_, hq⟩, hT _ _ _ q2 l⟩⟩
    · rw [AtE, List.getElem?_set_ne (Ne.symm hij)]; exact g1
    · rw [List.getElem?_set_self g2]
end
/-! ### try .. except X as e: return an int of the class -/
def noOwn (Γ : Gam) : Bool := Γ.all fun x => match x with
  | .own _ => false
  | _ => true
theorem noOwn_get : ∀ {Γ : Gam}, noOwn Γ = true → ∀ (i : Nat) (ds : List PyData), gat Γ i ≠ .own ds
  | [], _, i, ds, e => by cases e
  | x :: r, h, 0, ds, e => by
    have e : x = .own ds := e
    subst e
    cases h
  | x :: r, h, i + 1, ds, e => by
    have h2 : noOwn r = true := by
      unfold noOwn at h ⊢
      rw [List.all_cons] at h
      exact (Bool.and_eq_true_iff.mp h).2
    exact noOwn_get h2 i ds e
def mTry (names : List Str) (k : Str → Int) (mb : MS) : MS := fun Γ => if noOwn Γ = true then (match mb Γ with
  | .ex c => if c ∈ names then .rt (.int (k c)) else .no
  | .nx Γ1 => .nx Γ1
  | .rt d => .rt d
  | _ => .no) else .no
theorem SZ.of_base {K : PySem.W.Frag} {G0 H0 G H G' H' : Hp} {σ σ' : L2.St} {Γ Γ' : Gam} (s : SZ K G0 H0 G H σ Γ) (t : SZ K G H G' H' σ' Γ') : SZ K G0 H0 G' H' σ' Γ' :=
  ⟨⟨t.sr.sub, t.sr.len, t.sr.val, t.sr.own, t.sr.inj, (fun i ds p h1 h2 => by
    have := t.sr.nw i ds p h1 h2
    cases q : H0 p with
    | none => rfl
    | some u => rw [s.gr.h p u q] at this; cases this), t.sr.adr⟩, s.gr.trans t.gr⟩
section
variable {X : Cx} {E : XK} {names : List Str} {i : Nat} {n x : Str} {b₀ : Stmt} {body suite : List Stmt} {mb : MS} {k : Str → Nat} {np pos pos' : Pos}
abbrev P0 (a : Addr) (i L : Nat) : L2.St → Hp → Prop := fun σ _ => AtE a i σ ∧ σ.length = L
theorem ss_try (hex : Exs X.K X.mg x names) (hs : X.stack = X.env :: X.outer) (hf : X.env.frame = some X.env.locals) (hN : X.N.Nodup) (hi : X.N[i]? = some n) (hln : X.env.kindOf n = some .local) (hg : Gl X x) (hd : (x == ("__debug__" : Str)) = false)
    (tk : Takes X (fun _ _ _ _ => False))
    (hb : ∀ (E' : XK) (pn : List (Addr × Obj)) (xe : Value → Shared → Prop), Takes (X.tr pn xe) (fun cls d _ H => E' cls d H) → PassesOwn (model X.prog X.w) X.A X.env xe → SB (X.tr pn xe) E' body mb)
    (hh : ∀ c ∈ names, ∀ (a : Addr) (oe : Obj) (pn : List (Addr × Obj)), InS X oe names c → PSs (X.suite a ((a, oe) :: pn)) (b₀ :: suite) (fun D σ H => P0 a i X.N.length σ H ∧ ∀ H', Le H H' → D.rt (.int (k c : Nat)) H')) :
    SS X E (.Try body [.ExceptHandler (some (.Name x np)) (some n) (b₀ :: suite) pos'] [] [] pos) (mTry names (fun c => (k c : Nat)) mb) := by
  obtain ⟨B, hB, hx⟩ := hex.ex
  refine ps_of (ps_try_as (c := .ref B) (i := i) (tb := fun W D σ H => tS X.K X.mg (fun cls d H => ∀ σ : L2.St, σ.length = X.N.length → W cls d σ H) mb D σ H) (Wout := fun _ _ _ _ => False)
    (ts := fun a cls d D σ H => ∃ c, c ∈ names ∧ cls = cV X.mg c ∧ d = none ∧ P0 a i X.N.length σ H ∧ ∀ H', Le H H' → D.rt (.int (k c : Nat)) H') hs hf hN hi hln ⟨hg, hd, .inl hB⟩ tk ?_ ?_) ?_
  · intro W pn xe t po
    exact hb _ pn xe (fun u s' ⟨a, B', sI, pins, σ, H, cls, d, e, I, nb, up, sky, na, os, ag, w⟩ => t u s' ⟨a, B', sI, pins, σ, H, cls, d, e, I, nb, up, sky, na, os, ag, w σ I.len⟩) po
  · intro a oe cls d pn hz hfl
    refine ⟨fun pins s σ H D I q => ?_⟩
    obtain ⟨c, hc, rfl, rfl, q1, q2⟩ := q
    obtain ⟨Dc, g1, g2, g3, g4⟩ := hx c hc
    have e1 : cV X.mg c = .ref Dc := by unfold cV; rw [g1]; rfl
    rw [e1] at hz
    exact (hh c hc a oe pn ⟨Dc, g2, hz, hfl, g4⟩).run pins s σ H D I ⟨q1, q2⟩
  · rintro D σ H ⟨G0, H0, G, Γ, s, po⟩
    unfold mTry at po
    split at po
    · rename_i hno
      have s2 : SZ X.K G H G H σ Γ := ⟨⟨s.sr.sub, s.sr.len, s.sr.val, s.sr.own, s.sr.inj, fun i ds p h1 _ => absurd h1 (noOwn_get hno i ds), s.sr.adr⟩, Gr.refl s.sr.sub⟩
      refine ⟨G, H, G, Γ, s2, ?_⟩
      cases e : mb Γ with
      | nx Γ1 =>
        rw [e] at po
        exact fun σ' G' H' t => po σ' G' H' (s.of_base t)
      | rt d =>
        rw [e] at po
        exact fun x G' H' g dx => po x G' H' (s.gr.trans g) dx
      | bk Γ1 => rw [e] at po; exact po.elim
      | ct Γ1 => rw [e] at po; exact po.elim
      | no => rw [e] at po; exact po.elim
      | ex c =>
        rw [e] at po
        dsimp only at po
        split at po
        · rename_i hc
          intro H' l σ2 hl
          obtain ⟨Dc, g1, g2, g3, g4⟩ := hx c hc
          have e1 : cV X.mg c = .ref Dc := by unfold cV; rw [g1]; rfl
          have hlt : i < σ2.length := by
            rw [hl]
            exact (List.getElem?_eq_some_iff.mp hi).1
          refine ⟨true, by rw [e1]; exact g3, fun _ a ha => ⟨c, hc, rfl, rfl, ⟨List.getElem?_set_self hlt, by rw [List.length_set]; exact hl⟩, fun H'' l2 => ?_⟩, fun z => nomatch z⟩
          have l3 := le_trans l l2
          exact po (.int (k c : Nat)) G H'' (s.gr.trans ⟨fun _ _ e => e, l3, le_trans s.sr.sub l3, fun a _ h => h⟩) (.int _)
        · exact po.elim
    · exact po.elim
end
theorem hu65 {k : Nat} {A : Around} {v : Option Value} (hr : Room k A) : (A.mark v).units + 65 < cLine := by
  have := hr.un
  show A.units + 65 < cLine
  omega
theorem flp_len {a : Addr} {i jf : Nat} {bs : List Bool} {σ : L2.St} {H : Hp} (h : FlP a i jf bs σ H) : jf < σ.length := by
  obtain ⟨q, h1, _⟩ := h.2
  exact (List.getElem?_eq_some_iff.mp h1).1
theorem idx_hit {c : Str} : ∀ {names : List Str}, c ∈ names → (names.map fun n => decide (c = n))[names.idxOf c]? = some true ∧ ∀ m, m < names.idxOf c → (names.map fun n => decide (c = n))[m]? = some false
  | [], h => by cases h
  | n :: r, h => by
    by_cases e : n = c
    · subst e
      simp [List.idxOf_cons]
    · have hr : c ∈ r := by
        rcases List.mem_cons.mp h with h | h
        · exact absurd h.symm e
        · exact h
      obtain ⟨h1, h2⟩ := idx_hit hr
      have e1 : (n :: r).idxOf c = r.idxOf c + 1 := by rw [List.idxOf_cons, show (n == c) = false from beq_eq_false_iff_ne.mpr e]; rfl
      have e2 : decide (c = n) = false := by simpa using Ne.symm e
      rw [e1]
      refine ⟨by simpa using h1, fun m hm => ?_⟩
      cases m with
      | zero => simp [e2]
      | succ m => simpa using h2 m (by omega)
end PD

/-! The data layer: what the head tells of the exception classes. -/
namespace PD
open PySem PySem.Spec PyProof.Rows L2
def excB (K : PySem.W.Frag) (D : Addr) : Bool :=
  (PySem.W.findIn K (.ref D) "__getattribute__" == some (some (.builtin "BaseException.__getattribute__"))) && ((PySem.W.findIn K (.ref D) "__getattr__" == some none) && ((PySem.W.subIn K (.ref D) (.type "BaseException") == some true) && (PySem.W.hasDictIn K D && ((PySem.W.findIn K (.ref D) "__class__" == some (some (.builtin "object.__class__"))) &&
  ((PySem.W.specialIn K (.builtin "object.__class__") "__get__" == some (some (.builtin "getset_descriptor.__get__"))) && ((PySem.W.takesIn K (.builtin "object.__class__") == some true) && (PySem.W.mroIn K D (.type "object") == some true)))))))
theorem excB_ok {K : PySem.W.Frag} {D : Addr} (h : excB K D = true) : ExcC K D := by
  unfold excB at h
  simp only [Bool.and_eq_true, beq_iff_eq] at h
  obtain ⟨h1, h2, h3, h4, h5, h6, h7, h8⟩ := h
  exact ⟨h1, h2, h3, h4, h5, h6, h7, h8⟩
def exsB (K : PySem.W.Frag) (bs : Str) (names : List Str) : Bool := names.all fun c => excB K (He.ga K c) && ((PySem.W.exmOne K (.ref (He.ga K c)) (.ref (He.ga K bs)) == some true) && names.all fun c2 => PySem.W.kitOne K (.ref (He.ga K c)) (.ref (He.ga K c2)) == some (decide (c = c2)))
theorem exs_of {K : PySem.W.Frag} {mg : Str → Option Value} {bs : Str} {names : List Str} (hb : mg bs = some (.ref (He.ga K bs))) (hn : ∀ c ∈ names, mg c = some (.ref (He.ga K c))) (h : exsB K bs names = true) : Exs K mg bs names := by
  refine ⟨He.ga K bs, hb, fun c hc => ?_⟩
  have h1 := List.all_eq_true.mp h c hc
  simp only [Bool.and_eq_true, beq_iff_eq] at h1
  obtain ⟨h2, h3, h4⟩ := h1
  refine ⟨He.ga K c, hn c hc, excB_ok h2, h3, fun c2 hc2 => ⟨He.ga K c2, hn c2 hc2, ?_⟩⟩
  have := List.all_eq_true.mp h4 c2 hc2
  simpa using this
theorem all_nil {P : Str → Prop} : ∀ c ∈ ([] : List Str), P c := fun c h => by cases h
theorem all_cons {P : Str → Prop} {n : Str} {r : List Str} (h : P n) (t : ∀ c ∈ r, P c) : ∀ c ∈ n :: r, P c := fun c hc => by
  rcases List.mem_cons.mp hc with e | hc
  · rw [e]; exact h
  · exact t c hc
end PD

/-! The data layer: set(xs) of a list: whatever the set keeps of its members, told step by step. -/
namespace PD
open PySem PySem.Spec PyProof.Rows
section
variable {prog : Program} {w : World} {A : Around} {R : Result → Shared → Prop} {I S : Addr} {fp wr : List Addr} {G : Array GenState → Array GenState → Prop} {n : Nat} {Pv : Nat → Value → Prop} {St : Nat → Shared → Prop} {T : Nat → Heap → Prop}
/-- T speaks of the object at S alone -/
def Own1 (S : Addr) (T : Nat → Heap → Prop) : Prop := ∀ i (h k : Heap), (∀ o, h.get? S = some o → k.get? S = some o) → T i h → T i k
/-- a member is added -/
def Adds (prog : Program) (w : World) (A : Around) (S : Addr) (T : Nat → Heap → Prop) (Pv : Nat → Value → Prop) : Prop :=
  ∀ (i : Nat) (v : Value) (s : Shared) (Q : Bool → Shared → Prop) (E : Value → Shared → Prop), Pv i v → T i s.heap → (∀ b g k, Heap.SameBut S s.heap g → T (i + 1) g → Q b { s with heap := g, toks := s.toks + k }) → wpAny (model prog w) A (setAdd S v) Q E s
theorem fill (W : WalksS prog w A.in1 I fp wr G n Pv St) (nS : S ∉ fp) (hT : Own1 S T) (hA : Adds prog w A.in1 S T Pv) : ∀ (m j : Nat) (s : Shared), n - j = m → j ≤ n → St j s → T j s.heap →
    (∀ u, Moved (S :: wr) G s u → T n u.heap → R (.ok (.ret .none)) u) → codeAny (model prog w) A (.builtin "set.update.loop" ⟨[.ref S, .ref I], []⟩) R s := by
  have nw : S ∉ wr := fun z => nS (W.sub _ z)
  have up : ∀ c ∈ wr, c ∈ S :: wr := fun c hc => .tail _ hc
  intro m
  induction m with
  | zero =>
    intro j s hm hj st t hR
    obtain rfl : j = n := by omega
    refine codeAny_builtin F.entry_set_update_loop ?_
    rw [Around.under_plainId F.plain_set_update_loop _]
    change wpAny _ A.in1 (pyNext (.ref I) >>= _) _ _ s
    refine wpAny_bind (W.done s _ _ st fun u mv => ?_)
    change wpAny _ A.in1 (ret Value.none) _ _ u
    exact wpAny_pure (hR u (mv.mono up) (hT _ _ _ (fun o e => mv.heap S o nw e) t))
  | succ m ih =>
    intro j s hm hj st t hR
    have lt : j < n := by omega
    refine codeAny_builtin F.entry_set_update_loop ?_
    rw [Around.under_plainId F.plain_set_update_loop _]
    change wpAny _ A.in1 (pyNext (.ref I) >>= _) _ _ s
    refine wpAny_bind (W.item j s _ _ lt st fun v u pv st2 mv => ?_)
    change wpAny _ A.in1 (holding [v] (setAdd S v) >>= _) _ _ u
    refine wpAny_bind (wpAny_holding (hA j v u _ _ pv (hT _ _ _ (fun o e => mv.heap S o nw e) t) fun b g k sb t2 => ?_))
    have keep : ∀ c, c ≠ S → ∀ o, u.heap.get? c = some o → g.get? c = some o := fun c nc o e => by rw [sb.2 c nc]; exact e
    refine wpAny_pure ⟨plainId_quiet F.plain_set_update_loop _, ih (j + 1) _ (by omega) lt (W.frame _ u _ _ st2 (Nat.le_add_right _ _) fun c hc o e => keep c (fun z => nS (z ▸ hc)) o e) t2 fun x mx tx => ?_⟩
    exact hR x (Moved.trans W.gtrans ((mv.mono up).then_heap (Nat.le_add_right _ _) fun c o hc e => keep c (fun z => hc (z ▸ .head _)) o e) mx) tx
end
section
variable {prog : Program} {w : World} {A : Around} {E : Value → Shared → Prop} {s : Shared} {T : Nat → Heap → Prop}
/-- a set that was just made -/
abbrev newSet (w : World) : Obj := { cls := .type "set", dict := none, data := .set #[] 0 (.fresh 0 0 (!w.params.followText "set-order")) }
/-- set(xs) of a list -/
theorem set_of {l : Addr} {its : Array Value} {Q : Value → Shared → Prop} (calm : A.handled = none) (hl : s.heap.IsList l its) (hT : Own1 s.heap.objs.size T)
    (hA : ∀ B : Around, B.handled = none → Adds prog w B s.heap.objs.size T fun i v => its[i]? = some v) (h0 : ∀ g : Heap, g.get? s.heap.objs.size = some (newSet w) → T 0 g)
    (hQ : ∀ (g : Heap) (tk : Nat), T its.size g → (∀ b o, s.heap.get? b = some o → g.get? b = some o) → Q (.ref s.heap.objs.size) { s with heap := g, toks := tk }) :
    wpAny (model prog w) A (call (.type "set") [.ref l]) Q E s := by
  have ⟨c, tl, mro⟩ := PySem.F.called_set.mro
  have a1 := PySem.F.called_set.made; have a2 := PySem.F.called_set.sub; have a3 := PySem.F.called_set.notType; have a4 := PySem.F.called_set.canCreate; have a5 := PySem.F.typeCall_set_1 (.ref l)
  have a6 := PySem.F.called_set.init.lookup; have a7 := PySem.F.called_set.init.bind (.ref s.heap.objs.size)
  refine wpAny_call (codeAny_of_tree (show wpAny _ _ (callAny (.type "set") _) _ _ _ from wpAny_pure ⟨Code.quiet_builtin _ (by decide +kernel), codeAny_builtin PySem.F.entry_type_call ?_⟩))
  rw [Around.under_plain (weight_type_call_type "set" [.ref l] []) rfl]
  repeat (any_goals (first | assumption | wp_step))
  refine codeAny_mono (L2.code_set_led1 (.ref l) (E := E) (Q₁ := fun v u => v = .ref s.heap.objs.size ∧ u = { s with heap := s.heap.push (newSet w) }) ⟨rfl, rfl⟩) fun r u hr => ?_
  match r, hr with
  | .error e, hr => exact hr
  | .ok (.ret v), hr =>
    obtain ⟨rfl, rfl⟩ := hr
    have b1 : (s.heap.push (newSet w)).get? s.heap.objs.size = some (newSet w) := Heap.get?_push_size _ rfl
    have b2 : Shared.TypeIs { s with heap := s.heap.push (newSet w) } (.ref s.heap.objs.size) "set" := ⟨_, b1, rfl⟩
    repeat (any_goals (first | assumption | wp_step))
    refine codeAny_mono (codeAny_call_builtin (R := wants (fun v u => v = .none ∧ ∃ g tk, u = { s with heap := g, toks := tk } ∧ T its.size g ∧ ∀ b o, s.heap.get? b = some o → g.get? b = some o) E) PySem.F.called_set.init.plain PySem.F.entry_set_init (check_set_init_1 b2 ?_)) fun r2 u2 hr2 => ?_
    · have ⟨ol, e1, e2, nl, e3⟩ := hl
      have ll : l < s.heap.objs.size := Heap.lt_size e1
      have l1 : (s.heap.push (newSet w)).IsList l its := hl.push _
      have c1 := PySem.F.sub_list_set; have c2 := PySem.F.sub_list_frozenset
      have c3 : (Value.type "list" == Value.type "dict") = false := by decide
      obtain ⟨oc, od, oda, osl⟩ := ol
      simp only at e2 e3
      subst e2 e3
      have e4 := Heap.get?_push_of_some (newSet w) e1
      unfold Builtin.«set.__init__» noKeywords Builtin.Frozenset.updateFrom
      generalize hp : pyIter = py
      wp_walk
      subst hp
      refine wpAny_pyIter_list l1 (wpAny_bind (wpAny_runValue ?_))
      have z : (s.heap.push (newSet w)).objs.size = s.heap.objs.size + 1 := Heap.size_push ..
      have q0 : A.in1.in1.in1.handled = none := by simp [calm]
      have nS2 : s.heap.objs.size ∉ [(s.heap.push (newSet w)).objs.size, l] := fun m => by
        rw [z] at m
        rcases List.mem_cons.mp m with m | m
        · exact absurd m (Nat.ne_of_lt (Nat.lt_succ_self _))
        · exact absurd (List.mem_singleton.mp m) (Nat.ne_of_gt ll)
      refine fill (Walks.list q0 _ l (z ▸ Nat.ne_of_lt (Nat.lt_succ_of_lt ll)) its).toS nS2 hT (hA _ (by simp [calm])) (its.size - 0) 0 _ rfl (Nat.zero_le _) ⟨⟨_, Heap.get?_push_size _ rfl, rfl, rfl⟩, l1.push _⟩ (h0 _ (Heap.get?_push_of_some _ b1)) fun u mv tn => ?_
      obtain ⟨g, gs, dr, tk, os⟩ := u
      obtain rfl : gs = s.gens := mv.gens
      obtain rfl : dr = s.drawn := mv.drawn
      obtain rfl : os = s.os := mv.os
      refine (show wpAny _ _ _ _ _ _ from wpAny_pure (show wpAny _ _ (ret Value.none) _ _ _ from wpAny_pure ⟨rfl, g, tk, rfl, tn, fun b o e => ?_⟩))
      have lb := Heap.lt_size e
      refine mv.heap b o (fun m => ?_) (Heap.get?_push_of_some _ (Heap.get?_push_of_some _ e))
      rcases List.mem_cons.mp m with m | m
      · exact absurd m (Nat.ne_of_lt lb)
      · exact absurd (List.mem_singleton.mp m) (z ▸ Nat.ne_of_lt (Nat.lt_succ_of_lt lb))
    · match r2, hr2 with
      | .error e, hr2 => exact hr2
      | .ok (.ret v), hr2 =>
        obtain ⟨rfl, g, tk, rfl, t1, t2⟩ := hr2
        repeat (any_goals (first | assumption | wp_step))
        exact hQ g tk t1 t2
end
end PD

/-! The data layer: sorted(set(xs)), ints. -/
namespace PD
open PySem PySem.Spec PyProof.Rows L2
theorem asc_eq : ∀ {xs ys : List Int}, xs.Pairwise (· < ·) → ys.Pairwise (· < ·) → (∀ k, k ∈ xs ↔ k ∈ ys) → xs = ys
  | [], [], _, _, _ => rfl
  | [], y :: ys, _, _, h => absurd ((h y).mpr (.head _)) (by simp)
  | x :: xs, [], _, _, h => absurd ((h x).mp (.head _)) (by simp)
  | x :: xs, y :: ys, hx, hy, h => by
    obtain ⟨a1, a2⟩ := List.pairwise_cons.mp hx
    obtain ⟨b1, b2⟩ := List.pairwise_cons.mp hy
    have e : x = y := by
      rcases List.mem_cons.mp ((h x).mp (.head _)) with c | c
      · exact c
      · rcases List.mem_cons.mp ((h y).mpr (.head _)) with d | d
        · exact d.symm
        · have := a1 y d; have := b1 x c; omega
    subst e
    refine congrArg _ (asc_eq a2 b2 fun k => ⟨fun hk => ?_, fun hk => ?_⟩)
    · rcases List.mem_cons.mp ((h k).mp (.tail _ hk)) with c | c
      · have := a1 k hk; omega
      · exact c
    · rcases List.mem_cons.mp ((h k).mpr (.tail _ hk)) with c | c
      · have := b1 k hk; omega
      · exact c
theorem sortI_lt {ns : List Int} (h : ns.Nodup) : (sortI ns).Pairwise (· < ·) := by
  have h1 := sortI_sorted ns
  have h2 : (sortI ns).Nodup := (sortI_perm ns).nodup_iff.mpr h
  exact List.Pairwise.imp₂ (fun a b hab hne => by have : a ≠ b := hne; omega) h1 h2
section
variable {X : Cx}
theorem fresh_setR {w : World} {g : Heap} {a : Addr} {ns : List Int} (h : g.get? a = some (newSet w)) : SetR w g a (fun j => decide (j ∈ ns.take 0)) 0 := L2.setR_new_at h
/-- set(xs), xs a list of ints -/
def rSetL (K : PySem.W.Frag) (w : World) : List V → Hp → VK → Prop := fun vs H Q => ∃ (l : Addr) (ns : List Int), vs = [V.ref l] ∧ SqL K H l (ns.map V.int) ∧ ns.length ≤ 1000 ∧
  ∀ p c, H p = none → c ≤ ns.length → Q (.ref p) (upd H p (SetO w p (fun j => decide (j ∈ ns)) c))
theorem cr_setL (hc : X.calm = true) : CallR X (.type "set") (rSetL X.K X.w) := by
  intro pins s σ H vs us Q I r h
  obtain ⟨l, ns, rfl, hq, hz, q⟩ := h
  obtain ⟨its, rv, pl, _⟩ := I.list hq
  rw [Vals.ref1 r]
  have hv := RZ.intsAre_vals rv
  have hlen : its.length = ns.length := by rw [← rv.length, List.length_map]
  refine set_of (T := fun i g => ∃ c, c ≤ i ∧ SetR X.w g s.heap.objs.size (fun j => decide (j ∈ ns.take i)) c) (I.ok.hd hc) pl.isList (fun i g k e ⟨c, c1, c2⟩ => ⟨c, c1, c2.at e⟩) (fun B _ => ?_) (fun g e => ⟨0, Nat.le_refl _, fresh_setR e⟩) fun g tk ⟨c, c1, c2⟩ hk => ?_
  · intro i v u Q2 E2 hi ⟨c, c1, c2⟩ hQ
    obtain ⟨t, e⟩ := PyProof.Rows.IntsAre.int_at hv i v (by simpa using hi)
    have hin : i < ns.length := by
      have := (Array.getElem?_eq_some_iff.mp hi).1
      simpa [hlen] using this
    have hn : ns.getD i 0 = ns[i] := by simp [List.getD_eq_getElem?_getD, hin]
    rw [hn] at e
    subst e
    unfold setAdd
    refine wpAny_holding (wpAny_bind ((intKind X.prog X.w).pyHash (k := ns[i]) (intKind_is _ _ _ _) ?_))
    refine setR_add_hashed (s := { u with toks := u.toks + 1 }) c2 (by unfold scanBound; omega) fun g sb new => ?_
    refine hQ _ g 1 sb ⟨if decide (ns[i] ∈ ns.take i) = true then c else c + 1, by split <;> omega, new.congr fun k => ?_⟩
    rw [List.take_succ_eq_append_getElem hin]
    rw [Bool.eq_iff_iff]
    simp only [decide_eq_true_eq, List.mem_append, List.mem_singleton, Bool.or_eq_true]
  · have hsz : its.toArray.size = ns.length := by simp [hlen]
    rw [hsz] at c1 c2
    rw [List.take_length] at c2
    exact ⟨.ref _, _, I.laid (t' := tk) hk (Nat.le_refl _) (setO_new c2), rfl, q _ c (I.hok.fresh (Nat.le_refl _)) c1⟩
def dSortSet : PyData → R PyData
  | .list ds => (oR (intsOf ds)).bind fun ns => if ns.Nodup ∧ ns.length ≤ 63 then .ok (.list ((sortI ns).map .int)) else .no
  | _ => .no
def mSortSet (m : M) : M := fun Γ => (m Γ).bind dSortSet
theorem se_sortset {E : XK} {a : Expr} {m : M} {p p2 q pos : Pos} (hc : X.calm = true) (hm : X.mg "sorted" = none) (hm2 : X.mg "set" = none) (ha : SE X E a m) (hg : Gl X "sorted" := by exact rfl) (hg2 : Gl X "set" := by exact rfl)
    (na : starEach [a] X.env = (false, eval a X.env) :: starEach [] X.env := by rfl)
    (nb : starEach [.Call (.Name "set" p2) [a] [] q] X.env = (false, eval (.Call (.Name "set" p2) [a] [] q) X.env) :: starEach [] X.env := by rfl) : SE X E (.Call (.Name "sorted" p) [.Call (.Name "set" p2) [a] [] q] [] pos) (mSortSet m) := by
  have h1 := pe_callTy (p := p2) (pos := q) (cr_setL hc) hg2 hm2 (by decide +kernel) (pa_cons ha pa_nil na) (hn := by decide) (hdb := by decide) (he := na) (hpl := by rfl)
  refine pe_of (pe_callB (p := p) (pos := pos) (cr_sortedSet hc) hg hm (by decide +kernel) (pa_cons h1 pa_nil nb) (hn := by decide) (hdb := by decide) (he := nb) (hpl := by rfl)) fun σ H Q ⟨B, Γ, G, sr, po⟩ => ⟨B, Γ, G, sr, Po.bind po fun d x G1 H1 _ g1 dx po1 => ?_⟩
  cases dx with
  | @lst l xs ds h1 a1 =>
    replace po1 : Po (Dq X.K) X.mg E G1 H1 Q ((oR (intsOf ds)).bind fun ns => if ns.Nodup ∧ ns.length ≤ 63 then R.ok (PyData.list ((sortI ns).map .int)) else .no) := po1
    cases e : intsOf ds with
    | none => rw [e] at po1; exact po1.elim
    | some ns =>
      rw [e, oR_some, R.bind_ok] at po1
      have := intsOf_eq e; subst this
      have := dpa_ints a1; subst this
      split at po1
      · rename_i h
        refine ⟨l, ns, rfl, sq1 g1.s h1, by omega, fun p c hp hcl => ?_⟩
        refine ⟨p, _, c, rfl, upd_same, by omega, fun ns' p3 up mem len hp3 => ?_⟩
        have : ns' = sortI ns := asc_eq up (sortI_lt h.1) fun k => by
          rw [mem, decide_eq_true_eq, (sortI_perm ns).mem_iff]
        subst this
        have g2 : Gr G1 H1 G1 (upd H1 p (SetO X.w p (fun j => decide (j ∈ ns)) c)) := ⟨fun _ _ e => e, le_upd hp, le_trans g1.s (le_upd hp), fun a _ h => h⟩
        exact po_lst (po1.gr g2) g2.s hp3 (dpa_ofInts _)
      · exact po1.elim
  | _ => exact po1.elim
end
end PD

/-! The data layer: len(set(xs)), a list of texts. -/
namespace PD
open PySem PySem.Spec PyProof.Rows L2
/-- how many different ones -/
def ndS : List Str → Nat
  | [] => 0
  | x :: t => if x ∈ t then ndS t else ndS t + 1
theorem ndS_le : ∀ xs : List Str, ndS xs ≤ xs.length
  | [] => Nat.le_refl _
  | x :: t => by unfold ndS; have := ndS_le t; simp only [List.length_cons]; split <;> omega
theorem vals_str_at : ∀ {xs : List Str} {us : List Value}, Vals (xs.map V.str) us → ∀ (i : Nat) (v : Value), us[i]? = some v → ∀ h : i < xs.length, ∃ t, v = Value.str xs[i] t
  | [], _, _, i, v, _, h => absurd h (by simp)
  | x :: xs, _, .cons r t, 0, v, hi, h => by
    obtain ⟨k, rfl⟩ := r
    simp at hi
    exact ⟨k, hi.symm⟩
  | x :: xs, _, .cons r t, i + 1, v, hi, h => by
    simp at hi
    exact vals_str_at t i v hi (by simpa using h)
section
variable {X : Cx}
def tLenSetS (K : PySem.W.Frag) (ta : TE) : TE := fun σ H Q => ta σ H fun x H1 => ∃ l, ∃ xs : List Str, x = .ref l ∧ SqL K H1 l (xs.map V.str) ∧ xs.length ≤ 1000 ∧ Q (.int (ndS xs.reverse : Nat)) H1
theorem pe_lenSetS {a : Expr} {ta : TE} {p p2 q pos : Pos} (hc : X.calm = true) (hg : Gl X "len") (hm : X.mg "len" = none) (hg2 : Gl X "set") (hm2 : X.mg "set" = none) (ha : PE X a ta)
    (na : starEach [a] X.env = (false, eval a X.env) :: starEach [] X.env := by rfl) : PE X (.Call (.Name "len" p) [.Call (.Name "set" p2) [a] [] q] [] pos) (tLenSetS X.K ta) := by
  refine ⟨fun pins s σ H Q I h => ?_⟩
  refine Call_ (ld_blt I hg hm boot_len ?_)
  refine PyProof.Rows.callWith_builtin1 (PyProof.Rows.args_cons ?_ rfl) rfl rfl
  refine Call_ (ld_blt I hg2 hm2 boot_set ?_)
  refine PyProof.Rows.callWith_type1 (PyProof.Rows.args_cons (thn (ha.run pins s σ H _ I h) fun v s1 ⟨x, H1, I1, r1, q1⟩ => PyProof.Rows.args_nil ?_) na) na rfl
  obtain ⟨l, xs, rfl, hq, h1, q1⟩ := q1
  cases r1
  obtain ⟨its, rv, pl, hz⟩ := I1.list hq
  have hlen : its.length = xs.length := by rw [← rv.length, List.length_map]
  refine set_of (T := fun i g => g.SetOf (strKind X.prog X.w) s1.heap.objs.size (fun k => decide (k ∈ xs.take i)) (ndS (xs.take i).reverse)) (I1.ok.hd hc) pl.isList (fun i g k e R => ?_) (fun B _ => ?_) (fun g e => ?_) fun g tk hS hk => ?_
  · obtain ⟨o, es, ep, t, ho, r⟩ := R
    exact ⟨o, es, ep, t, e o ho, r⟩
  · intro i v u Q2 E2 hi hS hQ
    have hin : i < xs.length := by
      have := (Array.getElem?_eq_some_iff.mp hi).1
      simpa [hlen] using this
    have e : ∃ t, v = Value.str xs[i] t := by
      exact vals_str_at rv i v (by simpa using hi) hin
    obtain ⟨t, rfl⟩ := e
    have hle : ndS (xs.take i).reverse ≤ i := by have := ndS_le (xs.take i).reverse; simp at this; omega
    unfold setAdd
    refine wpAny_holding (wpAny_bind ((strKind X.prog X.w).pyHash (k := xs[i]) (strKind_is _ _ _ _) ?_))
    refine wpAny_setAddHashed_of (knd := strKind X.prog X.w) (s := { u with toks := u.toks + 1 }) (strKind_is _ _ _ _) rfl hS (by unfold scanBound; omega) fun g sb new => ?_
    refine hQ _ g 1 sb ?_
    show Heap.SetOf (strKind X.prog X.w) g s1.heap.objs.size (fun k => decide (k ∈ xs.take (i + 1))) (ndS (xs.take (i + 1)).reverse)
    rw [List.take_succ_eq_append_getElem hin, List.reverse_append]
    refine SetOf_congr new (fun k => by rw [Bool.eq_iff_iff]; simp only [decide_eq_true_eq, List.mem_append, List.mem_singleton, Bool.or_eq_true]) ?_
    show _ = ndS (xs[i] :: (xs.take i).reverse)
    have e2 : ndS (xs[i] :: (xs.take i).reverse) = if xs[i] ∈ (xs.take i).reverse then ndS (xs.take i).reverse else ndS (xs.take i).reverse + 1 := rfl
    rw [e2]
    simp only [List.mem_reverse, decide_eq_true_eq]
  · exact ⟨_, #[], 0, _, e, ⟨rfl, rfl, rfl⟩, rfl, (fun e he => by simp at he), (fun k => by simp), (by decide), (by rfl), rfl⟩
  · refine PyProof.Rows.args_nil ?_
    have hsz : its.toArray.size = xs.length := by simp [hlen]
    rw [hsz, List.take_length] at hS
    obtain ⟨o, es, ep, t, ho, hex, hd, _, _, _, hf, hn⟩ := hS
    have := ndS_le xs.reverse
    simp at this
    have I2 : Inv X pins σ H1 { s1 with heap := g, toks := tk } := I1.kept fun b o e => hk b o e
    refine call_len_set ho hex hd hf (by rw [hn] <;> omega) ⟨.int (ndS xs.reverse : Nat), H1, I2.tok _, ⟨_, by rw [hn]⟩, q1⟩
def dLenSetT : PyData → R PyData
  | .list ds => (oR (strsOf ds)).bind fun ns => if ns.length ≤ 1000 then .ok (.int (ndS ns.reverse : Nat)) else .no
  | _ => .no
def mLenSetT (m : M) : M := fun Γ => (m Γ).bind dLenSetT
theorem se_lensetT {E : XK} {a : Expr} {m : M} {p p2 q pos : Pos} (hc : X.calm = true) (hm : X.mg "len" = none) (hm2 : X.mg "set" = none) (ha : SE X E a m) (hg : Gl X "len" := by exact rfl) (hg2 : Gl X "set" := by exact rfl)
    (na : starEach [a] X.env = (false, eval a X.env) :: starEach [] X.env := by rfl) : SE X E (.Call (.Name "len" p) [.Call (.Name "set" p2) [a] [] q] [] pos) (mLenSetT m) :=
  pe_of (pe_lenSetS hc hg hm hg2 hm2 ha na) fun σ H Q ⟨B, Γ, G, sr, po⟩ => ⟨B, Γ, G, sr, Po.bind po fun d x G1 H1 _ g1 dx po1 => by
    cases dx with
    | @lst a xs ds h1 a1 =>
      replace po1 : Po (Dq X.K) X.mg E G1 H1 Q ((oR (strsOf ds)).bind fun ns => if ns.length ≤ 1000 then R.ok (PyData.int (ndS ns.reverse : Nat)) else .no) := po1
      cases e : strsOf ds with
      | none => rw [e] at po1; exact po1.elim
      | some ns =>
        rw [e, oR_some, R.bind_ok] at po1
        have := strsOf_eq e; subst this
        have := dpa_strs a1; subst this
        split at po1
        · rename_i h
          exact ⟨a, ns, rfl, (sq1 g1.s h1), h, Po.ok (d := PyData.int (ndS ns.reverse : Nat)) po1 g1.s (.int _)⟩
        · exact po1.elim
    | _ => exact po1.elim⟩
end
end PD

/-! The data layer: sorted(xs), int pairs or texts. -/
namespace PD
open PySem PySem.Spec PyProof.Rows L2
def pairsOf : List PyData → Option (List (Int × Int))
  | [] => some []
  | .tuple [.int i, .int j] :: r => (pairsOf r).map ((i, j) :: ·)
  | _ => none
def dP (p : Int × Int) : PyData := .tuple [.int p.1, .int p.2]
theorem pairsOf_eq : ∀ {ds : List PyData} {ps : List (Int × Int)}, pairsOf ds = some ps → ds = ps.map dP := by
  intro ds
  fun_induction pairsOf ds with
  | case1 => intro ps h; cases h; rfl
  | case2 i j r ih =>
    intro ps h
    cases e : pairsOf r with
    | none => rw [e] at h; cases h
    | some ms => rw [e] at h; cases h; rw [ih e]; rfl
  | case3 => intro ps h; cases h
@[simp] theorem pairsOf_map : ∀ ps : List (Int × Int), pairsOf (ps.map dP) = some ps
  | [] => rfl
  | p :: ps => by simp [pairsOf, dP, pairsOf_map ps]
def leP (p q : Int × Int) : Bool := !SrtO.lexB q p
def sortP (ps : List (Int × Int)) : List (Int × Int) := ps.mergeSort leP
theorem leP_iff {p q : Int × Int} : leP p q = true ↔ p.1 < q.1 ∨ (p.1 = q.1 ∧ p.2 ≤ q.2) := by
  unfold leP
  rw [Bool.not_eq_true', SrtO.lexB_no]
  omega
theorem sortP_perm (ps : List (Int × Int)) : (sortP ps).Perm ps := List.mergeSort_perm ps _
theorem sortP_sorted (ps : List (Int × Int)) : (sortP ps).Pairwise fun x y => leP x y = true :=
  List.pairwise_mergeSort (le := leP) (fun a b c h1 h2 => by rw [leP_iff] at *; omega) (fun a b => by rw [Bool.or_eq_true, leP_iff, leP_iff]; omega) ps
theorem sortP_eq {ns ms : List (Int × Int)} (h1 : ms.Perm ns) (h2 : ms.Pairwise fun x y => leP x y = true) : ms = sortP ns :=
  List.Perm.eq_of_pairwise (fun a b _ _ h1 h2 => by rw [leP_iff] at *; exact Prod.ext (by omega) (by omega)) h2 (sortP_sorted ns) (h1.trans (sortP_perm ns).symm)
def rSortedPT (K : PySem.W.Frag) : List V → Hp → VK → Prop := fun vs H Q => ∃ (a : Addr) (xs : List V) (k : V → Int × Int), vs = [V.ref a] ∧ SqL K H a xs ∧ (∀ x ∈ xs, ∃ t, x = V.ref t ∧ SqT K H t [.int (k x).1, .int (k x).2]) ∧
  ∀ ys p, SrtO.Srtd (ltP k) ys → SrtO.Stb (ltP k) ys xs → H p = none → Q (.ref p) (upd H p (.lst ys))
theorem cr_sortedPT {X : Cx} : CallR X (.builtin "sorted") (rSortedPT X.K) := by
  intro pins s σ H vs us Q I r h
  obtain ⟨a, xs, k, rfl, hs, hx, q⟩ := h
  obtain ⟨its, rv, hl, hz⟩ := I.list hs
  obtain ⟨u, rfl, ru⟩ := vals1 r
  obtain rfl : u = Value.ref a := ru
  obtain ⟨e1, e2⟩ := refs_back rv fun x m => by
    obtain ⟨t, e, _⟩ := hx x m
    exact ⟨t, e⟩
  refine SrtO.sorted_pairsO (k := fun u => k (backV u)) hl.isList (by rw [← rv.length]; exact hz) (fun v hv => ?_) fun h' d out h1 h2 kp hd hn => ?_
  · obtain ⟨t, rfl⟩ := e2 v hv
    have hm : V.ref t ∈ xs := by rw [e1]; exact List.mem_map.mpr ⟨_, hv, rfl⟩
    obtain ⟨t', e, ht⟩ := hx _ hm
    cases e
    obtain ⟨its2, r2, ⟨o, ho, hc, n, hd⟩, _⟩ := I.tuple ht
    obtain ⟨u1, u2, rfl, ri, rj⟩ := vals2 r2
    obtain ⟨t1, rfl⟩ := ri
    obtain ⟨t2, rfl⟩ := rj
    exact ⟨t, o, t1, t2, n, rfl, ho, hc, hd⟩
  · have h3 : ∀ u ∈ out, ∃ a, u = Value.ref a := fun u hu => e2 u (h2.perm.mem_iff.mp hu)
    obtain ⟨n, hn⟩ := hn
    have hb : SrtO.Stb (ltP k) (out.map backV) xs := by
      rw [e1]
      exact SrtO.Stb.map (ltP_swo k) backV h2
    refine ⟨.ref d, upd H d (.lst (out.map backV)), I.laid (t' := s.toks) kp hd ⟨?_, out, n, vals_back h3, hn⟩, rfl, q _ d (SrtO.srtd_map h1) hb (I.hok.fresh hd)⟩
    rw [hb.len]
    exact hz
noncomputable def kQ (K : PySem.W.Frag) (G : Hp) (x : V) : Int × Int :=
  open Classical in if h : ∃ p : Int × Int, Dq K G x (dP p) then h.choose else (0, 0)
theorem kQ_dq {K : PySem.W.Frag} {G : Hp} {x : V} {p : Int × Int} (h : Dq K G x (dP p)) : Dq K G x (dP (kQ K G x)) := by
  unfold kQ
  rw [dif_pos ⟨p, h⟩]
  exact Exists.choose_spec (p := fun p => Dq K G x (dP p)) ⟨p, h⟩
theorem dP_sq {K : PySem.W.Frag} {G : Hp} {x : V} {p : Int × Int} (h : Dq K G x (dP p)) : ∃ t, x = V.ref t ∧ SqT K G t [.int p.1, .int p.2] := by
  unfold dP at h
  cases h with
  | tup g1 a1 =>
    cases a1 with
    | cons b1 b2 => cases b2 with
      | cons b2 b3 => cases b3; cases b1; cases b2; exact ⟨_, rfl, g1⟩
theorem pair_uniq {X : Cx} {pins : List (Addr × Obj)} {σ : L2.St} {H : Hp} {s : Shared} (I : L2.Inv X pins σ H s) {t : Addr} {a b c d : Int} (h1 : SqT X.K H t [.int a, .int b]) (h2 : SqT X.K H t [.int c, .int d]) : (a, b) = (c, d) := by
  obtain ⟨i1, r1, ⟨o1, ho1, hc1, n1, hd1⟩, _⟩ := I.tuple h1
  obtain ⟨i2, r2, ⟨o2, ho2, hc2, n2, hd2⟩, _⟩ := I.tuple h2
  rw [ho1] at ho2
  cases ho2
  rw [hd1] at hd2
  cases hd2
  obtain ⟨u1, u2, e, ri, rj⟩ := vals2 r1
  obtain ⟨w1, w2, e2, rk, rl⟩ := vals2 r2
  rw [e] at e2
  cases e2
  obtain ⟨t1, rfl⟩ := ri
  obtain ⟨t2, rfl⟩ := rj
  obtain ⟨t3, e3⟩ := rk
  obtain ⟨t4, e4⟩ := rl
  cases e3
  cases e4
  rfl
theorem dpa_mem {K : PySem.W.Frag} {G : Hp} : ∀ {vs : List V} {ps : List (Int × Int)}, DqAll K G vs (ps.map dP) → ∀ x ∈ vs, ∃ p, Dq K G x (dP p)
  | _, [], h => by cases h; exact fun x hx => by cases hx
  | _, p :: ps, h => by
    cases h with
    | cons h1 h2 =>
      intro x hx
      rcases List.mem_cons.mp hx with rfl | hx
      · exact ⟨p, h1⟩
      · exact dpa_mem h2 x hx
theorem dpa_kQ {K : PySem.W.Frag} {G : Hp} : ∀ {vs : List V} {ps : List (Int × Int)}, DqAll K G vs (ps.map dP) → (∀ x ∈ vs, ∀ p, Dq K G x (dP p) → p = kQ K G x) → vs.map (kQ K G) = ps
  | _, [], h, _ => by cases h; rfl
  | _, p :: ps, h, u => by
    cases h with
    | cons h1 h2 =>
      rw [List.map_cons, dpa_kQ h2 fun x hx => u x (.tail _ hx), ← u _ (.head _) p h1]
theorem dpa_ofK {K : PySem.W.Frag} {G : Hp} : ∀ {vs : List V}, (∀ x ∈ vs, Dq K G x (dP (kQ K G x))) → DqAll K G vs ((vs.map (kQ K G)).map dP)
  | [], _ => .nil
  | x :: vs, h => .cons (h x (.head _)) (dpa_ofK fun y hy => h y (.tail _ hy))
def rSortedPD (K : PySem.W.Frag) : List V → Hp → VK → Prop := fun vs H Q => ∃ (G : Hp) (a : Addr) (xs : List V) (ps : List (Int × Int)), vs = [V.ref a] ∧ SqL K H a xs ∧ Le G H ∧ DqAll K G xs (ps.map dP) ∧
  ∀ ys p, DqAll K G ys ((sortP ps).map dP) → H p = none → Q (.ref p) (upd H p (.lst ys))
theorem cr_sortedPD {X : Cx} : CallR X (.builtin "sorted") (rSortedPD X.K) := by
  intro pins s σ H vs us Q I r h
  obtain ⟨G, a, xs, ps, rfl, hs, l, hd, q⟩ := h
  have hm := dpa_mem hd
  have hk : ∀ x ∈ xs, Dq X.K G x (dP (kQ X.K G x)) := fun x hx => by
    obtain ⟨p, hp⟩ := hm x hx
    exact kQ_dq hp
  have hu : xs.map (kQ X.K G) = ps := dpa_kQ hd fun x hx p hp => by
    obtain ⟨t, e, h1⟩ := dP_sq (dp_le l hp)
    obtain ⟨t', e', h2⟩ := dP_sq (dp_le l (hk x hx))
    rw [e] at e'
    cases e'
    exact pair_uniq I h1 h2
  refine cr_sortedPT pins s σ H _ us Q I r ⟨a, xs, kQ X.K G, rfl, hs, fun x hx => dP_sq (dp_le l (hk x hx)), fun ys p h1 h2 hp => q ys p ?_ hp⟩
  have e : ys.map (kQ X.K G) = sortP ps := sortP_eq (by rw [← hu]; exact h2.perm.map _) (List.pairwise_map.mpr (h1.imp fun {x y} h => by
    have h : SrtO.lexB (kQ X.K G y) (kQ X.K G x) = false := h
    unfold leP; rw [h]; rfl))
  rw [← e]
  exact dpa_ofK fun x hx => hk x (h2.perm.mem_iff.mp hx)
section
variable {X : Cx} {E : XK}
/-- sorted(xs), xs a list of int pairs -/
def dSortedP : List PyData → R PyData
  | [.list ds] => (oR (pairsOf ds)).bind fun ps => .ok (.list ((sortP ps).map dP))
  | _ => .no
theorem cd_sortedP : CD X E (.builtin "sorted") dSortedP := one_list cr_sortedPD (fun ds h => by
    unfold dSortedP
    split
    · exact absurd rfl (h _)
    · rfl) fun G H a xs ds Q sz l h1 a1 po => by
  replace po : Po (Dq X.K) X.mg E G H Q ((oR (pairsOf ds)).bind fun ps => .ok (.list ((sortP ps).map dP))) := po
  cases e : pairsOf ds with
  | none => rw [e] at po; exact po.elim
  | some ps =>
    rw [e] at po
    have := pairsOf_eq e; subst this
    exact ⟨G, a, xs, ps, rfl, (sq1 l h1), l, a1, fun ys p h2 hp => po_lst po l hp h2⟩
end
end PD

/-! The data layer: sorted(xs) of ints, int pairs, texts or a text's signs; sep.join(list of texts). -/
namespace PD
open PySem PySem.Spec PyProof.Rows L2
def leS (x y : Str) : Bool := !ltCps y.cps.toList x.cps.toList
theorem leS_iff {x y : Str} : leS x y = true ↔ ¬ y.cps.toList < x.cps.toList := by
  unfold leS
  rw [ltCps_eq]
  simp
def sortS (xs : List Str) : List Str := xs.mergeSort leS
theorem leS_tr {a b c : Str} (h1 : leS a b = true) (h2 : leS b c = true) : leS a c = true := by
  rw [leS_iff] at *
  exact List.le_trans (α := Nat) h1 h2
theorem leS_tot (a b : Str) : (leS a b || leS b a) = true := by
  rw [Bool.or_eq_true, leS_iff, leS_iff]
  exact List.le_total (α := Nat) _ _
theorem leS_anti {a b : Str} (h1 : leS a b = true) (h2 : leS b a = true) : a = b := by
  rw [leS_iff] at *
  have e := List.le_antisymm (α := Nat) h1 h2
  cases a with | mk a => cases b with | mk b => exact congrArg Str.mk (Array.toList_inj.mp e)
theorem sortS_perm (xs : List Str) : (sortS xs).Perm xs := List.mergeSort_perm xs _
theorem sortS_sorted (xs : List Str) : (sortS xs).Pairwise fun x y => leS x y = true :=
  List.pairwise_mergeSort (le := leS) (fun a b c h1 h2 => leS_tr h1 h2) leS_tot xs
theorem sortS_eq {ns ms : List Str} (h1 : ms.Perm ns) (h2 : ms.Pairwise fun x y => leS x y = true) : ms = sortS ns :=
  List.Perm.eq_of_pairwise (fun a b _ _ h1 h2 => leS_anti h1 h2) h2 (sortS_sorted ns) (h1.trans (sortS_perm ns).symm)
theorem sortS_congr {ns ms : List Str} (h : ns.Perm ms) : sortS ns = sortS ms := sortS_eq ((sortS_perm ns).trans h) (sortS_sorted ns)
theorem risingS_pw : ∀ (p : Str) (l : List Str), risingS p l = true → (p :: l).Pairwise fun x y => leS x y = true
  | p, [], _ => List.pairwise_singleton _ _
  | p, x :: r, h => by
    have h : (leS p x && risingS x r) = true := h
    rw [Bool.and_eq_true] at h
    have ih := risingS_pw x r h.2
    refine List.pairwise_cons.mpr ⟨fun y hy => ?_, ih⟩
    rcases List.mem_cons.mp hy with rfl | hy
    · exact h.1
    · exact leS_tr h.1 ((List.pairwise_cons.mp ih).1 y hy)
theorem sortedS_pw : ∀ (l : List Str), sortedS l = true → l.Pairwise fun x y => leS x y = true
  | [], _ => .nil
  | x :: r, h => risingS_pw x r h
/-- the signs of a text -/
def sgnS (x : Str) : List Str := x.cps.toList.map fun c => ⟨#[c]⟩
section
variable {X : Cx} {E : XK}
def rSortedT : List V → Hp → VK → Prop := fun vs H Q => ∃ x : Str, vs = [V.str x] ∧ x.length < 64 ∧ ∀ p, H p = none → Q (.ref p) (upd H p (.lst ((sortS (sgnS x)).map V.str)))
theorem cr_sortedT (hcalm : X.calm = true) : CallR X (.builtin "sorted") rSortedT := by
  intro pins s σ H xs us Q I r ⟨x, ex, h64, q⟩
  subst ex
  obtain ⟨u, eu, rx⟩ := vals1 r
  subst eu
  obtain ⟨t, rfl⟩ := rx
  have hx : x.cps.size = x.length := rfl
  refine Calls.call_function_entry PyProof.Rows.kind_sorted PyProof.Rows.plain_sorted PyProof.Rows.entry_sorted (PyProof.Rows.args_sorted1 _) ?_
  unfold Builtin.«sorted»
  refine wpAny_bind (m := checkCount "sorted" 1 1 _) (wpAny_pure ?_)
  refine wpAny_bind (wpAny_collect_str (A := X.A.in1) (I.ok.hd hcalm) x t (fun s2 acc hk eg ed eo hacc => ?_) (by rw [hx, sizeLine_eq]; omega))
  have ks : x.cps.size = (sgnS x).length := by simp [sgnS]
  have hal : acc.toList.length = (sgnS x).length := by rw [Array.length_toList, hacc.1, ks]
  have hS : StrsAre acc.toList (sgnS x) := strs_at hal fun j v e => by
    obtain ⟨c, tk, e1, e2⟩ := hacc.2 j v (by rw [← Array.getElem?_toList]; exact e)
    exact ⟨⟨#[c]⟩, tk, by simp [sgnS, e1], e2⟩
  obtain ⟨g2, gs2, dr2, tk2, os2⟩ := s2
  obtain rfl : gs2 = s.gens := eg
  obtain rfl : dr2 = s.drawn := ed
  obtain rfl : os2 = s.os := eo
  have h64' : acc.toList.length < 64 := by rw [hal, ← ks, hx]; exact h64
  have I1 : Inv X pins σ H { s with heap := g2, toks := tk2 } := I.kept hk
  refine wpAny_bind (wpAny_newList ?_ (by rw [sizeLine_eq]; omega))
  have hoL : (g2.push (seqObj "list" acc.toList.toArray 0)).get? g2.objs.size = some (seqObj "list" acc.toList.toArray 0) := Heap.get?_push_size _ rfl
  show wpAny _ _ _ _ _ { s with heap := g2.push (seqObj "list" acc.toList.toArray 0), toks := tk2 }
  refine wpAny_bind (wpAny_holding (wpAny_call_entry PyProof.Rows.slot_list_sort ⟨_, hoL, rfl⟩ PyProof.Rows.entry_list_sort
    (list_sort_treeK strKind_oneLt (s := { s with heap := g2.push (seqObj "list" acc.toList.toArray 0), toks := tk2 }) hoL hS.keysOf (fun v1 v2 rest e => keyKind_strs (by rw [← e]; exact hS)) h64' fun st2 hp hs => ⟨_, rfl, ?_⟩)
    (PyProof.Rows.args_list_sort _)))
  obtain ⟨ys, g1, g3, g4⟩ := sorted_out_str hS hp hs
  obtain rfl : ys = sortS (sgnS x) := sortS_eq g3 (sortedS_pw _ g4)
  obtain ⟨e3, he3⟩ := PyProof.Rows.sortedHeap_at (vs := acc.toList) (out := (arrOf st2).map (·.2)) hoL
  have hlen : ((sortS (sgnS x)).map V.str).length ≤ sizeLine := by rw [List.length_map, g3.length_eq, ← ks, hx, sizeLine_eq]; omega
  refine wpAny_pure ⟨_, rfl, .ref g2.objs.size, upd H g2.objs.size (.lst ((sortS (sgnS x)).map V.str)), I1.laid (t' := tk2) (fun b u e => ?_) (Nat.le_refl _)
    (show ObjOk X.prog X.w _ _ _ (.lst ((sortS (sgnS x)).map V.str)) from ⟨hlen, ((arrOf st2).map (·.2)).toList, e3, vals_of_strs g1, by rw [Array.toArray_toList]; exact he3⟩), rfl, q _ (I1.hok.fresh (Nat.le_refl _))⟩
  have hb : b < g2.objs.size := Heap.lt_size e
  rw [PyProof.Rows.sortedHeap_old (Nat.ne_of_lt hb) (by rw [size_push']; exact Nat.lt_succ_of_lt hb)]
  exact Heap.get?_push_of_some _ e
def dSortedL (ds : List PyData) : R PyData :=
  match intsOf ds with
  | some ns => .ok (.list ((sortI ns).map .int))
  | none => match pairsOf ds with
    | some ps => .ok (.list ((sortP ps).map dP))
    | none => (oR (strsOf ds)).bind fun ys => if ys.length < 64 then .ok (.list ((sortS ys).map .str)) else .no
/-- sorted(x) -/
def dSortedA : List PyData → R PyData
  | [.list ds] => dSortedL ds
  | [.str x] => if x.length < 64 then .ok (.list ((sortS (sgnS x)).map .str)) else .no
  | _ => .no
theorem cd_sortedA (hc : X.calm = true) : CD X E (.builtin "sorted") dSortedA := cd_of (cr_sortedI.or (cr_sortedPD.or (cr_sortedS.or (cr_sortedT hc)))) fun G H vs ds Q sz l dx po => by
  unfold dSortedA at po
  split at po
  · rename_i ds
    cases dx with
    | cons d1 d2 =>
      cases d2
      cases d1 with
      | lst h1 a1 =>
        unfold dSortedL at po
        split at po
        · rename_i ns e
          have := intsOf_eq e; subst this
          have := dpa_ints a1; subst this
          exact .inl ⟨_, ns, rfl, sq1 l h1, fun ns' p h2 h3 hp => by
            obtain rfl : ns' = sortI ns := sortI_eq h2 h3
            exact po_lst po l hp (dpa_ofInts _)⟩
        · split at po
          · rename_i ps e
            have := pairsOf_eq e; subst this
            exact .inr (.inl ⟨G, _, _, ps, rfl, sq1 l h1, l, a1, fun ys p h2 hp => po_lst po l hp h2⟩)
          · rename_i xs e1 e2
            cases e : strsOf ds with
            | none => rw [e] at po; exact po.elim
            | some ys =>
              rw [e, oR_some, R.bind_ok] at po
              have := strsOf_eq e; subst this
              have := dpa_strs a1; subst this
              split at po
              · rename_i h
                exact .inr (.inr (.inl ⟨_, ys, rfl, sq1 l h1, h, fun ns' p h2 h3 hp => by
                  obtain rfl : ns' = sortS ys := sortS_eq h2 (sortedS_pw _ h3)
                  exact po_lst po l hp (dpa_ofStrs _)⟩))
              · exact po.elim
  · rename_i x
    split at po
    · rename_i h
      cases dx with
      | cons d1 d2 =>
        cases d2
        cases d1
        exact .inr (.inr (.inr ⟨x, rfl, h, fun p hp => po_lst po l hp (dpa_ofStrs _)⟩))
    · exact po.elim
  · exact po.elim
/-- sep.join(xs), a list of texts -/
def dJoin (a : Str) : PyData → R PyData
  | .list ds => (oR (strsOf ds)).bind fun ys => if (ys.map (·.length)).sum + ys.length * a.length ≤ 16777216 then .ok (.str (Txt.join a ys)) else .no
  | _ => .no
def mJoin (mo me : M) : M := fun Γ => (mo Γ).bind fun x => match x with
  | .str a => (me Γ).bind (dJoin a)
  | _ => .no
theorem se_join {o e : Expr} {mo me : M} {apos pos : Pos} (ho : SE X E o mo) (he : SE X E e me) (hs : starEach [e] X.env = [(false, eval e X.env)] := by rfl) (hbase : attributeBase o "join" X.env (eval o X.env) = eval o X.env := by rfl) (hline : (apos.endLine == pos.line) = true := by rfl) :
    SE X E (.Call (.Attribute o "join" apos) [e] [] pos) (mJoin mo me) :=
  pe_of (pe_join ho he hs hbase hline) fun σ H Q ⟨B0, Γ, G, sr, po⟩ => ⟨B0, Γ, G, sr, Po.bind po fun d x G1 H1 _ g1 dx po1 => by
    cases dx with
    | str a =>
      refine ⟨⟨a, rfl⟩, B0, Γ, G1, sr.gr g1, Po.bind po1 fun e y G2 H2 _ g2 dy po2 => ?_⟩
      cases dy with
      | @lst b xs ds h1 a1 =>
        replace po2 : Po (Dq X.K) X.mg E G2 H2 Q ((oR (strsOf ds)).bind fun ys => if (ys.map (·.length)).sum + ys.length * a.length ≤ 16777216 then .ok (.str (Txt.join a ys)) else .no) := po2
        cases e : strsOf ds with
        | none => rw [e] at po2; exact po2.elim
        | some ys =>
          rw [e, oR_some, R.bind_ok] at po2
          have := strsOf_eq e; subst this
          have := dpa_strs a1; subst this
          split at po2
          · rename_i h
            exact ⟨a, b, ys, rfl, rfl, .inl (sq1 g2.s h1), h, Po.ok (d := PyData.str (Txt.join a ys)) po2 g2.s (.str _)⟩
          · exact po2.elim
      | _ => exact po2.elim
    | _ => exact po1.elim⟩
end
end PD

/-! The data layer: max(xs), min(xs) of any alike data, xs.index(x). -/
namespace PD
open PySem PySem.Spec PyProof.Rows L2
/-- one rule, or another where the first says nothing -/
def orR (g g' : List PyData → R PyData) : List PyData → R PyData := fun ds => match g ds with
  | .no => g' ds
  | r => r
theorem cd_or {X : Cx} {E : XK} {f : Value} {g g' : List PyData → R PyData} (h : CD X E f g) (h' : CD X E f g') : CD X E f (orR g g') := by
  intro pins s σ H vs us Q I r q
  obtain ⟨G, ds, l, dx, po⟩ := q
  unfold orR at po
  cases e : g ds with
  | no => rw [e] at po; exact h' pins s σ H vs us Q I r ⟨G, ds, l, dx, po⟩
  | ok d => rw [e] at po; exact h pins s σ H vs us Q I r ⟨G, ds, l, dx, by rw [e]; exact po⟩
  | ex c => rw [e] at po; exact h pins s σ H vs us Q I r ⟨G, ds, l, dx, by rw [e]; exact po⟩
def notNone : PyData → Bool
  | .none => false
  | _ => true
/-- data that can be set in a row -/
def okMx (ds : List PyData) : Bool := SeqAt.shaped (.list ds) && ds.all (fun d => SeqAt.shaped d && notNone d) && ds.all fun x => ds.all fun y => PySem.W.alike x y
theorem okMx_el {ds : List PyData} (h : okMx ds = true) : SeqAt.shaped (.list ds) = true ∧ (∀ d ∈ ds, SeqAt.shaped d = true) ∧ PySem.W.AlikeAll ds := by
  unfold okMx at h
  simp only [Bool.and_eq_true, List.all_eq_true, decide_eq_true_eq] at h
  exact ⟨h.1.1, fun d hd => (h.1.2 d hd).1, fun x hx y hy => h.2 x hx y hy, fun x hx e => by have := (h.1.2 x hx).2; rw [e] at this; cases this⟩
theorem dqa_at {K : PySem.W.Frag} {G : Hp} : ∀ {vs : List V} {ds : List PyData} {i : Nat} {v : V}, DqAll K G vs ds → vs[i]? = some v → ∃ d, ds[i]? = some d ∧ Dq K G v d
  | _, _, i, v, .nil, e => by simp at e
  | _, _, 0, v, .cons h _, e => by simp at e; subst e; exact ⟨_, rfl, h⟩
  | _, _, i + 1, v, .cons _ t, e => by
    obtain ⟨d, h1, h2⟩ := dqa_at (i := i) (v := v) t (by simpa using e)
    exact ⟨d, by simpa using h1, h2⟩
theorem vals_at : ∀ {xs : List V} {us : List Value} {i : Nat} {u : Value}, Vals xs us → us[i]? = some u → ∃ x, xs[i]? = some x ∧ RelV x u
  | _, _, i, u, .nil, e => by simp at e
  | _, _, 0, u, .cons h _, e => by simp at e; subst e; exact ⟨_, rfl, h⟩
  | _, _, i + 1, u, .cons _ t, e => by
    obtain ⟨d, h1, h2⟩ := vals_at (i := i) (u := u) t (by simpa using e)
    exact ⟨d, by simpa using h1, h2⟩
def rPickG (K : PySem.W.Frag) (pick : PyData → List PyData → PyData) : List V → Hp → VK → Prop := fun vs H Q => ∃ (G : Hp) (a : Addr) (xs : List V) (d : PyData) (ds : List PyData), vs = [V.ref a] ∧ SqL K H a xs ∧ Le G H ∧ DqAll K G xs (d :: ds) ∧ okMx (d :: ds) = true ∧
  ∀ x, Dq K G x (pick d ds) → Q x H
section
variable {X : Cx} {E : XK}
theorem pick_item {pins : List (Addr × Obj)} {σ : L2.St} {H G : Hp} {s : Shared} (I : L2.Inv X pins σ H s) (l : Le G H) {xs : List V} {its : List Value} {ds : List PyData} (rv : Vals xs its) (dx : DqAll X.K G xs ds) (ok : okMx ds = true) {i : Nat} {v : Value} {g : Heap} {m : PyData} {bs : List Addr}
    (hv : its.toArray[i]? = some v) (hr : Reads g v m bs) (hk : ∀ b o, s.heap.get? b = some o → g.get? b = some o) : ∃ x, RelV x v ∧ Dq X.K G x m := by
  obtain ⟨x, hx, rx⟩ := vals_at (u := v) (i := i) rv (by simpa using hv)
  obtain ⟨e, he, de⟩ := dqa_at dx hx
  obtain ⟨h1, h2, h3⟩ := okMx_el ok
  have hs := h2 e (List.mem_of_getElem? he)
  obtain ⟨as, r1⟩ := Dp.reads I e x v (dq_dp0 (dp_le l de) hs) rx
  have r2 := PySem.W.reads_keeps hk r1
  have : e = m := SeqAt.Reads.unique _ _ _ _ _ (SeqAt.canLay_of_shaped hs) r2 hr
  subst this
  exact ⟨x, rx, de⟩
theorem room_mx {ds : List PyData} (h : SeqAt.shaped (.list ds) = true) (hu : X.A.units + 66 < cLine) : X.A.units + 1 + PyData.depthAll ds < cLine := by
  have := SeqAt.depth_of_shaped h
  simp only [PyData.depth] at this
  omega
theorem cr_maxG (hc : X.calm = true) (hu : X.A.units + 66 < cLine) : CallR X (.builtin "max") (rPickG X.K PySem.W.maxD) := by
  intro pins s σ H vs us Q I r ⟨G, a, xs, d, ds, e, hs, l, dx, ok, q⟩
  subst e
  obtain ⟨its, rv, hl, _⟩ := I.list hs
  rw [Vals.ref1 r]
  obtain ⟨h1, h2, h3⟩ := okMx_el ok
  obtain ⟨as, hr⟩ := Dp.readsAll I (d :: ds) xs its (dqa_dpa (dpa_le l dx) h2) rv
  refine PySem.W.max_list_data (I.ok.hd hc) hl.isList (by simpa using hr) h3 (room_mx h1 hu) fun i v g tk bs hv hm hk => ?_
  obtain ⟨x, rx, de⟩ := pick_item I l rv dx ok hv hm hk
  exact ⟨x, H, I.kept hk, rx, q x de⟩
theorem cr_minG (hc : X.calm = true) (hu : X.A.units + 66 < cLine) : CallR X (.builtin "min") (rPickG X.K PySem.W.minD) := by
  intro pins s σ H vs us Q I r ⟨G, a, xs, d, ds, e, hs, l, dx, ok, q⟩
  subst e
  obtain ⟨its, rv, hl, _⟩ := I.list hs
  rw [Vals.ref1 r]
  obtain ⟨h1, h2, h3⟩ := okMx_el ok
  obtain ⟨as, hr⟩ := Dp.readsAll I (d :: ds) xs its (dqa_dpa (dpa_le l dx) h2) rv
  refine PySem.W.min_list_data (I.ok.hd hc) hl.isList (by simpa using hr) h3 (room_mx h1 hu) fun i v g tk bs hv hm hk => ?_
  obtain ⟨x, rx, de⟩ := pick_item I l rv dx ok hv hm hk
  exact ⟨x, H, I.kept hk, rx, q x de⟩
def dPickG (pick : PyData → List PyData → PyData) : List PyData → R PyData
  | [.list (d :: ds)] => if okMx (d :: ds) = true then .ok (pick d ds) else .no
  | _ => .no
theorem cd_pickG {f : Value} {pick : PyData → List PyData → PyData} (h : CallR X f (rPickG X.K pick)) : CD X E f (dPickG pick) := one_list h (fun ds h => by
    unfold dPickG
    split
    · exact absurd rfl (h _)
    · rfl) fun G H a xs ds Q sz l h1 a1 po => by
  cases ds with
  | nil => exact po.elim
  | cons d ds =>
    replace po : Po (Dq X.K) X.mg E G H Q (if okMx (d :: ds) = true then .ok (pick d ds) else .no) := po
    split at po
    · rename_i ok
      exact ⟨G, a, xs, d, ds, rfl, sq1 l h1, l, a1, ok, fun x dx => Po.ok po l dx⟩
    · exact po.elim
def dMaxA : List PyData → R PyData := orR dMax (dPickG PySem.W.maxD)
def dMinA : List PyData → R PyData := orR dMin (dPickG PySem.W.minD)
theorem room66 {k : Nat} (hr : Room k X.A) : X.A.units + 66 < cLine := by have := hr.un; omega
theorem cd_maxA {k : Nat} (hr : Room k X.A) (hc : X.calm = true) : CD X E (.builtin "max") dMaxA := cd_or (cd_max hc) (cd_pickG (cr_maxG hc (room66 hr)))
theorem cd_minA {k : Nat} (hr : Room k X.A) (hc : X.calm = true) : CD X E (.builtin "min") dMinA := cd_or (cd_min hc) (cd_pickG (cr_minG hc (room66 hr)))
/-- xs.index(x): the first place of an equal one -/
def dIndex : PyData → PyData → R PyData
  | .list ds, d => if SeqAt.shaped (.list ds) = true ∧ SeqAt.shaped d = true then (match ds.findIdx? fun z => PyData.eqv z d with
    | some j => .ok (.int (j : Nat))
    | none => .no) else .no
  | _, _ => .no
def mIndex (mo me : M) : M := fun Γ => (mo Γ).bind fun x => match x with
  | .list ds => (me Γ).bind (dIndex (.list ds))
  | _ => .no
theorem se_index {k : Nat} (hr : Room k X.A) {o e : Expr} {mo me : M} {apos pos : Pos} (ho : SE X E o mo) (he : SE X E e me) (hs : starEach [e] X.env = (false, eval e X.env) :: starEach [] X.env := by rfl) (hbase : attributeBase o "index" X.env (eval o X.env) = eval o X.env := by rfl)
    (hfew : ((backTo pos (starEach [e] X.env)).all (fun x => !x.1) && (backToKw pos (keywordEach [] X.env)).all (fun x => x.1.isSome)
      && decide ([e].length + ([] : List Keyword).length + (if ([] : List Keyword).isEmpty then 0 else 1) < 30)) = true := by rfl)
    (hline : (apos.endLine == pos.line) = true := by rfl) (hplain : (backTo pos (starEach [] X.env)).any (·.1) = false := by rfl) :
    SE X E (.Call (.Attribute o "index" apos) [e] [] pos) (mIndex mo me) :=
  pe_of (pe_bm (T := "list") PySem.F.plainAttrs_list PySem.F.slot_list_index PySem.F.type_list_index (mt_indexD (by have := room66 hr; omega)) ho (pa_cons he pa_nil hs) hbase hfew hline hs hplain) fun σ H Q ⟨B0, Γ, G, sr, po⟩ => ⟨B0, Γ, G, sr, Po.bind po fun d x G1 H1 _ g1 dx po1 => by
    cases dx with
    | @lst b xs ds h1 a1 =>
      refine ⟨.inl ⟨rfl, xs, sq1 g1.s h1⟩, B0, Γ, G1, sr.gr g1, Po.bind po1 fun d2 y G2 H2 _ g2 dy po2 => ?_⟩
      replace po2 : Po (Dq X.K) X.mg E G2 H2 Q (if SeqAt.shaped (.list ds) = true ∧ SeqAt.shaped d2 = true then (match ds.findIdx? fun z => PyData.eqv z d2 with
        | some j => .ok (.int (j : Nat))
        | none => .no) else .no) := po2
      split at po2
      · rename_i hsh
        cases ej : ds.findIdx? fun z => PyData.eqv z d2 with
        | none => rw [ej] at po2; exact po2.elim
        | some j =>
          rw [ej] at po2
          obtain ⟨hj, hz, hno⟩ := List.findIdx?_eq_some_iff_getElem.mp ej
          have dl : Dq X.K G2 (.ref b) (.list ds) := dp_le g2.g (.lst h1 a1)
          refine ⟨b, y, d2, ds, j, ds[j], rfl, rfl, dq_dp0 (dp_le g2.s dl) hsh.1, dq_dp0 (dp_le g2.s dy) hsh.2, hsh.1, hsh.2, by simp [hj], hz, fun m z' hm hz' => ?_, Po.ok (d := PyData.int (j : Nat)) po2 g2.s (.int _)⟩
          have := hno m hm
          have hml : m < ds.length := Nat.lt_trans hm hj
          rw [List.getElem?_eq_getElem hml] at hz'
          cases hz'
          simpa using this
      · exact po2.elim
    | _ => exact po1.elim⟩
end
end PD

/-! The data layer: partition, split, int(text), in a tuple, a handler that returns a constant. -/
namespace PD
open PySem PySem.Spec PyProof.Rows L2
section
variable {X : Cx} {E : XK}
/-! ### x in (a, b), x not in (a, b) -/
def rInT (K : PySem.W.Frag) (f : Bool → Bool) : R2 := fun x y H Q => ∃ d ds, Dp K H x d ∧ Dp K H y (.tuple ds) ∧ SeqAt.shaped d = true ∧ SeqAt.shaped (.tuple ds) = true ∧ Q (.bl (f (ds.any fun z => PyData.eqv z d))) H
theorem op_inT (hu : X.A.units + 65 < cLine) : OpR X (compareOp .In) (rInT X.K fun b => b) := by
  intro pins s σ H x y v u Q I rx ry ⟨d, ds, hd, he, sd, se, q⟩
  obtain ⟨as, r1⟩ := Dp.reads I d x v hd rx
  obtain ⟨bs, r2⟩ := Dp.reads I (.tuple ds) y u he ry
  exact SeqAt.in_tuple_reads r2 r1 (SeqAt.canLay_of_shaped se) (SeqAt.canLay_of_shaped sd) (room_in_shaped sd hu) ⟨.bl _, H, I, rfl, q⟩
theorem op_notInT (hu : X.A.units + 65 < cLine) : OpR X (compareOp .NotIn) (rInT X.K fun b => !b) := by
  intro pins s σ H x y v u Q I rx ry ⟨d, ds, hd, he, sd, se, q⟩
  obtain ⟨as, r1⟩ := Dp.reads I d x v hd rx
  obtain ⟨bs, r2⟩ := Dp.reads I (.tuple ds) y u he ry
  exact SeqAt.notIn_tuple_reads r2 r1 (SeqAt.canLay_of_shaped se) (SeqAt.canLay_of_shaped sd) (room_in_shaped sd hu) ⟨.bl _, H, I, rfl, q⟩
def dInT (f : Bool → Bool) : PyData → PyData → R PyData
  | d, .tuple ds => if SeqAt.shaped d = true ∧ SeqAt.shaped (.tuple ds) = true then .ok (.bool (f (ds.any fun z => PyData.eqv z d))) else .no
  | _, _ => .no
theorem od_inT {op : CmpOp} {f : Bool → Bool} (h : OpR X (compareOp op) (rInT X.K f)) : OD X E (compareOp op) (dInT f) := od_of h fun G H x y d e Q sz l dx dy po => by
  cases dy with
  | @tup a xs ds h1 a1 =>
    replace po : Po (Dq X.K) X.mg E G H Q (if SeqAt.shaped d = true ∧ SeqAt.shaped (.tuple ds) = true then .ok (.bool (f (ds.any fun z => PyData.eqv z d))) else .no) := po
    split at po
    · rename_i hs
      have dy : Dq X.K G (.ref a) (.tuple ds) := .tup h1 a1
      exact ⟨d, ds, dq_dp0 (dp_le l dx) hs.1, dq_dp0 (dp_le l dy) hs.2, hs.1, hs.2, Po.ok (d := PyData.bool _) po l (.bl _)⟩
    · exact po.elim
  | _ => exact po.elim
abbrev dInTu := dInT fun b => b
abbrev dNotInTu := dInT fun b => !b
theorem od_inTu {k : Nat} (hr : Room k X.A) : OD X E (compareOp .In) dInTu := od_inT (op_inT (by have := hr.un; omega))
theorem od_notinTu {k : Nat} (hr : Room k X.A) : OD X E (compareOp .NotIn) dNotInTu := od_inT (op_notInT (by have := hr.un; omega))
/-! ### texts: partition, split, int -/
def dPart (a : Str) : PyData → R PyData
  | .str b => if (b.length == 0) = false ∧ a.length ≤ 100000 then .ok (.tuple [.str (Txt.partition a b).1, .str (Txt.partition a b).2.1, .str (Txt.partition a b).2.2]) else .no
  | _ => .no
def dSplit (a : Str) : PyData → R PyData
  | .str b => if (b.length == 0) = false ∧ a.length ≤ 100000 then .ok (.list ((Txt.split a b).map .str)) else .no
  | _ => .no
def mTxt (g : Str → PyData → R PyData) (mo me : M) : M := fun Γ => (mo Γ).bind fun x => match x with
  | .str a => (me Γ).bind (g a)
  | _ => .no
theorem txt_of {r : V → List V → Hp → VK → Prop} {g : Str → PyData → R PyData} {mo me : M}
    (i : ∀ a G H y d Q, Le G H → Dq X.K G y d → Po (Dq X.K) X.mg E G H Q (g a d) → r (.str a) [y] H Q) : ∀ σ H Q, tX X.K (Dq X.K) X.mg E (mTxt g mo me) σ H Q → tM1 r (tX X.K (Dq X.K) X.mg E mo) (tX X.K (Dq X.K) X.mg E me) σ H Q :=
  fun σ H Q ⟨B0, Γ, G, sr, po⟩ => ⟨B0, Γ, G, sr, Po.bind po fun d x G1 H1 _ g1 dx po1 => by
    cases dx with
    | str a => exact ⟨⟨a, rfl⟩, B0, Γ, G1, sr.gr g1, Po.bind po1 fun e y G2 H2 _ g2 dy po2 => i a G2 H2 y e Q g2.s dy po2⟩
    | _ => exact po1.elim⟩
theorem line_le : 100000 + 2 ≤ sizeLine := by rw [sizeLine_eq]; decide
theorem se_partition {o e : Expr} {mo me : M} {apos pos : Pos} (ho : SE X E o mo) (he : SE X E e me) (hs : starEach [e] X.env = [(false, eval e X.env)] := by rfl) (hbase : attributeBase o "partition" X.env (eval o X.env) = eval o X.env := by rfl) (hline : (apos.endLine == pos.line) = true := by rfl) :
    SE X E (.Call (.Attribute o "partition" apos) [e] [] pos) (mTxt dPart mo me) :=
  pe_of (pe_partition ho he hs hbase hline) (txt_of fun a G H y d Q l dy po => by
    cases dy with
    | str b =>
      replace po : Po (Dq X.K) X.mg E G H Q (if (b.length == 0) = false ∧ a.length ≤ 100000 then .ok (.tuple [.str (Txt.partition a b).1, .str (Txt.partition a b).2.1, .str (Txt.partition a b).2.2]) else .no) := po
      split at po
      · rename_i h
        exact ⟨a, b, rfl, rfl, h.1, by have := line_le; omega, fun p hp => po_tup po l hp (.cons (.str _) (.cons (.str _) (.cons (.str _) .nil)))⟩
      · exact po.elim
    | _ => exact po.elim)
theorem se_split {o e : Expr} {mo me : M} {apos pos : Pos} (ho : SE X E o mo) (he : SE X E e me) (hs : starEach [e] X.env = [(false, eval e X.env)] := by rfl) (hbase : attributeBase o "split" X.env (eval o X.env) = eval o X.env := by rfl) (hline : (apos.endLine == pos.line) = true := by rfl) :
    SE X E (.Call (.Attribute o "split" apos) [e] [] pos) (mTxt dSplit mo me) :=
  pe_of (pe_split ho he hs hbase hline) (txt_of fun a G H y d Q l dy po => by
    cases dy with
    | str b =>
      replace po : Po (Dq X.K) X.mg E G H Q (if (b.length == 0) = false ∧ a.length ≤ 100000 then .ok (.list ((Txt.split a b).map .str)) else .no) := po
      split at po
      · rename_i h
        exact ⟨a, b, rfl, rfl, h.1, by have := line_le; omega, fun p hp => po_lst po l hp (dpa_ofStrs _)⟩
      · exact po.elim
    | _ => exact po.elim)
def dIntT : List PyData → R PyData
  | [.str a] => match PySem.intText? a with
    | some n => if a.length ≤ 640 then .ok (.int n) else .no
    | none => .no
  | _ => .no
theorem cd_intT : CD X E (.type "int") dIntT := cd_of call_int_str fun G H vs ds Q sz l dx po => by
  unfold dIntT at po
  split at po
  · rename_i a
    cases dx with
    | cons d1 d2 =>
      cases d2
      cases d1
      split at po
      · rename_i n e
        split at po
        · rename_i h
          exact ⟨a, n, rfl, e, h, Po.ok (d := PyData.int n) po l (.int _)⟩
        · exact po.elim
      · exact po.elim
  · exact po.elim
def dStr : List PyData → R PyData
  | [.int i] => if i.natAbs < 1000000 then .ok (.str (toString i)) else .no
  | _ => .no
theorem log_lt {n : Nat} (h : n < 1000000) : n.log2 < 1920 := by
  by_cases h0 : n = 0
  · subst h0; decide
  · have := (Nat.log2_lt h0 (k := 20)).mpr (by omega)
    omega
theorem cd_str : CD X E (.type "str") dStr := cd_of call_str_int fun G H vs ds Q sz l dx po => by
  unfold dStr at po
  split at po
  · rename_i i
    cases dx with
    | cons d1 d2 =>
      cases d2
      cases d1
      split at po
      · rename_i h
        exact ⟨i, rfl, log_lt h, Po.ok (d := PyData.str (toString i)) po l (.str _)⟩
      · exact po.elim
  · exact po.elim
/-! ### try .. except X as e: return a constant if isinstance(e, Y) else another -/
def mTryD (names : List Str) (k : Str → PyData) (mb : MS) : MS := fun Γ => if noOwn Γ = true then (match mb Γ with
  | .ex c => if c ∈ names then .rt (k c) else .no
  | .nx Γ1 => .nx Γ1
  | .rt d => .rt d
  | _ => .no) else .no
end
section
variable {X : Cx} {E : XK} {names : List Str} {i : Nat} {n x : Str} {b₀ : Stmt} {body suite : List Stmt} {mb : MS} {k : Str → PyData} {kv : Str → V} {np pos pos' : Pos}
theorem ss_tryD (hkv : ∀ c G, Dq X.K G (kv c) (k c)) (hex : Exs X.K X.mg x names) (hs : X.stack = X.env :: X.outer) (hf : X.env.frame = some X.env.locals) (hN : X.N.Nodup) (hi : X.N[i]? = some n) (hln : X.env.kindOf n = some .local) (hg : Gl X x) (hd : (x == ("__debug__" : Str)) = false)
    (tk : Takes X (fun _ _ _ _ => False))
    (hb : ∀ (E' : XK) (pn : List (Addr × Obj)) (xe : Value → Shared → Prop), Takes (X.tr pn xe) (fun cls d _ H => E' cls d H) → PassesOwn (model X.prog X.w) X.A X.env xe → SB (X.tr pn xe) E' body mb)
    (hh : ∀ c ∈ names, ∀ (a : Addr) (oe : Obj) (pn : List (Addr × Obj)), InS X oe names c → PSs (X.suite a ((a, oe) :: pn)) (b₀ :: suite) (fun D σ H => P0 a i X.N.length σ H ∧ ∀ H', Le H H' → D.rt (kv c) H')) :
    SS X E (.Try body [.ExceptHandler (some (.Name x np)) (some n) (b₀ :: suite) pos'] [] [] pos) (mTryD names k mb) := by
  obtain ⟨B, hB, hx⟩ := hex.ex
  refine ps_of (ps_try_as (c := .ref B) (i := i) (tb := fun W D σ H => tS X.K X.mg (fun cls d H => ∀ σ : L2.St, σ.length = X.N.length → W cls d σ H) mb D σ H) (Wout := fun _ _ _ _ => False)
    (ts := fun a cls d D σ H => ∃ c, c ∈ names ∧ cls = cV X.mg c ∧ d = none ∧ P0 a i X.N.length σ H ∧ ∀ H', Le H H' → D.rt (kv c) H') hs hf hN hi hln ⟨hg, hd, .inl hB⟩ tk ?_ ?_) ?_
  · intro W pn xe t po
    exact hb _ pn xe (fun u s' ⟨a, B', sI, pins, σ, H, cls, d, e, I, nb, up, sky, na, os, ag, w⟩ => t u s' ⟨a, B', sI, pins, σ, H, cls, d, e, I, nb, up, sky, na, os, ag, w σ I.len⟩) po
  · intro a oe cls d pn hz hfl
    refine ⟨fun pins s σ H D I q => ?_⟩
    obtain ⟨c, hc, rfl, rfl, q1, q2⟩ := q
    obtain ⟨Dc, g1, g2, g3, g4⟩ := hx c hc
    have e1 : cV X.mg c = .ref Dc := by unfold cV; rw [g1]; rfl
    rw [e1] at hz
    exact (hh c hc a oe pn ⟨Dc, g2, hz, hfl, g4⟩).run pins s σ H D I ⟨q1, q2⟩
  · rintro D σ H ⟨G0, H0, G, Γ, s, po⟩
    unfold mTryD at po
    split at po
    · rename_i hno
      have s2 : SZ X.K G H G H σ Γ := ⟨⟨s.sr.sub, s.sr.len, s.sr.val, s.sr.own, s.sr.inj, fun i ds p h1 _ => absurd h1 (noOwn_get hno i ds), s.sr.adr⟩, Gr.refl s.sr.sub⟩
      refine ⟨G, H, G, Γ, s2, ?_⟩
      cases e : mb Γ with
      | nx Γ1 =>
        rw [e] at po
        exact fun σ' G' H' t => po σ' G' H' (s.of_base t)
      | rt d =>
        rw [e] at po
        exact fun x G' H' g dx => po x G' H' (s.gr.trans g) dx
      | bk Γ1 => rw [e] at po; exact po.elim
      | ct Γ1 => rw [e] at po; exact po.elim
      | no => rw [e] at po; exact po.elim
      | ex c =>
        rw [e] at po
        dsimp only at po
        split at po
        · rename_i hc
          intro H' l σ2 hl
          obtain ⟨Dc, g1, g2, g3, g4⟩ := hx c hc
          have e1 : cV X.mg c = .ref Dc := by unfold cV; rw [g1]; rfl
          have hlt : i < σ2.length := by
            rw [hl]
            exact (List.getElem?_eq_some_iff.mp hi).1
          refine ⟨true, by rw [e1]; exact g3, fun _ a ha => ⟨c, hc, rfl, rfl, ⟨List.getElem?_set_self hlt, by rw [List.length_set]; exact hl⟩, fun H'' l2 => ?_⟩, fun z => nomatch z⟩
          have l3 := le_trans l l2
          exact po (kv c) G H'' (s.gr.trans ⟨fun _ _ e => e, l3, le_trans s.sr.sub l3, fun a _ h => h⟩) (hkv c G)
        · exact po.elim
    · exact po.elim
/-- return a if isinstance(e, Y) else b: Y it is -/
theorem hd_ifc {a : Addr} {oe : Obj} {pn : List (Addr × Obj)} {L : Nat} {t ea eb : Expr} {va vb : V} (h : PE (X.suite a ((a, oe) :: pn)) t (fun σ H Q => AtE a i σ ∧ Q (.bl true) H)) (ha : PE (X.suite a ((a, oe) :: pn)) ea (tC va)) (hb : PE (X.suite a ((a, oe) :: pn)) eb (tC vb))
    (he : ∀ whole, isTrue t (X.suite a ((a, oe) :: pn)).env whole = (do let v ← whole; standAt t.pos; holding [v] (truthy v)) := by intro _; rfl) : PSs (X.suite a ((a, oe) :: pn)) [.Return (some (.IfExp t ea eb np)) pos] (fun D σ H => P0 a i L σ H ∧ ∀ H', Le H H' → D.rt va H') :=
  pss_of (pss_one (ps_ret (pe_ifExp (pt_val h he) ha hb))) fun D σ H ⟨q1, q2⟩ => ⟨q1.1, true, rfl, q2 _ (fun _ _ e => e)⟩
end
theorem exs_sub {K : PySem.W.Frag} {mg : Str → Option Value} {bs : Str} {names names2 : List Str} (h : Exs K mg bs names) (s : (names2.all fun c => decide (c ∈ names)) = true := by decide +kernel) : Exs K mg bs names2 := by
  have s2 : ∀ c ∈ names2, c ∈ names := fun c hc => of_decide_eq_true (List.all_eq_true.mp s c hc)
  obtain ⟨B, hB, hx⟩ := h.ex
  exact ⟨B, hB, fun c hc => by
    obtain ⟨D, g1, g2, g3, g4⟩ := hx c (s2 c hc)
    exact ⟨D, g1, g2, g3, fun c2 hc2 => g4 c2 (s2 c2 hc2)⟩⟩
end PD

/-! The data layer: a dict from texts to ints: d = {}, then for a, b in xs: d[a] = b; d[k]; for k in d. -/
namespace PD
open PySem PySem.Spec PyProof.Rows L2
abbrev kvV (kvs : List (Str × Int)) : List (Key × V) := kvs.map fun p => ((Sum.inr p.1 : Key), V.int p.2)
def dctD (kvs : List (Str × Int)) : PyData := .dict ((.none, .none) :: kvs.map fun p => (.str p.1, .int p.2))
def putD (kvs : List (Str × Int)) (k : Str) (v : Int) : List (Str × Int) := if (kvs.any fun p => decide (p.1 = k)) = true then kvs.map (fun p => if p.1 = k then (p.1, v) else p) else kvs ++ [(k, v)]
def lookD (kvs : List (Str × Int)) (k : Str) : Option Int := (kvs.find? fun p => decide (p.1 = k)).map (·.2)
theorem any_kv (k : Str) : ∀ kvs : List (Str × Int), ((kvV kvs).any fun kv => decide (kv.1 = (Sum.inr k : Key))) = kvs.any fun p => decide (p.1 = k)
  | [] => rfl
  | p :: r => by
    have e : decide ((Sum.inr p.1 : Key) = Sum.inr k) = decide (p.1 = k) := decide_eq_decide.mpr (by simp)
    show (decide ((Sum.inr p.1 : Key) = Sum.inr k) || _) = _
    rw [e]
    have := any_kv k r
    simp only [kvV] at this
    rw [this]
    rfl
theorem putD_V (kvs : List (Str × Int)) (k : Str) (v : Int) : putK (kvV kvs) (Sum.inr k : Key) (V.int v) = kvV (putD kvs k v) := by
  unfold putK putD
  rw [any_kv]
  split
  · rw [kvV, kvV, List.map_map, List.map_map]
    refine List.map_congr_left fun p _ => ?_
    by_cases h : p.1 = k
    · simp [h]
    · simp [h]
  · simp [kvV]
theorem valV_kv (k : Str) : ∀ kvs : List (Str × Int), valV (kvV kvs) (Sum.inr k : Key) = (lookD kvs k).map V.int
  | [] => rfl
  | p :: r => by
    by_cases h : p.1 = k
    · have e : lookD (p :: r) k = some p.2 := by unfold lookD; rw [List.find?_cons_of_pos (by simpa using h)]; rfl
      rw [e]
      exact valV_pos (by show (Sum.inr p.1 : Key) = Sum.inr k; rw [h])
    · have e : lookD (p :: r) k = lookD r k := by unfold lookD; rw [List.find?_cons_of_neg (by simpa using h)]
      rw [e, ← valV_kv k r]
      exact valV_neg (by simpa using h)
section
variable {K : PySem.W.Frag} {B G H G0 H0 : Hp} {σ : L2.St} {Γ : Gam} {p : Addr} {o : HO}
/-- a slot that nothing is told of -/
theorem SR.setNX (s : SR K B G H σ Γ) (i : Nat) (x : Option V) : SR K B G H (σ.set i x) (Γ.set i .no) := by
  have ne : ∀ {j : Nat} {z : Sl}, gat (Γ.set i .no) j = z → z ≠ .no → j ≠ i ∧ gat Γ j = z := fun {j z} h hz => by
    rw [gat_set] at h
    split at h
    · exact absurd h.symm hz
    · rename_i q
      refine ⟨fun e => ?_, h⟩
      subst e
      have hj := gat_lt (Γ := Γ) (i := j) (by rw [h]; exact hz)
      exact q ⟨rfl, hj⟩
  have gt : ∀ {j : Nat}, j ≠ i → (σ.set i x)[j]? = σ[j]? := fun {j} h => List.getElem?_set_ne (Ne.symm h)
  exact {
    sub := s.sub
    len := by simp [s.len]
    val := fun j d q => by
      obtain ⟨h1, h2⟩ := ne q (by simp)
      rw [gt h1]
      exact s.val j d h2
    own := fun j ds q => by
      obtain ⟨h1, h2⟩ := ne q (by simp)
      rw [gt h1]
      exact s.own j ds h2
    inj := fun j l ds es q q1 q2 a1 a2 => by
      obtain ⟨h1, h2⟩ := ne q1 (by simp)
      obtain ⟨h3, h4⟩ := ne q2 (by simp)
      rw [gt h1] at a1
      rw [gt h3] at a2
      exact s.inj j l ds es q h2 h4 a1 a2
    nw := fun j ds q q1 a1 => by
      obtain ⟨h1, h2⟩ := ne q1 (by simp)
      rw [gt h1] at a1
      exact s.nw j ds q h2 a1
    adr := fun j u q => by
      obtain ⟨h1, h2⟩ := ne q (by simp)
      rw [gt h1]
      exact s.adr j u h2 }
/-- an object that is not shared and no list is changed -/
theorem SR.updX (s : SR K B G H σ Γ) (hg : G p = none) {u : HO} (hp : H p = some u) (hu : ∀ xs, u ≠ .lst xs) : SR K B G (upd H p o) σ Γ where
  sub := fun a v e => by
    have : a ≠ p := fun z => by subst z; rw [hg] at e; cases e
    rw [upd_ne this]
    exact s.sub a v e
  len := s.len
  val := s.val
  own := fun j ds q => by
    obtain ⟨q1, xs, e1, e2, e3, e4⟩ := s.own j ds q
    have : q1 ≠ p := fun z => by subst z; rw [hp] at e2; exact hu xs (Option.some.inj e2)
    exact ⟨q1, xs, e1, by rw [upd_ne this]; exact e2, e3, e4⟩
  inj := s.inj
  nw := s.nw
  adr := s.adr
/-- it is shared -/
theorem SR.shareX (s : SR K B G H σ Γ) (hg : G p = none) (hp : H p = some o) (hu : ∀ xs, o ≠ .lst xs) : SR K B (upd G p o) H σ Γ where
  sub := Le.share s.sub hp
  len := s.len
  val := fun j d q => by
    obtain ⟨x, a, b⟩ := s.val j d q
    exact ⟨x, a, dp_le (le_upd hg) b⟩
  own := fun j ds q => by
    obtain ⟨q1, xs, e1, e2, e3, e4⟩ := s.own j ds q
    have : q1 ≠ p := fun z => by subst z; rw [hp] at e2; exact hu xs (Option.some.inj e2)
    exact ⟨q1, xs, e1, e2, by rw [upd_ne this]; exact e3, dpa_le (le_upd hg) e4⟩
  inj := s.inj
  nw := s.nw
  adr := s.adr
theorem Gr.updX (g : Gr G0 H0 G H) (hg : G p = none) (h0 : H0 p = none) : Gr G0 H0 G (upd H p o) where
  g := g.g
  h := fun a v e => by
    have : a ≠ p := fun z => by subst z; rw [h0] at e; cases e
    rw [upd_ne this]
    exact g.h a v e
  s := fun a v e => by
    have : a ≠ p := fun z => by subst z; rw [hg] at e; cases e
    rw [upd_ne this]
    exact g.s a v e
  fr := g.fr
theorem Gr.shareX (g : Gr G0 H0 G H) (hg : G p = none) (hp : H p = some o) (h0 : H0 p = none) : Gr G0 H0 (upd G p o) H where
  g := le_trans g.g (le_upd hg)
  h := g.h
  s := Le.share g.s hp
  fr := fun a h1 h2 => by
    have : a ≠ p := fun z => by subst z; exact h1 h0
    rw [upd_ne this]
    exact g.fr a h1 h2
end
def dctGo (i ka kb : Nat) (bd : Bd) : List PyData → Gam → List (Str × Int) → Out
  | [], Γ, kvs => .nx (Γ.set i (.v (dctD kvs)))
  | d :: ds, Γ, kvs => match bd d Γ with
    | some Γ1 => match gat Γ1 ka, gat Γ1 kb with
      | .v (.str k), .v (.int v) => if kvs.length ≤ 10000 then dctGo i ka kb bd ds Γ1 (putD kvs k v) else .no
      | _, _ => .no
    | none => .no
/-- i = {}; for .. in ms: i[ka] = kb -/
def mDct (i ka kb : Nat) (ms : Gam → R (List PyData)) (bd : Bd) : MS := fun Γ => match ms (Γ.set i .no) with
  | .ok ds => dctGo i ka kb bd ds (Γ.set i .no) []
  | .ex c => .ex c
  | .no => .no
section
variable {X : Cx} {E : XK}
theorem pss_frz {st : List Stmt} {t : TS} (h : PSs X st t) : PSs X st (fun D σ H => ∃ d u, H d = some u ∧ Mut (some u) ∧ ∀ od, t D σ (upd H d (.frz od u))) := ⟨fun pins s σ H D I ⟨d, u, hd, mu, q⟩ => by
  obtain ⟨od, I1⟩ := I.lock hd mu
  exact h.run pins s σ _ D I1 (q od)⟩
theorem pss_len {st : List Stmt} {t : TS} (h : PSs X st t) : PSs X st (fun D σ H => σ.length = X.N.length → t D σ H) := ⟨fun pins s σ H D I q => h.run pins s σ H D I (q I.len)⟩
theorem set_self {σ : L2.St} {i : Nat} {x : Option V} (h : σ[i]? = some x) : σ.set i x = σ := by
  obtain ⟨hi, e⟩ := List.getElem?_eq_some_iff.mp h
  subst e
  exact List.set_getElem_self hi
theorem sb_dct (i ka kb : Nat) {k : Nat} (hrm : Room k X.A) {tg iter : Expr} {rest : List Stmt} {is : List Nat} {ms : Gam → R (List PyData)} {b : Bd} {m : MS} {dn an bn : Str} {p1 p2 p3 p4 p5 p6 p7 p8 p9 : Pos} (hN : X.N.Nodup) (hp : PassesOwn (model X.prog X.w) X.A X.env X.xe) (hc : X.calm = true)
    (hi : SI X E tg iter ms) (hg : SG X tg is b) (hr : SB X E rest m) (hid : i ∉ is := by decide)
    (hNi : X.N[i]? = some dn := by rfl) (hNa : X.N[ka]? = some an := by rfl) (hNb : X.N[kb]? = some bn := by rfl)
    (hx : Loc X.env.scope dn := by first | exact .inl rfl | exact .inr rfl) (hf : X.fn dn = true ∨ X.env.scope.names.lookup dn = some .local := by first | exact .inl rfl | exact .inr rfl | assumption)
    (hv : Vis X.env.scope dn := by first | exact Or.inl rfl | exact Or.inr (Or.inl rfl) | exact Or.inr (Or.inr rfl)) (hva : Vis X.env.scope an := by first | exact Or.inl rfl | exact Or.inr (Or.inl rfl) | exact Or.inr (Or.inr rfl))
    (hvb : Vis X.env.scope bn := by first | exact Or.inl rfl | exact Or.inr (Or.inl rfl) | exact Or.inr (Or.inr rfl))
    (hd : (dn == ("__debug__" : Str)) = false := by decide) (hcd : (dn == ("__classdict__" : Str)) = false := by decide)
    (hda : (an == ("__debug__" : Str)) = false := by decide) (hcda : (an == ("__classdict__" : Str)) = false := by decide)
    (hdb : (bn == ("__debug__" : Str)) = false := by decide) (hcdb : (bn == ("__classdict__" : Str)) = false := by decide)
    (hs : swapsWith (.Dict [] [] p2) (some (.Name dn p1)) p3.line X.env = pure false := by rfl)
    (hsw : swapsWith (.Name bn p7) (some (.Subscript (.Name dn p4) (.Name an p5) p6)) p8.line X.env = pure false := by rfl)
    (hfs : ∀ x, foldedSetIterable iter X.env x = pure x := by intro _; rfl) :
    SB X E (.Assign [.Name dn p1] (.Dict [] [] p2) p3 :: .For tg iter [.Assign [.Subscript (.Name dn p4) (.Name an p5) p6] (.Name bn p7) p8] [] p9 :: rest) (mSeq (mDct i ka kb ms b) m) := by
  have hu : X.A.units + 1 < cLine := by have := hrm.un; omega
  refine pss_of (pss_len (pss_cons (ps_set hN hNi hx pe_dnewK hs hf) (pss_cons (ps_for hp hc hi hg (pss_one (ps_dput hu (pe_var hNi hv hd hcd) (pe_var hNa hva hda hcda) (pe_var hNb hvb hdb hcdb) hsw)) hfs) (pss_frz hr)))) fun D σ H ⟨G0, H0, G, Γ, s, po⟩ hlen => ?_
  intro p hp0
  have hl : i < σ.length := by
    rw [hlen]
    exact (List.getElem?_eq_some_iff.mp hNi).1
  have h00 : H0 p = none := le_none s.gr.h hp0
  have hg0 : G p = none := le_none s.sr.sub hp0
  have gn : Gr G H G (upd H p (.dK [])) := ⟨fun _ _ e => e, le_upd hp0, le_trans s.sr.sub (le_upd hp0), fun a _ h => h⟩
  have s1 := s.go gn
  have s2 : SZ X.K G0 H0 G (upd H p (.dK [])) (σ.set i (some (.ref p))) (Γ.set i .no) := ⟨s1.sr.setNX i _, s1.gr⟩
  have hsi : (σ.set i (some (.ref p)))[i]? = some (some (.ref p)) := List.getElem?_set_self hl
  generalize hΓ : Γ.set i .no = Γ1 at *
  refine ⟨H0, Γ1, G, s2.sr, ?_⟩
  have hp1 : (upd H p (.dK [])) p = some (.dK (kvV [])) := upd_same
  generalize upd H p (.dK []) = H1 at *
  replace po : PoS X.K X.mg E G0 H0 D (match (match ms Γ1 with
    | .ok ds => dctGo i ka kb b ds Γ1 []
    | .ex c => .ex c
    | .no => .no) with
    | .nx Γ2 => m Γ2
    | o => o) := by rw [← hΓ]; exact po
  cases q : ms Γ1 with
  | no => rw [q] at po; exact po.elim
  | ex c => rw [q] at po; exact fun H' lh => po H' (le_trans s2.gr.h lh)
  | ok ds =>
    rw [q] at po
    intro J G2 H2 g2 it
    have hp2 : H2 p = some (.dK (kvV [])) := g2.h _ _ hp1
    have hg2 : G2 p = none := g2.fr p (by rw [hp1]; simp) hg0
    refine ⟨fun j mm σ H => mm = ds.length - j ∧ j ≤ ds.length ∧ ∃ G Γ kvs, SZ X.K G0 H0 G H σ Γ ∧ Le G2 G ∧ σ[i]? = some (some (.ref p)) ∧ H p = some (.dK (kvV kvs)) ∧ G p = none ∧ PoS X.K X.mg E G0 H0 D (match dctGo i ka kb b (ds.drop j) Γ kvs with
      | .nx Γ2 => m Γ2
      | o => o), ⟨ds.length, by simp, Nat.zero_le _, G2, Γ1, [], s2.go g2, fun _ _ z => z, hsi, hp2, hg2, by simpa using po⟩, ?_⟩
    rintro j mm σ3 H3 ⟨rfl, hj, G3, Γ3, kvs, s3, l3, hsi3, hp3, hg3, po3⟩
    by_cases hlt : j < ds.length
    · obtain ⟨d, hd2⟩ : ∃ d, ds[j]? = some d := ⟨ds[j], by simp [hlt]⟩
      have hdrop : ds.drop j = d :: ds.drop (j + 1) := by
        rw [List.drop_eq_getElem_cons hlt]
        have : ds[j] = d := by simpa [hlt] using hd2
        rw [this]
      rw [hdrop] at po3
      unfold dctGo at po3
      refine .inr ⟨it.go j G3 H3 l3 s3.sr.sub hlt, fun σ H => ∃ G Γ kvs, SZ X.K G0 H0 G H σ Γ ∧ Le G2 G ∧ σ[i]? = some (some (.ref p)) ∧ H p = some (.dK (kvV kvs)) ∧ G p = none ∧ PoS X.K X.mg E G0 H0 D (match dctGo i ka kb b (ds.drop (j + 1)) Γ kvs with
        | .nx Γ2 => m Γ2
        | o => o), fun σ' H' w => ⟨ds.length - (j + 1), by omega, rfl, hlt, w⟩, fun x H' hy => ?_⟩
      obtain ⟨G4, g4, dx⟩ := it.yld j G3 H3 x H' d l3 s3.sr.sub hd2 hy
      have s4 := s3.go g4
      have hp4 : H' p = some (.dK (kvV kvs)) := g4.h _ _ hp3
      have hg4 : G4 p = none := g4.fr p (by rw [hp3]; simp) hg3
      refine ⟨H0, Γ3, G4, d, s4.sr, dx, ?_⟩
      cases eb : b d Γ3 with
      | none => rw [eb] at po3; exact po3.elim
      | some Γ5 =>
        rw [eb] at po3
        dsimp only at po3
        intro σ5 sr5 hw
        have hsi5 : σ5[i]? = some (some (.ref p)) := by
          have h1 := hw is fun z hz => hz
          have h2 := congrArg (fun l : L2.St => l[i]?) h1
          simp only [wipe_get, hid, false_and, if_false] at h2
          rw [h2]
          exact hsi3
        cases ea : gat Γ5 ka with
        | no => rw [ea] at po3; exact po3.elim
        | own es => rw [ea] at po3; exact po3.elim
        | ad _ => rw [ea] at po3; exact po3.elim
        | v da =>
          cases eb2 : gat Γ5 kb with
          | no => rw [ea, eb2] at po3; cases da <;> exact po3.elim
          | own es => rw [ea, eb2] at po3; cases da <;> exact po3.elim
          | ad _ => rw [ea, eb2] at po3; cases da <;> exact po3.elim
          | v db =>
            rw [ea, eb2] at po3
            obtain ⟨xa, ha1, ha2⟩ := sr5.val ka da ea
            obtain ⟨xb, hb1, hb2⟩ := sr5.val kb db eb2
            cases ha2 with
            | str ks =>
              cases hb2 with
              | int vi =>
                by_cases hlk : kvs.length ≤ 10000
                · simp only [hlk, if_true] at po3
                  refine ⟨.int vi, hb1, .ref p, hsi5, .str ks, ha1, p, upd H' p (.dK (putK (kvV kvs) (Sum.inr ks : Key) (V.int vi))), rfl, DPut.k (k := (Sum.inr ks : Key)) hp4 (by rw [List.length_map]; have := line_le; omega), ?_⟩
                  rw [putD_V]
                  exact ⟨G4, Γ5, putD kvs ks vi, ⟨sr5.updX hg4 hp4 (fun xs z => by cases z), s4.gr.updX hg4 h00⟩, le_trans l3 g4.g, hsi5, upd_same, hg4, po3⟩
                · simp only [hlk, if_false] at po3
                  exact po3.elim
              | _ => exact po3.elim
            | _ => exact po3.elim
    · have ej : j = ds.length := by omega
      subst ej
      rw [List.drop_length] at po3
      refine .inl ⟨it.stop G3 H3 l3 s3.sr.sub, p, .dK (kvV kvs), hp3, trivial, fun od => ?_⟩
      have ne : ∀ xs, HO.dK (kvV kvs) ≠ .lst xs := fun xs z => by cases z
      have ne2 : ∀ xs, HO.frz od (.dK (kvV kvs)) ≠ .lst xs := fun xs z => by cases z
      have r1 : SR X.K H0 G3 (upd H3 p (.frz od (.dK (kvV kvs)))) σ3 Γ3 := s3.sr.updX hg3 hp3 ne
      have r2 := r1.shareX hg3 upd_same ne2
      have r3 := (s3.gr.updX (o := .frz od (.dK (kvV kvs))) hg3 h00).shareX hg3 upd_same h00
      have dd : Dq X.K (upd G3 p (.frz od (.dK (kvV kvs)))) (.ref p) (dctD kvs) := .dct upd_same
      have r4 := r2.setV (i := i) dd
      rw [set_self hsi3] at r4
      exact ⟨G0, H0, _, _, ⟨r4, r3⟩, po3⟩
def dctOf : List (PyData × PyData) → Option (List (Str × Int))
  | [] => some []
  | (.str k, .int v) :: r => (dctOf r).map ((k, v) :: ·)
  | _ => none
@[simp] theorem dctOf_map : ∀ kvs : List (Str × Int), dctOf (kvs.map fun p => (PyData.str p.1, PyData.int p.2)) = some kvs
  | [] => rfl
  | p :: r => by simp [dctOf, dctOf_map r]
/-- d[k] -/
def dGet : PyData → PyData → R PyData
  | .dict ((.none, _) :: r), .str k => (oR (dctOf r)).bind fun kvs => (oR (lookD kvs k)).bind fun v => .ok (.int v)
  | _, _ => .no
theorem dGet_dct (kvs : List (Str × Int)) (k : Str) : dGet (dctD kvs) (.str k) = (oR (lookD kvs k)).bind fun v => .ok (.int v) := by
  show (oR (dctOf (kvs.map fun p => (PyData.str p.1, PyData.int p.2)))).bind _ = _
  rw [dctOf_map]
  rfl
theorem se_dget {k : Nat} (hr : Room k X.A) {a b : Expr} {ma mb : M} {pos : Pos} (ha : SE X E a ma) (hb : SE X E b mb) (hs : NoSl b := by exact fun _ _ => rfl) : SE X E (.Subscript a b pos) (mOp dGet ma mb) :=
  pe_of (pe_dget (by have := hr.un; omega) ha hb hs) fun σ H Q ⟨B0, Γ, G, sr, po⟩ => ⟨B0, Γ, G, sr, Po.bind po fun d x G1 H1 _ g1 dx po1 => ⟨B0, Γ, G1, sr.gr g1, Po.bind po1 fun e y G2 H2 _ g2 dy po2 => by
    have dx := dp_le g2.g dx
    cases dx with
    | @dct p o kvs h =>
      cases dy with
      | str z =>
        replace po2 : Po (Dq X.K) X.mg E G2 H2 Q (dGet (dctD kvs) (.str z)) := po2
        rw [dGet_dct] at po2
        cases q : lookD kvs z with
        | none => rw [q] at po2; exact po2.elim
        | some v =>
          rw [q] at po2
          exact ⟨p, .int v, rfl, .inl ⟨kvV kvs, Sum.inr z, .inr ⟨o, g2.s _ _ h⟩, rfl, by rw [valV_kv, q]; rfl⟩, Po.ok (d := PyData.int v) po2 g2.s (.int _)⟩
      | _ => exact po2.elim
    | @scr p ns h => cases ns <;> cases dy <;> exact po2.elim
    | _ => cases dy <;> exact po2.elim⟩⟩
/-- the keys -/
def keysD : PyData → R (List PyData)
  | .dict ((.none, _) :: r) => (oR (dctOf r)).bind fun kvs => if kvs.length ≤ 10000 then .ok (kvs.map fun p => .str p.1) else .no
  | _ => .no
theorem keysD_dct {kvs : List (Str × Int)} (h : kvs.length ≤ 10000) : keysD (dctD kvs) = .ok (kvs.map fun p => .str p.1) := by
  show (oR (dctOf (kvs.map fun p => (PyData.str p.1, PyData.int p.2)))).bind _ = _
  rw [dctOf_map, oR_some, R.bind_ok, if_pos h]
def mKeysD (m : M) : Gam → R (List PyData) := fun Γ => (m Γ).bind keysD
theorem itd_keys {K : PySem.W.Frag} {G : Hp} {a : Addr} {o : Obj} {kvs : List (Str × Int)} (h : G a = some (.frz o (.dK (kvV kvs)))) (z : kvs.length ≤ 10000) : ItD K (Itk a o (kvV kvs)) G (kvs.map fun p => .str p.1) where
  go := fun i G1 H1 l1 l2 hi => ⟨l2 _ _ (l1 _ _ h), by simpa using hi⟩
  stop := fun G1 H1 l1 l2 => ⟨l2 _ _ (l1 _ _ h), by simp⟩
  sz := by rw [List.length_map]; have := line_le; omega
  yld := fun i G1 H1 x H2 e l1 l2 hd ⟨e1, k, v, hk, ex⟩ => by
    subst e1 ex
    rw [List.getElem?_map] at hd hk
    cases q : kvs[i]? with
    | none => rw [q] at hd; cases hd
    | some p =>
      rw [q] at hd hk
      cases hd
      cases hk
      exact ⟨G1, Gr.refl l2, .str _⟩
theorem si_keys {tg e : Expr} {m : M} (h : SE X E e m) : SI X E tg e (mKeysD m) := pi_of (pi_keys h) fun σ H Q ⟨B0, Γ, G, sr, po⟩ => by
  refine ⟨B0, Γ, G, sr, ?_⟩
  unfold mKeysD at po
  cases q : m Γ with
  | no => rw [q] at po; exact po.elim
  | ex c => rw [q] at po; exact po
  | ok d =>
    rw [q, R.bind_ok] at po
    intro x G1 H1 g1 dx
    cases dx with
    | @dct p o kvs h1 =>
      by_cases z : kvs.length ≤ 10000
      · replace po : PoI X.K X.mg E G H Q (keysD (dctD kvs)) := po
        rw [keysD_dct z] at po
        exact ⟨p, o, rfl, .inl ⟨kvV kvs, g1.s _ _ h1, po _ G1 H1 g1 (itd_keys h1 z)⟩⟩
      · replace po : PoI X.K X.mg E G H Q (keysD (dctD kvs)) := po
        have e : keysD (dctD kvs) = .no := by
          show (oR (dctOf (kvs.map fun p => (PyData.str p.1, PyData.int p.2)))).bind _ = _
          rw [dctOf_map, oR_some, R.bind_ok, if_neg z]
        rw [e] at po
        exact po.elim
    | @scr p ns h => cases ns <;> exact po.elim
    | _ => exact po.elim
end
end PD

/-! The data layer: sorted(set(x)), x a text of different signs. -/
namespace PD
open PySem PySem.Spec PyProof.Rows L2
section
variable {prog : Program} {w : World} {A : Around} {E : Value → Shared → Prop} {s : Shared} {T : Nat → Heap → Prop}
/-- set(x) of a text -/
theorem set_ofT {x : Str} {t : Tok} {Q : Value → Shared → Prop} (calm : A.handled = none) (hT : Own1 s.heap.objs.size T)
    (hA : ∀ B : Around, B.handled = none → Adds prog w B s.heap.objs.size T (SignAt x)) (h0 : ∀ g : Heap, g.get? s.heap.objs.size = some (newSet w) → T 0 g)
    (hQ : ∀ (g : Heap) (tk : Nat), T x.cps.size g → (∀ b o, s.heap.get? b = some o → g.get? b = some o) → Q (.ref s.heap.objs.size) { s with heap := g, toks := tk }) :
    wpAny (model prog w) A (call (.type "set") [.str x t]) Q E s := by
  have ⟨c, tl, mro⟩ := PySem.F.called_set.mro
  have a1 := PySem.F.called_set.made; have a2 := PySem.F.called_set.sub; have a3 := PySem.F.called_set.notType; have a4 := PySem.F.called_set.canCreate; have a5 := PySem.F.typeCall_set_1 (.str x t)
  have a6 := PySem.F.called_set.init.lookup; have a7 := PySem.F.called_set.init.bind (.ref s.heap.objs.size)
  refine wpAny_call (codeAny_of_tree (show wpAny _ _ (callAny (.type "set") _) _ _ _ from wpAny_pure ⟨Code.quiet_builtin _ (by decide +kernel), codeAny_builtin PySem.F.entry_type_call ?_⟩))
  rw [Around.under_plain (weight_type_call_type "set" [.str x t] []) rfl]
  repeat (any_goals (first | assumption | wp_step))
  refine codeAny_mono (L2.code_set_led1 (.str x t) (E := E) (Q₁ := fun v u => v = .ref s.heap.objs.size ∧ u = { s with heap := s.heap.push (newSet w) }) ⟨rfl, rfl⟩) fun r u hr => ?_
  match r, hr with
  | .error e, hr => exact hr
  | .ok (.ret v), hr =>
    obtain ⟨rfl, rfl⟩ := hr
    have b1 : (s.heap.push (newSet w)).get? s.heap.objs.size = some (newSet w) := Heap.get?_push_size _ rfl
    have b2 : Shared.TypeIs { s with heap := s.heap.push (newSet w) } (.ref s.heap.objs.size) "set" := ⟨_, b1, rfl⟩
    repeat (any_goals (first | assumption | wp_step))
    refine codeAny_mono (codeAny_call_builtin (R := wants (fun v u => v = .none ∧ ∃ g tk, u = { s with heap := g, toks := tk } ∧ T x.cps.size g ∧ ∀ b o, s.heap.get? b = some o → g.get? b = some o) E) PySem.F.called_set.init.plain PySem.F.entry_set_init (check_set_init_1 b2 ?_)) fun r2 u2 hr2 => ?_
    · have c1 := PySem.F.sub_str_set; have c2 := PySem.F.sub_str_frozenset
      have c3 : (Value.type "str" == Value.type "dict") = false := by decide
      unfold Builtin.«set.__init__» noKeywords Builtin.Frozenset.updateFrom
      generalize hp : pyIter = py
      wp_walk
      subst hp
      refine wpAny_pyIter_str fun o St W hst => ?_
      refine wpAny_bind (wpAny_runValue ?_)
      have z : (s.heap.push (newSet w)).objs.size = s.heap.objs.size + 1 := Heap.size_push ..
      have q0 : A.in1.in1.in1.handled = none := by simp [calm]
      have nS2 : s.heap.objs.size ∉ [(s.heap.push (newSet w)).objs.size] := fun m => by
        rw [z] at m
        exact absurd (List.mem_singleton.mp m) (Nat.ne_of_lt (Nat.lt_succ_self _))
      refine fill (W _ q0).toS nS2 hT (hA _ (by simp [calm])) (x.cps.size - 0) 0 _ rfl (Nat.zero_le _) hst (h0 _ (Heap.get?_push_of_some _ b1)) fun u mv tn => ?_
      obtain ⟨g, gs, dr, tk, os⟩ := u
      obtain rfl : gs = s.gens := mv.gens
      obtain rfl : dr = s.drawn := mv.drawn
      obtain rfl : os = s.os := mv.os
      refine (show wpAny _ _ _ _ _ _ from wpAny_pure (show wpAny _ _ (ret Value.none) _ _ _ from wpAny_pure ⟨rfl, g, tk, rfl, tn, fun b o e => ?_⟩))
      have lb := Heap.lt_size e
      refine mv.heap b o (fun m => ?_) (Heap.get?_push_of_some _ (Heap.get?_push_of_some _ e))
      rcases List.mem_cons.mp m with m | m
      · exact absurd m (Nat.ne_of_lt lb)
      · exact absurd (List.mem_singleton.mp m) (z ▸ Nat.ne_of_lt (Nat.lt_succ_of_lt lb))
    · match r2, hr2 with
      | .error e, hr2 => exact hr2
      | .ok (.ret v), hr2 =>
        obtain ⟨rfl, g, tk, rfl, t1, t2⟩ := hr2
        repeat (any_goals (first | assumption | wp_step))
        exact hQ g tk t1 t2
end
/-! ### a set of different texts, its table as the machine walks it -/
open PySem.Froz in
def SetTx (P : Program) (w : World) (h : Heap) (a : Addr) (l : List Str) : Prop := ∃ D : SD, h.get? a = some (sObj "set" D) ∧ TxOk P w D l ∧ Ris D.2.2.place.toList ∧ (w.params.followText "set-order" = true ∨ D.2.2.led = true)
open PySem.Froz in
theorem addTx_ris {h : Int} {v : Value} {D : SD} (r : Ris D.2.2.place.toList) : Ris (addTx h v D).2.2.place.toList ∧ (addTx h v D).2.2.led = D.2.2.led := by
  obtain ⟨es, ep, t⟩ := D
  have h1 := layNew_ris t es h v r
  have h2 := layNew_led t es h v
  unfold addTx
  dsimp only
  generalize layNew t es h v = Z at h1 h2
  obtain ⟨es1, t1, wd, gave⟩ := Z
  dsimp only at h1 h2 ⊢
  have h3 : Ris (if t1.plain = true then { t1 with plain := false } else t1).place.toList ∧ (if t1.plain = true then { t1 with plain := false } else t1).led = t.led := by
    split
    · exact ⟨h1, h2⟩
    · exact ⟨h1, h2⟩
  generalize (if t1.plain = true then { t1 with plain := false } else t1) = t2 at h3
  unfold tailTx
  split
  · exact ⟨relayAll_ris _ _ _, (relayAll_led _ _ _).trans h3.2⟩
  · exact h3
theorem nodup_perm : ∀ {l m : List Str}, l.Nodup → (∀ k ∈ l, k ∈ m) → m.length = l.length → m.Perm l
  | [], m, _, _, h => by
    have : m = [] := List.length_eq_zero_iff.mp h
    rw [this]
  | x :: l, m, hn, hm, hl => by
    obtain ⟨h1, h2⟩ := List.nodup_cons.mp hn
    have hx := hm x (by simp)
    have p := List.perm_cons_erase hx
    have hl2 : (m.erase x).length = l.length := by
      have := p.length_eq
      simp only [List.length_cons] at this hl
      omega
    have ih := nodup_perm (m := m.erase x) h2 (fun k hk => by
      have hkx : k ≠ x := fun e => h1 (e ▸ hk)
      exact (List.mem_erase_of_ne hkx).mpr (hm k (by simp [hk]))) hl2
    exact p.trans (ih.cons x)
def SetTO (P : Program) (w : World) (a : Addr) (l : List Str) : HO := .ext fun h => SetTx P w h a l
theorem setTO_new {w : World} {P : Program} {H : Hp} {h : Heap} {a : Addr} {l : List Str} (R : SetTx P w h a l) : ObjOk P w H h a (SetTO P w a l) := by
  have ⟨D, ho, _⟩ := R
  exact ⟨R, ⟨_, ho⟩, fun h1 h2 ⟨D, e, r⟩ k => ⟨D, k _ e, r⟩⟩
open PySem.Froz in
theorem fresh_setT {P : Program} {w : World} {g : Heap} {a : Addr} (h : g.get? a = some (newSet w)) : SetTx P w g a [] := by
  refine ⟨(#[], 0, .fresh 0 0 (!w.params.followText "set-order")), h, TxOk.nil (by rfl), (show List.Pairwise _ [] from .nil), ?_⟩
  show w.params.followText "set-order" = true ∨ (!w.params.followText "set-order") = true
  cases w.params.followText "set-order" <;> simp
theorem sgn_at {x : Str} {i c : Nat} (h : x.cps[i]? = some c) : (sgnS x)[i]? = some ⟨#[c]⟩ := by
  unfold sgnS
  rw [List.getElem?_map, Array.getElem?_toList, h]
  rfl
section
variable {X : Cx}
open PySem.Froz in
theorem adds_sign {P : Program} {w : World} {B : Around} {S : Addr} {x : Str} (hn : (sgnS x).Nodup) (hz : x.length ≤ 1000) : Adds P w B S (fun i g => SetTx P w g S ((sgnS x).take i).reverse) (SignAt x) := by
  intro i v s Q E ⟨c, u, hc, ev⟩ ⟨D, ho, F, hr, hl⟩ hQ
  subst ev
  have hs := sgn_at hc
  obtain ⟨hi, he⟩ := List.getElem?_eq_some_iff.mp hs
  have hk : (⟨#[c]⟩ : Str) ∉ ((sgnS x).take i).reverse := fun h => by
    rw [List.mem_reverse] at h
    obtain ⟨j, hj, ej⟩ := List.getElem_of_mem h
    have hj2 : j < i := by
      rw [List.length_take] at hj
      omega
    rw [List.getElem_take] at ej
    have := List.pairwise_iff_getElem.mp hn j i (by omega) hi hj2
    exact this (by rw [ej, he])
  have hlen : (sgnS x).length ≤ 1000 := by
    unfold sgnS
    rw [List.length_map, Array.length_toList]
    exact hz
  unfold setAdd
  refine wpAny_holding (wpAny_bind ((strKind P w).pyHash (k := ⟨#[c]⟩) (is_str _ _) ?_))
  refine add_x (D := D) (l := ((sgnS x).take i).reverse) (s := { s with toks := s.toks + 1 }) ho F hk (by rw [List.length_reverse, List.length_take]; unfold scanBound; omega) ?_
  obtain ⟨r1, r2⟩ := addTx_ris (h := hashStr w ⟨#[c]⟩) (v := .str ⟨#[c]⟩ u) hr
  refine hQ true _ 1 (Heap.SameBut.update _ _ _) ⟨_, get_upd _ ho rfl, ?_, r1, by rw [r2]; exact hl⟩
  have e : ((sgnS x).take (i + 1)).reverse = ⟨#[c]⟩ :: ((sgnS x).take i).reverse := by
    rw [List.take_succ, hs, List.reverse_append]
    rfl
  rw [e]
  exact add_ok u F
def rSetT (P : Program) (w : World) : List V → Hp → VK → Prop := fun vs H Q => ∃ x : Str, vs = [.str x] ∧ x.length ≤ 1000 ∧ (sgnS x).Nodup ∧ ∀ p, H p = none → Q (.ref p) (upd H p (SetTO P w p (sgnS x).reverse))
theorem cr_setT (hc : X.calm = true) : CallR X (.type "set") (rSetT X.prog X.w) := by
  intro pins s σ H vs us Q I r ⟨x, ex, hz, hn, q⟩
  subst ex
  obtain ⟨u, eu, rx⟩ := vals1 r
  subst eu
  obtain ⟨t, rfl⟩ := rx
  refine set_ofT (T := fun i g => SetTx X.prog X.w g s.heap.objs.size ((sgnS x).take i).reverse) (I.ok.hd hc) (fun i g k e ⟨D, ho, r⟩ => ⟨D, e _ ho, r⟩) (fun B _ => adds_sign hn hz) (fun g e => fresh_setT e) fun g tk hS hk => ?_
  have e : (sgnS x).take x.cps.size = sgnS x := List.take_of_length_le (by unfold sgnS; simp)
  rw [e] at hS
  exact ⟨.ref _, _, I.laid (t' := tk) hk (Nat.le_refl _) (setTO_new hS), rfl, q _ (I.hok.fresh (Nat.le_refl _))⟩
def rSortTx (P : Program) (w : World) : List V → Hp → VK → Prop := fun vs H Q => ∃ (a : Addr) (l : List Str), vs = [.ref a] ∧ H a = some (SetTO P w a l) ∧ l.Nodup ∧ l.length < 64 ∧ ∀ p, H p = none → Q (.ref p) (upd H p (.lst ((sortS l).map V.str)))
open PySem.Froz in
theorem cr_sortTx (hc : X.calm = true) : CallR X (.builtin "sorted") (rSortTx X.prog X.w) := by
  intro pins s σ H vs us Q I r ⟨a, l, ex, ha, hnd, h64, q⟩
  subst ex
  rw [Vals.ref1 r]
  obtain ⟨⟨es, ep, t⟩, ho, F, hr, hl⟩ := (show ObjOk X.prog X.w H s.heap a (SetTO X.prog X.w a l) from I.hok a _ ha).1
  have hsz : es.size = l.length := F.sz
  refine Calls.call_function_entry PyProof.Rows.kind_sorted PyProof.Rows.plain_sorted PyProof.Rows.entry_sorted (PyProof.Rows.args_sorted1 _) ?_
  unfold Builtin.«sorted»
  refine wpAny_bind (m := checkCount "sorted" 1 1 _) (wpAny_pure ?_)
  refine wpAny_bind (collect_set (A := X.A.in1) (I.ok.hd hc) ⟨_, ho, rfl, rfl⟩ F.fit (by rw [hsz]; unfold scanBound; omega) hr hl fun s1 out k1 hz g1 o1 pm => ?_)
  have hout : ∀ v ∈ out, ∃ x t, v = Value.str x t := fun v hv => by
    obtain ⟨e, he, ev⟩ := List.mem_map.mp (pm.mem_iff.mp hv)
    obtain ⟨⟨k, hk, _⟩, _⟩ := F.el e he
    obtain ⟨tk, q⟩ := Value.isStrOf_shape (x := k) (v := e.2) hk
    exact ⟨k, tk, by rw [← ev, q]⟩
  have hS := strsAre_map out hout
  have hol : out.length = l.length := by rw [pm.length_eq, List.length_map, Array.length_toList]; exact hsz
  have hpl : (out.map strOf).Perm l := nodup_perm hnd (fun k hk => by
    obtain ⟨e, he, q⟩ := (F.mem k).mp hk
    obtain ⟨tk, q2⟩ := Value.isStrOf_shape (x := k) (v := e.2) q
    refine List.mem_map.mpr ⟨e.2, pm.mem_iff.mpr (List.mem_map.mpr ⟨e, he, rfl⟩), by rw [q2]; rfl⟩) (by rw [List.length_map]; exact hol)
  have h64' : out.length < 64 := by omega
  refine wpAny_bind (wpAny_newList ?_ (by rw [sizeLine_eq]; omega))
  have hoL : (s1.heap.push (seqObj "list" out.toArray 0)).get? s1.heap.objs.size = some (seqObj "list" out.toArray 0) := Heap.get?_push_size _ rfl
  refine wpAny_bind (wpAny_holding (wpAny_call_entry PyProof.Rows.slot_list_sort ⟨_, hoL, rfl⟩ PyProof.Rows.entry_list_sort
    (list_sort_treeK strKind_oneLt (s := { s1 with heap := s1.heap.push (seqObj "list" out.toArray 0) }) hoL hS.keysOf (fun v1 v2 rest e => keyKind_strs (by rw [← e]; exact hS)) h64' fun st2 hp hs => ⟨_, rfl, ?_⟩)
    (PyProof.Rows.args_list_sort _)))
  obtain ⟨ys, b1, b3, b4⟩ := sorted_out_str hS hp hs
  obtain rfl : ys = sortS l := sortS_eq (b3.trans hpl) (sortedS_pw _ b4)
  obtain ⟨e3, he3⟩ := PyProof.Rows.sortedHeap_at (vs := out) (out := (arrOf st2).map (·.2)) hoL
  have hlen : ((sortS l).map V.str).length ≤ sizeLine := by rw [List.length_map, (sortS_perm l).length_eq, sizeLine_eq]; omega
  have hn : H s1.heap.objs.size = none := I.hok.fresh hz
  have keep : ∀ b u, s.heap.get? b = some u → (sortedHeap (s1.heap.push (seqObj "list" out.toArray 0)) s1.heap.objs.size out ((arrOf st2).map (·.2))).get? b = some u := fun b u e => by
    have e2 := k1 b u e
    have hb : b < s1.heap.objs.size := Heap.lt_size e2
    rw [PyProof.Rows.sortedHeap_old (Nat.ne_of_lt hb) (by rw [size_push']; exact Nat.lt_succ_of_lt hb)]
    exact Heap.get?_push_of_some _ e2
  have new : ∀ g3 : Heap, (∀ b u, s.heap.get? b = some u → g3.get? b = some u) → g3.get? s1.heap.objs.size = some (seqObj "list" ((arrOf st2).map (·.2)) e3) → EP X pins σ Q (.ref s1.heap.objs.size) { s1 with heap := g3 } := fun g3 keep he => by
    have hok : ObjOk X.prog X.w (upd H s1.heap.objs.size (.lst ((sortS l).map V.str))) g3 s1.heap.objs.size (.lst ((sortS l).map V.str)) := ⟨hlen, ((arrOf st2).map (·.2)).toList, e3, vals_of_strs b1, by rw [Array.toArray_toList]; exact he⟩
    have J : Inv X pins σ (upd H s1.heap.objs.size (.lst ((sortS l).map V.str))) { s with heap := g3, gens := s1.gens, drawn := s1.drawn, toks := s1.toks } :=
      I.call (ch := []) (Un.laid keep hz hn) (I.hok.laid keep hz hok) (by rw [g1]; exact I.bare) (fun _ z => nomatch z)
    have e : ({ s1 with heap := g3 } : Shared) = { s with heap := g3, gens := s1.gens, drawn := s1.drawn, toks := s1.toks } := by
      cases s1
      cases s
      cases o1
      rfl
    rw [e]
    exact ⟨.ref _, _, J, rfl, q _ hn⟩
  exact wpAny_pure ⟨_, rfl, new _ keep he3⟩
def dSortSetT : PyData → R PyData
  | .str z => if z.length < 64 ∧ (sgnS z).Nodup then .ok (.list ((sortS (sgnS z)).map .str)) else .no
  | _ => .no
def mSortSetT (m : M) : M := fun Γ => (m Γ).bind dSortSetT
theorem se_sortsetT {E : XK} {a : Expr} {m : M} {p p2 q pos : Pos} (hc : X.calm = true) (hm : X.mg "sorted" = none) (hm2 : X.mg "set" = none) (ha : SE X E a m) (hg : Gl X "sorted" := by exact rfl) (hg2 : Gl X "set" := by exact rfl)
    (na : starEach [a] X.env = (false, eval a X.env) :: starEach [] X.env := by rfl)
    (nb : starEach [.Call (.Name "set" p2) [a] [] q] X.env = (false, eval (.Call (.Name "set" p2) [a] [] q) X.env) :: starEach [] X.env := by rfl) : SE X E (.Call (.Name "sorted" p) [.Call (.Name "set" p2) [a] [] q] [] pos) (mSortSetT m) := by
  have h1 := pe_callTy (p := p2) (pos := q) (cr_setT hc) hg2 hm2 (by decide +kernel) (pa_cons ha pa_nil na) (hn := by decide) (hdb := by decide) (he := na) (hpl := by rfl)
  refine pe_of (pe_callB (p := p) (pos := pos) (cr_sortTx hc) hg hm (by decide +kernel) (pa_cons h1 pa_nil nb) (hn := by decide) (hdb := by decide) (he := nb) (hpl := by rfl)) fun σ H Q ⟨B, Γ, G, sr, po⟩ => ⟨B, Γ, G, sr, Po.bind po fun d x G1 H1 _ g1 dx po1 => ?_⟩
  cases dx with
  | str z =>
    replace po1 : Po (Dq X.K) X.mg E G1 H1 Q (if z.length < 64 ∧ (sgnS z).Nodup then .ok (.list ((sortS (sgnS z)).map .str)) else .no) := po1
    split at po1
    · rename_i h
      have hlen : (sgnS z).length = z.length := by
        unfold sgnS
        rw [List.length_map, Array.length_toList]
        rfl
      refine ⟨z, rfl, by omega, h.2, fun p hp => ⟨p, _, rfl, upd_same, (List.reverse_perm _).nodup_iff.mpr h.2, by rw [List.length_reverse, hlen]; exact h.1, fun p3 hp3 => ?_⟩⟩
      have e : sortS (sgnS z).reverse = sortS (sgnS z) := sortS_congr (List.reverse_perm _)
      rw [e]
      have g2 : Gr G1 H1 G1 (upd H1 p (SetTO X.prog X.w p (sgnS z).reverse)) := ⟨fun _ _ e => e, le_upd hp, le_trans g1.s (le_upd hp), fun a _ h => h⟩
      exact po_lst (po1.gr g2) g2.s hp3 (dpa_ofStrs _)
    · exact po1.elim
  | _ => exact po1.elim
end
end PD

/-! The data layer: a comprehension with two fors. -/
namespace PD
open PySem PySem.Spec PyProof.Rows L2
/-- growing, but at D -/
structure GrD (D : Addr) (G H G' H' : Hp) : Prop where
  g : Le G G'
  h : ∀ a u, a ≠ D → H a = some u → H' a = some u
  s : Le G' H'
  fr : ∀ a, a ≠ D → H a ≠ none → G a = none → G' a = none
  d : G' D = none
theorem GrD.ne {D : Addr} {G H G' H' : Hp} (x : GrD D G H G' H') {a : Addr} (ha : a ≠ D) (h : H a ≠ none) : H' a ≠ none := by
  cases q : H a with
  | none => exact absurd q h
  | some u => rw [x.h a u ha q]; simp
theorem GrD.refl {D : Addr} {G H : Hp} (s : Le G H) (d : G D = none) : GrD D G H G H := ⟨fun _ _ e => e, fun _ _ _ e => e, s, fun _ _ _ e => e, d⟩
theorem GrD.trans {D : Addr} {G H G1 H1 G2 H2 : Hp} (x : GrD D G H G1 H1) (y : GrD D G1 H1 G2 H2) : GrD D G H G2 H2 where
  g := le_trans x.g y.g
  h := fun a u ha e => y.h a u ha (x.h a u ha e)
  s := y.s
  fr := fun a ha h1 h2 => y.fr a ha (x.ne ha h1) (x.fr a ha h1 h2)
  d := y.d
theorem GrD.of {D : Addr} {G H G' H' : Hp} (x : Gr G H G' H') (h : H D ≠ none) (d : G D = none) : GrD D G H G' H' := ⟨x.g, fun a u _ e => x.h a u e, x.s, fun a _ h1 h2 => x.fr a h1 h2, x.fr D h d⟩
theorem GrD.put {D : Addr} {G H : Hp} {u : HO} (s : Le G H) (d : G D = none) : GrD D G H G (upd H D u) where
  g := fun _ _ e => e
  h := fun a o ha e => by rw [upd_ne ha]; exact e
  s := fun a o e => by
    have : a ≠ D := fun z => by subst z; rw [d] at e; cases e
    rw [upd_ne this]; exact s a o e
  fr := fun _ _ _ e => e
  d := d
section
variable {K : PySem.W.Frag} {B G H G' H' : Hp} {σ : L2.St} {Γ : Gam} {D : Addr}
theorem SR.grd (s : SR K B G H σ Γ) (x : GrD D G H G' H') (hB : B D ≠ none) : SR K B G' H' σ Γ where
  sub := x.s
  len := s.len
  val := fun i d e => let ⟨y, a, b⟩ := s.val i d e; ⟨y, a, dp_le x.g b⟩
  own := fun i ds e => let ⟨p, xs, a, b, c, d⟩ := s.own i ds e
    have ne : p ≠ D := fun z => hB (z ▸ s.nw i ds p e a)
    ⟨p, xs, a, x.h p _ ne b, x.fr p ne (by rw [b]; simp) c, dpa_le x.g d⟩
  inj := s.inj
  nw := s.nw
  adr := s.adr
theorem SR.far (s : SR K B G H σ Γ) (hD : H D = none) (u : HO) : SR K (upd B D u) G H σ Γ where
  sub := s.sub
  len := s.len
  val := s.val
  own := s.own
  inj := s.inj
  nw := fun i ds p e a => by
    obtain ⟨p0, xs, a0, b, _⟩ := s.own i ds e
    have ep : p0 = p := by rw [a] at a0; cases a0; rfl
    subst ep
    have ne : p0 ≠ D := fun z => by subst z; rw [hD] at b; cases b
    rw [upd_ne ne]
    exact s.nw i ds p0 e a
  adr := s.adr
end
theorem wipe2 {σ σ2 : L2.St} {own is : List Nat} (his : ∀ i ∈ is, i ∈ own) (w2 : Wp is (L2.wipe σ own) σ2) : L2.wipe σ2 own = L2.wipe σ own := by
  rw [w2 own his]
  apply List.ext_getElem?
  intro j
  rw [wipe_get, wipe_length, wipe_get]
  by_cases h1 : j ∈ own ∧ j < σ.length
  · simp [h1]
  · simp [h1]
/-- the walk of the second for -/
theorem in_of {K : PySem.W.Frag} {mg : Str → Option Value} {E : XK} {B G H : Hp} {σ : L2.St} {Γ : Gam} {D : Addr} {is1 vs1 : List Nat} {ms1 : Gam → R (List PyData)} {b1 : Bd} {mt1 : Gam → R Bool} {me : M} {acc : List V} {ys zs es : List PyData}
    (hB : B D ≠ none) (his1 : ∀ i ∈ is1, i ∈ vs1) (sr : SR K B G H σ Γ) (hd : H D = some (.lst acc)) (hgd : G D = none) (dac : DqAll K G acc ys) (e : ms1 Γ = .ok es)
    (el : lcGo b1 mt1 me (wpG Γ vs1) es = .ok zs) (hz : ys.length + zs.length ≤ 1000) (Nx : Hp → Prop)
    (hN : ∀ G' H' acc', GrD D G H G' H' → H' D = some (.lst acc') → DqAll K G' acc' (ys ++ zs) → Nx H') :
    tIt K mg E ms1 σ H fun J1 H4 => ∃ W1 : Nat → Nat → Hp → Prop, (∃ m, W1 0 m H4) ∧ ∀ j k H, W1 j k H →
      (J1.stop j H ∧ Nx H) ∨ (J1.go j H ∧ ∃ Nx1 : Hp → Prop, (∀ H', Nx1 H' → ∃ k', k' < k ∧ W1 (j + 1) k' H') ∧ ∀ x H', J1.yld j H x H' → tG K is1 b1 x (L2.wipe σ vs1) H' fun σ3 H5 => L2.wipe σ3 vs1 = L2.wipe σ vs1 ∧
        tX K RB mg (fun _ _ _ => False) mt1 σ3 H5 fun b H6 =>
        if b = true then tX K (Dq K) mg (fun _ _ _ => False) me σ3 H6 fun y H7 => ∃ acc, H7 D = some (.lst acc) ∧ acc.length < sizeLine ∧ Nx1 (upd H7 D (.lst (acc ++ [y]))) else Nx1 H6) := by
  refine ⟨B, Γ, G, sr, ?_⟩
  rw [e]
  intro J G1 H1 g1 it
  have x1 : GrD D G H G1 H1 := GrD.of g1 (by rw [hd]; simp) hgd
  let Inv1 : Nat → Hp → Prop := fun j Hc => ∃ Gi acc ys' zs', GrD D G1 H1 Gi Hc ∧ SR K B Gi Hc (L2.wipe σ vs1) (wpG Γ vs1) ∧ Hc D = some (.lst acc) ∧ DqAll K Gi acc (ys ++ ys') ∧
    lcGo b1 mt1 me (wpG Γ vs1) (es.drop j) = .ok zs' ∧ ys' ++ zs' = zs
  refine ⟨fun j k Hc => k = es.length - j ∧ j ≤ es.length ∧ Inv1 j Hc, ⟨_, rfl, Nat.zero_le _, G1, acc, [], zs, GrD.refl g1.s x1.d, (sr.gr g1).wipe vs1, g1.h _ _ hd, by rw [List.append_nil]; exact dpa_le g1.g dac, by simpa using el, rfl⟩, ?_⟩
  rintro j k Hc ⟨rfl, hj, Gi, acc', ys', zs', xi, sri, hcd, dac', hz', hall⟩
  by_cases hlt : j < es.length
  · refine .inr ⟨it.go j Gi Hc xi.g sri.sub hlt, Inv1 (j + 1), fun H' w => ⟨es.length - (j + 1), by omega, rfl, hlt, w⟩, fun x H' hy => ?_⟩
    obtain ⟨d, hd'⟩ : ∃ d, es[j]? = some d := ⟨es[j], by simp [hlt]⟩
    have hdrop : es.drop j = d :: es.drop (j + 1) := by
      rw [List.drop_eq_getElem_cons hlt]
      have : es[j] = d := by simpa [hlt] using hd'
      rw [this]
    obtain ⟨G2, g2, dx⟩ := it.yld j Gi Hc x H' d xi.g sri.sub hd' hy
    rw [hdrop] at hz'
    unfold lcGo at hz'
    refine ⟨B, wpG Γ vs1, G2, d, sri.gr g2, dx, ?_⟩
    split at hz'
    · cases hz'
    · rename_i Γ1 eb
      rw [eb]
      intro σ2 sr2 w2
      refine ⟨wipe2 his1 w2, B, Γ1, G2, sr2, ?_⟩
      have x2 : GrD D Gi Hc G2 H' := GrD.of g2 (by rw [hcd]; simp) xi.d
      have hH2 : H' D = some (.lst acc') := g2.h _ _ hcd
      cases et : mt1 Γ1 with
      | no => rw [et] at hz'; cases hz'
      | ex c => rw [et] at hz'; cases hz'
      | ok q =>
        rw [et] at hz'
        intro k' G3 H3 g3 ek
        have ek : k' = q := ek
        subst ek
        have x3 : GrD D G2 H' G3 H3 := GrD.of g3 (by rw [hH2]; simp) x2.d
        have hH3 : H3 D = some (.lst acc') := g3.h _ _ hH2
        have x23 := x2.trans x3
        cases k' with
        | false =>
          rw [if_neg Bool.false_ne_true]
          exact ⟨G3, acc', ys', zs', xi.trans x23, sri.grd x23 hB, hH3, dpa_le x23.g dac', hz', hall⟩
        | true =>
          rw [if_pos rfl]
          refine ⟨B, Γ1, G3, sr2.gr g3, ?_⟩
          dsimp only at hz'
          cases ee : me Γ1 with
          | no => rw [ee] at hz'; cases hz'
          | ex c => rw [ee] at hz'; cases hz'
          | ok y =>
            rw [ee] at hz'
            dsimp only at hz'
            intro yv G4 H4 g4 dy
            have x4 : GrD D G3 H3 G4 H4 := GrD.of g4 (by rw [hH3]; simp) x3.d
            have hH4 : H4 D = some (.lst acc') := g4.h _ _ hH3
            cases ez : lcGo b1 mt1 me (wpG Γ vs1) (es.drop (j + 1)) with
            | no => rw [ez] at hz'; cases hz'
            | ex c => rw [ez] at hz'; cases hz'
            | ok zs2 =>
              rw [ez] at hz'
              cases hz'
              have hal := dpa_len dac'
              have x24 : GrD D Gi Hc G4 (upd H4 D (.lst (acc' ++ [yv]))) := (x23.trans x4).trans (GrD.put g4.s x4.d)
              have hsz : acc'.length < sizeLine := by
                rw [sizeLine_eq]
                rw [← hall] at hz
                simp only [List.length_append, List.length_cons] at hz hal
                omega
              refine ⟨acc', hH4, hsz, G4, acc' ++ [yv], ys' ++ [y], zs2, xi.trans x24, sri.grd x24 hB, upd_same, ?_, ez, by simpa using hall⟩
              rw [← List.append_assoc]
              exact dpa_append (dpa_le x24.g dac') (dpa_one dy)
  · have ei : j = es.length := by omega
    subst ei
    rw [List.drop_length] at hz'
    cases hz'
    refine .inl ⟨it.stop Gi Hc xi.g sri.sub, hN Gi Hc acc' (x1.trans xi) hcd ?_⟩
    rw [List.append_nil] at hall
    subst hall
    exact dac'
/-! ### two fors -/
def lc2Go (b : Bd) (mt : Gam → R Bool) (vs1 : List Nat) (ms1 : Gam → R (List PyData)) (b1 : Bd) (mt1 : Gam → R Bool) (me : M) (Γ : Gam) : List PyData → R (List PyData)
  | [] => .ok []
  | d :: ds => match b d Γ with
    | none => .no
    | some Γ1 => match mt Γ1 with
      | .ok true => match ms1 Γ1 with
        | .ok es => match lcGo b1 mt1 me (wpG Γ1 vs1) es with
          | .ok ys => match lc2Go b mt vs1 ms1 b1 mt1 me Γ ds with
            | .ok zs => .ok (ys ++ zs)
            | _ => .no
          | _ => .no
        | _ => .no
      | .ok false => lc2Go b mt vs1 ms1 b1 mt1 me Γ ds
      | _ => .no
def upTh : R (List PyData) → R (List PyData)
  | .ok zs => if zs.length ≤ 1000 then .ok zs else .no
  | _ => .no
def mLc2 (own vs1 : List Nat) (ms : Gam → R (List PyData)) (b : Bd) (mt : Gam → R Bool) (ms1 : Gam → R (List PyData)) (b1 : Bd) (mt1 : Gam → R Bool) (me : M) : Gam → R (List PyData) := fun Γ => (ms Γ).bind fun ds => upTh (lc2Go b mt vs1 ms1 b1 mt1 me (wpG Γ own) ds)
theorem tLc2_of {K : PySem.W.Frag} {mg : Str → Option Value} {E : XK} {own is is1 vs1 : List Nat} {ms ms1 : Gam → R (List PyData)} {b b1 : Bd} {mt mt1 : Gam → R Bool} {me : M} {σ : L2.St} {H : Hp} {Q : VK} (his : ∀ i ∈ is, i ∈ own) (his1 : ∀ i ∈ is1, i ∈ vs1)
    (h : tL K mg E (mLc2 own vs1 ms b mt ms1 b1 mt1 me) σ H Q) :
    tLc2 (tIt K mg E ms) (tG K is b) (tX K RB mg (fun _ _ _ => False) mt) (tIt K mg (fun _ _ _ => False) ms1) (tG K is1 b1) (tX K RB mg (fun _ _ _ => False) mt1) (tX K (Dq K) mg (fun _ _ _ => False) me) own vs1 σ H Q := by
  obtain ⟨B, Γ, G, sr, po⟩ := h
  refine ⟨B, Γ, G, sr, ?_⟩
  unfold mLc2 at po
  cases q : ms Γ with
  | no => rw [q] at po; exact po
  | ex c => rw [q] at po; exact po
  | ok ds =>
    rw [q, R.bind_ok] at po
    intro J G1 H1 g1 it D hD
    have hGD : G1 D = none := le_none g1.s hD
    cases el : lc2Go b mt vs1 ms1 b1 mt1 me (wpG Γ own) ds with
    | no => rw [el] at po; exact po.elim
    | ex c => rw [el] at po; exact po.elim
    | ok ws =>
      rw [el] at po
      replace po : PoL K mg E G H Q (if ws.length ≤ 1000 then R.ok ws else .no) := po
      split at po
      · rename_i hw
        have hB : upd B D (.lst []) D ≠ none := by rw [upd_same]; simp
        let Inv2 : Nat → Hp → Prop := fun i Hc => ∃ Gi acc ys zs, GrD D G1 (upd H1 D (.lst [])) Gi Hc ∧ SR K (upd B D (.lst [])) Gi Hc (L2.wipe σ own) (wpG Γ own) ∧ Hc D = some (.lst acc) ∧ DqAll K Gi acc ys ∧
          lc2Go b mt vs1 ms1 b1 mt1 me (wpG Γ own) (ds.drop i) = .ok zs ∧ ys ++ zs = ws
        refine ⟨fun i m Hc => m = ds.length - i ∧ i ≤ ds.length ∧ Inv2 i Hc, ⟨_, rfl, Nat.zero_le _, G1, [], [], ws, GrD.refl (le_trans g1.s (le_upd hD)) hGD, (((sr.gr g1).far hD (.lst [])).gr (Gr.grow g1.s (le_upd hD))).wipe own, upd_same, .nil, by simpa using el, rfl⟩, ?_⟩
        rintro i m Hc ⟨rfl, hi, Gi, acc, ys, zs, xi, sri, hcd, dac, hz, hall⟩
        by_cases hlt : i < ds.length
        · refine .inr ⟨it.go i Gi Hc xi.g sri.sub hlt, Inv2 (i + 1), fun H' w => ⟨ds.length - (i + 1), by omega, rfl, hlt, w⟩, fun x H' hy => ?_⟩
          obtain ⟨d, hd'⟩ : ∃ d, ds[i]? = some d := ⟨ds[i], by simp [hlt]⟩
          have hdrop : ds.drop i = d :: ds.drop (i + 1) := by
            rw [List.drop_eq_getElem_cons hlt]
            have : ds[i] = d := by simpa [hlt] using hd'
            rw [this]
          obtain ⟨G2, g2, dx⟩ := it.yld i Gi Hc x H' d xi.g sri.sub hd' hy
          rw [hdrop] at hz
          unfold lc2Go at hz
          refine ⟨_, wpG Γ own, G2, d, sri.gr g2, dx, ?_⟩
          split at hz
          · cases hz
          · rename_i Γ1 eb
            rw [eb]
            intro σ2 sr2 w2
            refine ⟨wipe2 his w2, _, Γ1, G2, sr2, ?_⟩
            have x2 : GrD D Gi Hc G2 H' := GrD.of g2 (by rw [hcd]; simp) xi.d
            have hH2 : H' D = some (.lst acc) := g2.h _ _ hcd
            cases et : mt Γ1 with
            | no => rw [et] at hz; cases hz
            | ex c => rw [et] at hz; cases hz
            | ok q =>
              rw [et] at hz
              intro k' G3 H3 g3 ek
              have ek : k' = q := ek
              subst ek
              have x3 : GrD D G2 H' G3 H3 := GrD.of g3 (by rw [hH2]; simp) x2.d
              have hH3 : H3 D = some (.lst acc) := g3.h _ _ hH2
              have x23 := x2.trans x3
              cases k' with
              | false =>
                rw [if_neg Bool.false_ne_true]
                exact ⟨G3, acc, ys, zs, xi.trans x23, sri.grd x23 hB, hH3, dpa_le x23.g dac, hz, hall⟩
              | true =>
                rw [if_pos rfl]
                dsimp only at hz
                cases e1 : ms1 Γ1 with
                | no => rw [e1] at hz; cases hz
                | ex c => rw [e1] at hz; cases hz
                | ok es =>
                  rw [e1] at hz
                  dsimp only at hz
                  cases e2 : lcGo b1 mt1 me (wpG Γ1 vs1) es with
                  | no => rw [e2] at hz; cases hz
                  | ex c => rw [e2] at hz; cases hz
                  | ok ys1 =>
                    rw [e2] at hz
                    dsimp only at hz
                    cases e3 : lc2Go b mt vs1 ms1 b1 mt1 me (wpG Γ own) (ds.drop (i + 1)) with
                    | no => rw [e3] at hz; cases hz
                    | ex c => rw [e3] at hz; cases hz
                    | ok zs1 =>
                      rw [e3] at hz
                      cases hz
                      refine in_of hB his1 (sr2.gr g3) hH3 x3.d (dpa_le x23.g dac) e1 e2 ?_ (Inv2 (i + 1)) fun G5 H5 acc5 x5 h5 d5 => ?_
                      · rw [← hall] at hw
                        simp only [List.length_append] at hw
                        omega
                      · exact ⟨G5, acc5, ys ++ ys1, zs1, xi.trans (x23.trans x5), sri.grd (x23.trans x5) hB, h5, d5, e3, by rw [← hall, List.append_assoc]⟩
        · have ei : i = ds.length := by omega
          subst ei
          rw [List.drop_length] at hz
          cases hz
          rw [List.append_nil] at hall
          subst hall
          refine .inl ⟨it.stop Gi Hc xi.g sri.sub, ?_⟩
          refine po D acc Gi Hc ⟨le_trans g1.g xi.g, fun a u e => ?_, sri.sub, fun a h1 h2 => ?_⟩ (le_none g1.h hD) hcd xi.d dac
          · have ne : a ≠ D := fun z => by subst z; have := g1.h _ _ e; rw [hD] at this; cases this
            exact xi.h a u ne (by rw [upd_ne ne]; exact g1.h _ _ e)
          · have h1' : H1 a ≠ none := fun z => h1 (le_none g1.h z)
            have ne : a ≠ D := fun z => h1' (z ▸ hD)
            exact xi.fr a ne (by rw [upd_ne ne]; exact h1') (g1.fr a h1 h2)
      · exact po.elim
section
variable {X : Cx} {E : XK}
theorem ss_setLc2 {elt tg iter tg1 iter1 : Expr} {ifs ifs1 : List Expr} {scope : Scope} {own : List (Str × Nat)} {is is1 vs1 : List Nat} {pos lpos : Pos} {ms ms1 : Gam → R (List PyData)} {b b1 : Bd} {mt mt1 : Gam → R Bool} {me : M} (i : Nat) (l : List Nat) {x : Str} {p : Pos} (hc : X.calm = true) (hN : X.N.Nodup) (hi : SI X E tg iter ms) (ok : blkC X.N X.env.scope scope own = true)
    (hg : ∀ (s : Shared) (H : Hp) (C : Addr) (cl : List (Str × Addr)) (fp : List Addr), SG (X.blk s H scope (compEnvC scope cl C X.env) fp) tg is b) (ht : ∀ (s : Shared) (H : Hp) (C : Addr) (cl : List (Str × Addr)) (fp : List Addr), STs (X.blk s H scope (compEnvC scope cl C X.env) fp) E0 ifs mt)
    (hi1 : ∀ (s : Shared) (H : Hp) (C : Addr) (cl : List (Str × Addr)) (fp : List Addr), SI (X.blk s H scope (compEnvC scope cl C X.env) fp) E0 tg1 iter1 ms1)
    (hg1 : ∀ (s : Shared) (H : Hp) (C : Addr) (cl : List (Str × Addr)) (fp : List Addr), SG (X.blk s H scope (compEnvC scope cl C X.env) fp) tg1 is1 b1) (ht1 : ∀ (s : Shared) (H : Hp) (C : Addr) (cl : List (Str × Addr)) (fp : List Addr), STs (X.blk s H scope (compEnvC scope cl C X.env) fp) E0 ifs1 mt1)
    (he : ∀ (s : Shared) (H : Hp) (C : Addr) (cl : List (Str × Addr)) (fp : List Addr), SE (X.blk s H scope (compEnvC scope cl C X.env) fp) E0 elt me) (his : ∀ i ∈ is, i ∈ own.map (·.2)) (his1 : ∀ i ∈ is1, i ∈ vs1) (hv : ∀ i ∈ vs1, i ∈ own.map (·.2))
    (hy : X.N[i]? = some x := by rfl) (hl : X.env.scope.names.lookup x = some .local := by rfl) (hk : X.env.scope.kind = .function := by rfl) (hp : (p.line == lpos.line) = true := by rfl) (ha : (scope.names.any fun (n, k) => n == x && (k == .local || k == .cell)) = false := by rfl)
    (hs : ∀ x, foldedSetIterable iter X.env x = pure x := by intro _; rfl) (hs1 : ∀ env x, foldedSetIterable iter1 env x = pure x := by intro _ _; rfl) :
    SS X E (.Assign [.Name x p] (.ListComp elt [⟨tg, iter, ifs, 0⟩, ⟨tg1, iter1, ifs1, 0⟩] scope lpos) pos) (mSet i l (mL (mLc2 (own.map (·.2)) vs1 ms b mt ms1 b1 mt1 me))) :=
  ps_of (ps_setLc2 hc hN hy hl (sw_true hk hl hp ha) hi (blkOk_by ok) hv hg ht hi1 hg1 ht1 he hs hs1) fun D σ H h => tLc2_of his his1 (by
    obtain ⟨B, Γ, G, sr, po⟩ : tX X.K (Dq X.K) X.mg E (mL (mLc2 (own.map (·.2)) vs1 ms b mt ms1 b1 mt1 me)) σ H fun x H1 => gName i x σ H1 D.nx := set_core h
    exact ⟨B, Γ, G, sr, pol_share po⟩)
end
end PD

/-! The data layer: sorted(set(xs)), a list of ints or of texts, members told more than once. -/
namespace PD
open PySem PySem.Spec PyProof.Rows L2
section
variable {α : Type} [DecidableEq α]
/-- the different ones, the first of each -/
def dd : List α → List α
  | [] => []
  | x :: t => if x ∈ t then dd t else x :: dd t
theorem mem_dd {k : α} : ∀ {xs : List α}, k ∈ dd xs ↔ k ∈ xs
  | [] => Iff.rfl
  | x :: t => by
    unfold dd
    split
    · rename_i h
      rw [mem_dd (xs := t), List.mem_cons]
      exact ⟨.inr, fun z => z.elim (fun e => e ▸ h) id⟩
    · rw [List.mem_cons, List.mem_cons, mem_dd (xs := t)]
theorem dd_nodup : ∀ xs : List α, (dd xs).Nodup
  | [] => List.nodup_nil
  | x :: t => by
    unfold dd
    split
    · exact dd_nodup t
    · rename_i h
      exact List.nodup_cons.mpr ⟨fun z => h (mem_dd.mp z), dd_nodup t⟩
theorem dd_le : ∀ xs : List α, (dd xs).length ≤ xs.length
  | [] => Nat.le_refl _
  | x :: t => by
    unfold dd
    have := dd_le t
    split <;> simp only [List.length_cons] <;> omega
theorem dd_cons_len (x : α) (t : List α) : (dd (x :: t)).length = if x ∈ t then (dd t).length else (dd t).length + 1 := by
  have e : dd (x :: t) = if x ∈ t then dd t else x :: dd t := rfl
  rw [e]
  split <;> rfl
end
section
variable {X : Cx}
def rSetLD (K : PySem.W.Frag) (w : World) : List V → Hp → VK → Prop := fun vs H Q => ∃ (l : Addr) (ns : List Int), vs = [V.ref l] ∧ SqL K H l (ns.map V.int) ∧ ns.length ≤ 1000 ∧
  ∀ p, H p = none → Q (.ref p) (upd H p (SetO w p (fun j => decide (j ∈ ns)) (dd ns.reverse).length))
theorem cr_setLD (hc : X.calm = true) : CallR X (.type "set") (rSetLD X.K X.w) := by
  intro pins s σ H vs us Q I r h
  obtain ⟨l, ns, rfl, hq, hz, q⟩ := h
  obtain ⟨its, rv, pl, _⟩ := I.list hq
  rw [Vals.ref1 r]
  have hv := RZ.intsAre_vals rv
  have hlen : its.length = ns.length := by rw [← rv.length, List.length_map]
  refine set_of (T := fun i g => SetR X.w g s.heap.objs.size (fun j => decide (j ∈ ns.take i)) (dd (ns.take i).reverse).length) (I.ok.hd hc) pl.isList (fun i g k e c2 => c2.at e) (fun B _ => ?_) (fun g e => fresh_setR e) fun g tk c2 hk => ?_
  · intro i v u Q2 E2 hi c2 hQ
    obtain ⟨t, e⟩ := PyProof.Rows.IntsAre.int_at hv i v (by simpa using hi)
    have hin : i < ns.length := by
      have := (Array.getElem?_eq_some_iff.mp hi).1
      simpa [hlen] using this
    have hn : ns.getD i 0 = ns[i] := by simp [List.getD_eq_getElem?_getD, hin]
    rw [hn] at e
    subst e
    have hle : (dd (ns.take i).reverse).length ≤ i := by have := dd_le (ns.take i).reverse; simp at this; omega
    unfold setAdd
    refine wpAny_holding (wpAny_bind ((intKind X.prog X.w).pyHash (k := ns[i]) (intKind_is _ _ _ _) ?_))
    refine setR_add_hashed (s := { u with toks := u.toks + 1 }) c2 (by unfold scanBound; omega) fun g sb new => ?_
    refine hQ _ g 1 sb ?_
    have e2 : (dd (ns.take (i + 1)).reverse).length = if decide (ns[i] ∈ ns.take i) = true then (dd (ns.take i).reverse).length else (dd (ns.take i).reverse).length + 1 := by
      rw [List.take_succ_eq_append_getElem hin, List.reverse_append]
      show (dd (ns[i] :: (ns.take i).reverse)).length = _
      rw [dd_cons_len]
      simp only [List.mem_reverse, decide_eq_true_eq]
    show SetR X.w g s.heap.objs.size (fun j => decide (j ∈ ns.take (i + 1))) (dd (ns.take (i + 1)).reverse).length
    rw [e2]
    refine new.congr fun k => ?_
    rw [List.take_succ_eq_append_getElem hin]
    rw [Bool.eq_iff_iff]
    simp only [decide_eq_true_eq, List.mem_append, List.mem_singleton, Bool.or_eq_true]
  · have hsz : its.toArray.size = ns.length := by simp [hlen]
    rw [hsz] at c2
    rw [List.take_length] at c2
    exact ⟨.ref _, _, I.laid (t' := tk) hk (Nat.le_refl _) (setO_new c2), rfl, q _ (I.hok.fresh (Nat.le_refl _))⟩
/-! ### texts -/
open PySem.Froz in
theorem old_x {P : Program} {w : World} {A : Around} {E : Value → Shared → Prop} {s : Shared} {a : Addr} {T : String} {D : SD} {l : List Str} {k : Str} {u : Tok} {Q : Bool → Shared → Prop} (ho : s.heap.get? a = some (sObj T D)) (F : TxOk P w D l) (hk : k ∈ l) (hb : l.length < scanBound)
    (h : Q false s) : wpAny (model P w) A (setAddHashed a (.str k u) (hashStr w k)) Q E s := by
  obtain ⟨es, ep, t⟩ := D
  have hd : (sObj T (es, ep, t)).data = .set es ep t := rfl
  have hf : t.fits es.size = true := F.fit
  have hel : ElemsOf (strKind P w) es.toList := F.el
  have hsz : es.size = l.length := F.sz
  have hkey : (strKind P w).is k (.str k u) = true := is_str k u
  obtain ⟨e, he, q⟩ := (F.mem k).mp hk
  have hsome : ∃ j, List.findIdx? (fun e => (strKind P w).is k e.2) es.toList = some j := by
    cases hr : List.findIdx? (fun e => (strKind P w).is k e.2) es.toList with
    | none => have := List.findIdx?_eq_none_iff.mp hr e he; rw [q] at this; cases this
    | some j => exact ⟨j, rfl⟩
  obtain ⟨j, hj⟩ := hsome
  unfold setAddHashed setAddHashedIn
  refine wpAny_holding (wpAny_bind (wpAny_setState_of ho hd hf ?_))
  dsimp only
  rw [byScan_of rfl (by omega) hel]
  simp only [↓reduceIte]
  unfold setAddByScan
  refine wpAny_bind ?_
  refine wpAny_bind (wpAny_rule ?_)
  refine wpAny_bind (wpAny_setScan_of (knd := strKind P w) (k := k) hkey ho hd hf hel ?_)
  rw [hj]
  dsimp only
  exact wpAny_pure (wpAny_pure h)
open PySem.Froz in
theorem adds_text {P : Program} {w : World} {B : Around} {S : Addr} {xs : List Str} {its : Array Value} (hv : Vals (xs.map V.str) its.toList) (hz : xs.length ≤ 1000) : Adds P w B S (fun i g => SetTx P w g S (dd (xs.take i).reverse)) fun i v => its[i]? = some v := by
  intro i v s Q E hi ⟨D, ho, F, hr, hl⟩ hQ
  have hlen : its.size = xs.length := by have := hv.length; simp at this; omega
  have hin : i < xs.length := by
    have := (Array.getElem?_eq_some_iff.mp hi).1
    omega
  obtain ⟨u, ev⟩ := vals_str_at hv i v (by simpa using hi) hin
  subst ev
  have hle : (dd (xs.take i).reverse).length ≤ i := by have := dd_le (xs.take i).reverse; simp at this; omega
  have e0 : (xs.take (i + 1)).reverse = xs[i] :: (xs.take i).reverse := by rw [List.take_succ_eq_append_getElem hin, List.reverse_append]; rfl
  unfold setAdd
  refine wpAny_holding (wpAny_bind ((strKind P w).pyHash (k := xs[i]) (is_str _ _) ?_))
  by_cases hk : xs[i] ∈ (xs.take i).reverse
  · refine old_x (D := D) (l := dd (xs.take i).reverse) (s := { s with toks := s.toks + 1 }) ho F (mem_dd.mpr hk) (by unfold scanBound; omega) ?_
    refine hQ false s.heap 1 (Heap.SameBut.refl _ _) ?_
    have e : dd (xs.take (i + 1)).reverse = dd (xs.take i).reverse := by
      rw [e0]
      have : dd (xs[i] :: (xs.take i).reverse) = if xs[i] ∈ (xs.take i).reverse then dd (xs.take i).reverse else xs[i] :: dd (xs.take i).reverse := rfl
      rw [this, if_pos hk]
    show SetTx P w s.heap S (dd (xs.take (i + 1)).reverse)
    rw [e]
    exact ⟨D, ho, F, hr, hl⟩
  · refine add_x (D := D) (l := dd (xs.take i).reverse) (s := { s with toks := s.toks + 1 }) ho F (fun z => hk (mem_dd.mp z)) (by unfold scanBound; omega) ?_
    obtain ⟨r1, r2⟩ := addTx_ris (h := hashStr w xs[i]) (v := .str xs[i] u) hr
    refine hQ true _ 1 (Heap.SameBut.update _ _ _) ⟨_, get_upd _ ho rfl, ?_, r1, by rw [r2]; exact hl⟩
    have e : dd (xs.take (i + 1)).reverse = xs[i] :: dd (xs.take i).reverse := by
      rw [e0]
      have : dd (xs[i] :: (xs.take i).reverse) = if xs[i] ∈ (xs.take i).reverse then dd (xs.take i).reverse else xs[i] :: dd (xs.take i).reverse := rfl
      rw [this, if_neg hk]
    rw [e]
    exact add_ok u F
def rSetLT (K : PySem.W.Frag) (P : Program) (w : World) : List V → Hp → VK → Prop := fun vs H Q => ∃ (l : Addr) (xs : List Str), vs = [V.ref l] ∧ SqL K H l (xs.map V.str) ∧ xs.length ≤ 1000 ∧ ∀ p, H p = none → Q (.ref p) (upd H p (SetTO P w p (dd xs.reverse)))
theorem cr_setLT (hc : X.calm = true) : CallR X (.type "set") (rSetLT X.K X.prog X.w) := by
  intro pins s σ H vs us Q I r ⟨l, xs, ex, hq, hz, q⟩
  subst ex
  obtain ⟨its, rv, pl, _⟩ := I.list hq
  rw [Vals.ref1 r]
  have hlen : its.length = xs.length := by rw [← rv.length, List.length_map]
  refine set_of (T := fun i g => SetTx X.prog X.w g s.heap.objs.size (dd (xs.take i).reverse)) (I.ok.hd hc) pl.isList (fun i g k e ⟨D, ho, r⟩ => ⟨D, e _ ho, r⟩) (fun B _ => adds_text (by simpa using rv) hz) (fun g e => fresh_setT e) fun g tk hS hk => ?_
  have e : xs.take its.toArray.size = xs := List.take_of_length_le (by simp [hlen])
  rw [e] at hS
  exact ⟨.ref _, _, I.laid (t' := tk) hk (Nat.le_refl _) (setTO_new hS), rfl, q _ (I.hok.fresh (Nat.le_refl _))⟩
def rSetA (K : PySem.W.Frag) (P : Program) (w : World) : List V → Hp → VK → Prop := fun vs H Q => rSetLD K w vs H Q ∨ rSetLT K P w vs H Q
theorem cr_setA (hc : X.calm = true) : CallR X (.type "set") (rSetA X.K X.prog X.w) := by
  intro pins s σ H vs us Q I r h
  rcases h with h | h
  · exact cr_setLD hc pins s σ H vs us Q I r h
  · exact cr_setLT hc pins s σ H vs us Q I r h
def rSortA (P : Program) (w : World) : List V → Hp → VK → Prop := fun vs H Q => rSortedSet w vs H Q ∨ rSortTx P w vs H Q
theorem cr_sortA (hc : X.calm = true) : CallR X (.builtin "sorted") (rSortA X.prog X.w) := by
  intro pins s σ H vs us Q I r h
  rcases h with h | h
  · exact cr_sortedSet hc pins s σ H vs us Q I r h
  · exact cr_sortTx hc pins s σ H vs us Q I r h
theorem dd_rev_len {α : Type} [DecidableEq α] (xs : List α) : (dd xs.reverse).Perm (dd xs) :=
  (List.perm_ext_iff_of_nodup (dd_nodup _) (dd_nodup _)).mpr fun k => by rw [mem_dd, mem_dd, List.mem_reverse]
/-- sorted(set(xs)) -/
def dSortSetA : PyData → R PyData
  | .list ds => match intsOf ds with
    | some ns => if ns.length ≤ 1000 ∧ (dd ns).length ≤ 63 then .ok (.list ((sortI (dd ns)).map .int)) else .no
    | none => match strsOf ds with
      | some xs => if xs.length ≤ 1000 ∧ (dd xs).length ≤ 63 then .ok (.list ((sortS (dd xs)).map .str)) else .no
      | none => .no
  | _ => .no
def mSortSetA (m : M) : M := fun Γ => (m Γ).bind dSortSetA
theorem se_sortsetA {E : XK} {a : Expr} {m : M} {p p2 q pos : Pos} (hc : X.calm = true) (hm : X.mg "sorted" = none) (hm2 : X.mg "set" = none) (ha : SE X E a m) (hg : Gl X "sorted" := by exact rfl) (hg2 : Gl X "set" := by exact rfl)
    (na : starEach [a] X.env = (false, eval a X.env) :: starEach [] X.env := by rfl)
    (nb : starEach [.Call (.Name "set" p2) [a] [] q] X.env = (false, eval (.Call (.Name "set" p2) [a] [] q) X.env) :: starEach [] X.env := by rfl) : SE X E (.Call (.Name "sorted" p) [.Call (.Name "set" p2) [a] [] q] [] pos) (mSortSetA m) := by
  have h1 := pe_callTy (p := p2) (pos := q) (cr_setA hc) hg2 hm2 (by decide +kernel) (pa_cons ha pa_nil na) (hn := by decide) (hdb := by decide) (he := na) (hpl := by rfl)
  refine pe_of (pe_callB (p := p) (pos := pos) (cr_sortA hc) hg hm (by decide +kernel) (pa_cons h1 pa_nil nb) (hn := by decide) (hdb := by decide) (he := nb) (hpl := by rfl)) fun σ H Q ⟨B, Γ, G, sr, po⟩ => ⟨B, Γ, G, sr, Po.bind po fun d x G1 H1 _ g1 dx po1 => ?_⟩
  cases dx with
  | @lst l xs ds h1 a1 =>
    replace po1 : Po (Dq X.K) X.mg E G1 H1 Q (match intsOf ds with
      | some ns => if ns.length ≤ 1000 ∧ (dd ns).length ≤ 63 then R.ok (PyData.list ((sortI (dd ns)).map .int)) else .no
      | none => match strsOf ds with
        | some xs => if xs.length ≤ 1000 ∧ (dd xs).length ≤ 63 then R.ok (PyData.list ((sortS (dd xs)).map .str)) else .no
        | none => .no) := po1
    cases e : intsOf ds with
    | some ns =>
      rw [e] at po1
      have := intsOf_eq e; subst this
      have := dpa_ints a1; subst this
      dsimp only at po1
      split at po1
      · rename_i h
        refine .inl ⟨l, ns, rfl, sq1 g1.s h1, h.1, fun p hp => .inl ⟨p, _, _, rfl, upd_same, by rw [(dd_rev_len ns).length_eq]; omega, fun ns' p3 up mem len hp3 => ?_⟩⟩
        have : ns' = sortI (dd ns) := asc_eq up (sortI_lt (dd_nodup ns)) fun k => by
          rw [mem, decide_eq_true_eq, (sortI_perm (dd ns)).mem_iff, mem_dd]
        subst this
        have g2 : Gr G1 H1 G1 (upd H1 p (SetO X.w p (fun j => decide (j ∈ ns)) (dd ns.reverse).length)) := ⟨fun _ _ e => e, le_upd hp, le_trans g1.s (le_upd hp), fun a _ h => h⟩
        exact po_lst (po1.gr g2) g2.s hp3 (dpa_ofInts _)
      · exact po1.elim
    | none =>
      rw [e] at po1
      dsimp only at po1
      cases e2 : strsOf ds with
      | none => rw [e2] at po1; exact po1.elim
      | some ss =>
        rw [e2] at po1
        have := strsOf_eq e2; subst this
        have := dpa_strs a1; subst this
        dsimp only at po1
        split at po1
        · rename_i h
          refine .inr ⟨l, ss, rfl, sq1 g1.s h1, h.1, fun p hp => .inr ⟨p, _, rfl, upd_same, dd_nodup _, by rw [(dd_rev_len ss).length_eq]; omega, fun p3 hp3 => ?_⟩⟩
          have e : sortS (dd ss.reverse) = sortS (dd ss) := sortS_congr (dd_rev_len ss)
          rw [e]
          have g2 : Gr G1 H1 G1 (upd H1 p (SetTO X.prog X.w p (dd ss.reverse))) := ⟨fun _ _ e => e, le_upd hp, le_trans g1.s (le_upd hp), fun a _ h => h⟩
          exact po_lst (po1.gr g2) g2.s hp3 (dpa_ofStrs _)
        · exact po1.elim
  | _ => exact po1.elim
end
end PD

/-! The data layer: len(set(xs)), a list of tuples of texts and ints. -/
namespace PD
open PySem PySem.Spec PyProof.Rows L2
/-! ### set(xs), the members in the old heap -/
section
variable {prog : Program} {w : World} {A : Around} {R : Result → Shared → Prop} {I S : Addr} {fp wr : List Addr} {G : Array GenState → Array GenState → Prop} {n : Nat} {Pv : Nat → Value → Prop} {St : Nat → Shared → Prop} {T : Nat → Heap → Prop} {h0 : Heap}
/-- T speaks of the object at S and of the old heap -/
def Own2 (h0 : Heap) (S : Addr) (T : Nat → Heap → Prop) : Prop := ∀ i (h k : Heap), (∀ o, h.get? S = some o → k.get? S = some o) → (∀ b o, h0.get? b = some o → k.get? b = some o) → T i h → T i k
def Adds2 (prog : Program) (w : World) (A : Around) (h0 : Heap) (S : Addr) (T : Nat → Heap → Prop) (Pv : Nat → Value → Prop) : Prop :=
  ∀ (i : Nat) (v : Value) (s : Shared) (Q : Bool → Shared → Prop) (E : Value → Shared → Prop), Pv i v → (∀ b o, h0.get? b = some o → s.heap.get? b = some o) → T i s.heap → (∀ b g k, Heap.SameBut S s.heap g → T (i + 1) g → Q b { s with heap := g, toks := s.toks + k }) → wpAny (model prog w) A (setAdd S v) Q E s
theorem fill2 (W : WalksS prog w A.in1 I fp wr G n Pv St) (nS : S ∉ fp) (hS0 : h0.get? S = none) (hw0 : ∀ b ∈ wr, h0.get? b = none) (hT : Own2 h0 S T) (hA : Adds2 prog w A.in1 h0 S T Pv) : ∀ (m j : Nat) (s : Shared), n - j = m → j ≤ n → St j s → (∀ b o, h0.get? b = some o → s.heap.get? b = some o) → T j s.heap →
    (∀ u, Moved (S :: wr) G s u → T n u.heap → R (.ok (.ret .none)) u) → codeAny (model prog w) A (.builtin "set.update.loop" ⟨[.ref S, .ref I], []⟩) R s := by
  have nw : S ∉ wr := fun z => nS (W.sub _ z)
  have up : ∀ c ∈ wr, c ∈ S :: wr := fun c hc => .tail _ hc
  have old : ∀ {s u : Shared}, Moved wr G s u → (∀ b o, h0.get? b = some o → s.heap.get? b = some o) → ∀ b o, h0.get? b = some o → u.heap.get? b = some o := fun mv hk b o e =>
    mv.heap b o (fun z => by rw [hw0 b z] at e; cases e) (hk b o e)
  intro m
  induction m with
  | zero =>
    intro j s hm hj st hk t hR
    obtain rfl : j = n := by omega
    refine codeAny_builtin F.entry_set_update_loop ?_
    rw [Around.under_plainId F.plain_set_update_loop _]
    change wpAny _ A.in1 (pyNext (.ref I) >>= _) _ _ s
    refine wpAny_bind (W.done s _ _ st fun u mv => ?_)
    change wpAny _ A.in1 (ret Value.none) _ _ u
    exact wpAny_pure (hR u (mv.mono up) (hT _ _ _ (fun o e => mv.heap S o nw e) (old mv hk) t))
  | succ m ih =>
    intro j s hm hj st hk t hR
    have lt : j < n := by omega
    refine codeAny_builtin F.entry_set_update_loop ?_
    rw [Around.under_plainId F.plain_set_update_loop _]
    change wpAny _ A.in1 (pyNext (.ref I) >>= _) _ _ s
    refine wpAny_bind (W.item j s _ _ lt st fun v u pv st2 mv => ?_)
    change wpAny _ A.in1 (holding [v] (setAdd S v) >>= _) _ _ u
    refine wpAny_bind (wpAny_holding (hA j v u _ _ pv (old mv hk) (hT _ _ _ (fun o e => mv.heap S o nw e) (old mv hk) t) fun b g k sb t2 => ?_))
    have keep : ∀ c, c ≠ S → ∀ o, u.heap.get? c = some o → g.get? c = some o := fun c nc o e => by rw [sb.2 c nc]; exact e
    have hk2 : ∀ b o, h0.get? b = some o → g.get? b = some o := fun b o e => keep b (fun z => by rw [z, hS0] at e; cases e) o (old mv hk b o e)
    refine wpAny_pure ⟨plainId_quiet F.plain_set_update_loop _, ih (j + 1) _ (by omega) lt (W.frame _ u _ _ st2 (Nat.le_add_right _ _) fun c hc o e => keep c (fun z => nS (z ▸ hc)) o e) hk2 t2 fun x mx tx => ?_⟩
    exact hR x (Moved.trans W.gtrans ((mv.mono up).then_heap (Nat.le_add_right _ _) fun c o hc e => keep c (fun z => hc (z ▸ .head _)) o e) mx) tx
end
theorem get_size_none (h : Heap) {b : Addr} (hb : h.objs.size ≤ b) : h.get? b = none := by
  cases q : h.get? b with
  | none => rfl
  | some o => exact absurd (Nat.lt_of_lt_of_le (Heap.lt_size q) hb) (Nat.lt_irrefl _)
section
variable {prog : Program} {w : World} {A : Around} {E : Value → Shared → Prop} {s : Shared} {T : Nat → Heap → Prop}
theorem set_of2 {l : Addr} {its : Array Value} {Q : Value → Shared → Prop} (calm : A.handled = none) (hl : s.heap.IsList l its) (hT : Own2 s.heap s.heap.objs.size T)
    (hA : ∀ B : Around, B.handled = none → B.units ≤ A.units + 8 → Adds2 prog w B s.heap s.heap.objs.size T fun i v => its[i]? = some v) (h0 : ∀ g : Heap, g.get? s.heap.objs.size = some (newSet w) → (∀ b o, s.heap.get? b = some o → g.get? b = some o) → T 0 g)
    (hQ : ∀ (g : Heap) (tk : Nat), T its.size g → (∀ b o, s.heap.get? b = some o → g.get? b = some o) → Q (.ref s.heap.objs.size) { s with heap := g, toks := tk }) :
    wpAny (model prog w) A (call (.type "set") [.ref l]) Q E s := by
  have ⟨c, tl, mro⟩ := PySem.F.called_set.mro
  have a1 := PySem.F.called_set.made; have a2 := PySem.F.called_set.sub; have a3 := PySem.F.called_set.notType; have a4 := PySem.F.called_set.canCreate; have a5 := PySem.F.typeCall_set_1 (.ref l)
  have a6 := PySem.F.called_set.init.lookup; have a7 := PySem.F.called_set.init.bind (.ref s.heap.objs.size)
  refine wpAny_call (codeAny_of_tree (show wpAny _ _ (callAny (.type "set") _) _ _ _ from wpAny_pure ⟨Code.quiet_builtin _ (by decide +kernel), codeAny_builtin PySem.F.entry_type_call ?_⟩))
  rw [Around.under_plain (weight_type_call_type "set" [.ref l] []) rfl]
  repeat (any_goals (first | assumption | wp_step))
  refine codeAny_mono (L2.code_set_led1 (.ref l) (E := E) (Q₁ := fun v u => v = .ref s.heap.objs.size ∧ u = { s with heap := s.heap.push (newSet w) }) ⟨rfl, rfl⟩) fun r u hr => ?_
  match r, hr with
  | .error e, hr => exact hr
  | .ok (.ret v), hr =>
    obtain ⟨rfl, rfl⟩ := hr
    have b1 : (s.heap.push (newSet w)).get? s.heap.objs.size = some (newSet w) := Heap.get?_push_size _ rfl
    have b2 : Shared.TypeIs { s with heap := s.heap.push (newSet w) } (.ref s.heap.objs.size) "set" := ⟨_, b1, rfl⟩
    repeat (any_goals (first | assumption | wp_step))
    refine codeAny_mono (codeAny_call_builtin (R := wants (fun v u => v = .none ∧ ∃ g tk, u = { s with heap := g, toks := tk } ∧ T its.size g ∧ ∀ b o, s.heap.get? b = some o → g.get? b = some o) E) PySem.F.called_set.init.plain PySem.F.entry_set_init (check_set_init_1 b2 ?_)) fun r2 u2 hr2 => ?_
    · have ⟨ol, e1, e2, nl, e3⟩ := hl
      have ll : l < s.heap.objs.size := Heap.lt_size e1
      have l1 : (s.heap.push (newSet w)).IsList l its := hl.push _
      have c1 := PySem.F.sub_list_set; have c2 := PySem.F.sub_list_frozenset
      have c3 : (Value.type "list" == Value.type "dict") = false := by decide
      obtain ⟨oc, od, oda, osl⟩ := ol
      simp only at e2 e3
      subst e2 e3
      have e4 := Heap.get?_push_of_some (newSet w) e1
      unfold Builtin.«set.__init__» noKeywords Builtin.Frozenset.updateFrom
      generalize hp : pyIter = py
      wp_walk
      subst hp
      refine wpAny_pyIter_list l1 (wpAny_bind (wpAny_runValue ?_))
      have z : (s.heap.push (newSet w)).objs.size = s.heap.objs.size + 1 := Heap.size_push ..
      have q0 : A.in1.in1.in1.handled = none := by simp [calm]
      have nS2 : s.heap.objs.size ∉ [(s.heap.push (newSet w)).objs.size, l] := fun m => by
        rw [z] at m
        rcases List.mem_cons.mp m with m | m
        · exact absurd m (Nat.ne_of_lt (Nat.lt_succ_self _))
        · exact absurd (List.mem_singleton.mp m) (Nat.ne_of_gt ll)
      have old : ∀ b o, s.heap.get? b = some o → ((s.heap.push (newSet w)).push { cls := .type "list_iterator", data := .fields #[.ref l, .int 0 0] }).get? b = some o := fun b o e => Heap.get?_push_of_some _ (Heap.get?_push_of_some _ e)
      refine fill2 (h0 := s.heap) (Walks.list q0 _ l (z ▸ Nat.ne_of_lt (Nat.lt_succ_of_lt ll)) its).toS nS2 (get_size_none _ (Nat.le_refl _)) (fun b hb => get_size_none _ (by rw [List.mem_singleton.mp hb, z]; exact Nat.le_succ _)) hT (hA _ (by simp [calm]) (by show A.units + 1 + 1 + 1 ≤ A.units + 8; omega)) (its.size - 0) 0 _ rfl (Nat.zero_le _) ⟨⟨_, Heap.get?_push_size _ rfl, rfl, rfl⟩, l1.push _⟩ old (h0 _ (Heap.get?_push_of_some _ b1) old) fun u mv tn => ?_
      obtain ⟨g, gs, dr, tk, os⟩ := u
      obtain rfl : gs = s.gens := mv.gens
      obtain rfl : dr = s.drawn := mv.drawn
      obtain rfl : os = s.os := mv.os
      refine (show wpAny _ _ _ _ _ _ from wpAny_pure (show wpAny _ _ (ret Value.none) _ _ _ from wpAny_pure ⟨rfl, g, tk, rfl, tn, fun b o e => ?_⟩))
      have lb := Heap.lt_size e
      refine mv.heap b o (fun m => ?_) (Heap.get?_push_of_some _ (Heap.get?_push_of_some _ e))
      rcases List.mem_cons.mp m with m | m
      · exact absurd m (Nat.ne_of_lt lb)
      · exact absurd (List.mem_singleton.mp m) (z ▸ Nat.ne_of_lt (Nat.lt_succ_of_lt lb))
    · match r2, hr2 with
      | .error e, hr2 => exact hr2
      | .ok (.ret v), hr2 =>
        obtain ⟨rfl, g, tk, rfl, t1, t2⟩ := hr2
        repeat (any_goals (first | assumption | wp_step))
        exact hQ g tk t1 t2
end
/-! ### the keys -/
section
variable {P : Program} {w : World} {A : Around} {E : Value → Shared → Prop} {s : Shared}
abbrev TKey : Type := List Key
abbrev tkH (P : Program) (w : World) (k : TKey) : Int := tupleKeyHash (mixKind P w) k
abbrev IsK (P : Program) (w : World) (h : Heap) (k : TKey) (b : Addr) : Prop := IsTupleKey (mixKind P w) h k b
/-- the value asks nothing of a class -/
def Dull (v : Value) : Prop := (∀ n, ofAClassStatement n v = pure false) ∧ ∀ n, hashByValue n v = pure (plainKind v)
theorem mix_dull {k : Key} {v : Value} (h : (mixKind P w).is k v = true) : Dull v := by
  rcases keyIs_shape h with ⟨i, t, rfl, rfl⟩ | ⟨x, t, rfl, rfl⟩
  · exact ⟨fun n => by cases n <;> rfl, fun n => hashByValue_scannable n rfl⟩
  · exact ⟨fun n => by cases n <;> rfl, fun n => hashByValue_scannable n rfl⟩
theorem items_dull {k : TKey} {vs : List Value} (h : ItemsAre (mixKind P w) k vs) : ∀ v ∈ vs, Dull v := by
  induction h with
  | nil => intro v hv; cases hv
  | @cons k0 v' ks vs h1 _ ih =>
    intro v hv
    rcases List.mem_cons.mp hv with e | hv
    · exact e ▸ mix_dull h1
    · exact ih v hv
theorem ofAClass_k {k : TKey} {b : Addr} {Q : Bool → Shared → Prop} (hk : IsK P w s.heap k b) (h : Q false s) : wpAny (model P w) A (ofAClassStatement 8 (.ref b)) Q E s := by
  have hT := hk.typeIs
  obtain ⟨o, items, n, ho, _, hd, hi⟩ := hk
  unfold ofAClassStatement
  refine wpAny_bind (wpAny_typeOf hT ?_)
  dsimp only
  have e : (("tuple" : String) == "tuple") = true := by decide
  simp only [e, if_true, Bool.not_true, Bool.false_eq_true, if_false]
  try refine wpAny_bind (wpAny_pure ?_)
  try simp only [Bool.not_true, Bool.false_eq_true, if_false]
  show wpAny _ _ (seqItems? (.ref b) >>= _) _ _ s
  refine wpAny_bind (wpAny_seqItems ho hd ?_)
  dsimp only
  refine wpAny_bind ?_
  show wpAny _ _ (forIn items _ _) _ _ s
  rw [← Array.forIn_toList]
  refine wpAny_forIn_list _ (fun rest r s' => r.1 = none ∧ s' = s ∧ ∀ v ∈ rest, Dull v) _ ?_ ?_ _ _ ⟨rfl, rfl, items_dull hi⟩
  · rintro v rest r s' ⟨hr, rfl, hall⟩
    rw [(hall v List.mem_cons_self).1]
    refine wpAny_bind (wpAny_pure ?_)
    simp only [Bool.false_eq_true, if_false]
    exact wpAny_pure ⟨rfl, rfl, fun u hu' => hall u (List.mem_cons_of_mem _ hu')⟩
  · rintro ⟨r1, r2⟩ s' ⟨hr, rfl, _⟩
    simp only at hr
    subst hr
    exact wpAny_pure h
theorem hashBy_k {k : TKey} {b : Addr} {Q : Bool → Shared → Prop} (hk : IsK P w s.heap k b) (h : ∀ r, Q r s) : wpAny (model P w) A (hashByValue 8 (.ref b)) Q E s := by
  have hT := hk.typeIs
  obtain ⟨o, items, n, ho, _, hd, hi⟩ := hk
  unfold hashByValue
  refine wpAny_bind (wpAny_specialOf hT F.slot_tuple_hash.lookup ?_)
  show wpAny _ _ (seqItems? (.ref b) >>= _) _ _ s
  refine wpAny_bind (wpAny_seqItems ho hd ?_)
  refine wpAny_bind ?_
  show wpAny _ _ (forIn items _ _) _ _ s
  rw [← Array.forIn_toList]
  refine wpAny_forIn_list _ (fun rest r s' => r.1 = none ∧ s' = s ∧ ∀ v ∈ rest, Dull v) _ ?_ ?_ _ _ ⟨rfl, rfl, items_dull hi⟩
  · rintro v rest r s' ⟨hr, rfl, hall⟩
    rw [(hall v List.mem_cons_self).2]
    refine wpAny_bind (wpAny_pure ?_)
    cases plainKind v with
    | true =>
      simp only [Bool.not_true, Bool.false_eq_true, if_false]
      exact wpAny_pure ⟨rfl, rfl, fun u hu' => hall u (List.mem_cons_of_mem _ hu')⟩
    | false =>
      simp only [Bool.not_false, if_true]
      exact wpAny_pure (wpAny_pure (h false))
  · rintro ⟨r1, r2⟩ s' ⟨hr, rfl, _⟩
    simp only at hr
    subst hr
    exact wpAny_pure (h true)
def AKey (P : Program) (w : World) (h : Heap) (y : Value) : Prop := ∃ k c, y = Value.ref c ∧ IsK P w h k c
theorem seen_k {k : TKey} {b : Addr} {Q : Bool → Shared → Prop} (hk : IsK P w s.heap k b) {ys : List Value} (hy : ∀ y ∈ ys, AKey P w s.heap y) (h : Q false s) :
    wpAny (model P w) A (searchCouldBeSeen (.ref b) ys) Q E s := by
  unfold searchCouldBeSeen
  refine wpAny_bind ?_
  refine wpAny_forIn_list _ (fun rest r s' => r.1 = none ∧ s' = s ∧ ∀ y ∈ rest, AKey P w s.heap y) _ ?_ ?_ _ _ ⟨rfl, rfl, hy⟩
  · rintro v rest r s' ⟨hr, rfl, hall⟩
    obtain ⟨k', c, rfl, hc⟩ := hall v List.mem_cons_self
    have rest' : ∀ y ∈ rest, AKey P w s'.heap y := fun u hu' => hall u (List.mem_cons_of_mem _ hu')
    dsimp only
    by_cases hv : (b == c || (carriedByValue (.ref b) && carriedByValue (.ref c))) = true
    · refine wp_if_pos hv ?_
      exact wpAny_pure ⟨rfl, rfl, rest'⟩
    · refine wp_if_neg hv ?_
      refine wpAny_bind (wpAny_eqIsQuiet_tuple hk ?_)
      simp only [Bool.not_true, Bool.false_eq_true, if_false]
      refine wpAny_bind (wpAny_eqIsQuiet_tuple hc ?_)
      simp only [Bool.not_true, Bool.false_eq_true, if_false]
      refine wpAny_bind (ofAClass_k hk ?_)
      simp only [Bool.false_eq_true, if_false]
      refine wpAny_bind (ofAClass_k hc ?_)
      simp only [Bool.false_eq_true, if_false]
      exact wpAny_pure ⟨rfl, rfl, rest'⟩
  · rintro ⟨r1, r2⟩ s' ⟨hr, rfl, _⟩
    simp only at hr
    subst hr
    exact wpAny_pure h
end
end PD

/-! The data layer: a set of tuples of texts and ints, its table. -/
namespace PD
open PySem PySem.Spec PyProof.Rows L2
section
variable {P : Program} {w : World} {A : Around} {E : Value → Shared → Prop} {s : Shared}
/-- the set at a has the keys S -/
structure TkS (P : Program) (w : World) (O : Addr → Prop) (h : Heap) (a : Addr) (S : List TKey) (es : Array (Int × Value)) (ep : Nat) (t : SetTable) : Prop where
  ob : ∃ o, h.get? a = some o ∧ o.ExactSet ∧ o.data = .set es ep t
  els : ∀ e ∈ es.toList, ∃ k b, e = (tkH P w k, Value.ref b) ∧ IsK P w h k b ∧ O b
  mem : ∀ k, k ∈ S ↔ ∃ b, (tkH P w k, Value.ref b) ∈ es.toList ∧ IsK P w h k b
  sz : es.size = S.length
  tab : TabOk t (es.toList.map (·.1))
  room : S.length * 5 < t.mask * 3
variable {O : Addr → Prop} {a : Addr} {S : List TKey} {es : Array (Int × Value)} {ep : Nat} {t : SetTable}
theorem TkS.psz (R : TkS P w O s.heap a S es ep t) : t.place.size = S.length := by
  have h1 := R.tab.sz
  rw [List.length_map, Array.length_toList] at h1
  rw [h1, R.sz]
theorem TkS.fits (R : TkS P w O s.heap a S es ep t) : t.fits es.size = true := by
  have h1 := R.psz
  have h2 := R.sz
  have h3 := R.room
  unfold SetTable.fits SetTable.fill
  rw [R.tab.dm, Bool.and_eq_true, beq_iff_eq, decide_eq_true_eq]
  show t.place.size = es.size ∧ t.place.size + 0 ≤ t.mask
  omega
theorem TkS.gw (R : TkS P w O s.heap a S es ep t) : ¬ t.gaveWay = true := by
  unfold SetTable.gaveWay
  rw [mask_odd R.tab.mok]
  decide
theorem IsK.keep {h h' : Heap} {k : TKey} {b : Addr} (x : IsK P w h k b) (hk : ∀ c o, h.get? c = some o → o.cls = .type "tuple" → h'.get? c = some o) : IsK P w h' k b := by
  obtain ⟨o, items, n, ho, hc, r⟩ := x
  exact ⟨o, items, n, hk b o ho hc, hc, r⟩
theorem IsK.but {h h' : Heap} {k : TKey} {b : Addr} {o : Obj} (x : IsK P w h k b) (ho : h.get? a = some o) (hd : o.data = .set es ep t) (hs : Heap.SameBut a h h') : IsK P w h' k b := by
  obtain ⟨o', items, n, ho', hc, hd', r⟩ := x
  have ne : b ≠ a := by
    rintro rfl
    obtain rfl : o' = o := Option.some.inj (ho'.symm.trans ho)
    rw [hd] at hd'
    exact nomatch hd'
  exact ⟨o', items, n, (hs.2 b ne).trans ho', hc, hd', r⟩
theorem nth_dummy (m : Nat) : ∀ (n : Nat) (p : SetTable.Probe), p.dummy = none → (nth m p n).dummy = none
  | 0, p, h => h
  | n + 1, p, h => nth_dummy m n _ (by unfold adv; split <;> exact h)
/-- where the way of k begins -/
abbrev beg (t : SetTable) (h : Int) : SetTable.Probe := runAt t.mask (SetTable.bits h % (t.mask + 1)) (SetTable.bits h)
theorem look (R : TkS P w O s.heap a S es ep t) {x : Addr} {k : TKey} (hx : IsK P w s.heap k x) (hu : A.units < cLine) {K : Nat} (hKf : K < 10 * SetTable.turns t.mask)
    (hK : way t.mask (tkH P w k) K ∉ t.place.toList) (hKb : ∀ c, c < K → way t.mask (tkH P w k) c ∈ t.place.toList) {Q : SetFound → Shared → Prop}
    (hin : k ∈ S → Q (.there none) s) (hout : k ∉ S → Q (.free (way t.mask (tkH P w k) K) false) s) :
    ∀ (f c : Nat) (st : Option SetTable.Probe), st.getD (t.probeStart (tkH P w k)) = nth t.mask (beg t (tkH P w k)) c → c ≤ K → K - c < f →
      (∀ (i : Nat) b, es.toList[i]? = some (tkH P w k, Value.ref b) → IsK P w s.heap k b → ∃ c', c ≤ c' ∧ c' < K ∧ t.place.toList[i]? = some (way t.mask (tkH P w k) c')) →
      wpAny (model P w) A (setSearchFrom a (.ref x) (tkH P w k) true f st) Q E s
  | 0, _, _, _, _, hf, _ => absurd hf (Nat.not_lt_zero _)
  | f + 1, c, st, hst, hc, hf, hre => by
    obtain ⟨o, ho, hex, hd⟩ := R.ob
    rw [setSearchFrom_succ]
    refine wpAny_bind (wpAny_setState_of ho hd R.fits ?_)
    dsimp only
    refine wp_if_neg R.gw ?_
    try refine wpAny_bind (wpAny_pure ?_)
    have e1 : ∀ q, (nth t.mask (nth t.mask (beg t (tkH P w k)) c) q).j = way t.mask (tkH P w k) (c + q) := fun q => congrArg SetTable.Probe.j (nth_add t.mask c _ q).symm
    have hat : ∀ (i : Nat) (e : Int × Value), es.toList[i]? = some e → (es[i]?.map (·.1)).getD 0 = e.1 := fun i e he => by
      rw [Array.getElem?_toList] at he
      rw [he]
      rfl
    rcases go_spec t R.tab.ris R.tab.dm (fun i => (es[i]?.map (·.1)).getD 0) (tkH P w k) (10 * SetTable.turns t.mask) (K - c) _ (nth_dummy t.mask c (beg t (tkH P w k)) rfl) (by omega)
      (fun q hq => by rw [e1]; exact hKb (c + q) (by omega)) (by rw [e1, show c + (K - c) = K by omega]; exact hK) with ⟨q, i, hq, hi, hh, hno, hpr⟩ | ⟨hno, hpr⟩
    · have hpr2 : t.probe (fun i => (es[i]?.map (·.1)).getD 0) (tkH P w k) (st.getD (t.probeStart (tkH P w k))) = some (.candidate (way t.mask (tkH P w k) (c + q)) i (nth t.mask (beg t (tkH P w k)) (c + (q + 1)))) := by
        rw [hst, ← e1, nth_add t.mask c _ (q + 1)]
        exact hpr
      rw [hpr2]
      dsimp only
      rw [e1] at hi
      have hil : i < es.toList.length := by
        have h1 : i < t.place.toList.length := (List.getElem?_eq_some_iff.mp hi).1
        rw [Array.length_toList, R.psz] at h1
        rw [Array.length_toList, R.sz]
        exact h1
      have hp := List.getElem?_eq_getElem hil
      obtain ⟨k2, b, hkb, hb, _⟩ := R.els _ (List.getElem_mem hil)
      rw [hkb] at hp
      have hp2 : es[i]? = some (tkH P w k2, Value.ref b) := by rw [← Array.getElem?_toList]; exact hp
      have hsl : t.slot (way t.mask (tkH P w k) (c + q)) = .live i := slot_live R.tab.ris hi
      have rest : wpAny (model P w) A (searchRest a (.ref x) (tkH P w k) true f es t (way t.mask (tkH P w k) (c + q)) i (nth t.mask (beg t (tkH P w k)) (c + (q + 1)))) Q E s := by
        unfold searchRest
        rw [hp2]
        dsimp only
        refine wpAny_bind (wpAny_holding (wpAny_eqBool_tuple hu hb hx ?_))
        refine wpAny_bind (wpAny_setState_of ho hd R.fits ?_)
        dsimp only
        by_cases hkk : k2 = k
        · refine wp_if_pos (by simp [hkk]) ?_
          subst hkk
          exact wpAny_pure (hin ((R.mem _).mpr ⟨b, List.mem_of_getElem? hp, hb⟩))
        · refine wp_if_neg (by simp [hkk]) ?_
          try refine wpAny_bind (wpAny_pure ?_)
          rw [sameMem]
          dsimp only
          simp only [if_true, hsl, hp2]
          refine wpAny_bind (wpAny_isSame_ref_self (wpAny_bind (wpAny_pure ?_)))
          simp only [if_true]
          refine wp_if_neg (by simp [hkk]) ?_
          refine look R hx hu hKf hK hKb hin hout f (c + (q + 1)) _ rfl (by omega) (by omega) fun i0 b0 h0 hb0 => ?_
          obtain ⟨c', a1, a2, a3⟩ := hre i0 b0 h0 hb0
          refine ⟨c', ?_, a2, a3⟩
          rcases Nat.lt_trichotomy c' (c + q) with z | z | z
          · exact absurd (hat i0 _ h0) (hno (c' - c) i0 (by omega) (by rw [e1, show c + (c' - c) = c' by omega]; exact a3))
          · exfalso
            rw [z] at a3
            have s0 := slot_live R.tab.ris a3
            rw [hsl] at s0
            injection s0 with s0
            rw [← s0, hp] at h0
            have h1 := Option.some.inj h0
            injection h1 with _ h2
            injection h2 with h3
            subst h3
            exact hkk (hb.inj hb0)
          · omega
      by_cases hl : t.led = true
      · refine wp_if_neg (by simp [hl]) ?_
        try refine wpAny_bind (wpAny_pure ?_)
        exact rest
      · refine wp_if_pos (by simp [hl]) ?_
        refine wpAny_bind (seen_k hx (fun y hy => ?_) ?_)
        · obtain ⟨e, he, ee⟩ := List.mem_map.mp hy
          have he1 : e ∈ es ∧ e.1 = tkH P w k := by simpa using he
          obtain ⟨k3, b3, e3, h3, _⟩ := R.els e (by simpa using he1.1)
          exact ⟨k3, b3, by rw [← ee, e3], h3⟩
        · refine wp_if_neg (by decide) ?_
          try refine wpAny_bind (wpAny_pure ?_)
          exact rest
    · have hpr2 : t.probe (fun i => (es[i]?.map (·.1)).getD 0) (tkH P w k) (st.getD (t.probeStart (tkH P w k))) = some (.empty (way t.mask (tkH P w k) K) none) := by
        have e2 : way t.mask (tkH P w k) K = (nth t.mask (nth t.mask (beg t (tkH P w k)) c) (K - c)).j := by
          rw [e1, show c + (K - c) = K by omega]
        rw [hst, e2]
        exact hpr
      rw [hpr2]
      dsimp only
      refine wpAny_pure (hout fun hm => ?_)
      obtain ⟨b, hb, ib⟩ := (R.mem k).mp hm
      obtain ⟨i0, hi0, e0⟩ := List.getElem_of_mem hb
      have h0 : es.toList[i0]? = some (tkH P w k, Value.ref b) := by rw [List.getElem?_eq_getElem hi0, e0]
      obtain ⟨c', a1, a2, a3⟩ := hre i0 b h0 ib
      exact hno (c' - c) i0 (by omega) (by rw [e1, show c + (c' - c) = c' by omega]; exact a3) (hat i0 _ h0)
theorem seek (R : TkS P w O s.heap a S es ep t) {x : Addr} {k : TKey} (hx : IsK P w s.heap k x) (hu : A.units < cLine) {Q : SetFound → Shared → Prop}
    (hin : k ∈ S → Q (.there none) s)
    (hout : ∀ K, k ∉ S → way t.mask (tkH P w k) K ∉ t.place.toList → (∀ c, c < K → way t.mask (tkH P w k) c ∈ t.place.toList) → Q (.free (way t.mask (tkH P w k) K) false) s) :
    wpAny (model P w) A (setSearch a (.ref x) (tkH P w k) true) Q E s := by
  have hroom := R.room
  have hs := R.sz
  obtain ⟨K, hKf, hK, hKb⟩ := R.tab.first (by rw [List.length_map, Array.length_toList]; omega) (tkH P w k)
  have hbig : K < 100000 := by
    have : 10 * SetTable.turns t.mask ≤ 1420 := by
      unfold SetTable.turns
      rcases R.tab.mok with e | e | e <;> omega
    omega
  unfold setSearch
  refine look R hx hu hKf hK hKb hin (fun hn => hout K hn hK hKb) 100000 0 none rfl (Nat.zero_le _) (by omega) fun i b hp hk => ?_
  have hi : (es.toList.map (·.1))[i]? = some (tkH P w k) := by rw [List.getElem?_map, hp]; rfl
  have hil : i < t.place.toList.length := by
    have h1 : i < es.toList.length := (List.getElem?_eq_some_iff.mp hp).1
    rw [Array.length_toList, hs] at h1
    rw [Array.length_toList, R.psz]
    exact h1
  obtain ⟨c, hc, e⟩ := R.tab.before hK hi (List.getElem?_eq_getElem hil)
  exact ⟨c, Nat.zero_le _, hc, by rw [List.getElem?_eq_getElem hil, e]⟩
end
end PD

/-! The data layer: a set of tuples of texts and ints, adding. -/
namespace PD
open PySem PySem.Spec PyProof.Rows L2
instance memK (k : TKey) (S : List TKey) : Decidable (k ∈ S) := @List.instDecidableMemOfLawfulBEq TKey instBEqOfDecidableEq inferInstance k S
theorem range_get {α : Type} (l : List α) : (List.range l.length).filterMap (fun i => l[i]?) = l := by
  have key : ∀ n, n ≤ l.length → (List.range n).filterMap (fun i => l[i]?) = l.take n := by
    intro n
    induction n with
    | zero => intro _; rfl
    | succ n ih =>
      intro hn
      rw [List.range_succ, List.filterMap_append, ih (by omega), List.take_succ, List.getElem?_eq_getElem hn]
      rw [List.filterMap_cons_some (List.getElem?_eq_getElem hn)]
      rfl
  rw [key _ (Nat.le_refl _), List.take_length]
theorem reorder (es : Array (Int × Value)) (order : Array Nat) (hp : order.toList.Perm (List.range es.size)) :
    (order.filterMap (es[·]?)).toList.Perm es.toList ∧ (order.filterMap (es[·]?)).toList.map (·.1) = order.toList.map fun i => (es.map (·.1)).getD i 0 := by
  have e0 : (order.filterMap (es[·]?)).toList = order.toList.filterMap fun i => es.toList[i]? := by
    rw [Array.toList_filterMap]
    congr 1
    funext i
    rw [Array.getElem?_toList]
  rw [e0]
  refine ⟨?_, ?_⟩
  · have h := hp.filterMap fun i => es.toList[i]?
    have e : es.size = es.toList.length := Array.length_toList.symm
    rw [e, range_get] at h
    exact h
  · have key : ∀ l : List Nat, (∀ i ∈ l, i < es.size) → (l.filterMap fun i => es.toList[i]?).map (·.1) = l.map fun i => (es.map (·.1)).getD i 0 := by
      intro l
      induction l with
      | nil => intro _; rfl
      | cons i l ih =>
        intro hl
        have hi := hl i List.mem_cons_self
        have hi2 : i < es.toList.length := by rw [Array.length_toList]; exact hi
        rw [List.filterMap_cons_some (List.getElem?_eq_getElem hi2), List.map_cons, List.map_cons, ih fun j hj => hl j (List.mem_cons_of_mem _ hj)]
        congr 1
        simp [Array.getD_eq_getD_getElem?, hi]
    exact key order.toList fun i hi => List.mem_range.mp (hp.mem_iff.mp hi)
theorem nodup_sub_len {α : Type} : ∀ {l m : List α}, l.Nodup → (∀ k ∈ l, k ∈ m) → l.length ≤ m.length
  | [], m, _, _ => Nat.zero_le _
  | x :: l, m, hn, hm => by
    obtain ⟨h1, h2⟩ := List.nodup_cons.mp hn
    obtain ⟨m1, m2, em⟩ := List.append_of_mem (hm x (by simp))
    have := nodup_sub_len (m := m1 ++ m2) h2 fun k hk => by
      have := hm k (by simp [hk])
      rw [em] at this
      rcases List.mem_append.mp this with z | z
      · exact List.mem_append_left _ z
      · rcases List.mem_cons.mp z with e | z
        · exact absurd (e ▸ hk) h1
        · exact List.mem_append_right _ z
    rw [em]
    simp only [List.length_append, List.length_cons] at this ⊢
    omega
section
variable {P : Program} {w : World} {A : Around} {E : Value → Shared → Prop} {s : Shared}
variable {O : Addr → Prop} {a : Addr} {S : List TKey} {es : Array (Int × Value)} {ep : Nat} {t : SetTable}
theorem relay {o : Obj} (ho : s.heap.get? a = some o) (hex : o.ExactSet) (hd : o.data = .set es ep t) (els : ∀ e ∈ es.toList, ∃ k b, e = (tkH P w k, Value.ref b) ∧ IsK P w s.heap k b ∧ O b)
    (mem : ∀ k, k ∈ S ↔ ∃ b, (tkH P w k, Value.ref b) ∈ es.toList ∧ IsK P w s.heap k b) (sz : es.size = S.length) (psz : t.place.size = es.size) (dm : t.dummies = #[]) (hfl : es.size ≤ t.mask) {wanted M : Nat}
    (hw : SetTable.sizeAbove wanted - 1 = M) (hM : MaskOk M) (hw2 : SetTable.sizeAbove wanted ≤ 128) (hn : S.length * 5 < M * 3) {Q : Unit → Shared → Prop}
    (hQ : ∀ h' es' ep' t', Heap.SameBut a s.heap h' → TkS P w O h' a S es' ep' t' → Q () { s with heap := h' }) : wpAny (model P w) A (setRelay a wanted) Q E s := by
  have hfits : t.fits es.size = true := by
    unfold SetTable.fits SetTable.fill
    rw [dm, Bool.and_eq_true, beq_iff_eq, decide_eq_true_eq]
    show t.place.size = es.size ∧ t.place.size + 0 ≤ t.mask
    omega
  obtain ⟨t', order, e, hp, T, em, el, ep', ed⟩ := relaid_ok t (hs := es.map (·.1)) (wanted := wanted) hw hM (by rw [Array.size_map, sz]; omega)
  rw [Array.size_map] at hp
  obtain ⟨r1, r2⟩ := reorder es order hp
  rw [← r2] at T
  have hs2 : (order.filterMap (es[·]?)).size = es.size := by
    rw [← Array.length_toList, r1.length_eq, Array.length_toList]
  rw [setRelay_eq]
  refine wpAny_bind (wpAny_setState_of ho hd hfits ?_)
  dsimp only
  refine wp_if_neg (by rw [sizeLine_eq]; omega) ?_
  try refine wpAny_bind (wpAny_pure ?_)
  rw [e]
  dsimp only
  refine wpAny_bind ?_
  refine wp_if_neg (by rw [hs2]; simp) ?_
  try refine wpAny_bind (wpAny_pure ?_)
  refine wpAny_pure ?_
  dsimp only
  refine wpAny_storeSet_of ho hd ?_ (by rw [hs2, sz, sizeLine_eq]; rcases hM with c | c | c <;> omega)
  have sb : Heap.SameBut a s.heap (s.heap.update a (Obj.putSet (order.filterMap (es[·]?)) t')) := Heap.SameBut.update ..
  refine hQ _ (order.filterMap (es[·]?)) (ep + 1) t' sb ⟨⟨_, store_at ho hd, ⟨hex.1, hex.2.1, hex.2.2⟩, rfl⟩, fun x hx => ?_, fun k => ?_, by rw [hs2, sz], T, by rw [em]; exact hn⟩
  · obtain ⟨k, b, e1, e2, e3⟩ := els x (r1.mem_iff.mp hx)
    exact ⟨k, b, e1, e2.but ho hd sb, e3⟩
  · rw [mem k]
    constructor
    · rintro ⟨b, h1, h2⟩
      exact ⟨b, r1.mem_iff.mpr h1, h2.but ho hd sb⟩
    · rintro ⟨b, h1, h2⟩
      obtain ⟨k', b', e1, e2, _⟩ := els _ (r1.mem_iff.mp h1)
      have e3 : b = b' := by injection e1 with _ z; injection z
      subst e3
      have := (e2.but ho hd sb).inj h2
      subst this
      exact ⟨b, r1.mem_iff.mp h1, e2⟩
theorem add_k (R : TkS P w O s.heap a S es ep t) {x : Addr} {k : TKey} (hx : IsK P w s.heap k x) (hO : O x) (hu : A.units < cLine) (hfew : S.length + 1 < 64) {Q : Bool → Shared → Prop}
    (hQ : ∀ b h' es' ep' t', Heap.SameBut a s.heap h' → TkS P w O h' a (if k ∈ S then S else k :: S) es' ep' t' → Q b { s with heap := h' }) :
    wpAny (model P w) A (setAddHashed a (.ref x) (tkH P w k)) Q E s := by
  obtain ⟨o, ho, hex, hd⟩ := R.ob
  have hsl := R.sz
  have hroom := R.room
  unfold setAddHashed
  refine wpAny_holding ?_
  rw [show (100000 : Nat) = 99999 + 1 from rfl, setAddHashedIn_succ]
  refine wpAny_bind (wpAny_setState_of ho hd R.fits ?_)
  dsimp only
  refine wp_if_neg (by simp [byScan, Value.scannable]) ?_
  try refine wpAny_bind (wpAny_pure ?_)
  refine wpAny_bind (seek R hx hu (fun hm => ?_) fun K hm hK hb => ?_)
  · dsimp only
    rw [if_pos hm] at hQ
    exact wpAny_pure (hQ false s.heap es ep t (Heap.SameBut.refl a s.heap) R)
  · rw [if_neg hm] at hQ
    dsimp only
    refine wpAny_bind (wpAny_setState_of ho hd R.fits ?_)
    dsimp only
    obtain ⟨q1, q2, q3, q4, q5, q6, q7, q8, q9⟩ := R.tab.put hK hb
    rw [List.length_map, Array.length_toList] at q2 q9
    generalize hpt : t.put (way t.mask (tkH P w k) K) = pt at q1 q3 q4 q5 q6 q7 q8 q9 ⊢
    obtain ⟨t1, p⟩ := pt
    dsimp only at q1 q3 q4 q5 q6 q7 q8 q9 ⊢
    subst q1
    have hin : (SetTable.insertAt es (SetTable.below t.place (way t.mask (tkH P w k) K)) (tkH P w k, Value.ref x)).toList = es.toList.take (SetTable.below t.place (way t.mask (tkH P w k) K)) ++ (tkH P w k, Value.ref x) :: es.toList.drop (SetTable.below t.place (way t.mask (tkH P w k) K)) := SetTable.toList_insertAt _ _ _
    generalize SetTable.below t.place (way t.mask (tkH P w k) K) = p at q2 q3 hin ⊢
    have pm : (SetTable.insertAt es p (tkH P w k, Value.ref x)).toList.Perm ((tkH P w k, Value.ref x) :: es.toList) := by rw [hin]; exact put_perm es.toList p _
    have hhs : (SetTable.insertAt es p (tkH P w k, Value.ref x)).toList.map (·.1) = (es.toList.map (·.1)).take p ++ tkH P w k :: (es.toList.map (·.1)).drop p := by
      rw [hin, List.map_append, List.map_cons, List.map_take, List.map_drop]
    rw [← hhs] at q3
    have hes : (SetTable.insertAt es p (tkH P w k, Value.ref x)).size = S.length + 1 := by
      rw [← Array.length_toList, pm.length_eq, List.length_cons, Array.length_toList, hsl]
    generalize SetTable.insertAt es p (tkH P w k, Value.ref x) = es1 at pm q3 hes ⊢
    have hT : ∀ r : Bool, TabOk (if r = true then t1 else { t1 with plain := false }) (es1.toList.map (·.1)) := fun r => by
      cases r
      · exact ⟨q3.ris, q3.dm, q3.sz, q3.mok, q3.bd, q3.reach⟩
      · exact q3
    have hmask : ∀ r : Bool, (if r = true then t1 else { t1 with plain := false }).mask = t.mask := fun r => by cases r <;> exact q4
    have hfull : ∀ r : Bool, (if r = true then t1 else { t1 with plain := false }).tooFull = t1.tooFull := fun r => by cases r <;> rfl
    have go : ∀ r : Bool, wpAny (model P w) A (do
        storeSet a es1 (if r = true then t1 else { t1 with plain := false })
        if (!false && (if r = true then t1 else { t1 with plain := false }).tooFull) = true then do
            setRelay a (SetTable.grown (es.size + 1))
            pure true
          else pure true) Q E s := fun r => by
      have hT := hT r
      have hmask := hmask r
      have hfull := hfull r
      generalize (if r = true then t1 else { t1 with plain := false }) = t2 at hT hmask hfull ⊢
      refine wpAny_bind (wpAny_storeSet_of ho hd ?_ (by rw [hes, sizeLine_eq]; omega))
      have sb : Heap.SameBut a s.heap (s.heap.update a (Obj.putSet es1 t2)) := Heap.SameBut.update ..
      have ho1 := store_at (es' := es1) (t' := t2) ho hd
      generalize s.heap.update a (Obj.putSet es1 t2) = h1 at sb ho1 ⊢
      have els1 : ∀ e ∈ es1.toList, ∃ k b, e = (tkH P w k, Value.ref b) ∧ IsK P w h1 k b ∧ O b := fun e he => by
        rcases List.mem_cons.mp (pm.mem_iff.mp he) with z | z
        · exact ⟨k, x, z, hx.but ho hd sb, hO⟩
        · obtain ⟨k', b, e1, e2, e3⟩ := R.els e z
          exact ⟨k', b, e1, e2.but ho hd sb, e3⟩
      have mem1 : ∀ k', k' ∈ k :: S ↔ ∃ b, (tkH P w k', Value.ref b) ∈ es1.toList ∧ IsK P w h1 k' b := fun k' => by
        constructor
        · intro h
          rcases List.mem_cons.mp h with z | z
          · exact ⟨x, pm.mem_iff.mpr (by rw [z]; exact List.mem_cons_self), by rw [z]; exact hx.but ho hd sb⟩
          · obtain ⟨b, h1, h2⟩ := (R.mem k').mp z
            exact ⟨b, pm.mem_iff.mpr (List.mem_cons_of_mem _ h1), h2.but ho hd sb⟩
        · rintro ⟨b, hb1, hb2⟩
          rcases List.mem_cons.mp (pm.mem_iff.mp hb1) with z | z
          · have e3 : b = x := by injection z with _ z; injection z
            subst e3
            rw [hb2.inj (hx.but ho hd sb)]
            exact List.mem_cons_self
          · obtain ⟨k2, b2, e1, e2, _⟩ := R.els _ z
            have e3 : b = b2 := by injection e1 with _ z; injection z
            subst e3
            have := hb2.inj (e2.but ho hd sb)
            subst this
            exact List.mem_cons_of_mem _ ((R.mem _).mpr ⟨b, z, e2⟩)
      have hS1 : (k :: S).length = S.length + 1 := rfl
      have hft : t2.tooFull = true ↔ (S.length + 1) * 5 ≥ t.mask * 3 := by
        rw [hfull]
        unfold SetTable.tooFull
        rw [decide_eq_true_eq, q9, q4, hsl]
      by_cases hf : t2.tooFull = true
      · refine wp_if_pos (by simp [hf]) ?_
        have hfl := hft.mp hf
        have cases2 : (t.mask = 7 ∧ S.length = 4) ∨ (t.mask = 31 ∧ S.length = 18) := by
          rcases R.tab.mok with e | e | e <;> rw [e] at hfl hroom
          · exact .inl ⟨e, by omega⟩
          · exact .inr ⟨e, by omega⟩
          · omega
        have psz1 : t2.place.size = es1.size := by
          rw [hT.sz, List.length_map, Array.length_toList]
        have go2 : ∀ M, SetTable.sizeAbove (SetTable.grown (es.size + 1)) - 1 = M → MaskOk M → SetTable.sizeAbove (SetTable.grown (es.size + 1)) ≤ 128 → (S.length + 1) * 5 < M * 3 →
            wpAny (model P w) A (setRelay a (SetTable.grown (es.size + 1)) >>= fun _ => pure true) Q E { s with heap := h1 } := fun M c1 c2 c3 c4 => by
          refine wpAny_bind (relay (s := { s with heap := h1 }) (S := k :: S) ho1 ⟨hex.1, hex.2.1, hex.2.2⟩ rfl els1 mem1 hes psz1 hT.dm (by rw [hes, hmask]; rcases cases2 with ⟨e, e2⟩ | ⟨e, e2⟩ <;> omega) c1 c2 c3 c4 ?_)
          intro h2 es2 ep2 t3 sb2 R2
          exact wpAny_pure (hQ true h2 es2 ep2 t3 (sb.trans sb2) R2)
        rcases cases2 with ⟨_, e2⟩ | ⟨_, e2⟩
        · have e3 : es.size + 1 = 5 := by omega
          rw [e3] at go2 ⊢
          exact go2 31 (by rw [size_20]) (.inr (.inl rfl)) (by rw [size_20]; decide) (by omega)
        · have e3 : es.size + 1 = 19 := by omega
          rw [e3] at go2 ⊢
          exact go2 127 (by rw [size_76]) (.inr (.inr rfl)) (by rw [size_76]; decide) (by omega)
      · refine wp_if_neg (by simp [hf]) ?_
        refine wpAny_pure (hQ true h1 es1 (ep + 1) t2 sb ⟨⟨_, ho1, ⟨hex.1, hex.2.1, hex.2.2⟩, rfl⟩, els1, mem1, hes, hT, ?_⟩)
        rw [hmask, hS1]
        have := mt hft.mpr hf
        omega
    by_cases hp1 : t1.plain = true
    · first
        | (refine wpAny_bind ?_; refine wp_if_pos hp1 ?_; refine hashBy_k hx fun r => ?_)
        | refine wp_if_pos hp1 (wpAny_bind (hashBy_k hx fun r => ?_))
      exact go r
    · first
        | (refine wpAny_bind ?_; refine wp_if_neg hp1 ?_; refine wpAny_pure ?_)
        | refine wp_if_neg hp1 (wpAny_bind (wpAny_pure ?_))
      exact go true
theorem TkS.keep {h h' : Heap} (R : TkS P w O h a S es ep t) (ha : ∀ o, h.get? a = some o → h'.get? a = some o) (h1 : ∀ k b, O b → IsK P w h k b → IsK P w h' k b) (h2 : ∀ k b, O b → IsK P w h' k b → IsK P w h k b) : TkS P w O h' a S es ep t := by
  obtain ⟨o, ho, r⟩ := R.ob
  refine ⟨⟨o, ha o ho, r⟩, fun e he => ?_, fun k => ?_, R.sz, R.tab, R.room⟩
  · obtain ⟨k, b, e1, e2, e3⟩ := R.els e he
    exact ⟨k, b, e1, h1 k b e3 e2, e3⟩
  · rw [R.mem k]
    constructor
    · rintro ⟨b, c1, c2⟩
      obtain ⟨k', b', e1, e2, e3⟩ := R.els _ c1
      have e4 : b = b' := by injection e1 with _ z; injection z
      subst e4
      exact ⟨b, c1, h1 k b e3 c2⟩
    · rintro ⟨b, c1, c2⟩
      obtain ⟨k', b', e1, e2, e3⟩ := R.els _ c1
      have e4 : b = b' := by injection e1 with _ z; injection z
      subst e4
      exact ⟨b, c1, h2 k b e3 c2⟩
theorem TkS.new {h : Heap} (ho : h.get? a = some (newSet w)) : TkS P w O h a [] #[] 0 (.fresh 0 0 (!w.params.followText "set-order")) where
  ob := ⟨_, ho, ⟨rfl, rfl, rfl⟩, rfl⟩
  els := fun e he => (by cases he)
  mem := fun k => ⟨fun z => (by cases z), fun ⟨b, z, _⟩ => (by cases z)⟩
  sz := rfl
  tab := ⟨List.Pairwise.nil, rfl, rfl, .inl rfl, fun x hx => (by cases hx), fun i h j hi => (by simp at hi)⟩
  room := by
    show 0 * 5 < 7 * 3
    decide
/-- T: what the set has of the first i -/
def KT (P : Program) (w : World) (h0 : Heap) (S : Addr) (ks : List TKey) (i : Nat) (g : Heap) : Prop :=
  (∀ b o, h0.get? b = some o → g.get? b = some o) ∧ ∃ es ep t, TkS P w (fun b => ∃ k, IsK P w h0 k b) g S (dd (ks.take i).reverse) es ep t
theorem isK_two {h0 h : Heap} (hk : ∀ b o, h0.get? b = some o → h.get? b = some o) {k0 k : TKey} {b : Addr} (x : IsK P w h0 k0 b) (y : IsK P w h k b) : k = k0 := y.inj (x.keep fun c o e _ => hk c o e)
theorem kt_own {h0 : Heap} {S0 : Addr} {ks : List TKey} : Own2 h0 S0 (KT P w h0 S0 ks) := by
  intro i h k hS hk ⟨k0, es, ep, t, R⟩
  refine ⟨hk, es, ep, t, R.keep hS (fun k' b ⟨k1, x⟩ y => ?_) fun k' b ⟨k1, x⟩ y => ?_⟩
  · rw [isK_two k0 x y]
    exact x.keep fun c o e _ => hk c o e
  · rw [isK_two hk x y]
    exact x.keep fun c o e _ => k0 c o e
theorem kt_adds {h0 : Heap} {S0 : Addr} {ks : List TKey} {its : Array Value} {B : Around} (hS0 : h0.get? S0 = none) (hu : B.units < cLine) (hsz : its.size = ks.length) (hv : ∀ (i : Nat) (h : i < ks.length), ∃ b, its[i]? = some (.ref b) ∧ IsK P w h0 ks[i] b) (hfew : (dd ks.reverse).length ≤ 62) :
    Adds2 P w B h0 S0 (KT P w h0 S0 ks) fun i v => its[i]? = some v := by
  intro i v s Q E hi hk ⟨_, es, ep, t, R⟩ hQ
  have hin : i < ks.length := by
    have := (Array.getElem?_eq_some_iff.mp hi).1
    omega
  obtain ⟨b, eb, ib⟩ := hv i hin
  have ev : v = .ref b := Option.some.inj (hi.symm.trans eb)
  subst ev
  have e0 : (ks.take (i + 1)).reverse = ks[i] :: (ks.take i).reverse := by rw [List.take_succ_eq_append_getElem hin, List.reverse_append]; rfl
  have hle : (dd (ks.take i).reverse).length ≤ (dd ks.reverse).length := by
    refine nodup_sub_len (dd_nodup _) fun k hk => ?_
    rw [mem_dd, List.mem_reverse] at hk ⊢
    exact List.mem_of_mem_take hk
  have hx : IsK P w s.heap ks[i] b := ib.keep fun c o e _ => hk c o e
  unfold setAdd
  refine wpAny_holding (wpAny_bind (wpAny_pyHash_tuple hu hx ?_))
  refine add_k (s := { s with toks := s.toks + (ks[i].length + 1) }) R hx ⟨_, ib⟩ hu (by omega) fun r h' es' ep' t' sb R2 => ?_
  refine hQ r h' (ks[i].length + 1) sb ⟨fun c o e => (sb.2 c fun z => by rw [z, hS0] at e; cases e).trans (hk c o e), es', ep', t', ?_⟩
  have e1 : dd (ks.take (i + 1)).reverse = if ks[i] ∈ dd (ks.take i).reverse then dd (ks.take i).reverse else ks[i] :: dd (ks.take i).reverse := by
    rw [e0]
    have : dd (ks[i] :: (ks.take i).reverse) = if ks[i] ∈ (ks.take i).reverse then dd (ks.take i).reverse else ks[i] :: dd (ks.take i).reverse := rfl
    rw [this]
    by_cases hm : ks[i] ∈ (ks.take i).reverse
    · rw [if_pos hm, if_pos (mem_dd.mpr hm)]
    · rw [if_neg hm, if_neg fun z => hm (mem_dd.mp z)]
  rw [e1]
  exact R2
end
end PD

/-! The data layer: len(set(xs)), a list of tuples of texts and ints: the rule. -/
namespace PD
open PySem PySem.Spec PyProof.Rows L2
def dK : Key → PyData
  | .inl i => .int i
  | .inr x => .str x
def tD (k : TKey) : PyData := .tuple (k.map dK)
def keysOf : List PyData → Option TKey
  | [] => some []
  | .int i :: r => (keysOf r).map (Sum.inl i :: ·)
  | .str x :: r => (keysOf r).map (Sum.inr x :: ·)
  | _ => none
def tksOf : List PyData → Option (List TKey)
  | [] => some []
  | .tuple ds :: r => match keysOf ds with
    | some k => (tksOf r).map (k :: ·)
    | none => none
  | _ => none
theorem keysOf_eq : ∀ {ds : List PyData} {k : TKey}, keysOf ds = some k → ds = k.map dK
  | [], k, h => by cases h; rfl
  | d :: r, k, h => by
    unfold keysOf at h
    split at h
    · rename_i e; cases e
    · rename_i i r' e
      cases e
      obtain ⟨k', e1, e2⟩ := Option.map_eq_some_iff.mp h
      rw [← e2, List.map_cons, ← keysOf_eq e1]
      rfl
    · rename_i i r' e
      cases e
      obtain ⟨k', e1, e2⟩ := Option.map_eq_some_iff.mp h
      rw [← e2, List.map_cons, ← keysOf_eq e1]
      rfl
    · cases h
theorem tksOf_eq : ∀ {ds : List PyData} {ks : List TKey}, tksOf ds = some ks → ds = ks.map tD
  | [], k, h => by cases h; rfl
  | d :: r, k, h => by
    unfold tksOf at h
    split at h
    · rename_i e; cases e
    · rename_i ds r' e
      cases e
      split at h
      · rename_i k0 ek
        obtain ⟨ks', e1, e2⟩ := Option.map_eq_some_iff.mp h
        rw [← e2, List.map_cons, ← tksOf_eq e1]
        unfold tD
        rw [← keysOf_eq ek]
      · cases h
    · cases h
theorem dq_key {K : PySem.W.Frag} {G : Hp} {x : V} {k : Key} (h : Dq K G x (dK k)) : x = kV k := by
  cases k with
  | inl i => cases h; rfl
  | inr s => cases h; rfl
theorem dqa_keys {K : PySem.W.Frag} {G : Hp} : ∀ {k : TKey} {xs : List V}, DqAll K G xs (k.map dK) → xs = k.map kV
  | [], _, h => by cases h; rfl
  | k :: ks, _, h => by
    cases h with
    | cons h1 h2 => rw [dq_key h1, dqa_keys h2]; rfl
theorem vals_get : ∀ {xs : List V} {us : List Value} {i : Nat} {x : V}, Vals xs us → xs[i]? = some x → ∃ u, us[i]? = some u ∧ RelV x u
  | _, _, i, u, .nil, e => by simp at e
  | _, _, 0, u, .cons h _, e => by simp at e; subst e; exact ⟨_, rfl, h⟩
  | _, _, i + 1, u, .cons _ t, e => by
    obtain ⟨d, h1, h2⟩ := vals_get (i := i) (x := u) t (by simpa using e)
    exact ⟨d, by simpa using h1, h2⟩
theorem dqa_tks {K : PySem.W.Frag} {G H : Hp} (l : Le G H) : ∀ {ks : List TKey} {xs : List V}, DqAll K G xs (ks.map tD) → xs.length = ks.length ∧ ∀ i (h : i < ks.length), ∃ b, xs[i]? = some (.ref b) ∧ SqT K H b (ks[i].map kV)
  | [], _, h => by cases h; exact ⟨rfl, fun i hi => by cases hi⟩
  | k :: ks, _, h => by
    cases h with
    | cons h1 h2 =>
      obtain ⟨a1, a2⟩ := dqa_tks l h2
      refine ⟨by simp [a1], fun i hi => ?_⟩
      cases i with
      | zero =>
        unfold tD at h1
        cases h1 with
        | tup q r =>
          have := dqa_keys r
          subst this
          exact ⟨_, rfl, sqt_le l q⟩
      | succ i =>
        obtain ⟨b, e1, e2⟩ := a2 i (by simpa using hi)
        exact ⟨b, by simpa using e1, by simpa using e2⟩
section
variable {X : Cx}
theorem inv_isK {pins : List (Addr × Obj)} {σ : L2.St} {H : Hp} {s : Shared} {b : Addr} {k : TKey} (I : L2.Inv X pins σ H s) (h : SqT X.K H b (k.map kV)) : IsK X.prog X.w s.heap k b := by
  obtain ⟨its, r, ⟨o, ho, hc, n, hd⟩, _⟩ := I.tuple h
  exact ⟨o, its.toArray, n, ho, hc, hd, by simpa using items_are r⟩
theorem dd_rev {α : Type} [DecidableEq α] (xs : List α) : (dd xs.reverse).length = (dd xs).length :=
  (dd_rev_len xs).length_eq
def tLenSetK (K : PySem.W.Frag) (ta : TE) : TE := fun σ H Q => ta σ H fun x H1 => ∃ (l : Addr) (xs : List V) (ks : List TKey), x = .ref l ∧ SqL K H1 l xs ∧ xs.length = ks.length ∧ (∀ i (h : i < ks.length), ∃ b, xs[i]? = some (.ref b) ∧ SqT K H1 b (ks[i].map kV)) ∧ (dd ks).length ≤ 62 ∧ Q (.int ((dd ks).length : Nat)) H1
theorem pe_lenSetK {a : Expr} {ta : TE} {p p2 q pos : Pos} (hc : X.calm = true) (hu : X.A.units + 66 < cLine) (hg : Gl X "len") (hm : X.mg "len" = none) (hg2 : Gl X "set") (hm2 : X.mg "set" = none) (ha : PE X a ta)
    (na : starEach [a] X.env = (false, eval a X.env) :: starEach [] X.env := by rfl) : PE X (.Call (.Name "len" p) [.Call (.Name "set" p2) [a] [] q] [] pos) (tLenSetK X.K ta) := by
  refine ⟨fun pins s σ H Q I h => ?_⟩
  refine Call_ (ld_blt I hg hm boot_len ?_)
  refine PyProof.Rows.callWith_builtin1 (PyProof.Rows.args_cons ?_ rfl) rfl rfl
  refine Call_ (ld_blt I hg2 hm2 boot_set ?_)
  refine PyProof.Rows.callWith_type1 (PyProof.Rows.args_cons (thn (ha.run pins s σ H _ I h) fun v s1 ⟨x, H1, I1, r1, q1⟩ => PyProof.Rows.args_nil ?_) na) na rfl
  obtain ⟨l, xs, ks, rfl, hq, hl, hk, hf, q1⟩ := q1
  cases r1
  obtain ⟨its, rv, pl, hz⟩ := I1.list hq
  have hlen : its.length = ks.length := by rw [← rv.length, hl]
  refine set_of2 (T := KT X.prog X.w s1.heap s1.heap.objs.size ks) (I1.ok.hd hc) pl.isList kt_own (fun B _ hB => ?_) (fun g e hold => ?_) fun g tk hS hk2 => ?_
  · refine kt_adds (get_size_none _ (Nat.le_refl _)) (by show B.units < cLine; have : X.A.in1.in1.units = X.A.units + 1 + 1 := rfl; omega) (by simp [hlen]) (fun i hi => ?_) (by rw [dd_rev]; exact hf)
    obtain ⟨b, e1, e2⟩ := hk i hi
    obtain ⟨u, e3, e4⟩ := vals_get rv e1
    cases e4
    exact ⟨b, by simpa using e3, inv_isK I1 e2⟩
  · exact ⟨hold, #[], 0, _, TkS.new e⟩
  · refine PyProof.Rows.args_nil ?_
    have hsz : its.toArray.size = ks.length := by simp [hlen]
    rw [hsz] at hS
    obtain ⟨_, es, ep, t, R⟩ := hS
    rw [List.take_length] at R
    obtain ⟨o, ho, hex, hd⟩ := R.ob
    have I2 : L2.Inv X pins σ H1 { s1 with heap := g, toks := tk } := I1.kept fun b o e => hk2 b o e
    have hf2 := R.sz
    rw [dd_rev] at hf2
    refine call_len_set ho hex hd (R.fits (s := { s1 with heap := g, toks := tk })) (by rw [hf2] <;> omega) ⟨.int ((dd ks).length : Nat), H1, I2.tok _, ⟨_, by rw [hf2]⟩, q1⟩
def dLenSetK : PyData → R PyData
  | .list ds => (oR (tksOf ds)).bind fun ks => if (dd ks).length ≤ 62 then .ok (.int ((dd ks).length : Nat)) else .no
  | _ => .no
def mLenSetK (m : M) : M := fun Γ => (m Γ).bind dLenSetK
theorem se_lensetK {E : XK} {a : Expr} {m : M} {p p2 q pos : Pos} {k : Nat} (hr : Room k X.A) (hc : X.calm = true) (hm : X.mg "len" = none) (hm2 : X.mg "set" = none) (ha : SE X E a m) (hg : Gl X "len" := by exact rfl) (hg2 : Gl X "set" := by exact rfl)
    (na : starEach [a] X.env = (false, eval a X.env) :: starEach [] X.env := by rfl) : SE X E (.Call (.Name "len" p) [.Call (.Name "set" p2) [a] [] q] [] pos) (mLenSetK m) :=
  pe_of (pe_lenSetK hc (room66 hr) hg hm hg2 hm2 ha na) fun σ H Q ⟨B, Γ, G, sr, po⟩ => ⟨B, Γ, G, sr, Po.bind po fun d x G1 H1 _ g1 dx po1 => by
    cases dx with
    | @lst a xs ds h1 a1 =>
      replace po1 : Po (Dq X.K) X.mg E G1 H1 Q ((oR (tksOf ds)).bind fun ks => if (dd ks).length ≤ 62 then R.ok (PyData.int ((dd ks).length : Nat)) else .no) := po1
      cases e : tksOf ds with
      | none => rw [e] at po1; exact po1.elim
      | some ks =>
        rw [e, oR_some, R.bind_ok] at po1
        have := tksOf_eq e; subst this
        obtain ⟨b1, b2⟩ := dqa_tks g1.s a1
        split at po1
        · rename_i h
          exact ⟨a, xs, ks, rfl, (sq1 g1.s h1), b1, b2, h, Po.ok (d := PyData.int ((dd ks).length : Nat)) po1 g1.s (.int _)⟩
        · exact po1.elim
    | _ => exact po1.elim⟩
end
end PD

/-! The data layer: a heap without some cells. -/
namespace PD
open PySem PySem.Spec PyProof.Rows L2
/-- H without the cells ps -/
def dropH (H : Hp) (ps : List Addr) : Hp := fun b => if b ∈ ps then none else H b
theorem dropH_in {H : Hp} {ps : List Addr} {b : Addr} (h : b ∈ ps) : dropH H ps b = none := if_pos h
theorem dropH_out {H : Hp} {ps : List Addr} {b : Addr} (h : b ∉ ps) : dropH H ps b = H b := if_neg h
theorem dropH_some {H : Hp} {ps : List Addr} {b : Addr} {u : HO} (h : dropH H ps b = some u) : b ∉ ps ∧ H b = some u := by
  by_cases e : b ∈ ps
  · rw [dropH_in e] at h; cases h
  · exact ⟨e, by rwa [dropH_out e] at h⟩
end PD

/-! The data layer: lambdas, tracked as objects. -/
namespace PD
open PySem PySem.Spec PyProof.Rows L2
/-- the heap has just this object at b -/
def PIN (b : Addr) (o : Obj) : HO := .ext fun h => h.get? b = some o
theorem pin_at {P : Program} {w : World} {H : Hp} {h : Heap} {b : Addr} {o : Obj} (e : h.get? b = some o) : ObjOk P w H h b (PIN b o) := ⟨e, ⟨o, e⟩, fun h1 h2 p st => st o p⟩
theorem pin_get {P : Program} {w : World} {H : Hp} {h : Heap} {b : Addr} {o : Obj} (x : HOk P w H h) (e : H b = some (PIN b o)) : h.get? b = some o := (x b _ e).1
theorem pin_ne {b : Addr} {o : Obj} (ps : Array Value) : PIN b o ≠ .tbl ps := fun e => by unfold PIN at e; cases e
abbrev lamO (q : Str) (params : Arguments) (body : Expr) (scope : Scope) (cl : List (Str × Addr)) (pm : Value) (c' : Addr) (ctv : Value) : Obj := PySem.W.kla_obj "<lambda>" q params body scope cl pm c' ctv
/-- f is a lambda of these captured cells -/
def LamF (H : Hp) (q : Str) (cells : List (Str × Addr)) (f : Addr) (params : Arguments) (body : Expr) (scope : Scope) : Prop :=
  ∃ pm c' ctv, H f = some (PIN f (lamO q params body scope (cloFrom cells scope.names []) pm c' ctv)) ∧ H c' = some (LamX.CodeO c' q)
theorem LamF.ext {H H' : Hp} {q : Str} {cells : List (Str × Addr)} {f : Addr} {params : Arguments} {body : Expr} {scope : Scope} (h : LamF H q cells f params body scope) (k : ∀ b φ, H b = some (.ext φ) → H' b = some (.ext φ)) : LamF H' q cells f params body scope := by
  obtain ⟨pm, c', ctv, h1, h2⟩ := h
  exact ⟨pm, c', ctv, k _ _ h1, k _ _ h2⟩
def tLamE (X : Cx) (T : List (Addr × Str)) (params : Arguments) (body : Expr) (scope : Scope) : TE := fun σ H Q => LamX.Tabs T H ∧
  ∀ f H1, LamX.ExtN H H1 → LamX.Tabs T H1 → H f = none → LamF H1 (X.env.qual ++ "<lambda>") X.env.cells f params body scope → Q (.ref f) H1
section
variable {X : Cx}
theorem pe_lam {T : List (Addr × Str)} {c P : Addr} {params : Arguments} {body : Expr} {scope : Scope} {pos : Pos} (TB : LamX.TabB X.base X.mg c P) (hcode : X.env.code = .ref c) (hm : (P, X.env.qual ++ "<lambda>") ∈ T) (hu : ∀ p ∈ T, p.1 = P → p.2 = X.env.qual ++ "<lambda>")
    (hdef : defaultsOf params X.env = ([], [])) (L : LamX.LamS X.env.scope scope) : PE X (.Lambda params body scope pos) (tLamE X T params body scope) := by
  refine ⟨fun pins s σ H Q I ⟨hT, k⟩ => ?_⟩
  obtain ⟨ps, tp, tt, ta⟩ := hT _ hm
  have bP : s.heap.BuiltinsAt X.mg P := TB.bm.keeps I.bk
  have gP : s.heap.get? P = some { cls := .none, data := .fields ps } := I.hok P _ tp
  have clo := closure_ok (env := X.env) (scope := scope) (L.has I.ok)
  have push : ∀ (h : Heap) (o : Obj) b u, h.get? b = some u → (h.push o).get? b = some u := fun h o b u e => Heap.get?_push_of_some _ e
  have fin : ∀ (H1 : Hp) (s1 : Shared) (pm ctv : Value) (c' : Addr) (tk : Tok), Inv X pins σ H1 s1 → LamX.ExtN H H1 → LamX.Tabs T H1 → H1 c' = some (LamX.CodeO c' (X.env.qual ++ "<lambda>")) → s.heap.objs.size ≤ s1.heap.objs.size →
      EP X pins σ Q (.ref s1.heap.objs.size) { s1 with heap := s1.heap.push (lamO (X.env.qual ++ "<lambda>") params body scope (cloFrom X.env.cells scope.names []) pm c' ctv), toks := tk } := fun H1 s1 pm ctv c' tk I1 eN T1 hc sz => by
    have nf : H1 s1.heap.objs.size = none := I1.hok.fresh (Nat.le_refl _)
    have I2 := I1.laid (a := s1.heap.objs.size) (o := PIN s1.heap.objs.size (lamO (X.env.qual ++ "<lambda>") params body scope (cloFrom X.env.cells scope.names []) pm c' ctv)) (t' := tk) (h' := s1.heap.push (lamO (X.env.qual ++ "<lambda>") params body scope (cloFrom X.env.cells scope.names []) pm c' ctv)) (push _ _) (Nat.le_refl _) (pin_at (Heap.get?_push_size _ rfl))
    have up : ∀ b u, H1 b = some u → upd H1 s1.heap.objs.size (PIN s1.heap.objs.size (lamO (X.env.qual ++ "<lambda>") params body scope (cloFrom X.env.cells scope.names []) pm c' ctv)) b = some u := fun b u e => by rw [upd_ne (ne_of_none e nf)]; exact e
    refine ⟨.ref s1.heap.objs.size, _, I2, rfl, k _ _ (eN.trans (LamX.ExtN.of up)) (T1.ext up) (I.hok.fresh sz) ⟨pm, c', ctv, upd_same, up _ _ hc⟩⟩
  refine PySem.W.kla_eval hdef ?_
  cases hc : codeAmong pos ps.toList with
  | some cv =>
    obtain ⟨c', rfl, hco⟩ := ta pos cv hc
    refine PySem.W.kla_makeFunctionHit (mg := X.mg) (c := c) (P := P) (ps := ps) clo I.ok.glob (I.mod.glob.keeps I.bk) hcode (TB.code.keeps I.bk) gP tt hc bP fun ctv h' tk hx hsz => ?_
    exact fin H { s with heap := h' } _ ctv c' tk (I.kept (t' := s.toks) hx) (LamX.ExtN.refl H) hT hco hsz
  | none =>
    refine PySem.W.kla_makeFunction (mg := X.mg) (c := c) (P := P) (ps := ps) clo I.ok.glob (I.mod.glob.keeps I.bk) hcode (TB.code.keeps I.bk) gP tt hc TB.gP bP fun c' ctv h' tk hx hge hlt hrec htb => ?_
    obtain ⟨c2, oc, vs, t, e2, g1, g2, g3⟩ := hrec
    cases e2
    have nC : H c' = none := I.hok.fresh hge
    have I1 := LamX.inv_table (t' := s.toks) (more := #[rawInt pos.line, rawInt pos.col, .ref c']) (q := X.env.qual ++ "<lambda>") (h' := h') I tp (fun b o hb e => hx b o hb e) htb hge ⟨oc, vs, t, g1, g2, g3⟩
    have oth : ∀ b u, b ≠ P → H b = some u → upd (upd H P (.tbl (ps ++ #[rawInt pos.line, rawInt pos.col, .ref c']))) c' (LamX.CodeO c' (X.env.qual ++ "<lambda>")) b = some u := fun b u hb e => by
      rw [upd_ne (ne_of_none e nC), upd_ne hb]; exact e
    have atC : upd (upd H P (.tbl (ps ++ #[rawInt pos.line, rawInt pos.col, .ref c']))) c' (LamX.CodeO c' (X.env.qual ++ "<lambda>")) c' = some (LamX.CodeO c' (X.env.qual ++ "<lambda>")) := upd_same
    have eN : LamX.ExtN H (upd (upd H P (.tbl (ps ++ #[rawInt pos.line, rawInt pos.col, .ref c']))) c' (LamX.CodeO c' (X.env.qual ++ "<lambda>"))) := fun b u e n => oth b u (fun z => by subst z; rw [tp] at e; cases e; exact n ps rfl) e
    refine fin _ { s with heap := h' } _ ctv c' tk I1 eN (fun p hp => ?_) atC (Nat.le_trans hge (Nat.le_of_lt hlt))
    by_cases hb : p.1 = P
    · rw [hu p hp hb, hb]
      have el : (ps ++ #[rawInt pos.line, rawInt pos.col, .ref c']).toList = ps.toList ++ [rawInt pos.line, rawInt pos.col, .ref c'] := by simp
      refine ⟨_, by rw [upd_ne (ne_of_none tp nC)]; exact upd_same, by rw [el]; exact PySem.TriplesOk_snoc _ _ _ _ tt, fun p2 cv hcv => ?_⟩
      rw [el] at hcv
      rcases LamX.among_app _ tt hcv with z | z
      · obtain ⟨c0, a1, a2⟩ := ta p2 cv z
        exact ⟨c0, a1, eN _ _ a2 LamX.codeO_ne⟩
      · exact ⟨c', z, atC⟩
    · obtain ⟨p0, a1, a2, a3⟩ := hT p hp
      refine ⟨p0, oth _ _ hb a1, a2, fun p2 cv hcv => ?_⟩
      obtain ⟨c0, b1, b2⟩ := a3 p2 cv hcv
      exact ⟨c0, b1, eN _ _ b2 LamX.codeO_ne⟩
end
end PD

/-! The data layer: the body of a lambda runs on its captured cells. -/
namespace PD
open PySem PySem.Spec PyProof.Rows L2
abbrev lamV (q : Str) (scope : Scope) (L f c' : Addr) (clo : List (Str × Addr)) : Env := PySem.W.envX q scope L f (.ref c') clo
def lamCx2 (P : Program) (w : World) (K : PySem.W.Frag) (mg : Str → Option Value) (base : Heap) (N : List Str) (q : Str) (scope : Scope) (f c' : Addr) (clo : List (Str × Addr)) (A : Around) (outer : List Env) (s : Shared) (H : Hp) (E : XK) : Cx where
  prog := P
  w := w
  K := K
  mg := mg
  base := base
  A := A.deeper (lamV q scope s.heap.objs.size f c' clo)
  N := N
  s_0 := s
  H_0 := H
  env := lamV q scope s.heap.objs.size f c' clo
  outer := outer
  stack := lamV q scope s.heap.objs.size f c' clo :: outer
  ex := []
  fn := fun _ => false
  calm := true
  pn := []
  xe := fun e s' => wpAny (model P w) (A.deeper (lamV q scope s.heap.objs.size f c' clo)) (leaving (lamV q scope s.heap.objs.size f c' clo) e) (fun _ s'' => L2.CX P w outer H s E e s'') (fun e' s'' => L2.CX P w outer H s E e' s'') s'
/-- captured names alone -/
structure LamN (scope : Scope) (N : List Str) : Prop where
  kind : scope.kind = .function
  co : scope.isCoroutine = false
  gen : scope.isGenerator = false
  own : ∀ y ∈ scope.names, y.2 ≠ .local ∧ y.2 ≠ .cell
  free : ∀ y ∈ scope.names, y.2 = .free → y.1 ∈ N
/-- what the cells of the names N hold -/
structure CloR (h : Heap) (H : Hp) (cells : List (Str × Addr)) (N : List Str) (σ : L2.St) : Prop where
  inj : ∀ x y c, cells.lookup x = some c → cells.lookup y = some c → x = y
  at_ : ∀ (i : Nat) (x : Str), N[i]? = some x → ∃ c v u, cells.lookup x = some c ∧ σ[i]? = some (some v) ∧ RelV v u ∧ h.IsCell c (some u) ∧ H c = none
  len : σ.length = N.length
section
variable {cells : List (Str × Addr)} {scope : Scope} {N : List Str} {x : Str} {c : Addr}
theorem clo_in (L : LamN scope N) (hc : ∀ x ∈ N, ∃ c, cells.lookup x = some c) (e : (cloFrom cells scope.names []).lookup x = some c) : x ∈ N ∧ cells.lookup x = some c := by
  rcases cloFrom_mem (PySem.mem_of_lookup e) with hm | ⟨h1, h2⟩
  · cases hm
  · have hx := L.free _ h1 rfl
    obtain ⟨c1, e1⟩ := hc x hx
    refine ⟨hx, ?_⟩
    rw [e1] at h2 ⊢
    rw [h2]; rfl
theorem clo_has (hy : scope.names.lookup x = some .free) : ∃ c, (cloFrom cells scope.names []).lookup x = some c := mem_lookup (cloFrom_has (cells := cells) (acc := []) (PySem.mem_of_lookup hy))
end
section
variable {P : Program} {w : World} {K : PySem.W.Frag} {mg : Str → Option Value} {base : Heap} {N : List Str} {q : Str} {scope : Scope} {f c' : Addr} {cells : List (Str × Addr)} {A : Around} {outer : List Env} {s : Shared} {H : Hp} {E : XK} {σ : L2.St}
theorem lam_inv {h₁ : Heap} {tk : Nat} (L : LamN scope N) (C : CloR s.heap H cells N σ) (e0 : Env0 P w K mg base A outer s H) (hd : A.handled = none) (hns : h₁.Ns s.heap.objs.size fun y => ([] : List (Str × Value)).reverse.lookup y) (kp : ∀ b o, s.heap.get? b = some o → h₁.get? b = some o) :
    Inv (lamCx2 P w K mg base N q scope f c' (cloFrom cells scope.names []) A outer s H E) [] σ H { s with heap := h₁, toks := tk } := by
  have hc : ∀ x ∈ N, ∃ c, cells.lookup x = some c := fun x hx => by
    obtain ⟨i, hi, e⟩ := List.getElem_of_mem hx
    obtain ⟨c, _, _, h1, _⟩ := C.at_ i x (by rw [List.getElem?_eq_getElem hi, e])
    exact ⟨c, h1⟩
  have cellK : ∀ {c : Addr} {v : Option Value}, s.heap.IsCell c v → h₁.IsCell c v := fun ⟨o, ho, hd⟩ => ⟨o, kp _ _ ho, hd⟩
  have inN : ∀ {x c}, (cloFrom cells scope.names []).lookup x = some c → ∃ i : Nat, N[i]? = some x ∧ cells.lookup x = some c := fun {x c} e => by
    obtain ⟨hx, e1⟩ := clo_in L hc e
    obtain ⟨i, hi, e2⟩ := List.getElem_of_mem hx
    exact ⟨i, by rw [List.getElem?_eq_getElem hi, e2], e1⟩
  have noA : ∀ b : Addr, b ∉ (lamCx2 P w K mg base N q scope f c' (cloFrom cells scope.names []) A outer s H E).ex := fun b z => nomatch (show b ∈ ([] : List Addr) from z)
  have notCell : ∀ x, scope.names.lookup x ≠ some .cell := fun x k => absurd rfl (L.own _ (PySem.mem_of_lookup k)).2
  have notLoc : ∀ x, scope.names.lookup x ≠ some .local := fun x k => absurd rfl (L.own _ (PySem.mem_of_lookup k)).1
  have okc : (lamCx2 P w K mg base N q scope f c' (cloFrom cells scope.names []) A outer s H E).Ok :=
    { mod := e0.mod, kind := L.kind, glob := rfl, blt := rfl, above := Nat.le_refl _,
      inj := fun x y c e1 e2 => C.inj x y c (clo_in L hc e1).2 (clo_in L hc e2).2,
      has := fun x hx => by
        rcases hx with k | k
        · exact absurd k (notCell x)
        · exact clo_has k,
      cab := fun x c z _ => (nomatch (show false = true from z)), hd := fun _ => hd, frames := Around.frames_deeper e0.frames, stk := .inr ⟨rfl, rfl⟩,
      exf := fun b z => absurd z (noA b), bs := e0.bs, bsz := e0.bsz, noex := fun b _ _ => noA b, exfs := fun b z => absurd z (noA b), funs := e0.funs, frf := e0.frf }
  refine ⟨okc, rfl, e0.bare, Un.kept kp, ⟨_, hns, fun i x v e1 e2 e3 => ?_⟩, fun x c e => ?_, e0.hok.fresh (Nat.le_refl _), fun x c e => ?_, fun p hp => ?_, e0.hok.kept kp, C.len⟩
  · rcases e3 with k | k | k
    · exact absurd k (notLoc x)
    · exact absurd k (notCell x)
    · obtain ⟨c, v', u, a1, a2, a3, a4, _⟩ := C.at_ i x e1
      rw [e2] at a2
      cases a2
      obtain ⟨c2, b1⟩ := clo_has (cells := cells) k
      have b2 := (clo_in L hc b1).2
      rw [a1] at b2
      cases b2
      exact ⟨u, a3, .inr ⟨.inr k, c, b1, cellK a4⟩⟩
  · obtain ⟨i, e1, e2⟩ := inN e
    obtain ⟨c2, _, u, a1, _, _, a4, _⟩ := C.at_ i x e1
    rw [e2] at a1
    cases a1
    exact ⟨_, cellK a4⟩
  · obtain ⟨i, e1, e2⟩ := inN e
    obtain ⟨c2, _, u, a1, _, _, _, a5⟩ := C.at_ i x e1
    rw [e2] at a1
    cases a1
    exact a5
  · exact nomatch (show p ∈ ([] : List (Addr × Obj)) ++ [] from hp)
end
end PD

/-! The data layer: calling a lambda whose maker may have gone. -/
namespace PD
open PySem PySem.Spec PyProof.Rows L2
/-! ### cells taken away and put back -/
def joinH (H : Hp) (cs : List Addr) (H' : Hp) : Hp := fun b => if b ∈ cs then H b else H' b
theorem joinH_in {H H' : Hp} {cs : List Addr} {b : Addr} (h : b ∈ cs) : joinH H cs H' b = H b := if_pos h
theorem joinH_out {H H' : Hp} {cs : List Addr} {b : Addr} (h : b ∉ cs) : joinH H cs H' b = H' b := if_neg h
def Pins (H : Hp) (cs : List Addr) : Prop := ∀ c ∈ cs, ∃ o, H c = some (PIN c o)
section
variable {P : Program} {w : World} {K : PySem.W.Frag} {mg : Str → Option Value} {base : Heap} {H H' : Hp} {cs : List Addr} {h : Heap}
theorem drop_none {b : Addr} (e : H b = none) : dropH H cs b = none := by
  cases q : dropH H cs b with
  | none => rfl
  | some u => rw [(dropH_some q).2] at e; cases e
theorem drop_ok (p : Pins H cs) (x : HOk P w H h) : HOk P w (dropH H cs) h := fun a o e => by
  obtain ⟨_, e1⟩ := dropH_some e
  refine (x a o e1).stay (fun _ _ _ q => q) (fun b q => ?_) fun b xs q => ?_
  · rw [dropH_out fun hb => by
      obtain ⟨u, e2⟩ := p b hb
      rw [e2] at q
      cases q]
    exact q
  · rw [dropH_out fun hb => by
      obtain ⟨u, e2⟩ := p b hb
      rw [e2] at q
      cases q]
    exact q
theorem drop_env {A : Around} {outer : List Env} {s : Shared} (p : Pins H cs) (e0 : Env0 P w K mg base A outer s H) : Env0 P w K mg base A outer s (dropH H cs) :=
  ⟨e0.frames, e0.mod, fun b o e => ⟨(e0.bs b o e).1, drop_none (e0.bs b o e).2⟩, e0.bsz, e0.funs, fun b hb => drop_none (e0.frf b hb), drop_ok p e0.hok, e0.bare⟩
/-- an exception behind a call from the lesser heap -/
theorem cx_join {A : Around} {outer : List Env} {s : Shared} {E : XK} {u : Value} {s' : Shared} (p : Pins H cs) (e0 : Env0 P w K mg base A outer s H) (c : L2.CX P w outer (dropH H cs) s (fun cls d H' => E cls d (joinH H cs H')) u s') : L2.CX P w outer H s E u s' := by
  obtain ⟨a, B, H', cls, d, rfl, fl, hok, ub, na, os, ag, hE⟩ := c
  have inB : ∀ b ∈ cs, ∃ o, H b = some (PIN b o) ∧ s.heap.get? b = some o ∧ B.get? b = some o ∧ H' b = none := fun b hb => by
    obtain ⟨o, e⟩ := p b hb
    have g := pin_get e0.hok e
    have nfr : b ∉ frs outer := fun z => by rw [e0.frf b z] at e; cases e
    exact ⟨o, e, g, ub.keep b o g (dropH_in hb) nfr, ub.free b o g (dropH_in hb)⟩
  have low : ∀ b, H b = none → dropH H cs b = none := fun b e => drop_none e
  have keepS : ∀ b u, H b = some u → (∀ o, u ≠ PIN b o) → dropH H cs b = some u ∧ b ∉ cs := fun b u e n => by
    have hb : b ∉ cs := fun hb => by
      obtain ⟨o, e2⟩ := p b hb
      rw [e2] at e
      exact n o (Option.some.inj e).symm
    exact ⟨by rw [dropH_out hb]; exact e, hb⟩
  have up : ∀ b u, H' b = some u → joinH H cs H' b = some u := fun b u e => by
    rw [joinH_out fun hb => by
      obtain ⟨_, _, _, _, z⟩ := inB b hb
      rw [z] at e; cases e]
    exact e
  refine ⟨a, B, joinH H cs H', cls, d, rfl, fl, fun b u e => ?_, ⟨fun b o e1 e2 e3 => ub.keep b o e1 (low b e2) e3, ub.slot, fun b o e1 e2 => ?_, ub.there, fun b xs e => ?_, fun b o xs e => ?_, fun b ps e => ?_⟩, ?_, os, ag, hE⟩
  · by_cases hb : b ∈ cs
    · obtain ⟨o, e1, _, e2, _⟩ := inB b hb
      rw [joinH_in hb, e1] at e
      cases e
      exact pin_at e2
    · rw [joinH_out hb] at e
      exact (hok b u e).stay (fun _ _ _ q => q) (fun c q => up c _ q) fun c xs q => up c _ q
  · have hb : b ∉ cs := fun hb => by
      obtain ⟨o, e⟩ := p b hb
      rw [e2] at e; cases e
    rw [joinH_out hb]
    exact ub.free b o e1 (low b e2)
  · obtain ⟨k1, k2⟩ := keepS b _ e (fun o z => by unfold PIN at z; cases z)
    exact up b _ (ub.tups b xs k1)
  · obtain ⟨k1, k2⟩ := keepS b _ e (fun o z => by unfold PIN at z; cases z)
    exact up b _ (ub.frzs b o xs k1)
  · obtain ⟨k1, k2⟩ := keepS b _ e (fun o z => by unfold PIN at z; cases z)
    obtain ⟨more, z⟩ := ub.tbls b ps k1
    exact ⟨more, up b _ z⟩
  · have ha : a ∉ cs := fun hb => by
      obtain ⟨_, _, _, e, _⟩ := inB a hb
      rw [fl.2.1] at e; cases e
    rw [joinH_out ha]
    exact na
end
/-! ### closures told by tracked objects -/
structure CloH (H : Hp) (cells : List (Str × Addr)) (N : List Str) (σ : L2.St) : Prop where
  inj : ∀ x y c, cells.lookup x = some c → cells.lookup y = some c → x = y
  at_ : ∀ (i : Nat) (x : Str), N[i]? = some x → ∃ c v u o, cells.lookup x = some c ∧ σ[i]? = some (some v) ∧ RelV v u ∧ H c = some (PIN c o) ∧ o.data = .cell (some u)
  len : σ.length = N.length
def cellsOf (cells : List (Str × Addr)) (N : List Str) : List Addr := N.filterMap fun x => cells.lookup x
section
variable {P : Program} {w : World} {K : PySem.W.Frag} {mg : Str → Option Value} {base : Heap} {H H' : Hp} {cells : List (Str × Addr)} {N : List Str} {σ : L2.St} {h : Heap}
theorem CloH.pins (C : CloH H cells N σ) : Pins H (cellsOf cells N) := fun c hc => by
  obtain ⟨x, hx, e⟩ := List.mem_filterMap.mp hc
  obtain ⟨i, hi, e2⟩ := List.getElem_of_mem hx
  obtain ⟨c2, _, _, o, e3, _, _, e4, _⟩ := C.at_ i x (by rw [List.getElem?_eq_getElem hi, e2])
  rw [e] at e3
  cases e3
  exact ⟨o, e4⟩
theorem CloH.le (C : CloH H cells N σ) (l : Le H H') : CloH H' cells N σ := ⟨C.inj, fun i x e => by
  obtain ⟨c, v, u, o, a1, a2, a3, a4, a5⟩ := C.at_ i x e
  exact ⟨c, v, u, o, a1, a2, a3, l _ _ a4, a5⟩, C.len⟩
theorem CloH.r (C : CloH H cells N σ) (x : HOk P w H h) : CloR h (dropH H (cellsOf cells N)) cells N σ := ⟨C.inj, fun i y e => by
  obtain ⟨c, v, u, o, a1, a2, a3, a4, a5⟩ := C.at_ i y e
  exact ⟨c, v, u, a1, a2, a3, ⟨o, pin_get x a4, a5⟩, dropH_in (List.mem_filterMap.mpr ⟨y, List.mem_of_getElem? e, a1⟩)⟩, C.len⟩
/-- the lambda runs, and raises -/
theorem lam_run {q : Str} {f : Addr} {params : Arguments} {body : Expr} {scope : Scope} {k : Nat} {t : XK → TE} {E : XK} {Q : VK} {A : Around} {outer : List Env} {s : Shared} (LF : LamF H q cells f params body scope) (L : LamN scope N) (C : CloH H cells N σ)
    (hbind : ∀ (pm cv ctv : Value), bindArgs (PySem.W.kla_fn "<lambda>" q params body scope (cloFrom cells scope.names []) pm cv ctv) ⟨[], []⟩ = pure [])
    (hbody : ∀ (c' : Addr) (A : Around) (outer : List Env) (s : Shared) (H' : Hp) (E : XK), Room k (A.deeper (lamV q scope s.heap.objs.size f c' (cloFrom cells scope.names []))) → PE (lamCx2 P w K mg base N q scope f c' (cloFrom cells scope.names []) A outer s H' E) body (t E))
    (ht : t (fun cls d H' => E cls d (joinH H (cellsOf cells N) H')) σ (dropH H (cellsOf cells N)) (fun _ _ => False)) (hr : Room (k + 1) A) (e0 : Env0 P w K mg base A outer s H) :
    codeAny (model P w) A (.call (.ref f) ⟨[], []⟩) (CR (L2.CX P w) outer P w H s Q E) s := by
  obtain ⟨pm, c', ctv, h1, h2⟩ := LF
  have of1 := pin_get e0.hok h1
  obtain ⟨⟨oc, vs, tk, g1, g2, g3⟩, _, _⟩ := e0.hok c' _ h2
  have lim : s.heap.NoLimit := e0.mod.nolimit.keeps fun b o e => (e0.bs b o e).1
  refine PySem.W.kla_callFunE hr.depth of1 rfl L.co L.gen rfl ⟨c', oc, vs, tk, rfl, g1, g2, g3⟩ ?_
  rw [hbind]
  refine wpAny_pure (wpAny_newFunctionEnv (fun y hy => (L.own y hy).2) (fun y hy => nomatch hy) (fun h₁ hns hsb => ⟨lim.fresh _ hsb, ?_⟩) L.kind)
  show codeAny _ _ (.expr body (lamV q scope s.heap.objs.size f c' (cloFrom cells scope.names []))) _ _
  have kp : ∀ b o, s.heap.get? b = some o → h₁.get? b = some o := fun b o e => hsb.extBut b o (Nat.ne_of_lt (Heap.lt_size e)) (Heap.get?_push_of_some _ e)
  have J : Inv (lamCx2 P w K mg base N q scope f c' (cloFrom cells scope.names []) A outer s (dropH H (cellsOf cells N)) fun cls d H' => E cls d (joinH H (cellsOf cells N) H')) [] σ (dropH H (cellsOf cells N)) { s with heap := h₁, toks := s.toks + ([] : List (Str × Value)).length } :=
    lam_inv L (C.r e0.hok) (drop_env C.pins e0) hr.hd hns kp
  refine PySem.W.kla_codeExpr (wpAny_mono ((hbody c' A outer s _ _ (hr.deeper _)).run [] _ _ _ _ J ht) (fun v s' hq => ?_) fun e s' hq => ?_)
  · obtain ⟨_, _, _, _, hf⟩ := hq
    exact hf.elim
  · exact wpAny_mono hq (fun _ s'' hc => cx_join C.pins e0 hc) fun e' s'' hc => cx_join C.pins e0 hc
end
end PD

/-! The data layer: what a lambda promises, and the call of one that a slot holds. -/
namespace PD
open PySem PySem.Spec PyProof.Rows L2
structure LamOk (P : Program) (w : World) (K : PySem.W.Frag) (mg : Str → Option Value) (base : Heap) (k : Nat) (H : Hp) (f : Addr) (c : Str) : Prop where
  fn : ∃ q cells params body scope, LamF H q cells f params body scope
  run : ∀ H', Le H H' → ∀ (A : Around) (outer : List Env) (s : Shared) (Q : VK) (E : XK), (∀ H2, Le H' H2 → E (cV mg c) none H2) → Room k A → Env0 P w K mg base A outer s H' →
    codeAny (model P w) A (.call (.ref f) ⟨[], []⟩) (CR (L2.CX P w) outer P w H' s Q E) s
section
variable {P : Program} {w : World} {K : PySem.W.Frag} {mg : Str → Option Value} {base : Heap} {k : Nat} {H H' : Hp} {f : Addr} {c : Str}
theorem LamOk.le (h : LamOk P w K mg base k H f c) (l : Le H H') : LamOk P w K mg base k H' f c := by
  obtain ⟨q, cells, params, body, scope, hf⟩ := h.fn
  exact ⟨⟨q, cells, params, body, scope, hf.ext fun b φ e => l b _ e⟩, fun H2 l2 => h.run H2 (le_trans l l2)⟩
theorem LamOk.mono {j : Nat} (h : LamOk P w K mg base j H f c) (l : j ≤ k) : LamOk P w K mg base k H f c := ⟨h.fn, fun H2 l2 A outer s Q E hE hr => h.run H2 l2 A outer s Q E hE (hr.mono l)⟩
theorem lamOk_mk {q : Str} {cells : List (Str × Addr)} {params : Arguments} {body : Expr} {scope : Scope} {N : List Str} {vs : List V} {ds : List PyData} {G : Hp} {m : M} (LF : LamF H q cells f params body scope) (L : LamN scope N) (C : CloH H cells N (vs.map some))
    (hbind : ∀ (pm cv ctv : Value), bindArgs (PySem.W.kla_fn "<lambda>" q params body scope (cloFrom cells scope.names []) pm cv ctv) ⟨[], []⟩ = pure [])
    (hbody : ∀ (c' : Addr) (A : Around) (outer : List Env) (s : Shared) (H' : Hp) (E : XK), Room k (A.deeper (lamV q scope s.heap.objs.size f c' (cloFrom cells scope.names []))) → SE (lamCx2 P w K mg base N q scope f c' (cloFrom cells scope.names []) A outer s H' E) E body m)
    (lg : Le G (dropH H (cellsOf cells N))) (dx : DqAll K G vs ds) (hm : m (ds.map .v) = .ex c) : LamOk P w K mg base (k + 1) H f c := by
  refine ⟨⟨q, cells, params, body, scope, LF⟩, fun H2 l2 A outer s Q E hE hr e0 => ?_⟩
  have C2 := C.le l2
  refine lam_run (t := fun E => tX K (Dq K) mg E m) (LF.ext fun b φ e => l2 b _ e) L C2 hbind hbody ?_ hr e0
  have lg2 : Le G (dropH H2 (cellsOf cells N)) := fun b u e => by
    obtain ⟨a1, a2⟩ := dropH_some (lg b u e)
    rw [dropH_out a1]
    exact l2 b u a2
  have nov : ∀ i d, gat (ds.map Sl.v) i = .v d → ds[i]? = some d := fun i d e => by
    have := gat_start ds 0 i d
    simp only [List.replicate_zero, List.append_nil] at this
    exact this e
  have noo : ∀ i es, gat (ds.map Sl.v) i ≠ .own es := fun i es => by
    have := gat_start_own ds 0 i es
    simpa using this
  have noa : ∀ i a, gat (ds.map Sl.v) i ≠ .ad a := fun i a => by
    have := gat_start_ad ds 0 i a
    simpa using this
  refine ⟨G, ds.map .v, G, ⟨lg2, by simp [dpa_len dx], fun i d e => ?_, fun i es e => absurd e (noo i es), fun i j es fs p e => absurd e (noo i es), fun i es p e => absurd e (noo i es), fun i a e => absurd e (noa i a)⟩, ?_⟩
  · obtain ⟨v, e1, e2⟩ := dpa_get dx (nov i d e)
    exact ⟨v, by rw [List.getElem?_map, e1]; rfl, e2⟩
  · rw [hm]
    intro H3 l3
    refine hE _ fun b u e => ?_
    by_cases hb : b ∈ cellsOf cells N
    · rw [joinH_in hb]; exact e
    · rw [joinH_out hb]
      exact l3 b u (by rw [dropH_out hb]; exact e)
end
section
variable {X : Cx} {E : XK} {k : Nat}
theorem pe_callLam (i : Nat) {a : Str} {p1 p2 : Pos} (hr : Room k X.A) (hx : Passes (L2.CX X.prog X.w) X E) (hN : X.N[i]? = some a := by rfl) (hv : Vis X.env.scope a := by first | exact Or.inl rfl | exact Or.inr (Or.inl rfl) | exact Or.inr (Or.inr rfl)) (hd : (a == ("__debug__" : Str)) = false := by decide) (hcd : (a == ("__classdict__" : Str)) = false := by decide) :
    PE X (.Call (.Name a p1) [] [] p2) (fun σ H Q => ∃ f c, σ[i]? = some (some (.ref f)) ∧ LamOk X.prog X.w X.K X.mg X.base k H f c ∧ ∀ H', Le H H' → E (cV X.mg c) none H') := by
  refine ⟨fun pins s σ H Q I ⟨f, c, hs, lo, hE⟩ => ?_⟩
  refine wpAny_Call_Name_kw (thn ((pe_var (pos := p1) (i := i) hN hv hd hcd).run pins s σ H (fun v H1 => v = .ref f ∧ H1 = H) I ⟨.ref f, hs, rfl, rfl⟩) fun u s1 ⟨v, H1, I1, r1, e1, e2⟩ => ?_)
  subst e1
  subst e2
  obtain rfl : u = Value.ref f := r1
  obtain ⟨q, cells, params, body, scope, pm, c', ctv, g1, g2⟩ := lo.fn
  have of1 := pin_get I1.hok g1
  refine PySem.W.callWith_F0 ⟨_, _, _, _, of1⟩ ?_
  have rc := lo.run H1 (fun _ _ e => e) X.A X.stack s1 (fun _ _ => False) E hE hr I1.env0
  refine wpAny_call (codeAny_mono rc fun r s' hq => ?_)
  cases r with
  | error e => exact hx pins σ H1 s1 e s' I1 hq
  | ok fl =>
    cases fl with
    | ret u =>
      obtain ⟨_, _, _, _, _, _, _, z⟩ := hq
      exact z.elim
    | next => exact hq.elim
    | brk => exact hq.elim
    | cont => exact hq.elim
end
end PD

/-! The data layer: a def that is called in a handler with the exception. -/
namespace PD
open PySem PySem.Spec PyProof.Rows L2
/-- the exception at p is of the class c of these -/
structure InP (K : PySem.W.Frag) (mg : Str → Option Value) (p : Addr × Obj) (names : List Str) (c : Str) : Prop where
  ex : ∃ D, ExcC K D ∧ Zc (.ref D) none p.2 ∧ (∃ vs, p.2.data = .fields vs) ∧ PySem.W.kitOne K (.ref D) (.type "ValueError") = some true ∧ ∀ c2 ∈ names, ∃ D2, mg c2 = some (.ref D2) ∧ PySem.W.kitOne K (.ref D) (.ref D2) = some (decide (c = c2))
section
variable {X : Cx}
/-- isinstance(e, c), e pinned in the context -/
theorem call_isP {p : Addr × Obj} {D : Addr} (hp : p ∈ X.pn) (C : ExcC X.K D) (hz : Zc (.ref D) none p.2) (hf : ∃ vs, p.2.data = .fields vs) : CallR X (.builtin "isinstance") (rIsE X.K D p.1) := by
  intro pins s σ H xs us Q I r h
  obtain ⟨c, cv, b, rfl, hcv, e, q⟩ := h
  cases r with
  | cons rx rr =>
    cases rr with
    | cons rt rr =>
      cases rr
      cases rx
      obtain rfl := hcv _ rt
      obtain ⟨hget, _⟩ := I.pin p (List.mem_append.mpr (.inl hp))
      obtain ⟨vs, hv⟩ := hf
      have J : PySem.W.InstAt s.heap p.1 p.2 D none := by
        obtain ⟨pa, oc, od, oda, osl⟩ := p
        obtain ⟨h1, h2⟩ := hz
        dsimp only at h1 h2 hv
        subst h1 h2 hv
        exact ⟨hget, rfl, rfl, trivial⟩
      exact PySem.W.kia_one (PySem.W.handS_kitx_exc C.hg C.hk C.hs C.hd C.ha C.hn C.ht C.hm) I.kIn J e (fun z => nomatch z) fun tk => ⟨.bl b, H, I.kept (t' := tk) fun _ _ z => z, rfl, q⟩
def mIsP (i : Nat) (a : Addr) (b : Bool) : M := fun Γ => match gat Γ i with
  | .ad a' => if a' = a then .ok (.bool b) else .no
  | _ => .no
section
variable {E : XK} {pos : Pos} {names : List Str} {c : Str} {p : Addr × Obj}
theorem se_isP (i : Nat) {nm cn : Str} {q q1 q2 : Pos} (hp : p ∈ X.pn) (S : InP X.K X.mg p names c) (hcn : cn ∈ names) (hm : X.mg "isinstance" = none) (hN : X.N[i]? = some nm := by rfl) (hg : Gl X "isinstance" := by exact rfl)
    (hv : Vis X.env.scope nm := by first | exact Or.inl rfl | exact Or.inr (Or.inl rfl) | exact Or.inr (Or.inr rfl)) (hd : (nm == ("__debug__" : Str)) = false := by decide) (hcd : (nm == ("__classdict__" : Str)) = false := by decide)
    (hgc : Gl X cn := by exact rfl) (hdc : (cn == ("__debug__" : Str)) = false := by decide)
    (he : starEach [.Name nm q1, .Name cn q2] X.env = (false, eval (.Name nm q1) X.env) :: starEach [.Name cn q2] X.env := by rfl)
    (he2 : starEach [.Name cn q2] X.env = (false, eval (.Name cn q2) X.env) :: starEach [] X.env := by rfl) (hpl : (backTo pos (starEach [.Name cn q2] X.env)).any (·.1) = false := by rfl) :
    SE X E (.Call (.Name "isinstance" q) [.Name nm q1, .Name cn q2] [] pos) (mIsP i p.1 (decide (c = cn))) := by
  obtain ⟨D, C, hz, hf, _, hk⟩ := S.ex
  obtain ⟨D2, h1, h2⟩ := hk cn hcn
  refine pe_of (pe_callB (call_isP hp C hz hf) hg hm PyProof.Rows.boot_isinstance (pa_cons (pe_var (i := i) hN hv hd hcd) (pa_cons (pe_glob (v := V.ref D2) hgc h1 rfl hdc) pa_nil he2) he) (he := he) (hpl := hpl)) fun σ H Q ⟨B, Γ, G, sr, po⟩ => ?_
  unfold mIsP at po
  cases e1 : gat Γ i with
  | no => rw [e1] at po; exact po.elim
  | v d => rw [e1] at po; exact po.elim
  | own d => rw [e1] at po; exact po.elim
  | ad a' =>
    rw [e1] at po
    dsimp only at po
    split at po
    · rename_i ha
      subst ha
      exact ⟨.ref p.1, sr.adr i p.1 e1, V.ref D2, .ref D2, _, rfl, fun u h => h, h2, po (.bl (decide (c = cn))) G H (Gr.refl sr.sub) (.bl _)⟩
    · exact po.elim
theorem se_isPV (i : Nat) {nm : Str} {q q1 q2 : Pos} (hp : p ∈ X.pn) (S : InP X.K X.mg p names c) (hm : X.mg "isinstance" = none) (hmv : X.mg "ValueError" = none) (hN : X.N[i]? = some nm := by rfl) (hg : Gl X "isinstance" := by exact rfl)
    (hv : Vis X.env.scope nm := by first | exact Or.inl rfl | exact Or.inr (Or.inl rfl) | exact Or.inr (Or.inr rfl)) (hd : (nm == ("__debug__" : Str)) = false := by decide) (hcd : (nm == ("__classdict__" : Str)) = false := by decide)
    (hgc : Gl X "ValueError" := by exact rfl)
    (he : starEach [.Name nm q1, .Name "ValueError" q2] X.env = (false, eval (.Name nm q1) X.env) :: starEach [.Name "ValueError" q2] X.env := by rfl)
    (he2 : starEach [.Name "ValueError" q2] X.env = (false, eval (.Name "ValueError" q2) X.env) :: starEach [] X.env := by rfl) (hpl : (backTo pos (starEach [.Name "ValueError" q2] X.env)).any (·.1) = false := by rfl) :
    SE X E (.Call (.Name "isinstance" q) [.Name nm q1, .Name "ValueError" q2] [] pos) (mIsP i p.1 true) := by
  obtain ⟨D, C, hz, hf, hk, _⟩ := S.ex
  refine pe_of (pe_callB (call_isP hp C hz hf) hg hm PyProof.Rows.boot_isinstance (pa_cons (pe_var (i := i) hN hv hd hcd) (pa_cons (pe_bltn (v := .ty "ValueError") hgc hmv (by decide +kernel) rfl (by decide) (by decide)) pa_nil he2) he) (he := he) (hpl := hpl)) fun σ H Q ⟨B, Γ, G, sr, po⟩ => ?_
  unfold mIsP at po
  cases e1 : gat Γ i with
  | no => rw [e1] at po; exact po.elim
  | v d => rw [e1] at po; exact po.elim
  | own d => rw [e1] at po; exact po.elim
  | ad a' =>
    rw [e1] at po
    dsimp only at po
    split at po
    · rename_i ha
      subst ha
      exact ⟨.ref p.1, sr.adr i p.1 e1, .ty "ValueError", .type "ValueError", _, rfl, fun u h => h, hk, po (.bl true) G H (Gr.refl sr.sub) (.bl _)⟩
    · exact po.elim
end
end
end PD

/-! The data layer: xs.count(x), xs.index(x) in a handler; defs called in a handler with the exception at hand. -/
namespace PD
open PySem PySem.Spec PyProof.Rows L2
section
variable {X : Cx} {E : XK} {pos : Pos}
def rCountD (K : PySem.W.Frag) : V → List V → Hp → VK → Prop := fun x xs H Q => ∃ (a : Addr) (y : V) (d : PyData) (ds : List PyData), x = V.ref a ∧ xs = [y] ∧ Dp K H (V.ref a) (.list ds) ∧ Dp K H y d ∧
  SeqAt.shaped (.list ds) = true ∧ SeqAt.shaped d = true ∧ Q (.int ((ds.countP fun z => PyData.eqv z d : Nat) : Int)) H
theorem mt_countD (hu : X.A.units + 65 < cLine) : MtR X "list.count" (rCountD X.K) := by
  intro pins s σ H x xs v us Q I rx rxs h
  obtain ⟨a, y, d, ds, rfl, rfl, hl, hy, sl, sd, q⟩ := h
  cases rx
  cases rxs with
  | cons ry rt =>
    rename_i uy ut
    cases rt
    obtain ⟨bs, r1⟩ := Dp.reads I d y uy hy ry
    have hxs : PyData.canLayAll0 ds = true := SeqAt.canLay_of_shaped sl
    cases hl with
    | lst hs ha =>
      obtain ⟨its, rv, ⟨o, n, ho, hcl, hdn, hdt⟩, hlen⟩ := I.list hs
      obtain ⟨as, h4⟩ := Dp.readsAll I ds _ its ha rv
      have e1 : its.toArray.toList = its := by simp
      have hroom : X.A.units + 1 + min (PyData.depthAll ds) d.depth < cLine := room_in_shaped sd hu
      exact PySem.SeqAt.count_list_data (l := a) (vs := its.toArray) (xs := ds) (as := as) ⟨o, ho, hcl, n, hdt⟩ (by rw [e1]; exact h4) r1 (PyData.plainAll_of_canLay0 ds hxs) (PyData.plain_of_canLay0 d (SeqAt.canLay_of_shaped sd)) hroom ⟨.int ((ds.countP fun z => PyData.eqv z d : Nat) : Int), H, I.tok _, ⟨_, rfl⟩, q⟩
/-- xs.count(x) -/
def dCount : PyData → PyData → R PyData
  | .list ds, d => if SeqAt.shaped (.list ds) = true ∧ SeqAt.shaped d = true then .ok (.int ((ds.countP fun z => PyData.eqv z d : Nat) : Int)) else .no
  | _, _ => .no
def mCount (mo me : M) : M := fun Γ => (mo Γ).bind fun x => match x with
  | .list ds => (me Γ).bind (dCount (.list ds))
  | _ => .no
theorem se_countU (hu : X.A.units + 66 < cLine) {o e : Expr} {mo me : M} {apos pos : Pos} (ho : SE X E o mo) (he : SE X E e me) (hs : starEach [e] X.env = (false, eval e X.env) :: starEach [] X.env := by rfl) (hbase : attributeBase o "count" X.env (eval o X.env) = eval o X.env := by rfl)
    (hfew : ((backTo pos (starEach [e] X.env)).all (fun x => !x.1) && (backToKw pos (keywordEach [] X.env)).all (fun x => x.1.isSome)
      && decide ([e].length + ([] : List Keyword).length + (if ([] : List Keyword).isEmpty then 0 else 1) < 30)) = true := by rfl)
    (hline : (apos.endLine == pos.line) = true := by rfl) (hplain : (backTo pos (starEach [] X.env)).any (·.1) = false := by rfl) :
    SE X E (.Call (.Attribute o "count" apos) [e] [] pos) (mCount mo me) :=
  pe_of (pe_bm (T := "list") PySem.F.plainAttrs_list PySem.F.slot_list_count PySem.F.type_list_count (mt_countD (by omega)) ho (pa_cons he pa_nil hs) hbase hfew hline hs hplain) fun σ H Q ⟨B0, Γ, G, sr, po⟩ => ⟨B0, Γ, G, sr, Po.bind po fun d x G1 H1 _ g1 dx po1 => by
    cases dx with
    | @lst b xs ds h1 a1 =>
      refine ⟨.inl ⟨rfl, xs, sq1 g1.s h1⟩, B0, Γ, G1, sr.gr g1, Po.bind po1 fun d2 y G2 H2 _ g2 dy po2 => ?_⟩
      replace po2 : Po (Dq X.K) X.mg E G2 H2 Q (if SeqAt.shaped (.list ds) = true ∧ SeqAt.shaped d2 = true then R.ok (.int ((ds.countP fun z => PyData.eqv z d2 : Nat) : Int)) else .no) := po2
      split at po2
      · rename_i hsh
        have dl : Dq X.K G2 (.ref b) (.list ds) := dp_le g2.g (.lst h1 a1)
        exact ⟨b, y, d2, ds, rfl, rfl, dq_dp0 (dp_le g2.s dl) hsh.1, dq_dp0 (dp_le g2.s dy) hsh.2, hsh.1, hsh.2, Po.ok (d := PyData.int ((ds.countP fun z => PyData.eqv z d2 : Nat) : Int)) po2 g2.s (.int _)⟩
      · exact po2.elim
    | _ => exact po1.elim⟩
theorem se_indexU (hu : X.A.units + 66 < cLine) {o e : Expr} {mo me : M} {apos pos : Pos} (ho : SE X E o mo) (he : SE X E e me) (hs : starEach [e] X.env = (false, eval e X.env) :: starEach [] X.env := by rfl) (hbase : attributeBase o "index" X.env (eval o X.env) = eval o X.env := by rfl)
    (hfew : ((backTo pos (starEach [e] X.env)).all (fun x => !x.1) && (backToKw pos (keywordEach [] X.env)).all (fun x => x.1.isSome)
      && decide ([e].length + ([] : List Keyword).length + (if ([] : List Keyword).isEmpty then 0 else 1) < 30)) = true := by rfl)
    (hline : (apos.endLine == pos.line) = true := by rfl) (hplain : (backTo pos (starEach [] X.env)).any (·.1) = false := by rfl) :
    SE X E (.Call (.Attribute o "index" apos) [e] [] pos) (mIndex mo me) :=
  pe_of (pe_bm (T := "list") PySem.F.plainAttrs_list PySem.F.slot_list_index PySem.F.type_list_index (mt_indexD (by omega)) ho (pa_cons he pa_nil hs) hbase hfew hline hs hplain) fun σ H Q ⟨B0, Γ, G, sr, po⟩ => ⟨B0, Γ, G, sr, Po.bind po fun d x G1 H1 _ g1 dx po1 => by
    cases dx with
    | @lst b xs ds h1 a1 =>
      refine ⟨.inl ⟨rfl, xs, sq1 g1.s h1⟩, B0, Γ, G1, sr.gr g1, Po.bind po1 fun d2 y G2 H2 _ g2 dy po2 => ?_⟩
      replace po2 : Po (Dq X.K) X.mg E G2 H2 Q (if SeqAt.shaped (.list ds) = true ∧ SeqAt.shaped d2 = true then (match ds.findIdx? fun z => PyData.eqv z d2 with
        | some j => .ok (.int (j : Nat))
        | none => .no) else .no) := po2
      split at po2
      · rename_i hsh
        cases ej : ds.findIdx? fun z => PyData.eqv z d2 with
        | none => rw [ej] at po2; exact po2.elim
        | some j =>
          rw [ej] at po2
          obtain ⟨hj, hz, hno⟩ := List.findIdx?_eq_some_iff_getElem.mp ej
          have dl : Dq X.K G2 (.ref b) (.list ds) := dp_le g2.g (.lst h1 a1)
          refine ⟨b, y, d2, ds, j, ds[j], rfl, rfl, dq_dp0 (dp_le g2.s dl) hsh.1, dq_dp0 (dp_le g2.s dy) hsh.2, hsh.1, hsh.2, by simp [hj], hz, fun m z' hm hz' => ?_, Po.ok (d := PyData.int (j : Nat)) po2 g2.s (.int _)⟩
          have := hno m hm
          have hml : m < ds.length := Nat.lt_trans hm hj
          rw [List.getElem?_eq_getElem hml] at hz'
          cases hz'
          simpa using this
      · exact po2.elim
    | _ => exact po1.elim⟩
/-- != of whole numbers, in a handler as well -/
def dNeI : PyData → PyData → R PyData
  | .int i, .int j => .ok (.bool (!decide (i = j)))
  | _, _ => .no
theorem od_neI : OD X E (compareOp .NotEq) dNeI := od_of op_ne fun G H x y d e Q sz l dx dy po => by
  cases dx with
  | int i =>
    cases dy with
    | int j => exact ⟨rfl, by rw [show decide (V.int i = V.int j) = decide (i = j) by simp]; exact Po.ok (d := PyData.bool (!decide (i = j))) po l (.bl _)⟩
    | _ => exact po.elim
  | _ => exact po.elim
end
/-! ### defs called in a handler, the exception at hand -/
structure FnHp (P : Program) (w : World) (K : PySem.W.Frag) (mg : Str → Option Value) (base : Heap) (k : Nat) (f : Addr) (fd : FuncData) (ps : List Str) (spp : Addr × Obj → Sp) : Prop where
  len : ∀ p vs H Q E, spp p vs H Q E → vs.length = ps.length
  run : ∀ (A : Around) (outer : List Env) (s : Shared) (H : Hp) (args : Args) (us : List Value) (vs : List V) (Q : VK) (E : XK) (p : Addr × Obj), L2H.RoomH k A → L2H.PinOk outer H s p → Env0 P w K mg base A outer s H → BindsTo s fd args (ps.zip us) → Vals vs us → spp p vs H Q E →
    codeAny (model P w) A (.call (.ref f) args) (CR (L2.CX P w) outer P w H s Q E) s
end PD

/-! The data layer: the class of an exception, told by a def. -/
namespace PD
open PySem PySem.Spec PyProof.Rows L2
section
variable {P : Program} {w : World} {K : PySem.W.Frag} {mg : Str → Option Value} {base : Heap} {x : Str} {st : Stmt} {f : Addr} {fd : FuncData} {N ps : List Str} {k : Nat} {spp : Addr × Obj → Sp}
theorem fnHp_mk (F : FnP K x st f fd) (S : FnScope N ps (defScope st)) (len : ∀ p vs H Q E, spp p vs H Q E → vs.length = ps.length)
    (body : ∀ (cdv : Value) (A : Around) (outer : List Env) (s : Shared) (H : Hp) (vs : List V) (Q : VK) (E : XK) (p : Addr × Obj), L2H.RoomH k (A.deeper (envOfC x (defScope st) s.heap.objs.size f cdv)) → spp p vs H Q E →
      ∃ t, PSs (L2H.cxH (L2.CX P w) P w K mg base N x (defScope st) f cdv A outer s H E p) (defBody st) t ∧ t { nx := fun _ H' => Q .non H', rt := Q } (L2.start N vs) H) : FnHp P w K mg base (k + 1) f fd ps spp := by
  obtain ⟨oc, od, dV, kV, doc, pm, an, cdv, ct, osl, rfl, lk, hcd, _, _⟩ := F.ex
  refine ⟨len, fun A outer s H args us vs Q E p hr hpin e0 hb r hsp => ?_⟩
  have KX : K.In s.heap := e0.mod.kin.keeps fun b o e => (e0.bs b o e).1
  have lim : s.heap.NoLimit := e0.mod.nolimit.keeps fun b o e => (e0.bs b o e).1
  refine codeAny_call_function hr.depth (KX _ _ lk) rfl S.co S.gen rfl (PySem.W.codeRec_of KX hcd) (hb _ _ _ _ (wpAny_newFunctionEnv_cells S.kind (fun ⟨n, v⟩ hy => ?_) fun env he s1 x1 => ?_))
  · rcases S.par n (List.of_mem_zip hy).1 with q | q
    · exact .inl q
    · exact .inr ⟨q, PySem.W.cellsFrom_some _ _ _ (.inl q)⟩
  · subst he
    obtain ⟨t, ht, hq⟩ := body cdv A outer s H vs Q E p (hr.deeper _) hsp
    have I := L2H.inv_startH (CX := L2.CX P w) (K := K) (mg := mg) (base := base) (N := N) (E := E) S hpin e0 (len p _ _ _ _ hsp) r x1
    refine ⟨lim.keeps x1.toInCall.keep, codeAny_func (wpAny_mono (ht.run [] s1 (L2.start N vs) H _ I hq) (fun fl s' hs => ?_) fun e s' hs => hs)⟩
    cases fl with
    | ret u =>
      obtain ⟨v, σ', H', J, rv, q⟩ := hs
      exact ⟨v, H', J.os, J.bare, J.base, J.hok, rv, q⟩
    | next =>
      obtain ⟨σ', H', J, q⟩ := hs
      exact ⟨.non, H', J.os, J.bare, J.base, J.hok, rfl, q⟩
    | brk =>
      obtain ⟨_, _, _, q⟩ := hs
      exact q.elim
    | cont =>
      obtain ⟨_, _, _, q⟩ := hs
      exact q.elim
end
section
variable {X : Cx} {E : XK} {k : Nat} {f : Addr} {fd : FuncData} {ps : List Str} {spp : Addr × Obj → Sp} {x : Str} {q pos : Pos} {e : Expr} {es : List Expr} {t : TA} {p : Addr × Obj}
theorem pe_callHp (F : FnHp X.prog X.w X.K X.mg X.base k f fd ps spp) (hr : L2H.RoomH k X.A) (hp : p ∈ X.pn) (hg : Gl X x) (hm : X.mg x = some (.ref f)) (hk : PySem.W.keepIn X.K (.ref f) = true) (hb : Binds X.K fd ps []) (hx : Passes (L2.CX X.prog X.w) X E)
    (ha : PA X (e :: es) t) (hdb : (x == ("__debug__" : Str)) = false := by decide) (he : starEach (e :: es) X.env = (false, eval e X.env) :: starEach es X.env := by rfl) (hpl : (backTo pos (starEach es X.env)).any (·.1) = false := by rfl) :
    PE X (.Call (.Name x q) (e :: es) [] pos) (fun σ H Q => t σ H fun vs H1 => spp p vs H1 Q E) := by
  refine ⟨fun pins s σ H Q I h => wpAny_Call_Name_kw (ld_glob I hg hm ?_ hdb)⟩
  refine PySem.W.callWith_K (h₀ := X.base) I.ok.mod.kin hk (thn (ha.run pos pins s σ H _ I h) fun us s1 ⟨vs, H1, I1, r, sp⟩ => ⟨I1.kIn, ?_⟩) he hpl
  have hl : us.length = ps.length := by rw [← r.length]; exact F.len _ _ _ _ _ sp
  have b := hb s1 us I1.kIn (by rw [List.append_nil]; exact hl)
  rw [List.append_nil] at b
  obtain ⟨p1, p2, p3, p4, p5⟩ := I1.pin p (List.mem_append_left _ hp)
  have hpin : L2H.PinOk X.stack H1 s1 p := ⟨p1, p2, fun hm => (List.mem_cons.mp (I1.stkSub p.1 hm)).elim p3 p4, p5⟩
  refine wpAny_call (codeAny_mono (F.run X.A X.stack s1 H1 ⟨us, []⟩ us vs Q E p hr hpin I1.env0 b r sp) fun r s' hq => ?_)
  cases r with
  | error e => exact hx pins σ H1 s1 e s' I1 hq
  | ok fl =>
    cases fl with
    | ret u => exact I1.after hq
    | next => exact hq.elim
    | brk => exact hq.elim
    | cont => exact hq.elim
end
/-! ### the def that tells the class -/
def spCl (K : PySem.W.Frag) (mg : Str → Option Value) (names : List Str) : Addr × Obj → Sp := fun p vs H Q _ => ∃ G c, vs = [.ref p.1] ∧ Le G H ∧ c ∈ names ∧ InP K mg p names c ∧ ∀ x G' H', Gr G H G' H' → Dq K G' x (.str c) → Q x H'
structure ClD (P : Program) (w : World) (K : PySem.W.Frag) (mg : Str → Option Value) (base : Heap) (k : Nat) (x : Str) (names : List Str) : Prop where
  ex : ∃ f fd ps, mg x = some (.ref f) ∧ FnHp P w K mg base k f fd ps (spCl K mg names) ∧ PySem.W.keepIn K (.ref f) = true ∧ Binds K fd ps []
theorem clD_mk {P : Program} {w : World} {K : PySem.W.Frag} {mg : Str → Option Value} {base : Heap} {x n0 : Str} {st : Stmt} {f : Addr} {fd : FuncData} {N : List Str} {k : Nat} {names : List Str} {m : Addr → Str → MS} (F : FnP K x st f fd) (S : FnScope N [n0] (defScope st)) (hg : mg x = some (.ref f)) (hb : L2.Binds K fd [n0] []) (hl : 1 ≤ N.length)
    (hm : ∀ a, ∀ c ∈ names, m a c (.ad a :: List.replicate (N.length - 1) .no) = .rt (.str c))
    (body : ∀ (cdv : Value) (A : Around) (outer : List Env) (s : Shared) (H : Hp) (E : XK) (p : Addr × Obj) (c : Str), L2H.RoomH k (A.deeper (envOfC x (defScope st) s.heap.objs.size f cdv)) → InP K mg p names c →
      SB (L2H.cxH (L2.CX P w) P w K mg base N x (defScope st) f cdv A outer s H E p) E (defBody st) (m p.1 c)) : ClD P w K mg base (k + 1) x names := by
  refine ⟨f, fd, [n0], hg, ?_, F.kp, hb⟩
  refine fnHp_mk F S (fun p vs H Q E h => ?_) (fun cdv A outer s H vs Q E p hr h => ?_)
  · obtain ⟨G, c, e, _⟩ := h
    rw [e]; rfl
  · obtain ⟨G, c, rfl, lg, hc, ip, q⟩ := h
    have gr : ∀ i, gat (.ad p.1 :: List.replicate (N.length - 1) Sl.no) (i + 1) = .no := fun i => by
      show gat (List.replicate (N.length - 1) Sl.no) i = .no
      cases e : gat (List.replicate (N.length - 1) Sl.no) i with
      | no => rfl
      | v d =>
        have := gat_start [] (N.length - 1) i d (by simpa using e)
        simp at this
      | own d => exact absurd (by simpa using e) (gat_start_own [] (N.length - 1) i d)
      | ad d => exact absurd (by simpa using e) (gat_start_ad [] (N.length - 1) i d)
    refine ⟨_, body cdv A outer s H E p c hr ip, G, H, G, .ad p.1 :: List.replicate (N.length - 1) .no, ⟨⟨lg, by simp [L2.start], fun i d e => ?_, fun i d e => ?_, fun i j d f q e => ?_, fun i d q e => ?_, fun i a e => ?_⟩, Gr.refl lg⟩, ?_⟩
    · match i with
      | 0 => cases e
      | i + 1 => rw [gr] at e; cases e
    · match i with
      | 0 => cases e
      | i + 1 => rw [gr] at e; cases e
    · match i with
      | 0 => cases e
      | i + 1 => rw [gr] at e; cases e
    · match i with
      | 0 => cases e
      | i + 1 => rw [gr] at e; cases e
    · match i with
      | 0 => cases e; rfl
      | i + 1 => rw [gr] at e; cases e
    · rw [hm p.1 c hc]
      exact q
end PD

/-! The data layer: try: return call() / except X as e: return (.., tell(e)). -/
namespace PD
open PySem PySem.Spec PyProof.Rows L2
structure ExsV (K : PySem.W.Frag) (mg : Str → Option Value) (bs : Str) (names : List Str) : Prop where
  ex : Exs K mg bs names
  ve : ∀ c ∈ names, ∀ D, mg c = some (.ref D) → PySem.W.kitOne K (.ref D) (.type "ValueError") = some true
def spR (P : Program) (w : World) (K : PySem.W.Frag) (mg : Str → Option Value) (base : Heap) (kl : Nat) (wd : Str) (names : List Str) : Sp := fun vs H Q _ => ∃ G f c, vs = [.ref f] ∧ Le G H ∧ LamOk P w K mg base kl H f c ∧ c ∈ names ∧
  ∀ x G' H', Gr G H G' H' → Dq K G' x (.tuple [.str wd, .str c]) → Q x H'
structure ResD (P : Program) (w : World) (K : PySem.W.Frag) (mg : Str → Option Value) (base : Heap) (k kl : Nat) (x wd : Str) (names : List Str) : Prop where
  ex : ∃ f fd ps, mg x = some (.ref f) ∧ ps.length = 1 ∧ FnOk P w K mg base (L2.CX P w) k f fd ps (spR P w K mg base kl wd names) ∧ PySem.W.keepIn K (.ref f) = true ∧ Binds K fd ps []
section
variable {X : Cx} {names : List Str} {i : Nat} {wd : Str} {k kl : Nat} {np pos pos' p1 p2 p3 p5 p6 p7 p8 p9 p10 : Pos} {j kt : Nat}
def tRes (X : Cx) (kl : Nat) (wd : Str) (names : List Str) : TS := fun D σ H => ∃ G f c, σ[0]? = some (some (.ref f)) ∧ σ.length = X.N.length ∧ Le G H ∧ LamOk X.prog X.w X.K X.mg X.base kl H f c ∧ c ∈ names ∧
  ∀ x G' H', Gr G H G' H' → Dq X.K G' x (.tuple [.str wd, .str c]) → D.rt x H'
theorem ps_res {n0 x n cl : Str} (hex : ExsV X.K X.mg x names) (hs : X.stack = X.env :: X.outer) (hf : X.env.frame = some X.env.locals) (hN : X.N.Nodup) (h0 : X.N[0]? = some n0) (hi : X.N[i]? = some n) (hln : X.env.kindOf n = some .local) (hg : Gl X x) (hd : (x == ("__debug__" : Str)) = false)
    (tk : Takes X (fun _ _ _ _ => False)) (hr : Room kl X.A) (hi0 : 0 ≠ i) (hn0 : (n0 == ("__debug__" : Str)) = false) (hn1 : (n0 == ("__classdict__" : Str)) = false) (hv0 : Vis X.env.scope n0) (hn2 : (n == ("__debug__" : Str)) = false) (hn3 : (n == ("__classdict__" : Str)) = false)
    (C : ClD X.prog X.w X.K X.mg X.base k cl names) (hrH : ∀ a : Addr, L2H.RoomH k (X.A.mark (some (.ref a)))) (hgc : Gl X cl) (hdc : (cl == ("__debug__" : Str)) = false)
    (hst : starEach [.Name n p7] X.env = (false, eval (.Name n p7) X.env) :: starEach [] X.env) (hpl : (backTo p8 (starEach [] X.env)).any (·.1) = false)
    (hs1 : starEach [.Constant (.str wd) j p5, .Call (.Name cl p6) [.Name n p7] [] p8] X.env = (false, eval (.Constant (.str wd) j p5) X.env) :: starEach [.Call (.Name cl p6) [.Name n p7] [] p8] X.env)
    (hs2 : starEach [.Call (.Name cl p6) [.Name n p7] [] p8] X.env = (false, eval (.Call (.Name cl p6) [.Name n p7] [] p8) X.env) :: starEach [] X.env) :
    PS X (.Try [.Return (some (.Call (.Name n0 p1) [] [] p2)) p3] [.ExceptHandler (some (.Name x np)) (some n) [.Return (some (.Tuple [.Constant (.str wd) j p5, .Call (.Name cl p6) [.Name n p7] [] p8] kt p9)) p10] pos'] [] [] pos) (tRes X kl wd names) := by
  obtain ⟨B, hB, hx⟩ := hex.ex.ex
  obtain ⟨fc, fdc, psc, mc, Fc, kc, bc⟩ := C.ex
  refine ps_of (ps_try_as (c := .ref B) (i := i) (Wout := fun _ _ _ _ => False)
    (tb := fun W D σ H => ∃ f c, σ[0]? = some (some (.ref f)) ∧ σ.length = X.N.length ∧ LamOk X.prog X.w X.K X.mg X.base kl H f c ∧ ∀ H' σ', Le H H' → σ'.length = X.N.length → W (cV X.mg c) none σ' H')
    (ts := fun a cls d D σ H => ∃ G c, c ∈ names ∧ cls = cV X.mg c ∧ d = none ∧ σ[i]? = some (some (.ref a)) ∧ Le G H ∧ ∀ x G' H', Gr G H G' H' → Dq X.K G' x (.tuple [.str wd, .str c]) → D.rt x H') hs hf hN hi hln ⟨hg, hd, .inl hB⟩ tk ?_ ?_) ?_
  · intro W pn xe t po
    have hp : Passes (L2.CX X.prog X.w) (X.tr pn xe) (fun cls d H => ∀ σ : L2.St, σ.length = X.N.length → W cls d σ H) :=
      passes_call (W := fun cls d _ H => ∀ σ : L2.St, σ.length = X.N.length → W cls d σ H) (fun u s' ⟨a, B', sI, pins, σ, H, cls, d, e, I, nb, up, sky, na, os, ag, w⟩ => t u s' ⟨a, B', sI, pins, σ, H, cls, d, e, I, nb, up, sky, na, os, ag, w σ I.len⟩) (fun _ _ _ _ h => h)
    refine pss_of (pss_one (ps_ret (pe_callLam (X := X.tr pn xe) (k := kl) 0 hr hp h0 hv0 hn0 hn1))) ?_
    rintro D σ H ⟨f, c, e1, _, e3, e4⟩
    exact ⟨f, c, e1, e3, fun H' l σ' hl => e4 H' σ' l hl⟩
  · intro a oe cls d pn hz hfl
    have hp : Passes (L2.CX X.prog X.w) (X.suite a ((a, oe) :: pn)) (fun _ _ _ => False) := fun pins σ H s e s' I c => by
      obtain ⟨_, _, _, _, _, _, _, _, _, _, _, _, z⟩ := c
      exact z.elim
    have hpin : (a, oe) ∈ (X.suite a ((a, oe) :: pn)).pn := List.mem_cons_self
    have pe := pe_tup (X := X.suite a ((a, oe) :: pn)) (pos := p9) (x1 := kt) (pa_cons (X := X.suite a ((a, oe) :: pn)) (pe_str (X := X.suite a ((a, oe) :: pn)) (x := wd) (j := j) (pos := p5)) (pa_cons (X := X.suite a ((a, oe) :: pn)) (pe_callHp (X := X.suite a ((a, oe) :: pn)) (q := p6) (pos := p8) Fc (hrH a) hpin hgc mc kc bc hp (pa_cons (X := X.suite a ((a, oe) :: pn)) (pe_var (X := X.suite a ((a, oe) :: pn)) (pos := p7) (i := i) hi (.inl hln) hn2 hn3) pa_nil hst) hdc hst hpl) pa_nil hs2) hs1)
    refine pss_of (pss_one (ps_ret pe)) ?_
    rintro D σ H ⟨G, c, hc, rfl, rfl, e1, lg, q⟩
    obtain ⟨Dc, g1, g2, g3, g4⟩ := hx c hc
    have e2 : cV X.mg c = .ref Dc := by unfold cV; rw [g1]; rfl
    rw [e2] at hz
    refine ⟨.ref a, e1, G, c, rfl, lg, hc, ⟨Dc, g2, hz, hfl, hex.ve c hc Dc g1, g4⟩, fun x G' H' g dx => ?_⟩
    show _ ∧ _
    refine ⟨sz_of (by show 2 ≤ 100000; decide), fun p hp => ?_⟩
    exact q (.ref p) _ _ (g.trans (Gr.new g.s hp)) (.tup (.inl (.inl upd_same)) (.cons (.str wd) (.cons (dp_le (le_upd (le_none g.s hp)) dx) .nil)))
  · rintro D σ H ⟨G, f, c, e1, e2, lg, lo, hc, q⟩
    refine ⟨f, c, e1, e2, lo, fun H' σ' l hl => ?_⟩
    obtain ⟨Dc, g1, g2, g3, g4⟩ := hx c hc
    have e3 : cV X.mg c = .ref Dc := by unfold cV; rw [g1]; rfl
    have hlt : i < σ'.length := by
      rw [hl]
      exact (List.getElem?_eq_some_iff.mp hi).1
    refine ⟨true, by rw [e3]; exact g3, fun _ a ha => ⟨G, c, hc, rfl, rfl, List.getElem?_set_self hlt, le_trans lg l, fun x G2 H2 g dx => ?_⟩, fun z => nomatch z⟩
    exact q x G2 H2 ⟨g.g, le_trans l g.h, g.s, fun b h1 h2 => by
      cases e : H b with
      | none => exact absurd e h1
      | some u => exact g.fr b (by rw [l b u e]; simp) h2⟩ dx
end
end PD

/-! The data layer: all([result(call) == (.., name) for call in calls]). -/
namespace PD
open PySem PySem.Spec PyProof.Rows L2
section
variable {P : Program} {w : World} {K : PySem.W.Frag} {mg : Str → Option Value} {base : Heap} {x : Str} {st : Stmt} {f : Addr} {fd : FuncData} {N : List Str} {n0 : Str} {k kl : Nat} {names : List Str} {wd : Str}
theorem resD_mk {s1 : Stmt} (F : FnP K x st f fd) (S : FnScope N [n0] (defScope st)) (hg : mg x = some (.ref f)) (hb : L2.Binds K fd [n0] []) (hl : 1 ≤ N.length) (hbd : defBody st = [s1])
    (body : ∀ (cdv : Value) (A : Around) (outer : List Env) (s : Shared) (H : Hp) (E : XK), Room k (A.deeper (envOfC x (defScope st) s.heap.objs.size f cdv)) →
      PS (cxOf (L2.CX P w) P w K mg base N x (defScope st) f cdv A outer s H E) s1 (tRes (cxOf (L2.CX P w) P w K mg base N x (defScope st) f cdv A outer s H E) kl wd names)) : ResD P w K mg base (k + 1) kl x wd names := by
  refine ⟨f, fd, [n0], hg, rfl, ?_, F.kp, hb⟩
  refine F.ok (sp := spR P w K mg base kl wd names) S (fun vs H Q E h => ?_) (fun cdv A outer s H vs Q E hr h => ?_)
  · obtain ⟨G, f, c, e, _⟩ := h
    rw [e]; rfl
  · obtain ⟨G, f2, c, rfl, lg, lo, hc, q⟩ := h
    have z := pss_one (body cdv A outer s H E hr)
    rw [← hbd] at z
    exact ⟨_, z, G, f2, c, rfl, by simp [L2.start]; show _ = N.length; omega, lg, lo, hc, q⟩
end
theorem ResD.mono {P w K mg base} {j k kl : Nat} {x wd names} (h : ResD P w K mg base j kl x wd names) (l : j ≤ k) : ResD P w K mg base k kl x wd names := by
  obtain ⟨f, fd, ps, a, b, c, d⟩ := h.ex
  exact ⟨f, fd, ps, a, b, c.mono l, d⟩
theorem ClD.mono {P w K mg base} {j k : Nat} {x names} (h : ClD P w K mg base j x names) (l : j ≤ k) : ClD P w K mg base k x names := by
  obtain ⟨f, fd, ps, a, F, c, d⟩ := h.ex
  exact ⟨f, fd, ps, a, ⟨F.len, fun A outer s H args us vs Q E p hr => F.run A outer s H args us vs Q E p (hr.mono l)⟩, c, d⟩
section
variable {X : Cx} {k kl : Nat} {names : List Str} {wd : Str} {pos q1 q2 q3 q4 q5 q6 : Pos} {j kt : Nat}
/-- result(c) == (wd, name) -/
def tEl (X : Cx) (kl : Nat) (names : List Str) (ic im : Nat) : TE := fun σ H Q => ∃ f c, σ[ic]? = some (some (.ref f)) ∧ σ[im]? = some (some (.str c)) ∧ LamOk X.prog X.w X.K X.mg X.base kl H f c ∧ c ∈ names ∧ ∀ H', Le H H' → Q (.bl true) H'
theorem pe_el {x nc nm : Str} (ic im : Nat) (D : ResD X.prog X.w X.K X.mg X.base k kl x wd names) (hr : Room k X.A) (hx : Passes (L2.CX X.prog X.w) X (fun _ _ _ => False)) (heq : ∀ c ∈ names, dEq (.tuple [.str wd, .str c]) (.tuple [.str wd, .str c]) = .ok (.bool true))
    (hg : Gl X x) (hdx : (x == ("__debug__" : Str)) = false) (hNc : X.N[ic]? = some nc) (hvc : Vis X.env.scope nc) (hc1 : (nc == ("__debug__" : Str)) = false) (hc2 : (nc == ("__classdict__" : Str)) = false) (hNm : X.N[im]? = some nm) (hvm : Vis X.env.scope nm) (hm1 : (nm == ("__debug__" : Str)) = false) (hm2 : (nm == ("__classdict__" : Str)) = false)
    (hst : starEach [.Name nc q2] X.env = (false, eval (.Name nc q2) X.env) :: starEach [] X.env) (hpl : (backTo q3 (starEach [] X.env)).any (·.1) = false)
    (hs1 : starEach [.Constant (.str wd) j q4, .Name nm q5] X.env = (false, eval (.Constant (.str wd) j q4) X.env) :: starEach [.Name nm q5] X.env) (hs2 : starEach [.Name nm q5] X.env = (false, eval (.Name nm q5) X.env) :: starEach [] X.env)
    (hmk : behindInMarks .Eq (.Tuple [.Constant (.str wd) j q4, .Name nm q5] kt q6) = false) :
    PE X (.Compare (.Call (.Name x q1) [.Name nc q2] [] q3) [.Eq] [.Tuple [.Constant (.str wd) j q4, .Name nm q5] kt q6] pos) (tEl X kl names ic im) := by
  obtain ⟨f, fd, ps, hm, hl, F, kp, hb⟩ := D.ex
  refine pe_of (pe_cmpR (od_eq (E := fun _ _ _ => False) hr) (pe_call F hr hg hm kp hb .nil hx (pa_cons (pe_var (i := ic) hNc hvc hc1 hc2) pa_nil hst) (hdb := hdx) (he := hst) (hpl := hpl)) (pe_tup (pa_cons (pe_str (x := wd) (j := j)) (pa_cons (pe_var (i := im) hNm hvm hm1 hm2) pa_nil hs2) hs1)) hmk) ?_
  rintro σ H Q ⟨fl, c, e1, e2, lo, hc, q⟩
  refine ⟨.ref fl, e1, ?_⟩
  show spR X.prog X.w X.K X.mg X.base kl wd names ([.ref fl] ++ []) H _ (fun _ _ _ => False)
  rw [List.append_nil]
  refine ⟨fun _ => none, fl, c, rfl, (fun _ _ e => nomatch e), lo, hc, fun y G' H' g dy => ?_⟩
  show ∃ v, _ ∧ _
  refine ⟨.str c, e2, ?_⟩
  show _ ∧ _
  refine ⟨sz_of (by show 2 ≤ 100000; decide), fun p hp => ?_⟩
  have hgp : G' p = none := le_none g.s hp
  refine ⟨upd G' p (.tup [.str wd, .str c]), _, .tuple [.str wd, .str c], ?_, dp_le (le_upd hgp) dy, .tup (.inl (.inl upd_same)) (.cons (.str wd) (.cons (.str c) .nil)), ?_⟩
  · intro b u e
    by_cases hb : b = p
    · subst hb; rw [upd_same] at e ⊢; exact e
    · rw [upd_ne hb] at e ⊢; exact g.s b u e
  · rw [heq c hc]
    intro z G3 H3 g3 dz
    cases dz
    exact q H3 (le_trans g.h (le_trans (le_upd hp) g3.h))
end
end PD

/-! The data layer: all(..) of such a comprehension. -/
namespace PD
open PySem PySem.Spec PyProof.Rows L2
/-- the comprehension over the lambdas at l -/
theorem lc_lams {P : Program} {w : World} {K : PySem.W.Frag} {mg : Str → Option Value} {base : Heap} {X : Cx} (eP : X.prog = P) (ew : X.w = w) (eK : X.K = K) (em : X.mg = mg) (eb : X.base = base) {kl : Nat} {names : List Str} {ii ic im : Nat} {σ : L2.St} {H : Hp} {Q : VK} {l : Addr} {fs : List Addr} {c : Str} (hii : ii ≠ ic) (him : im ≠ ic) (hic : ic < σ.length) (h0 : σ[ii]? = some (some (.ref l))) (h1 : σ[im]? = some (some (.str c))) (hl : H l = some (.lst (fs.map .ref)))
    (lo : ∀ f ∈ fs, LamOk P w K mg base kl H f c) (hc : c ∈ names) (hz : fs.length ≤ 1000) (q : ∀ p H', Le H H' → H p = none → H' p = some (.lst (List.replicate fs.length (.bl true))) → Q (.ref p) H') :
    tLc (iList K (tVar ii)) (gName ic) tYes (tEl X kl names ic im) [ic] σ H Q := by
  subst eP ew eK em eb
  refine ⟨.ref l, h0, l, rfl, ⟨_, .inl (.inl hl)⟩, fun D hD => ?_⟩
  have hlD : l ≠ D := fun z => by rw [← z, hl] at hD; cases hD
  refine ⟨fun i m H' => m = fs.length - i ∧ i ≤ fs.length ∧ Le H H' ∧ H' D = some (.lst (List.replicate i (.bl true))), ⟨fs.length, by simp, Nat.zero_le _, le_upd hD, upd_same⟩, ?_⟩
  rintro i m H' ⟨rfl, hi, le, hd⟩
  have hl' : H' l = some (.lst (fs.map .ref)) := le _ _ hl
  by_cases hlt : i < fs.length
  · refine .inr ⟨⟨_, .ref fs[i], .inl (.inl hl'), by simp [hlt]⟩, fun H2 => Le H H2 ∧ H2 D = some (.lst (List.replicate (i + 1) (.bl true))), fun H2 ⟨l2, d2⟩ => ⟨fs.length - (i + 1), by omega, rfl, hlt, l2, d2⟩, fun x H2 hy => ?_⟩
    obtain ⟨rfl, hy⟩ := hy
    have hx := hy _ (.inl (.inl hl'))
    rw [List.getElem?_map, List.getElem?_eq_getElem hlt] at hx
    cases hx
    show wipe ((wipe σ [ic]).set ic (some (.ref fs[i]))) [ic] = wipe σ [ic] ∧ _
    have w1 : wipe σ [ic] = σ.set ic none := rfl
    refine ⟨by rw [w1]; show ((σ.set ic none).set ic (some (.ref fs[i]))).set ic none = _; rw [List.set_set, List.set_set], ?_⟩
    rw [w1, List.set_set]
    dsimp only [tYes]
    rw [if_pos rfl]
    refine ⟨fs[i], c, List.getElem?_set_self hic, by rw [List.getElem?_set_ne (Ne.symm him)]; exact h1, (lo _ (List.getElem_mem hlt)).le le, hc, fun H3 l3 => ⟨List.replicate i (.bl true), l3 _ _ hd, ?_, ?_, ?_⟩⟩
    · rw [List.length_replicate]
      exact Nat.lt_of_lt_of_le (by omega : i < 100000) (by decide : 100000 ≤ sizeLine)
    · intro b u e
      have hb : b ≠ D := fun z => by rw [z, hD] at e; cases e
      rw [upd_ne hb]
      exact l3 b u (le b u e)
    · rw [upd_same, ← List.replicate_succ']
  · have e : i = fs.length := by omega
    subst e
    exact .inl ⟨⟨_, .inl (.inl hl'), by simp⟩, q D H' le hD hd⟩
def spA (P : Program) (w : World) (K : PySem.W.Frag) (mg : Str → Option Value) (base : Heap) (kl : Nat) (names : List Str) : Sp := fun vs H Q _ => ∃ (l : Addr) (fs : List Addr) (c : Str), vs = [.ref l, .str c] ∧ H l = some (.lst (fs.map .ref)) ∧ (∀ f ∈ fs, LamOk P w K mg base kl H f c) ∧ c ∈ names ∧ fs.length ≤ 1000 ∧ ∀ H', Le H H' → Q (.bl true) H'
structure AllD (P : Program) (w : World) (K : PySem.W.Frag) (mg : Str → Option Value) (base : Heap) (k kl : Nat) (x : Str) (names : List Str) : Prop where
  ex : ∃ f fd ps, mg x = some (.ref f) ∧ ps.length = 2 ∧ FnOk P w K mg base (L2.CX P w) k f fd ps (spA P w K mg base kl names) ∧ PySem.W.keepIn K (.ref f) = true ∧ Binds K fd ps []
theorem AllD.mono {P w K mg base} {j k kl : Nat} {x names} (h : AllD P w K mg base j kl x names) (l : j ≤ k) : AllD P w K mg base k kl x names := by
  obtain ⟨f, fd, ps, a, b, c, d⟩ := h.ex
  exact ⟨f, fd, ps, a, b, c.mono l, d⟩
theorem bools_dq {K : PySem.W.Frag} {G : Hp} : ∀ n : Nat, DqAll K G (List.replicate n (V.bl true)) (List.replicate n (PyData.bool true))
  | 0 => .nil
  | n + 1 => .cons (.bl true) (bools_dq n)
theorem all_true (n : Nat) : dAll [.list (List.replicate n (.bool true))] = .ok (.bool true) := by
  have := dAll_mapf (fun _ : Nat => true) (List.replicate n 0)
  rw [List.map_replicate] at this
  rw [this]
  simp
section
variable {P : Program} {w : World} {K : PySem.W.Frag} {mg : Str → Option Value} {base : Heap} {x : Str} {st : Stmt} {f : Addr} {fd : FuncData} {n0 n1 n2 : Str} {k kl : Nat} {names : List Str}
theorem allD_mk {lc : Expr} {qa qp qr : Pos} (F : FnP K x st f fd) (S : FnScope [n0, n1, n2] [n0, n1] (defScope st)) (hg : mg x = some (.ref f)) (hb : L2.Binds K fd [n0, n1] []) (hbd : defBody st = [.Return (some (.Call (.Name "all" qa) [lc] [] qp)) qr]) (hma : mg "all" = none)
    (body : ∀ (cdv : Value) (A : Around) (outer : List Env) (s : Shared) (H : Hp) (E : XK), Room k (A.deeper (envOfC x (defScope st) s.heap.objs.size f cdv)) →
      PE (cxOf (L2.CX P w) P w K mg base [n0, n1, n2] x (defScope st) f cdv A outer s H E) lc (tLc (iList K (tVar 0)) (gName 2) tYes (tEl (cxOf (L2.CX P w) P w K mg base [n0, n1, n2] x (defScope st) f cdv A outer s H E) kl names 2 1) [2]))
    (hga : ∀ (cdv : Value) (A : Around) (outer : List Env) (s : Shared) (H : Hp) (E : XK), Gl (cxOf (L2.CX P w) P w K mg base [n0, n1, n2] x (defScope st) f cdv A outer s H E) "all" ∧
      starEach [lc] (envOfC x (defScope st) s.heap.objs.size f cdv) = (false, eval lc (envOfC x (defScope st) s.heap.objs.size f cdv)) :: starEach [] (envOfC x (defScope st) s.heap.objs.size f cdv) ∧ (backTo qp (starEach [] (envOfC x (defScope st) s.heap.objs.size f cdv))).any (·.1) = false) : AllD P w K mg base (k + 1) kl x names := by
  refine ⟨f, fd, [n0, n1], hg, rfl, ?_, F.kp, hb⟩
  refine F.ok (sp := spA P w K mg base kl names) S (fun vs H Q E h => ?_) (fun cdv A outer s H vs Q E hr h => ?_)
  · obtain ⟨l, fs, c, e, _⟩ := h
    rw [e]; rfl
  · obtain ⟨l, fs, c, rfl, hl, lo, hc, hz, q⟩ := h
    obtain ⟨g1, g2, g3⟩ := hga cdv A outer s H E
    have pa := pe_callB (X := cxOf (L2.CX P w) P w K mg base [n0, n1, n2] x (defScope st) f cdv A outer s H E) (p := qa) (pos := qp) (cd_all (E := E) rfl) g1 hma (by decide +kernel) (pa_cons (body cdv A outer s H E hr) pa_nil g2) (by decide) (by decide) g2 g3
    have z := pss_one (ps_ret (pos := qr) pa)
    rw [← hbd] at z
    refine ⟨_, z, ?_⟩
    unfold tRet tCB tCons tNil
    refine lc_lams (X := cxOf (L2.CX P w) P w K mg base [n0, n1, n2] x (defScope st) f cdv A outer s H E) (ii := 0) (ic := 2) (im := 1) (σ := L2.start [n0, n1, n2] [V.ref l, V.str c]) rfl rfl rfl rfl rfl (by decide) (by decide) (by show 2 < 3; decide) rfl rfl hl lo hc hz fun p H' le hp hp' => ?_
    refine ⟨upd (fun _ => none) p (.lst (List.replicate fs.length (.bl true))), [.list (List.replicate fs.length (.bool true))], fun b u e => ?_, .cons (.lst upd_same (bools_dq _)) .nil, ?_⟩
    · by_cases hb : b = p
      · subst hb; rw [upd_same] at e; cases e; exact hp'
      · rw [upd_ne hb] at e; cases e
    · rw [all_true]
      intro y G2 H2 g dy
      cases dy
      exact q H2 (le_trans le g.h)
end
end PD

/-! The data layer: lists of lambdas are made. -/
namespace PD
open PySem PySem.Spec PyProof.Rows L2
/-- all but the tables stay -/
abbrev KeepT (H H' : Hp) : Prop := ∀ b u, H b = some u → (∀ ps, u ≠ .tbl ps) → H' b = some u
/-- .. and but the list at l -/
abbrev KeepL (l : Addr) (H H' : Hp) : Prop := ∀ b u, H b = some u → (∀ ps, u ≠ .tbl ps) → b ≠ l → H' b = some u
/-- the words of a lambda -/
structure Lam3 where
  params : Arguments
  body : Expr
  scope : Scope
/-- f is that lambda, made in this frame -/
def LamX (X : Cx) (H : Hp) (f : Addr) (e : Lam3) : Prop := LamF H (X.env.qual ++ "<lambda>") X.env.cells f e.params e.body e.scope
theorem LamX.keep {X : Cx} {H H' : Hp} {f : Addr} {e : Lam3} {l : Addr} {xs : List V} (h : LamX X H f e) (hl : H l = some (.lst xs)) (k : KeepL l H H') : LamX X H' f e := h.ext fun b φ e => k b _ e (fun ps z => by cases z) fun z => by subst z; rw [hl] at e; cases e
theorem LamX.keepT {X : Cx} {H H' : Hp} {f : Addr} {e : Lam3} (h : LamX X H f e) (k : KeepT H H') : LamX X H' f e := h.ext fun b φ e => k b _ e fun ps z => by cases z
theorem tabs_upd {T : List (Addr × Str)} {H : Hp} {l : Addr} {xs : List V} {o : HO} (t : LamX.Tabs T H) (hl : H l = some (.lst xs)) : LamX.Tabs T (upd H l o) := fun p hp => by
  obtain ⟨ps, h1, h2, h3⟩ := t p hp
  have ne : ∀ b u, H b = some u → (∀ ys, u ≠ .lst ys) → upd H l o b = some u := fun b u e n => by
    rw [upd_ne fun z => by subst z; rw [hl] at e; cases e; exact n xs rfl]
    exact e
  refine ⟨ps, ne _ _ h1 (fun ys z => by cases z), h2, fun pos cv hc => ?_⟩
  obtain ⟨c, e1, e2⟩ := h3 pos cv hc
  exact ⟨c, e1, ne _ _ e2 (fun ys z => by unfold LamX.CodeO at z; cases z)⟩
section
variable {X : Cx} {T : List (Addr × Str)} {c P : Addr} {e : Lam3} {pos lp p ap cp : Pos}
/-- x = [lambda: ..] -/
def tMk1 (X : Cx) (T : List (Addr × Str)) (i : Nat) (e : Lam3) (k : L2.St → Hp → Prop) (σ : L2.St) (H : Hp) : Prop := LamX.Tabs T H ∧ ∀ l f H', KeepT H H' → LamX.Tabs T H' → (∀ u, H l = some u → ∃ ps, u = .tbl ps) → H' l = some (.lst [.ref f]) → LamX X H' f e → k (σ.set i (some (.ref l))) H'
theorem ps_mk1 (i : Nat) {x : Str} {p1 : Pos} (TB : LamX.TabB X.base X.mg c P) (hcode : X.env.code = .ref c) (hm : (P, X.env.qual ++ "<lambda>") ∈ T) (hu : ∀ p ∈ T, p.1 = P → p.2 = X.env.qual ++ "<lambda>") (hdef : defaultsOf e.params X.env = ([], [])) (L : LamX.LamS X.env.scope e.scope)
    (hN : X.N.Nodup) (hi : X.N[i]? = some x) (hx : Loc X.env.scope x) (hst : starEach [.Lambda e.params e.body e.scope lp] X.env = (false, eval (.Lambda e.params e.body e.scope lp) X.env) :: starEach [] X.env)
    (hs : swapsWith (.List [.Lambda e.params e.body e.scope lp] p1) (some (.Name x p)) pos.line X.env = pure false) (hf : X.fn x = true ∨ X.env.scope.names.lookup x = some .local) :
    PS X (.Assign [.Name x p] (.List [.Lambda e.params e.body e.scope lp] p1) pos) (fun D σ H => tMk1 X T i e D.nx σ H) :=
  ps_of (ps_set hN hi hx (pe_lst (pa_cons (pe_lam (T := T) TB hcode hm hu hdef L) pa_nil hst)) hs hf) fun D σ H ⟨hT, k⟩ => by
    refine ⟨hT, fun f H1 eN T1 hfn LF => ?_⟩
    show _ ∧ _
    refine ⟨sz_of (by show 1 ≤ 100000; decide), fun q hq => ?_⟩
    have hq0 : ∀ u, H q = some u → ∃ ps, u = .tbl ps := fun u e1 => by
      apply Classical.byContradiction
      intro ht
      rw [eN q u e1 fun ps z => ht ⟨ps, z⟩] at hq; cases hq
    have up : ∀ b u, H1 b = some u → upd H1 q (.lst [.ref f]) b = some u := fun b u e1 => by rw [upd_ne (ne_of_none e1 hq)]; exact e1
    exact k q f _ (fun b u e1 n => up b u (eN b u e1 n)) (T1.ext up) hq0 upd_same (LF.ext fun b φ e1 => up b _ e1)
/-- x.append(lambda: ..) -/
def tMkA (X : Cx) (T : List (Addr × Str)) (i : Nat) (e : Lam3) (k : L2.St → Hp → Prop) (σ : L2.St) (H : Hp) : Prop := LamX.Tabs T H ∧ ∃ l xs, σ[i]? = some (some (.ref l)) ∧ H l = some (.lst xs) ∧ xs.length ≤ 1000 ∧
  ∀ f H', KeepL l H H' → LamX.Tabs T H' → H' l = some (.lst (xs ++ [.ref f])) → LamX X H' f e → k σ H'
theorem ps_mkA (i : Nat) {x : Str} (TB : LamX.TabB X.base X.mg c P) (hcode : X.env.code = .ref c) (hm : (P, X.env.qual ++ "<lambda>") ∈ T) (hu : ∀ p ∈ T, p.1 = P → p.2 = X.env.qual ++ "<lambda>") (hdef : defaultsOf e.params X.env = ([], [])) (L : LamX.LamS X.env.scope e.scope)
    (hN : X.N[i]? = some x) (hv : Vis X.env.scope x) (hd : (x == ("__debug__" : Str)) = false) (hcd : (x == ("__classdict__" : Str)) = false) (hbase : attributeBase (.Name x p) "append" X.env (eval (.Name x p) X.env) = eval (.Name x p) X.env)
    (hfew : ((backTo cp (starEach [.Lambda e.params e.body e.scope lp] X.env)).all (fun x => !x.1) && (backToKw cp (keywordEach [] X.env)).all (fun x => x.1.isSome)
      && decide ([Expr.Lambda e.params e.body e.scope lp].length + ([] : List Keyword).length + (if ([] : List Keyword).isEmpty then 0 else 1) < 30)) = true)
    (hline : (ap.endLine == cp.line) = true) (hst : starEach [.Lambda e.params e.body e.scope lp] X.env = (false, eval (.Lambda e.params e.body e.scope lp) X.env) :: starEach [] X.env) (hplain : (backTo cp (starEach [] X.env)).any (·.1) = false)
    (hs : swapsWith (.Call (.Attribute (.Name x p) "append" ap) [.Lambda e.params e.body e.scope lp] [] cp) none pos.line X.env = pure false) :
    PS X (.Expr (.Call (.Attribute (.Name x p) "append" ap) [.Lambda e.params e.body e.scope lp] [] cp) pos) (fun D σ H => tMkA X T i e D.nx σ H) :=
  ps_of (ps_expr (pe_bm PySem.F.plainAttrs_list PySem.F.slot_list_append PySem.F.type_list_append mt_append (pe_var (i := i) hN hv hd hcd) (pa_cons (pe_lam (T := T) TB hcode hm hu hdef L) pa_nil hst) hbase hfew hline hst hplain) hs) fun D σ H ⟨hT, l, xs, e1, e2, hz, k⟩ => by
    refine ⟨.ref l, e1, .inl ⟨rfl, xs, .inl (.inl e2)⟩, hT, fun f H1 eN T1 hfn LF => ?_⟩
    have e3 : H1 l = some (.lst xs) := eN l _ e2 fun ps z => by cases z
    refine ⟨l, xs, .ref f, rfl, rfl, e3, Nat.lt_of_lt_of_le (by omega : xs.length < 100000) (by decide : 100000 ≤ sizeLine), ?_⟩
    refine k f _ (fun b u a1 a2 a3 => ?_) (tabs_upd T1 e3) upd_same (LF.ext fun b φ a1 => ?_)
    · rw [upd_ne a3]; exact eN b u a1 a2
    · rw [upd_ne fun z => by subst z; rw [e3] at a1; cases a1]; exact a1
/-! ### a block that ends with the return of a name, the slots told -/
structure RtB (X : Cx) (st : List Stmt) (t : (V → L2.St → Hp → Prop) → L2.St → Hp → Prop) : Prop where
  run : ∀ (pins : List (Addr × Obj)) (s : Shared) (σ : L2.St) (H : Hp) (R : V → L2.St → Hp → Prop), Inv X pins σ H s → t R σ H → wpAny (model X.prog X.w) X.A (execs st X.env) (fun fl s' => ∃ u v σ' H', fl = .ret u ∧ Inv X pins σ' H' s' ∧ RelV v u ∧ R v σ' H') X.xe s
theorem rtb_ret (i : Nat) {x : Str} {q : Pos} (hN : X.N[i]? = some x) (hv : Vis X.env.scope x) (hd : (x == ("__debug__" : Str)) = false) (hcd : (x == ("__classdict__" : Str)) = false) : RtB X [.Return (some (.Name x q)) pos] (fun R σ H => ∃ v, σ[i]? = some (some v) ∧ R v σ H) := by
  refine ⟨fun pins s σ H R I ⟨v, e1, r⟩ => wpAny_execs_cons (wpAny_Return_some (thn ((pe_var (pos := q) (i := i) hN hv hd hcd).run pins s σ H (fun v2 H2 => R v2 σ H2) I ⟨v, e1, r⟩) fun u s1 ⟨v2, H2, I2, r2, q2⟩ => ?_))⟩
  exact ⟨u, v2, σ, H2, rfl, I2, r2, q2⟩
theorem rtb_cons {st : Stmt} {rest : List Stmt} {t : (L2.St → Hp → Prop) → L2.St → Hp → Prop} {tr : (V → L2.St → Hp → Prop) → L2.St → Hp → Prop} (h1 : PS X st (fun D σ H => t D.nx σ H)) (h2 : RtB X rest tr) :
    RtB X (st :: rest) (fun R σ H => t (fun σ' H' => tr R σ' H') σ H) := by
  refine ⟨fun pins s σ H R I h => wpAny_execs_cons (thn (h1.run pins s σ H { nx := fun σ' H' => tr R σ' H', rt := fun _ _ => False } I h) fun f s1 q => ?_)⟩
  cases f with
  | next =>
    obtain ⟨σ', H', I', q⟩ := q
    exact h2.run pins s1 σ' H' R I' q
  | ret v =>
    obtain ⟨_, _, _, _, _, z⟩ := q
    exact z.elim
  | brk =>
    obtain ⟨_, _, _, z⟩ := q
    exact z.elim
  | cont =>
    obtain ⟨_, _, _, z⟩ := q
    exact z.elim
end
end PD

/-! The data layer: a def that returns a list of lambdas. -/
namespace PD
open PySem PySem.Spec PyProof.Rows L2
def tMks (X : Cx) (T : List (Addr × Str)) (i : Nat) : List Lam3 → (L2.St → Hp → Prop) → L2.St → Hp → Prop
  | [], k => k
  | e :: r, k => fun σ H => tMkA X T i e (tMks X T i r k) σ H
inductive LamXs (X : Cx) (H : Hp) : List Addr → List Lam3 → Prop
  | nil : LamXs X H [] []
  | cons {f : Addr} {fs : List Addr} {e : Lam3} {es : List Lam3} : LamX X H f e → LamXs X H fs es → LamXs X H (f :: fs) (e :: es)
section
variable {X : Cx} {H H' : Hp} {T : List (Addr × Str)} {i : Nat}
theorem LamXs.imp (k : ∀ f e, LamX X H f e → LamX X H' f e) : ∀ {fs es}, LamXs X H fs es → LamXs X H' fs es
  | _, _, .nil => .nil
  | _, _, .cons a b => .cons (k _ _ a) (LamXs.imp k b)
theorem LamXs.app {f : Addr} {e : Lam3} (h : LamX X H f e) : ∀ {fs es}, LamXs X H fs es → LamXs X H (fs ++ [f]) (es ++ [e])
  | _, _, .nil => .cons h .nil
  | _, _, .cons a b => .cons a (LamXs.app h b)
theorem LamXs.get : ∀ {fs es}, LamXs X H fs es → ∀ f ∈ fs, ∃ (j : Nat) (e : Lam3), es[j]? = some e ∧ LamX X H f e
  | _, _, .nil, f, h => nomatch h
  | _, _, .cons (e := e) a b, f, h => by
    rcases List.mem_cons.mp h with rfl | h
    · exact ⟨0, e, rfl, a⟩
    · obtain ⟨j, e2, h1, h2⟩ := LamXs.get b f h
      exact ⟨j + 1, e2, h1, h2⟩
theorem LamXs.len : ∀ {fs es}, LamXs X H fs es → fs.length = es.length
  | _, _, .nil => rfl
  | _, _, .cons _ b => by simp [LamXs.len b]
theorem mks_ok {k : L2.St → Hp → Prop} {σ : L2.St} {l : Addr} (hσ : σ[i]? = some (some (.ref l))) : ∀ (es : List Lam3) (H : Hp) (fs : List Addr) (done : List Lam3), H l = some (.lst (fs.map .ref)) → fs.length + es.length ≤ 500 → LamXs X H fs done → LamX.Tabs T H →
    (∀ H' fs', KeepL l H H' → LamX.Tabs T H' → H' l = some (.lst (fs'.map .ref)) → LamXs X H' fs' (done ++ es) → k σ H') → tMks X T i es k σ H
  | [], H, fs, done, hl, hz, lx, hT, q => q H fs (fun _ _ e _ _ => e) hT hl (by rw [List.append_nil]; exact lx)
  | e :: r, H, fs, done, hl, hz, lx, hT, q => by
    simp only [List.length_cons] at hz
    refine ⟨hT, l, fs.map .ref, hσ, hl, by rw [List.length_map]; omega, fun f H1 kl T1 hl1 lf => ?_⟩
    have em : fs.map V.ref ++ [.ref f] = (fs ++ [f]).map V.ref := by simp
    rw [em] at hl1
    refine mks_ok hσ r H1 (fs ++ [f]) (done ++ [e]) hl1 (by simp; omega) (LamXs.app lf (lx.imp fun f2 e2 h => h.keep hl kl)) T1 fun H2 fs2 k2 T2 hl2 lx2 => ?_
    refine q H2 fs2 (fun b u a1 a2 a3 => k2 b u (kl b u a1 a2 a3) a2 a3) T2 hl2 ?_
    rw [List.append_assoc] at lx2
    exact lx2
end
def tMaker (X : Cx) (T : List (Addr × Str)) (i : Nat) (e0 : Lam3) (es : List Lam3) (R : V → L2.St → Hp → Prop) (σ : L2.St) (H : Hp) : Prop :=
  tMk1 X T i e0 (tMks X T i es fun σ' H' => ∃ v, σ'[i]? = some (some v) ∧ R v σ' H') σ H
theorem maker_ok {X : Cx} {T : List (Addr × Str)} {i : Nat} {e0 : Lam3} {es : List Lam3} {R : V → L2.St → Hp → Prop} {σ : L2.St} {H : Hp} (hT : LamX.Tabs T H) (hi : i < σ.length) (hz : es.length ≤ 400)
    (q : ∀ l fs H', KeepT H H' → LamX.Tabs T H' → (∀ u, H l = some u → ∃ ps, u = .tbl ps) → H' l = some (.lst (fs.map .ref)) → LamXs X H' fs (e0 :: es) → R (.ref l) (σ.set i (some (.ref l))) H') : tMaker X T i e0 es R σ H := by
  refine ⟨hT, fun l f H1 k1 T1 nl hl lf => ?_⟩
  refine mks_ok (List.getElem?_set_self hi) es H1 [f] [e0] hl (by show 1 + es.length ≤ 500; omega) (.cons lf .nil) T1 fun H2 fs2 k2 T2 hl2 lx2 => ?_
  refine ⟨.ref l, List.getElem?_set_self hi, q l fs2 H2 (fun b u a1 a2 => k2 b u (k1 b u a1 a2) a2 fun z => ?_) T2 nl hl2 lx2⟩
  subst z
  obtain ⟨ps, e⟩ := nl u a1
  exact a2 ps e
/-- what a list of lambdas promises -/
def spM (P : Program) (w : World) (K : PySem.W.Frag) (mg : Str → Option Value) (base : Heap) (kl : Nat) (T : List (Addr × Str)) (n : Nat) (ms : List M) : Sp := fun vs H Q _ => ∃ (G : Hp) (ds : List PyData) (c : Str), Le G H ∧ (∀ b ps, G b ≠ some (.tbl ps)) ∧ DqAll K G vs ds ∧ ds.length = n ∧ LamX.Tabs T H ∧ (∀ m ∈ ms, m (ds.map .v) = .ex c) ∧
  ∀ (l : Addr) (fs : List Addr) (H' : Hp), KeepT H H' → LamX.Tabs T H' → H' l = some (.lst (fs.map .ref)) → fs.length ≤ 500 → (∀ f ∈ fs, LamOk P w K mg base kl H' f c) → Q (.ref l) H'
end PD

/-! The data layer: a def that returns a list of lambdas: its promise. -/
namespace PD
open PySem PySem.Spec PyProof.Rows L2
/-- H with the cells cs as they stand in h -/
def pinAt (h : Heap) (cs : List Addr) (H : Hp) : Hp := fun b => if b ∈ cs then (h.get? b).map (PIN b) else H b
/-- one lambda's mirror, its names those of N -/
structure LamM (P : Program) (w : World) (K : PySem.W.Frag) (mg : Str → Option Value) (base : Heap) (kl : Nat) (q : Str) (N : List Str) (e : Lam3) (m : M) : Prop where
  nm : LamN e.scope N
  bind : ∀ (cells : List (Str × Addr)) (pm cv ctv : Value), bindArgs (PySem.W.kla_fn "<lambda>" q e.params e.body e.scope (cloFrom cells e.scope.names []) pm cv ctv) ⟨[], []⟩ = pure []
  body : ∀ (cells : List (Str × Addr)) (f c' : Addr) (A : Around) (outer : List Env) (s : Shared) (H' : Hp) (E : XK), Room kl (A.deeper (lamV q e.scope s.heap.objs.size f c' (cloFrom cells e.scope.names []))) → SE (lamCx2 P w K mg base N q e.scope f c' (cloFrom cells e.scope.names []) A outer s H' E) E e.body m
section
variable {P : Program} {w : World} {K : PySem.W.Frag} {mg : Str → Option Value} {base : Heap} {kl : Nat} {X : Cx} {H : Hp} {s : Shared} {σ : L2.St} {N : List Str} {pins : List (Addr × Obj)}
/-- the cells of a frame, pinned -/
theorem pin_frame (J : Inv X pins σ H s) (hN : ∀ (i : Nat) (y : Str), N[i]? = some y → ∃ (j : Nat) (v : V), X.N[j]? = some y ∧ σ[j]? = some (some v) ∧ X.env.scope.names.lookup y = some .cell) {σc : L2.St} (hc : ∀ (i : Nat) (y : Str), N[i]? = some y → ∀ (j : Nat) (v : V), X.N[j]? = some y → σ[j]? = some (some v) → σc[i]? = some (some v)) (hl : σc.length = N.length) :
    CloH (pinAt s.heap (cellsOf X.env.cells N) H) X.env.cells N σc := by
  refine ⟨J.ok.inj, fun i y e => ?_, hl⟩
  obtain ⟨j, v, e1, e2, e3⟩ := hN i y e
  obtain ⟨m, _, hlo⟩ := J.loc
  obtain ⟨u, r, lk⟩ := hlo j y v e1 e2 (.inr (.inl e3))
  rcases lk with ⟨k1, _⟩ | ⟨_, c, k1, o, k2, k3⟩
  · have k1 : X.env.scope.names.lookup y = some .local := k1
    rw [e3] at k1; cases k1
  · refine ⟨c, v, u, o, k1, hc i y e j v e1 e2, r, ?_, k3⟩
    have hcm : c ∈ cellsOf X.env.cells N := List.mem_filterMap.mpr ⟨y, List.mem_of_getElem? e, k1⟩
    unfold pinAt
    rw [if_pos hcm, k2]
    rfl
theorem pin_out {b : Addr} {cs : List Addr} {h : Heap} (hb : b ∉ cs) : pinAt h cs H b = H b := if_neg hb
theorem pin_up (J : Inv X pins σ H s) : Le H (pinAt s.heap (cellsOf X.env.cells N) H) := fun b u e => by
  rw [pin_out fun hb => ?_]
  · exact e
  · obtain ⟨y, _, e1⟩ := List.mem_filterMap.mp hb
    rw [J.freeC y b e1] at e; cases e
theorem pin_hok (J : Inv X pins σ H s) : HOk X.prog X.w (pinAt s.heap (cellsOf X.env.cells N) H) s.heap := fun b u e => by
  by_cases hb : b ∈ cellsOf X.env.cells N
  · unfold pinAt at e
    rw [if_pos hb] at e
    cases e1 : s.heap.get? b with
    | none => rw [e1] at e; cases e
    | some o => rw [e1] at e; cases e; exact pin_at e1
  · rw [pin_out hb] at e
    exact (J.hok b u e).stay (fun _ _ _ q => q) (fun c q => pin_up J c _ q) fun c xs q => pin_up J c _ q
structure MkrD (P : Program) (w : World) (K : PySem.W.Frag) (mg : Str → Option Value) (base : Heap) (k kl : Nat) (x : Str) (T : List (Addr × Str)) (n : Nat) (ms : List M) : Prop where
  ex : ∃ f fd ps, mg x = some (.ref f) ∧ ps.length = n ∧ FnOk P w K mg base (L2.CX P w) k f fd ps (spM P w K mg base kl T n ms) ∧ PySem.W.keepIn K (.ref f) = true ∧ Binds K fd ps []
theorem MkrD.mono {j k : Nat} {x T n ms} (h : MkrD P w K mg base j kl x T n ms) (l : j ≤ k) : MkrD P w K mg base k kl x T n ms := by
  obtain ⟨f, fd, ps, a, b, c, d⟩ := h.ex
  exact ⟨f, fd, ps, a, b, c.mono l, d⟩
theorem mkr_mk {x : Str} {st : Stmt} {f c : Addr} {fd : FuncData} {ps : List Str} {k i : Nat} {T : List (Addr × Str)} {e0 : Lam3} {es : List Lam3} {ms : List M} (F : FnP K x st f fd) (S : FnScope N ps (defScope st)) (hg : mg x = some (.ref f)) (hb : L2.Binds K fd ps []) (hfc : fd.code = .ref c) (hi : ps.length ≤ i ∧ i < N.length) (hz : es.length ≤ 400)
    (hcell : ∀ y ∈ ps, (defScope st).names.lookup y = some .cell)
    (body : ∀ (A : Around) (outer : List Env) (s : Shared) (H : Hp) (E : XK), Room k (A.deeper (envOfC x (defScope st) s.heap.objs.size f (.ref c))) → RtB (cxOf (L2.CX P w) P w K mg base N x (defScope st) f (.ref c) A outer s H E) (defBody st) (tMaker (cxOf (L2.CX P w) P w K mg base N x (defScope st) f (.ref c) A outer s H E) T i e0 es))
    (lam : ∀ (j : Nat) (e : Lam3), (e0 :: es)[j]? = some e → ∃ m, ms[j]? = some m ∧ LamM P w K mg base kl ((envOfC x (defScope st) 0 f (.ref c)).qual ++ "<lambda>") ps e m) : MkrD P w K mg base (k + 1) (kl + 1) x T ps.length ms := by
  refine ⟨f, fd, ps, hg, rfl, ?_, F.kp, hb⟩
  obtain ⟨oc, od, dV, kV, doc, pm, an, cdv, ct, osl, rfl, lk, hcd, _, _⟩ := F.ex
  have hfc : cdv = .ref c := hfc
  subst hfc
  refine ⟨fun vs H Q E h => ?_, fun A outer s H args us vs Q E hr e0' hbd r hsp => ?_⟩
  · obtain ⟨G, ds, c, _, _, dx, hn, _⟩ := h
    rw [dpa_len dx, hn]
  obtain ⟨G, ds, cl, lg, ng, dx, hn, hT, hms, q⟩ := hsp
  have hlv : vs.length = ps.length := by rw [dpa_len dx, hn]
  have KX : K.In s.heap := e0'.mod.kin.keeps fun b o e => (e0'.bs b o e).1
  have lim : s.heap.NoLimit := e0'.mod.nolimit.keeps fun b o e => (e0'.bs b o e).1
  refine codeAny_call_function hr.depth (KX _ _ lk) rfl S.co S.gen rfl (PySem.W.codeRec_of KX hcd) (hbd _ _ _ _ (wpAny_newFunctionEnv_cells S.kind (fun ⟨n, v⟩ hy => ?_) fun env he s1 x1 => ?_))
  · rcases S.par n (List.of_mem_zip hy).1 with q | q
    · exact .inl q
    · exact .inr ⟨q, PySem.W.cellsFrom_some _ _ _ (.inl q)⟩
  subst he
  have I := inv_start (CX := L2.CX P w) (K := K) (mg := mg) (base := base) (N := N) (E := E) S hr.hd e0' hlv r x1
  have hlen : (L2.start N vs).length = N.length := I.len
  have hpre : ∀ (j : Nat) (y : Str), ps[j]? = some y → N[j]? = some y ∧ ∃ v, vs[j]? = some v ∧ (L2.start N vs)[j]? = some (some v) := fun j y e => by
    have hj : j < ps.length := (List.getElem?_eq_some_iff.mp e).1
    obtain ⟨v, hv⟩ : ∃ v, vs[j]? = some v := ⟨vs[j]'(by omega), List.getElem?_eq_getElem (by omega)⟩
    refine ⟨by rw [← S.pre, List.getElem?_take_of_lt hj] at e; exact e, v, hv, ?_⟩
    unfold L2.start
    rw [List.getElem?_append_left (by simp; omega), List.getElem?_map, hv]
    rfl
  refine ⟨lim.keeps x1.toInCall.keep, codeAny_func ?_⟩
  refine wpAny_mono ((body A outer s H E (hr.deeper _)).run [] s1 (L2.start N vs) H (fun v σ' H' => ∃ (l : Addr) (fs : List Addr), v = .ref l ∧ σ' = (L2.start N vs).set i (some (.ref l)) ∧ KeepT H H' ∧ LamX.Tabs T H' ∧ H' l = some (.lst (fs.map .ref)) ∧ LamXs (cxOf (L2.CX P w) P w K mg base N x (defScope st) f (.ref c) A outer s H E) H' fs (e0 :: es)) I ?_) (fun fl s' hs => ?_) fun e s' hs => hs
  · exact maker_ok hT (by rw [hlen]; exact hi.2) hz fun l fs H' k1 T1 _ hl lx => ⟨l, fs, rfl, rfl, k1, T1, hl, lx⟩
  · obtain ⟨u, v, σ', H', rfl, J, rv, l, fs, rfl, rfl, k1, T1, hl, lx⟩ := hs
    have up := pin_up (N := ps) J
    have out : ∀ b ∈ cellsOf (envOfC x (defScope st) s.heap.objs.size f (.ref c)).cells ps, s.heap.objs.size ≤ b := fun b hb => by
      obtain ⟨y, _, e1⟩ := List.mem_filterMap.mp hb
      exact J.ok.cab y b rfl e1
    have cl : CloH (pinAt s'.heap (cellsOf (envOfC x (defScope st) s.heap.objs.size f (.ref c)).cells ps) H') (envOfC x (defScope st) s.heap.objs.size f (.ref c)).cells ps (vs.map some) := by
      refine pin_frame (N := ps) J (fun j y e => ?_) (fun j y e j2 v2 e1 e2 => ?_) (by rw [List.length_map]; exact hlv)
      · obtain ⟨e1, v, e2, e3⟩ := hpre j y e
        have hj : j < ps.length := (List.getElem?_eq_some_iff.mp e).1
        exact ⟨j, v, e1, by rw [List.getElem?_set_ne (by omega)]; exact e3, hcell y (List.mem_of_getElem? e)⟩
      · obtain ⟨e3, v, e4, e5⟩ := hpre j y e
        have hj : j < ps.length := (List.getElem?_eq_some_iff.mp e).1
        have ej : j = j2 := (List.getElem?_inj (List.getElem?_eq_some_iff.mp e3).1 S.nd).mp (e3.trans (show N[j2]? = some y from e1).symm)
        subst ej
        rw [List.getElem?_set_ne (by omega), e5] at e2
        rw [List.getElem?_map, e4]
        cases e2
        rfl
    refine ⟨.ref l, pinAt s'.heap (cellsOf (envOfC x (defScope st) s.heap.objs.size f (.ref c)).cells ps) H', J.os, J.bare, ⟨J.base.keep, J.base.slot, fun b o h1 h2 h3 => ?_, J.base.there, fun b xs e => up _ _ (J.base.tups b xs e), fun b o u e => up _ _ (J.base.frzs b o u e), fun b pz e => ?_⟩, pin_hok J, rv, ?_⟩
    · have := J.base.free b o h1 h2 h3
      rw [pin_out fun hb => absurd (Nat.lt_of_lt_of_le (Heap.lt_size h1) (out b hb)) (Nat.lt_irrefl _)]
      exact this
    · obtain ⟨more, e1⟩ := J.base.tbls b pz e
      exact ⟨more, up _ _ e1⟩
    · have k2 : KeepT H (pinAt s'.heap (cellsOf (envOfC x (defScope st) s.heap.objs.size f (.ref c)).cells ps) H') := fun b u e n => up _ _ (k1 b u e n)
      refine q l fs _ k2 (T1.ext up) (up _ _ hl) (by rw [lx.len]; show es.length + 1 ≤ 500; omega) fun fl hf => ?_
      obtain ⟨j, e, he, lf⟩ := lx.get fl hf
      obtain ⟨m, hm, LM⟩ := lam j e he
      refine lamOk_mk (N := ps) (vs := vs) (ds := ds) (G := G) (m := m) (lf.ext fun b φ e => up _ _ e) LM.nm cl (LM.bind _) (fun c' A outer s H' E hr => LM.body _ fl c' A outer s H' E hr) (fun b u e => ?_) dx (hms m (List.mem_of_getElem? hm))
      have e1 := k1 b u (lg b u e) fun pz z => ng b pz (by rw [e, z])
      rw [dropH_out fun hb => ?_]
      · exact up _ _ e1
      · obtain ⟨y, _, e2⟩ := List.mem_filterMap.mp hb
        rw [J.freeC y b e2] at e1; cases e1
end
end PD

/-! The data layer: a law that makes lists of lambdas: its state. -/
namespace PD
open PySem PySem.Spec PyProof.Rows L2
abbrev noTb (u : HO) : Prop := ∀ ps, u ≠ .tbl ps
mutual
theorem dq_keep {K : PySem.W.Frag} {G G' : Hp} (hg : ∀ b u, G b = some u → noTb u → G' b = some u) : ∀ {d : PyData} {v : V}, Dq K G v d → Dq K G' v d
  | _, _, .non => .non
  | _, _, .bl b => .bl b
  | _, _, .int i => .int i
  | _, _, .str x => .str x
  | _, _, .lst h a => .lst (hg _ _ h fun _ e => nomatch e) (dqa_keep hg a)
  | _, _, .tup h a => .tup (match h with
    | .inl (.inl h) => .inl (.inl (hg _ _ h (fun _ e => nomatch e)))
    | .inl (.inr ⟨o, h⟩) => .inl (.inr ⟨o, hg _ _ h (fun _ e => nomatch e)⟩)
    | .inr h => .inr h) (dqa_keep hg a)
  | _, _, .scr h => .scr (match h with
    | .inl (.inl h) => .inl (.inl (hg _ _ h (fun _ e => nomatch e)))
    | .inl (.inr ⟨o, h⟩) => .inl (.inr ⟨o, hg _ _ h (fun _ e => nomatch e)⟩)
    | .inr h => .inr h)
  | _, _, .dct h => .dct (hg _ _ h fun _ e => nomatch e)
  | _, _, .dsk c h1 h2 a => .dsk c (hg _ _ h1 fun _ e => nomatch e) (hg _ _ h2 fun _ e => nomatch e) (dqa_keep hg a)
  | _, _, .dsl c h1 h2 a => .dsl c (hg _ _ h1 fun _ e => nomatch e) (hg _ _ h2 fun _ e => nomatch e) (dq_keep hg a)
theorem dqa_keep {K : PySem.W.Frag} {G G' : Hp} (hg : ∀ b u, G b = some u → noTb u → G' b = some u) : ∀ {ds : List PyData} {vs : List V}, DqAll K G vs ds → DqAll K G' vs ds
  | _, _, .nil => .nil
  | _, _, .cons h1 h2 => .cons (dq_keep hg h1) (dqa_keep hg h2)
end
/-- G without its tables -/
def noT (G : Hp) : Hp := fun b => match G b with
  | some (.tbl _) => none
  | u => u
theorem noT_le {G : Hp} : Le (noT G) G := fun b u e => by
  unfold noT at e
  split at e
  · cases e
  · exact e
theorem noT_up {G : Hp} : ∀ b u, G b = some u → noTb u → noT G b = some u := fun b u e n => by
  unfold noT
  split
  · rename_i ps q
    rw [e] at q
    cases q
    exact absurd rfl (n _)
  · exact e
theorem noT_no {G : Hp} : ∀ b ps, noT G b ≠ some (.tbl ps) := fun b ps e => by
  have := noT_le b _ e
  unfold noT at e
  rw [this] at e
  cases e
theorem noT_none {G : Hp} {b : Addr} (e : G b = none) : noT G b = none := by
  unfold noT
  rw [e]
/-- a state without own lists -/
theorem sr_no {K : PySem.W.Frag} {B G H : Hp} {σ : L2.St} {Γ : Gam} (no : noOwn Γ = true) (sub : Le G H) (len : σ.length = Γ.length) (val : ∀ i d, gat Γ i = .v d → ∃ x, σ[i]? = some (some x) ∧ Dq K G x d) (adr : ∀ i a, gat Γ i = .ad a → σ[i]? = some (some (.ref a))) : SR K B G H σ Γ :=
  ⟨sub, len, val, fun i ds e => absurd e (noOwn_get no i ds), fun i j ds es p e => absurd e (noOwn_get no i ds), fun i ds p e => absurd e (noOwn_get no i ds), adr⟩
theorem noOwn_set : ∀ {Γ : Gam} {i : Nat} {x : Sl}, noOwn Γ = true → (∀ ds, x ≠ .own ds) → noOwn (Γ.set i x) = true
  | [], _, _, _, _ => rfl
  | a :: r, 0, x, h, n => by
    unfold noOwn at h ⊢
    rw [List.all_cons, Bool.and_eq_true_iff] at h
    rw [List.set_cons_zero, List.all_cons, Bool.and_eq_true_iff]
    refine ⟨?_, h.2⟩
    cases x with
    | own ds => exact absurd rfl (n ds)
    | _ => rfl
  | a :: r, i + 1, x, h, n => by
    unfold noOwn at h ⊢
    rw [List.all_cons, Bool.and_eq_true_iff] at h
    rw [List.set_cons_succ, List.all_cons, Bool.and_eq_true_iff]
    exact ⟨h.1, noOwn_set (Γ := r) h.2 n⟩
/-! ### the state: the slots, the lists of lambdas -/
abbrev Lls := List (Addr × List M)
/-- the lambdas at fs are those of the mirrors ms -/
def LamsM (X : Cx) (kl : Nat) (Nc : List Str) (H : Hp) (fs : List Addr) (ms : List M) : Prop :=
  fs.length = ms.length ∧ ∀ f ∈ fs, ∃ e m, m ∈ ms ∧ LamX X H f e ∧ LamM X.prog X.w X.K X.mg X.base kl (X.env.qual ++ "<lambda>") Nc e m
structure LS (X : Cx) (T : List (Addr × Str)) (kl : Nat) (Nc : List Str) (Γ : Gam) (L : Lls) (σ : L2.St) (H : Hp) : Prop where
  ex : ∃ G, SR X.K H G H σ Γ ∧ (∀ b ps, G b ≠ some (.tbl ps)) ∧ ∀ p ∈ L, G p.1 = none
  no : noOwn Γ = true
  tb : LamX.Tabs T H
  ls : ∀ p ∈ L, ∃ fs, H p.1 = some (.lst (fs.map .ref)) ∧ LamsM X kl Nc H fs p.2
  nd : (L.map (·.1)).Nodup
section
variable {X : Cx} {T : List (Addr × Str)} {kl : Nat} {Nc : List Str} {Γ : Gam} {L : Lls} {σ : L2.St} {H H' : Hp}
theorem LamsM.imp {fs : List Addr} {ms : List M} (h : LamsM X kl Nc H fs ms) (k : ∀ f e, LamX X H f e → LamX X H' f e) : LamsM X kl Nc H' fs ms :=
  ⟨h.1, fun f hf => let ⟨e, m, a, b, c⟩ := h.2 f hf; ⟨e, m, a, k f e b, c⟩⟩
theorem lamX_le (l : Le H H') (f : Addr) (e : Lam3) (h : LamX X H f e) : LamX X H' f e := h.ext fun b φ q => l b _ q
theorem LS.le (s : LS X T kl Nc Γ L σ H) (l : Le H H') : LS X T kl Nc Γ L σ H' := by
  obtain ⟨G, sr, ng, gl⟩ := s.ex
  refine ⟨⟨G, sr_no s.no (le_trans sr.sub l) sr.len sr.val sr.adr, ng, gl⟩, s.no, s.tb.ext fun b u e => l b u e, fun p hp => ?_, s.nd⟩
  obtain ⟨fs, h1, h2⟩ := s.ls p hp
  exact ⟨fs, l _ _ h1, h2.imp (lamX_le l)⟩
/-- all but the tables stay: the state stays -/
theorem LS.keepT (s : LS X T kl Nc Γ L σ H) (k : KeepT H H') (t : LamX.Tabs T H') : LS X T kl Nc Γ L σ H' := by
  obtain ⟨G, sr, ng, gl⟩ := s.ex
  have lg : Le G H' := fun b u e => k b u (sr.sub b u e) fun ps z => ng b ps (by rw [e, z])
  refine ⟨⟨G, sr_no s.no lg sr.len sr.val sr.adr, ng, gl⟩, s.no, t, fun p hp => ?_, s.nd⟩
  obtain ⟨fs, h1, h2⟩ := s.ls p hp
  exact ⟨fs, k _ _ h1 (fun ps z => by cases z), h2.imp fun f e h => h.keepT k⟩
/-- behind a plain statement -/
theorem LS.plain {G G' : Hp} {σ' : L2.St} {Γ' : Gam} (s : LS X T kl Nc Γ L σ H) (sr : SR X.K H G H σ Γ) (gl : ∀ p ∈ L, G p.1 = none) (z : SZ X.K G H G' H' σ' Γ') (no : noOwn Γ' = true) : LS X T kl Nc Γ' L σ' H' := by
  have lH : Le H H' := z.gr.h
  refine ⟨⟨noT G', sr_no no (le_trans noT_le z.sr.sub) z.sr.len (fun i d e => ?_) z.sr.adr, noT_no, fun p hp => ?_⟩, no, s.tb.ext fun b u e => lH b u e, fun p hp => ?_, s.nd⟩
  · obtain ⟨x, a, b⟩ := z.sr.val i d e
    exact ⟨x, a, dq_keep noT_up b⟩
  · obtain ⟨fs, h1, _⟩ := s.ls p hp
    exact noT_none (z.gr.fr p.1 (by rw [h1]; simp) (gl p hp))
  · obtain ⟨fs, h1, h2⟩ := s.ls p hp
    exact ⟨fs, lH _ _ h1, h2.imp (lamX_le lH)⟩
/-- a new list with one lambda -/
theorem LS.mk1 {i : Nat} {l f : Addr} {e : Lam3} {m : M} (s : LS X T kl Nc Γ L σ H) (k : KeepT H H') (t : LamX.Tabs T H') (nl : ∀ u, H l = some u → ∃ ps, u = .tbl ps) (hl : H' l = some (.lst [.ref f])) (lf : LamX X H' f e)
    (lm : LamM X.prog X.w X.K X.mg X.base kl (X.env.qual ++ "<lambda>") Nc e m) : LS X T kl Nc (Γ.set i (.ad l)) ((l, [m]) :: L) (σ.set i (some (.ref l))) H' := by
  have s2 := s.keepT k t
  obtain ⟨G, sr, ng, gl⟩ := s2.ex
  obtain ⟨G0, sr0, ng0, gl0⟩ := s.ex
  have lg : Le G0 H' := fun b u e => k b u (sr0.sub b u e) fun ps z => ng0 b ps (by rw [e, z])
  have no2 : noOwn (Γ.set i (.ad l)) = true := noOwn_set s.no fun ds z => nomatch z
  have gln : G0 l = none := by
    cases q : G0 l with
    | none => rfl
    | some u =>
      obtain ⟨ps, z⟩ := nl u (sr0.sub l u q)
      exact absurd (by rw [q, z]) (ng0 l ps)
  refine ⟨⟨G0, sr_no no2 lg (by simp [sr0.len]) (fun j d e => ?_) (fun j a e => ?_), ng0, fun p hp => ?_⟩, no2, t, fun p hp => ?_, ?_⟩
  · rw [gat_set] at e
    split at e
    · cases e
    · rename_i z
      have hj := gat_lt (Γ := Γ) (i := j) (by rw [e]; simp)
      have ji : j ≠ i := fun q => by subst q; exact z ⟨rfl, hj⟩
      rw [List.getElem?_set_ne (Ne.symm ji)]
      exact sr0.val j d e
  · rw [gat_set] at e
    split at e
    · rename_i z
      obtain ⟨rfl, z2⟩ := z
      cases e
      rw [List.getElem?_set_self (by rw [sr0.len]; exact z2)]
    · rename_i z
      have hj := gat_lt (Γ := Γ) (i := j) (by rw [e]; simp)
      have ji : j ≠ i := fun q => by subst q; exact z ⟨rfl, hj⟩
      rw [List.getElem?_set_ne (Ne.symm ji)]
      exact sr0.adr j a e
  · rcases List.mem_cons.mp hp with rfl | hp
    · exact gln
    · exact gl0 p hp
  · rcases List.mem_cons.mp hp with rfl | hp
    · exact ⟨[f], hl, rfl, fun f2 hf => ⟨e, m, List.mem_singleton.mpr rfl, by rw [List.mem_singleton.mp hf]; exact lf, lm⟩⟩
    · exact s2.ls p hp
  · rw [List.map_cons, List.nodup_cons]
    refine ⟨fun hm => ?_, s.nd⟩
    obtain ⟨p, hp, e⟩ := List.mem_map.mp hm
    obtain ⟨fs, h1, _⟩ := s.ls p hp
    rw [e] at h1
    obtain ⟨ps, z⟩ := nl _ h1
    cases z
/-- a lambda more at the newest list -/
theorem LS.mkA {l f : Addr} {fs : List Addr} {ms : List M} {e : Lam3} {m : M} (s : LS X T kl Nc Γ ((l, ms) :: L) σ H) (h0 : H l = some (.lst (fs.map .ref))) (k : KeepL l H H') (t : LamX.Tabs T H') (hl : H' l = some (.lst (fs.map .ref ++ [.ref f]))) (lf : LamX X H' f e)
    (lm : LamM X.prog X.w X.K X.mg X.base kl (X.env.qual ++ "<lambda>") Nc e m) : LS X T kl Nc Γ ((l, ms ++ [m]) :: L) σ H' := by
  obtain ⟨G, sr, ng, gl⟩ := s.ex
  have hgl : G l = none := gl (l, ms) List.mem_cons_self
  have lg : Le G H' := fun b u e => k b u (sr.sub b u e) (fun ps z => ng b ps (by rw [e, z])) fun z => by rw [z, hgl] at e; cases e
  have kx : ∀ f2 e2, LamX X H f2 e2 → LamX X H' f2 e2 := fun f2 e2 h => h.keep h0 k
  have hnd : l ∉ L.map (·.1) := (List.nodup_cons.mp s.nd).1
  refine ⟨⟨G, sr_no s.no lg sr.len sr.val sr.adr, ng, fun p hp => ?_⟩, s.no, t, fun p hp => ?_, s.nd⟩
  · rcases List.mem_cons.mp hp with rfl | hp
    · exact hgl
    · exact gl p (List.mem_cons_of_mem _ hp)
  · rcases List.mem_cons.mp hp with rfl | hp
    · obtain ⟨fs2, h1, h2⟩ := s.ls (l, ms) List.mem_cons_self
      have h1 : H l = some (.lst (fs2.map .ref)) := h1
      rw [h0] at h1
      have e1 : fs.map V.ref = fs2.map V.ref := HO.lst.inj (Option.some.inj h1)
      have e2 : fs = fs2 := List.map_inj_right (fun a b z => by cases z; rfl) |>.mp e1
      subst e2
      refine ⟨fs ++ [f], by rw [hl, List.map_append]; rfl, by simp [h2.1], fun f2 hf => ?_⟩
      rcases List.mem_append.mp hf with hf | hf
      · obtain ⟨e2, m2, a, b, c⟩ := h2.2 f2 hf
        exact ⟨e2, m2, List.mem_append_left _ a, kx _ _ b, c⟩
      · rw [List.mem_singleton.mp hf]
        exact ⟨e, m, List.mem_append_right _ (List.mem_singleton.mpr rfl), lf, lm⟩
    · obtain ⟨fs2, h1, h2⟩ := s.ls p (List.mem_cons_of_mem _ hp)
      exact ⟨fs2, k _ _ h1 (fun ps z => by cases z) (fun z => hnd (by rw [← z]; exact List.mem_map.mpr ⟨p, hp, rfl⟩)), h2.imp kx⟩
end
end PD

/-! The data layer: a law that makes lists of lambdas: its statements. -/
namespace PD
open PySem PySem.Spec PyProof.Rows L2
/-- a block of such a law; f: what is asked of the state ahead of it -/
structure LB (X : Cx) (T : List (Addr × Str)) (kl : Nat) (Nc : List Str) (st : List Stmt) (f : Gam → Lls → Prop) : Prop where
  run : PSs X st (fun D σ H => ∃ Γ L, LS X T kl Nc Γ L σ H ∧ f Γ L ∧ ∀ H', D.rt (.bl true) H')
/-- an expression that is true and keeps the state -/
structure CT (X : Cx) (T : List (Addr × Str)) (kl : Nat) (Nc : List Str) (e : Expr) (c : Gam → Lls → Prop) : Prop where
  run : PE X e (fun σ H Q => ∃ Γ L, LS X T kl Nc Γ L σ H ∧ c Γ L ∧ ∀ H', LS X T kl Nc Γ L σ H' → Q (.bl true) H')
/-! what a statement asks -/
def kPl (m : MS) (f : Gam → Lls → Prop) : Gam → Lls → Prop := fun Γ L => ∃ Γ', m Γ = .nx Γ' ∧ noOwn Γ' = true ∧ f Γ' L
def kMk1 (i : Nat) (m : M) (f : Gam → Lls → Prop) : Gam → Lls → Prop := fun Γ L => ∀ l, f (Γ.set i (.ad l)) ((l, [m]) :: L)
def kMkA (i : Nat) (m : M) (f : Gam → Lls → Prop) : Gam → Lls → Prop := fun Γ L => ∃ l ms L0, gat Γ i = .ad l ∧ L = (l, ms) :: L0 ∧ ms.length ≤ 400 ∧ f Γ ((l, ms ++ [m]) :: L0)
def kIf (ca cb f : Gam → Lls → Prop) : Gam → Lls → Prop := fun Γ L => ca Γ L ∧ cb Γ L ∧ f Γ L
def kRet (ca : Gam → Lls → Prop) (m : M) : Gam → Lls → Prop := fun Γ L => ca Γ L ∧ m Γ = .ok (.bool true)
def kMkC (ms : List M) (ma : Gam → R (List PyData)) (c : Str) : Gam → Lls → Prop := fun Γ _ => ∃ ds, ma Γ = .ok ds ∧ ∀ m ∈ ms, m (ds.map .v) = .ex c
section
variable {X : Cx} {T : List (Addr × Str)} {kl : Nat} {Nc : List Str} {st : Stmt} {rest : List Stmt} {f : Gam → Lls → Prop} {E : XK}
theorem lb_plain {m : MS} (h : SS X E st m) (r : LB X T kl Nc rest f) : LB X T kl Nc (st :: rest) (kPl m f) :=
  ⟨pss_of (pss_cons h r.run) fun D σ H ⟨Γ, L, s, ⟨Γ', e, no, hf⟩, q⟩ => by
    obtain ⟨G, sr, ng, gl⟩ := s.ex
    refine ⟨G, H, G, Γ, ⟨sr, Gr.refl sr.sub⟩, ?_⟩
    rw [e]
    exact fun σ' G' H' z => ⟨Γ', L, s.plain sr gl z no, hf, q⟩⟩
theorem lb_mk1 {i : Nat} {e : Lam3} {m : M} (h : PS X st (fun D σ H => tMk1 X T i e D.nx σ H)) (lm : LamM X.prog X.w X.K X.mg X.base kl (X.env.qual ++ "<lambda>") Nc e m) (r : LB X T kl Nc rest f) :
    LB X T kl Nc (st :: rest) (kMk1 i m f) :=
  ⟨pss_of (pss_cons h r.run) fun D σ H ⟨Γ, L, s, hf, q⟩ => ⟨s.tb, fun l f H' k t nl hl lf => ⟨_, _, s.mk1 k t nl hl lf lm, hf l, q⟩⟩⟩
theorem lb_mkA {i : Nat} {e : Lam3} {m : M} (h : PS X st (fun D σ H => tMkA X T i e D.nx σ H)) (lm : LamM X.prog X.w X.K X.mg X.base kl (X.env.qual ++ "<lambda>") Nc e m) (r : LB X T kl Nc rest f) :
    LB X T kl Nc (st :: rest) (kMkA i m f) :=
  ⟨pss_of (pss_cons h r.run) fun D σ H ⟨Γ, L, s, ⟨l, ms, L0, e1, e2, hz, hf⟩, q⟩ => by
    subst e2
    obtain ⟨G, sr, ng, gl⟩ := s.ex
    obtain ⟨fs, h1, h2⟩ := s.ls (l, ms) List.mem_cons_self
    refine ⟨s.tb, l, fs.map .ref, sr.adr i l e1, h1, by rw [List.length_map, h2.1]; show ms.length ≤ 1000; omega, fun f H' k t hl lf => ⟨_, _, s.mkA h1 k t hl lf lm, hf, q⟩⟩⟩
theorem lb_if {a b : Expr} {ca cb : Gam → Lls → Prop} {q1 q2 q3 q4 q5 q6 : Pos} {j : Nat} (ha : CT X T kl Nc a ca) (hb : CT X T kl Nc b cb) (r : LB X T kl Nc rest f)
    (h1 : ∀ whole, isTrue a X.env whole = (do let v ← whole; standAt a.pos; holding [v] (truthy v)) := by intro _; rfl) (h2 : ∀ whole, isTrue b X.env whole = (do let v ← whole; standAt b.pos; holding [v] (truthy v)) := by intro _; rfl) :
    LB X T kl Nc (.If (.BoolOp .Or [.UnaryOp .Not a q1, .UnaryOp .Not b q2] q3) [.Return (some (.Constant (.bool false) j q4)) q5] [] q6 :: rest) (kIf ca cb f) :=
  ⟨pss_of (pss_cons (ps_if (pw_or (pt_not (pt_val ha.run h1)) (pw_or1 (pt_not (pt_val hb.run h2)))).pt (pss_one (ps_ret (pe_bl (b := false) (j := j)))) pss_nil) r.run) fun D σ H ⟨Γ, L, s, ⟨c1, c2, hf⟩, q⟩ => by
    refine ⟨Γ, L, s, c1, fun H1 s1 => ⟨true, rfl, ?_⟩⟩
    show if (!true) = true then _ else _
    rw [if_neg (by decide)]
    refine ⟨Γ, L, s1, c2, fun H2 s2 => ⟨true, rfl, ?_⟩⟩
    show if (!true) = true then _ else _
    rw [if_neg (by decide)]
    exact ⟨Γ, L, s2, hf, q⟩⟩
theorem lb_ret {a b : Expr} {ca : Gam → Lls → Prop} {m : M} {q1 q2 : Pos} (ha : CT X T kl Nc a ca) (hb : SE X E b m) : LB X T kl Nc [.Return (some (.BoolOp .And [a, b] q1)) q2] (kRet ca m) :=
  ⟨pss_of (pss_one (ps_ret (pe_and ha.run (pe_one hb)))) fun D σ H ⟨Γ, L, s, ⟨c1, e⟩, q⟩ => by
    refine ⟨Γ, L, s, c1, fun H1 s1 => ⟨true, rfl, ?_⟩⟩
    rw [if_pos rfl]
    obtain ⟨G, sr, ng, gl⟩ := s1.ex
    refine ⟨H1, Γ, G, sr, ?_⟩
    rw [e]
    intro x G2 H2 g dx
    cases dx
    exact q H2⟩
/-! ### all(..) of the lambdas that a def returns -/
theorem ct_mk {k n : Nat} {x y c : Str} {names : List Str} {ms : List M} {e : Expr} {es : List Expr} {ma : Gam → R (List PyData)} {q1 q2 q3 q4 q5 : Pos} {j : Nat} (A : AllD X.prog X.w X.K X.mg X.base k (kl + 1) x names) (M : MkrD X.prog X.w X.K X.mg X.base k (kl + 1) y T n ms) (hr : Room k X.A)
    (hx : Passes (L2.CX X.prog X.w) X (fun _ _ _ => False)) (ha : SA X (fun _ _ _ => False) (e :: es) ma) (hc : c ∈ names) (hn : (e :: es).length = n := by rfl) (hgx : Gl X x := by exact rfl) (hgy : Gl X y := by exact rfl) (hdx : (x == ("__debug__" : Str)) = false := by decide) (hdy : (y == ("__debug__" : Str)) = false := by decide)
    (he : starEach (e :: es) X.env = (false, eval e X.env) :: starEach es X.env := by rfl) (hpl : (backTo q3 (starEach es X.env)).any (·.1) = false := by rfl)
    (hs1 : starEach [.Call (.Name y q2) (e :: es) [] q3, .Constant (.str c) j q4] X.env = (false, eval (.Call (.Name y q2) (e :: es) [] q3) X.env) :: starEach [.Constant (.str c) j q4] X.env := by rfl)
    (hs2 : starEach [.Constant (.str c) j q4] X.env = (false, eval (.Constant (.str c) j q4) X.env) :: starEach [] X.env := by rfl) (hpl2 : (backTo q5 (starEach [.Constant (.str c) j q4] X.env)).any (·.1) = false := by rfl) :
    CT X T kl Nc (.Call (.Name x q1) [.Call (.Name y q2) (e :: es) [] q3, .Constant (.str c) j q4] [] q5) (kMkC ms ma c) := by
  obtain ⟨fA, fdA, psA, gA, lA, FA, kA, bA⟩ := A.ex
  obtain ⟨fM, fdM, psM, gM, lM, FM, kM, bM⟩ := M.ex
  refine ⟨pe_of (pe_call FA hr hgx gA kA bA .nil hx (pa_cons (pe_call FM hr hgy gM kM bM .nil hx ha.pa (hdb := hdy) (he := he) (hpl := hpl)) (pa_cons (pe_str (x := c) (j := j)) pa_nil hs2) hs1) (hdb := hdx) (he := hs1) (hpl := hpl2)) ?_⟩
  rintro σ H Q ⟨Γ, L, s, ⟨ds, e1, e3⟩, q⟩
  obtain ⟨G, sr, ng, gl⟩ := s.ex
  refine ⟨H, Γ, G, sr, ?_⟩
  rw [e1]
  intro xs G1 H1 g1 dxs
  show spM X.prog X.w X.K X.mg X.base (kl + 1) T n ms (xs ++ []) H1 _ (fun _ _ _ => False)
  rw [List.append_nil]
  refine ⟨noT G1, ds, c, le_trans noT_le g1.s, noT_no, dqa_keep noT_up dxs, by rw [ha.ln Γ ds e1]; exact hn, s.tb.ext fun b u e => g1.h b u e, e3, fun l fs H2 k2 t2 hl hz lo => ?_⟩
  show spA X.prog X.w X.K X.mg X.base (kl + 1) names ([.ref l, .str c] ++ []) H2 _ (fun _ _ _ => False)
  exact ⟨l, fs, c, rfl, hl, lo, hc, by omega, fun H3 l3 => q H3 (((s.le g1.h).keepT k2 t2).le l3)⟩
/-! ### all(..) of the lambdas of this frame -/
inductive VS (Γ : Gam) : List Nat → List PyData → Prop
  | nil : VS Γ [] []
  | cons {k : Nat} {ks : List Nat} {d : PyData} {ds : List PyData} : gat Γ k = .v d → VS Γ ks ds → VS Γ (k :: ks) (d :: ds)
theorem VS.vals {K : PySem.W.Frag} {B G H : Hp} {σ : L2.St} {Γ : Gam} (sr : SR K B G H σ Γ) : ∀ {ks ds}, VS Γ ks ds → ∃ vs : List V, DqAll K G vs ds ∧ vs.length = ks.length ∧ ∀ (i k : Nat), ks[i]? = some k → ∃ v, vs[i]? = some v ∧ σ[k]? = some (some v)
  | _, _, .nil => ⟨[], .nil, rfl, fun i k e => by simp at e⟩
  | _, _, .cons h t => by
    obtain ⟨vs, a, b, c⟩ := VS.vals sr t
    obtain ⟨v, e1, e2⟩ := sr.val _ _ h
    refine ⟨v :: vs, .cons e2 a, by simp [b], fun i k e => ?_⟩
    match i with
    | 0 => cases e; exact ⟨v, rfl, e1⟩
    | i + 1 => exact c i k e
end
end PD

/-! The data layer: the lambdas of a frame that still runs are called; how such a law starts and ends. -/
namespace PD
open PySem PySem.Spec PyProof.Rows L2
section
variable {X : Cx} {T : List (Addr × Str)} {kl : Nat} {Nc : List Str} {pins : List (Addr × Obj)} {σ : L2.St} {H : Hp} {s : Shared}
theorem cells_hi (I : Inv X pins σ H s) (hf : ∀ y, X.fn y = true) {b : Addr} (hb : b ∈ cellsOf X.env.cells Nc) : X.s_0.heap.objs.size ≤ b ∧ b ≠ X.env.locals ∧ H b = none := by
  obtain ⟨y, _, e⟩ := List.mem_filterMap.mp hb
  exact ⟨I.ok.cab y b (hf y) e, I.cne y b e, I.freeC y b e⟩
theorem pin_env0 (I : Inv X pins σ H s) (hf : ∀ y, X.fn y = true) : Env0 X.prog X.w X.K X.mg X.base X.A X.stack s (pinAt s.heap (cellsOf X.env.cells Nc) H) := by
  have E1 := I.env0
  refine ⟨E1.frames, E1.mod, fun b o e => ⟨(E1.bs b o e).1, ?_⟩, E1.bsz, E1.funs, fun b hb => ?_, pin_hok I, E1.bare⟩
  · rw [pin_out fun hc => ?_]
    · exact (E1.bs b o e).2
    · have h1 := (cells_hi I hf hc).1
      have h2 := I.ok.bsz
      exact absurd (Nat.lt_of_lt_of_le (Heap.lt_size e) (Nat.le_trans h2 h1)) (Nat.lt_irrefl _)
  · rw [pin_out fun hc => ?_]
    · exact E1.frf b hb
    · obtain ⟨h1, h2, _⟩ := cells_hi I hf hc
      rcases List.mem_cons.mp (I.stkSub b hb) with q | q
      · exact h2 q
      · obtain ⟨_, o, ho, _⟩ := I.ok.funs.mem q
        exact absurd (Nat.lt_of_lt_of_le (Heap.lt_size ho) h1) (Nat.lt_irrefl _)
/-- behind a call that had the cells pinned -/
theorem pin_after {Q : VK} {u : Value} {s' : Shared} (I : Inv X pins σ H s)
    (h : CE X.stack X.prog X.w (pinAt s.heap (cellsOf X.env.cells Nc) H) s (fun v H' => Le (pinAt s.heap (cellsOf X.env.cells Nc) H) H' ∧ ∀ H2, Le H H2 → Q v H2) u s') : EP X pins σ Q u s' := by
  obtain ⟨v, H', os, bare, un, hok, r, l, q⟩ := h
  have inC : ∀ b ∈ cellsOf X.env.cells Nc, ∃ o, s.heap.get? b = some o ∧ H' b = some (PIN b o) ∧ s'.heap.get? b = some o := fun b hb => by
    obtain ⟨y, _, e⟩ := List.mem_filterMap.mp hb
    obtain ⟨v, o, ho, _⟩ := I.cell y b e
    have e1 : pinAt s.heap (cellsOf X.env.cells Nc) H b = some (PIN b o) := by
      unfold pinAt
      rw [if_pos hb, ho]
      rfl
    have e2 := l b _ e1
    exact ⟨o, ho, e2, pin_get hok e2⟩
  have ps : Pins H' (cellsOf X.env.cells Nc) := fun b hb => let ⟨o, _, e, _⟩ := inC b hb; ⟨o, e⟩
  have nC : ∀ b u, H b = some u → b ∉ cellsOf X.env.cells Nc := fun b u e hb => by
    obtain ⟨y, _, e1⟩ := List.mem_filterMap.mp hb
    rw [I.freeC y b e1] at e; cases e
  have up := pin_up (N := Nc) I
  have lH : Le H (dropH H' (cellsOf X.env.cells Nc)) := fun b u e => by rw [dropH_out (nC b u e)]; exact l b u (up b u e)
  refine I.after ⟨v, dropH H' (cellsOf X.env.cells Nc), os, bare, ⟨fun b o e n hb hx => ?_, fun b o e n hb hx => ?_, fun b o e n hx => ?_, un.there, fun b xs e => lH b _ e, fun b o u e => lH b _ e, fun b pz e => ⟨#[], by simpa using lH b _ e⟩⟩, drop_ok ps hok, r, q _ lH⟩
  · by_cases hc : b ∈ cellsOf X.env.cells Nc
    · obtain ⟨o2, a1, _, a3⟩ := inC b hc
      rw [e] at a1; cases a1
      exact a3
    · exact un.keep b o e (by rw [pin_out hc]; exact n) hb hx
  · by_cases hc : b ∈ cellsOf X.env.cells Nc
    · obtain ⟨o2, a1, _, a3⟩ := inC b hc
      rw [e] at a1; cases a1
      exact ⟨o.slots, a3⟩
    · exact un.slot b o e (by rw [pin_out hc]; exact n) hb hx
  · by_cases hc : b ∈ cellsOf X.env.cells Nc
    · exact dropH_in hc
    · rw [dropH_out hc]
      exact un.free b o e (by rw [pin_out hc]; exact n) hx
def kLiv (i : Nat) (ks : List Nat) (c : Str) : Gam → Lls → Prop := fun Γ L => ∃ l ms ds, gat Γ i = .ad l ∧ (l, ms) ∈ L ∧ VS Γ ks ds ∧ ms.length ≤ 400 ∧ ∀ m ∈ ms, m (ds.map .v) = .ex c
theorem ct_live {k i : Nat} {x y c : Str} {names : List Str} {ks : List Nat} {q1 q2 q4 q5 : Pos} {j : Nat} (A : AllD X.prog X.w X.K X.mg X.base k (kl + 1) x names) (hr : Room k X.A) (hc : c ∈ names)
    (hks : ∀ (i : Nat) (y : Str), Nc[i]? = some y → ∃ k, ks[i]? = some k ∧ X.N[k]? = some y ∧ X.env.scope.names.lookup y = some .cell) (hkl : ks.length = Nc.length) (hf : ∀ y, X.fn y = true) (hNd : X.N.Nodup)
    (hi : X.N[i]? = some y := by rfl) (hv : Vis X.env.scope y := by first | exact Or.inl rfl | exact Or.inr (Or.inl rfl) | exact Or.inr (Or.inr rfl)) (hd : (y == ("__debug__" : Str)) = false := by decide) (hcd : (y == ("__classdict__" : Str)) = false := by decide)
    (hgx : Gl X x := by exact rfl) (hdx : (x == ("__debug__" : Str)) = false := by decide)
    (hs1 : starEach [.Name y q2, .Constant (.str c) j q4] X.env = (false, eval (.Name y q2) X.env) :: starEach [.Constant (.str c) j q4] X.env := by rfl)
    (hs2 : starEach [.Constant (.str c) j q4] X.env = (false, eval (.Constant (.str c) j q4) X.env) :: starEach [] X.env := by rfl) (hpl : (backTo q5 (starEach [.Constant (.str c) j q4] X.env)).any (·.1) = false := by rfl) :
    CT X T kl Nc (.Call (.Name x q1) [.Name y q2, .Constant (.str c) j q4] [] q5) (kLiv i ks c) := by
  obtain ⟨fA, fdA, psA, gA, lA, FA, kA, bA⟩ := A.ex
  refine ⟨⟨fun pins s σ H Q I ⟨Γ, L, S, ⟨l, ms, ds, e1, e2, e3, hz, e4⟩, q⟩ => wpAny_Call_Name_kw (ld_glob I hgx gA ?_ hdx)⟩⟩
  have pa : PA X [.Name y q2, .Constant (.str c) j q4] _ := pa_cons (pe_var (i := i) hi hv hd hcd) (pa_cons (pe_str (x := c) (j := j)) pa_nil hs2) hs1
  obtain ⟨G, sr, ng, gl⟩ := S.ex
  refine PySem.W.callWith_K (h₀ := X.base) I.ok.mod.kin kA (thn (pa.run q5 pins s σ H (fun vs H1 => vs = [.ref l, .str c] ∧ H1 = H) I ⟨.ref l, sr.adr i l e1, rfl, rfl⟩) fun us s1 ⟨vs, H1, I1, r, ev, eh⟩ => ⟨I1.kIn, ?_⟩) hs1 hpl
  subst ev
  subst eh
  have hl : us.length = psA.length := by rw [← r.length, lA]; rfl
  have b := bA s1 us I1.kIn (by rw [List.append_nil]; exact hl)
  rw [List.append_nil] at b
  obtain ⟨vs, dvs, lvs, gvs⟩ := e3.vals sr
  have up := pin_up (N := Nc) I1
  have cl : CloH (pinAt s1.heap (cellsOf X.env.cells Nc) H1) X.env.cells Nc (vs.map some) := by
    refine pin_frame (N := Nc) I1 (fun i2 y2 h2 => ?_) (fun i2 y2 h2 j2 v2 h3 h4 => ?_) (by rw [List.length_map, lvs, hkl])
    · obtain ⟨k2, a1, a2, a3⟩ := hks i2 y2 h2
      obtain ⟨v, _, a4⟩ := gvs i2 k2 a1
      exact ⟨k2, v, a2, a4, a3⟩
    · obtain ⟨k2, a1, a2, a3⟩ := hks i2 y2 h2
      obtain ⟨v, a5, a4⟩ := gvs i2 k2 a1
      have ej : k2 = j2 := (List.getElem?_inj (List.getElem?_eq_some_iff.mp a2).1 hNd).mp (a2.trans h3.symm)
      subst ej
      rw [a4] at h4
      rw [List.getElem?_map, a5]
      cases h4
      rfl
  obtain ⟨fs, f1, f2, f3⟩ := S.ls (l, ms) e2
  have sp : spA X.prog X.w X.K X.mg X.base (kl + 1) names [.ref l, .str c] (pinAt s1.heap (cellsOf X.env.cells Nc) H1) (fun v H' => Le (pinAt s1.heap (cellsOf X.env.cells Nc) H1) H' ∧ ∀ H2, Le H1 H2 → Q v H2) (fun _ _ _ => False) := by
    refine ⟨l, fs, c, rfl, up _ _ f1, fun f hf => ?_, hc, by rw [f2]; show ms.length ≤ 1000; omega, fun H2 l2 => ?_⟩
    · obtain ⟨e, m, hm, lx, LM⟩ := f3 f hf
      refine lamOk_mk (N := Nc) (vs := vs) (ds := ds) (G := G) (m := m) (lx.ext fun b φ e => up _ _ e) LM.nm cl (LM.bind _) (fun c' A outer s H' E hr => LM.body _ f c' A outer s H' E hr) (fun b u e => ?_) dvs (e4 m hm)
      have e1 := sr.sub b u e
      rw [dropH_out fun hb => by
        obtain ⟨y, _, e2⟩ := List.mem_filterMap.mp hb
        rw [I1.freeC y b e2] at e1; cases e1]
      exact up _ _ e1
    · exact ⟨l2, fun H3 l3 => q H3 (S.le l3)⟩
  refine wpAny_call (codeAny_mono (FA.run X.A X.stack s1 _ ⟨us, []⟩ us _ _ _ hr (pin_env0 I1 hf) b r sp) fun r s' hq => ?_)
  cases r with
  | error e =>
    obtain ⟨_, _, _, _, _, _, _, _, _, _, _, _, hE⟩ := hq
    exact hE.elim
  | ok fl =>
    cases fl with
    | ret u => exact pin_after I1 hq
    | next => exact hq.elim
    | brk => exact hq.elim
    | cont => exact hq.elim
end
/-! ### the law itself -/
def spK (K : PySem.W.Frag) (T : List (Addr × Str)) (N : Nat) (fl : Gam → Lls → Prop) : Sp := fun vs H Q _ => ∃ G ds, Le G H ∧ DqAll K G vs ds ∧ ds.length = 1 ∧ LamX.Tabs T H ∧ fl (ds.map .v ++ List.replicate (N - ds.length) .no) [] ∧ ∀ H', Q (.bl true) H'
theorem noOwn_start : ∀ (ds : List PyData) (n : Nat), noOwn (ds.map .v ++ List.replicate n .no) = true
  | [], 0 => rfl
  | [], n + 1 => noOwn_start [] n
  | _ :: r, n => noOwn_start r n
theorem fnK_mk {P : Program} {w : World} {K : PySem.W.Frag} {mg : Str → Option Value} {base : Heap} {x p0 : Str} {st : Stmt} {f c : Addr} {fd : FuncData} {N Nc : List Str} {k kl : Nat} {T : List (Addr × Str)} {fl : Gam → Lls → Prop} (F : FnP K x st f fd) (S : FnScope N [p0] (defScope st)) (hl : 1 ≤ N.length) (hfc : fd.code = .ref c)
    (body : ∀ (A : Around) (outer : List Env) (s : Shared) (H : Hp) (E : XK), Room k (A.deeper (envOfC x (defScope st) s.heap.objs.size f (.ref c))) → LB (cxOf (L2.CX P w) P w K mg base N x (defScope st) f (.ref c) A outer s H E) T kl Nc (defBody st) fl) :
    FnOk P w K mg base (L2.CX P w) (k + 1) f fd [p0] (spK K T N.length fl) := by
  obtain ⟨oc, od, dV, kV, doc, pm, an, cdv, ct, osl, rfl, lk, hcd, _, _⟩ := F.ex
  have hfc : cdv = .ref c := hfc
  subst hfc
  refine ⟨fun vs H Q E h => ?_, fun A outer s H args us vs Q E hr e0' hbd r hsp => ?_⟩
  · obtain ⟨G, ds, _, dx, hn, _⟩ := h
    rw [dpa_len dx, hn]
    rfl
  obtain ⟨G, ds, lg, dx, hn, hT, hfl, q⟩ := hsp
  have hlv : vs.length = [p0].length := by rw [dpa_len dx, hn]; rfl
  have KX : K.In s.heap := e0'.mod.kin.keeps fun b o e => (e0'.bs b o e).1
  have lim : s.heap.NoLimit := e0'.mod.nolimit.keeps fun b o e => (e0'.bs b o e).1
  refine codeAny_call_function hr.depth (KX _ _ lk) rfl S.co S.gen rfl (PySem.W.codeRec_of KX hcd) (hbd _ _ _ _ (wpAny_newFunctionEnv_cells S.kind (fun ⟨n, v⟩ hy => ?_) fun env he s1 x1 => ?_))
  · rcases S.par n (List.of_mem_zip hy).1 with q | q
    · exact .inl q
    · exact .inr ⟨q, PySem.W.cellsFrom_some _ _ _ (.inl q)⟩
  subst he
  have I := inv_start (CX := L2.CX P w) (K := K) (mg := mg) (base := base) (N := N) (E := E) S hr.hd e0' hlv r x1
  have s0 := sr_start (N := N) (K := K) lg dx (by rw [hn]; exact hl)
  have no0 := noOwn_start ds (N.length - ds.length)
  refine ⟨lim.keeps x1.toInCall.keep, codeAny_func (wpAny_mono ((body A outer s H E (hr.deeper _)).run.run [] s1 (L2.start N vs) H { nx := fun _ H' => Q .non H', rt := Q } I ⟨_, [], ⟨⟨noT G, sr_no no0 (le_trans noT_le lg) s0.sr.len (fun i d e => ?_) s0.sr.adr, noT_no, fun p hp => nomatch hp⟩, no0, hT, (fun p hp => nomatch hp), .nil⟩, hfl, q⟩) (fun fl s' hs => ?_) fun e s' hs => hs)⟩
  · obtain ⟨x, a, b⟩ := s0.sr.val i d e
    exact ⟨x, a, dq_keep noT_up b⟩
  · cases fl with
    | ret u =>
      obtain ⟨v, σ', H', J, rv, q⟩ := hs
      exact ⟨v, H', J.os, J.bare, J.base, J.hok, rv, q⟩
    | next =>
      obtain ⟨σ', H', J, q⟩ := hs
      exact ⟨.non, H', J.os, J.bare, J.base, J.hok, rfl, q⟩
    | brk =>
      obtain ⟨_, _, _, q⟩ := hs
      exact q.elim
    | cont =>
      obtain ⟨_, _, _, q⟩ := hs
      exact q.elim
theorem sp_lawK {K : PySem.W.Frag} {T : List (Addr × Str)} {N : Nat} {fl : Gam → Lls → Prop} (H : Hp) (a : Addr) (ns : List Int) (hT : LamX.Tabs T H) (hS : SqL K H a (ns.map V.int)) (h : fl (.v (.dict (ns.map fun n => (.int n, .none))) :: List.replicate (N - 1) .no) []) :
    spK K T N fl [.ref a] H (fun v _ => v = .bl true) fun _ _ _ => False :=
  ⟨H, [.dict (ns.map fun n => (.int n, .none))], fun _ _ e => e, .cons (.scr hS) .nil, rfl, hT, h, fun _ => rfl⟩
end PD

/-! The data layer: bits for a law with lambdas. -/
namespace PD
open PySem PySem.Spec PyProof.Rows L2
/-- the lambda of x = [lambda: ..], of x.append(lambda: ..) -/
def lamOf : Stmt → Lam3
  | .Assign _ (.List [.Lambda p b s _] _) _ => ⟨p, b, s⟩
  | .Expr (.Call _ [.Lambda p b s _] _ _) _ => ⟨p, b, s⟩
  | _ => ⟨default, default, default⟩
theorem code_of {K : PySem.W.Frag} {x : Str} {st : Stmt} {p : Str × Option Str} {fd : FuncData} (F : FnP K x st (He.fAd K p) fd) : fd.code = .ref (He.codeOf K p) := by
  obtain ⟨oc, od, dV, kV, doc, pm, an, cdv, ct, osl, rfl, lk, hcd, _, _⟩ := F.ex
  obtain ⟨c, rfl⟩ := He.codeIn_ref hcd
  have e := He.codeOf_eq (c := c) lk rfl
  rw [e]
def lamNB (scope : Scope) (N : List Str) : Bool := decide (scope.kind = .function) && (!scope.isCoroutine && (!scope.isGenerator && (scope.names.all fun y => !decide (y.2 = .local) && (!decide (y.2 = .cell) && (!decide (y.2 = .free) || decide (y.1 ∈ N))))))
theorem lamN_by {scope : Scope} {N : List Str} (h : lamNB scope N = true) : LamN scope N := by
  unfold lamNB at h
  simp only [Bool.and_eq_true, List.all_eq_true, Bool.not_eq_true', Bool.or_eq_true, decide_eq_true_eq, decide_eq_false_iff_not] at h
  obtain ⟨h1, h2, h3, h4⟩ := h
  refine ⟨h1, h2, h3, fun y hy => ⟨(h4 y hy).1, (h4 y hy).2.1⟩, fun y hy e => ?_⟩
  rcases (h4 y hy).2.2 with z | z
  · exact absurd e z
  · exact z
section
variable {P : Program} {w : World} {K : PySem.W.Frag} {mg : Str → Option Value} {base : Heap} {kl : Nat} {q : Str} {N : List Str}
theorem lams_nil {ms : List M} : ∀ (j : Nat) (e : Lam3), ([] : List Lam3)[j]? = some e → ∃ m, ms[j]? = some m ∧ LamM P w K mg base kl q N e m := fun j e h => by simp at h
theorem lams_cons {e0 : Lam3} {es : List Lam3} {m0 : M} {ms : List M} (h : LamM P w K mg base kl q N e0 m0) (t : ∀ (j : Nat) (e : Lam3), es[j]? = some e → ∃ m, ms[j]? = some m ∧ LamM P w K mg base kl q N e m) :
    ∀ (j : Nat) (e : Lam3), (e0 :: es)[j]? = some e → ∃ m, (m0 :: ms)[j]? = some m ∧ LamM P w K mg base kl q N e m := fun j e h => by
  cases j with
  | zero => cases h; exact ⟨m0, rfl, h⟩
  | succ j => exact t j e h
end
/-! ### the tables -/
abbrev tabA (K : PySem.W.Frag) (p : Str × Option Str) : Addr := (He.cT K p).2
abbrev TabsB (base : Heap) (K : PySem.W.Frag) (mg : Str → Option Value) (tf : List (Str × Option Str)) : Prop := ∀ p ∈ tf, LamX.TabB base mg (He.codeOf K p) (tabA K p)
/-- the tables of the defs tf, by the names of their lambdas -/
def tabL (K : PySem.W.Frag) (qs : List ((Str × Option Str) × Str)) : List (Addr × Str) := qs.map fun z => (tabA K z.1, z.2)
def distB (K : PySem.W.Frag) (qs : List ((Str × Option Str) × Str)) : Bool := qs.all fun z => qs.all fun y => !decide (tabA K z.1 = tabA K y.1) || decide (z.2 = y.2)
theorem tabL_un {K : PySem.W.Frag} {qs : List ((Str × Option Str) × Str)} (h : distB K qs = true) {z : (Str × Option Str) × Str} (hz : z ∈ qs) : ∀ p ∈ tabL K qs, p.1 = tabA K z.1 → p.2 = z.2 := fun p hp e => by
  obtain ⟨y, hy, rfl⟩ := List.mem_map.mp hp
  have h1 := List.all_eq_true.mp (List.all_eq_true.mp h y hy) z hz
  simp only [Bool.or_eq_true, Bool.not_eq_true', decide_eq_false_iff_not, decide_eq_true_eq] at h1
  rcases h1 with z | z
  · exact absurd e z
  · exact z
theorem tabL_in {K : PySem.W.Frag} {qs : List ((Str × Option Str) × Str)} {z : (Str × Option Str) × Str} (hz : z ∈ qs) : (tabA K z.1, z.2) ∈ tabL K qs := List.mem_map.mpr ⟨z, hz, rfl⟩
theorem tabL_start {K : PySem.W.Frag} {qs : List ((Str × Option Str) × Str)} {H : Hp} (h : ∀ z ∈ qs, H (tabA K z.1) = some (.tbl #[])) : LamX.Tabs (tabL K qs) H := fun p hp => by
  obtain ⟨y, hy, rfl⟩ := List.mem_map.mp hp
  exact LamX.TabS.nil (h y hy)
/-- an exception class of the text: also a ValueError -/
theorem exsV_of {K : PySem.W.Frag} {mg : Str → Option Value} {bs : Str} {names : List Str} (h : Exs K mg bs names) (hn : ∀ c ∈ names, mg c = some (.ref (He.ga K c))) (hv : (names.all fun c => PySem.W.kitOne K (.ref (He.ga K c)) (.type "ValueError") == some true) = true) : ExsV K mg bs names :=
  ⟨h, fun c hc D e => by
    rw [hn c hc] at e
    cases e
    have := List.all_eq_true.mp hv c hc
    simpa using this⟩
end PD

/-! The data layer: bits for a law with lambdas: statements one by one. -/
namespace PD
open PySem PySem.Spec PyProof.Rows L2
abbrev stL (s : Stmt) (j : Nat) : Stmt := (defBody s).getD j (.Pass ⟨0, 0, 0, 0⟩)
inductive MkS (X : Cx) (T : List (Addr × Str)) (i : Nat) : List Stmt → List Lam3 → Prop
  | nil : MkS X T i [] []
  | cons {s : Stmt} {ss : List Stmt} {e : Lam3} {es : List Lam3} : PS X s (fun D σ H => tMkA X T i e D.nx σ H) → MkS X T i ss es → MkS X T i (s :: ss) (e :: es)
theorem rtb_mks {X : Cx} {T : List (Addr × Str)} {i : Nat} {sr : Stmt} (hr : RtB X [sr] (fun R σ H => ∃ v, σ[i]? = some (some v) ∧ R v σ H)) : ∀ {ss es}, MkS X T i ss es → RtB X (ss ++ [sr]) (fun R σ H => tMks X T i es (fun σ' H' => ∃ v, σ'[i]? = some (some v) ∧ R v σ' H') σ H)
  | _, _, .nil => hr
  | _, _, .cons (s := s) (ss := ss) (e := e) (es := es) h t => by
    have q := rtb_cons (t := fun k σ H => tMkA X T i e k σ H) h (rtb_mks hr t)
    exact q
theorem rtb_maker {X : Cx} {T : List (Addr × Str)} {i : Nat} {s0 sr : Stmt} {ss : List Stmt} {e0 : Lam3} {es : List Lam3} (h1 : PS X s0 (fun D σ H => tMk1 X T i e0 D.nx σ H)) (hs : MkS X T i ss es) (hr : RtB X [sr] (fun R σ H => ∃ v, σ[i]? = some (some v) ∧ R v σ H)) :
    RtB X (s0 :: (ss ++ [sr])) (tMaker X T i e0 es) := by
  have q := rtb_cons (t := fun k σ H => tMk1 X T i e0 k σ H) h1 (rtb_mks hr hs)
  exact q
end PD

namespace PD
open PySem PySem.Spec PyProof.Rows L2
def m_is_int : MS := (mRet [] (mAndV (mIsi .int (mVar 0)) (mAndV (mNotV (mIsi .bool (mVar 0))) (mChain dLe dLe (mVar 1) (mVar 0) (mVar 2)))))
def m_is_bidder : MS := (mRet [] (mAndV (mIsi .str (mVar 0)) (mAndV (mOp dEq (mCall dLen (mCons (mVar 0) mNil)) (mC (.int 1))) (mOp dIn (mVar 0) (mC (.str (PySem.Str.ofString "abcdef")))))))
def m_step_up : MS := (mRet [] (mOp dAdd (mVar 1) (mOp dIx (mL (mLc [2, 3] (mItems (mOp dIx (mVar 0) (mC (.int 0)))) (bTup [(bName 2), (bName 3)]) (mB (mOp dLe (mVar 2) (mVar 1))) (mVar 3))) (mNeg (mC (.int 1))))))
def m_law_pick : MS := (mSeq (mSet 3 [] (mIf (mB (mOp dNe (mVar 0) (mL mNil))) (mOp dIx (mVar 0) (mOp dMod (mVar 1) (mCall dLen (mCons (mVar 0) mNil)))) (mC (.int 0))))
    (mSeq (mPar [5, 6] [] [.v (mOp dDiv (mVar 3) (mOp dPow (mC (.int 10)) (mC (.int 18)))), .v (mOp dDiv (mVar 1) (mCall dMax (mCons (mCall dLen (mCons (mVar 0) mNil)) (mCons (mC (.int 1)) mNil))))])
    (mSeq (mWh [] (mAnd (mB (mOp dGt (mVar 5) (mC (.int 0)))) (mB (mOp dGt (mVar 6) (mC (.int 0))))) (mPar [5, 6] [] [.v (mOp dDiv (mVar 5) (mC (.int 840))), .v (mOp dSub (mVar 6) (mC (.int 1)))]) 1000)
    (mSeq (mIfS [] (mB (mOp dGt (mVar 5) (mC (.int 0)))) (mRet [] (mOp dMod (mOp dMod (mVar 5) (mC (.int 840))) (mVar 2))) mSkip)
    (mSeq (mSet 4 [] (mOp dMod (mOp dMul (mOp dAdd (mOp dMul (mVar 3) (mC (.int 31))) (mOp dMul (mC (.int 6151)) (mOp dAdd (mVar 1) (mC (.int 1))))) (mC (.int 40692))) (mC (.int 2147483399))))
    (mRet [] (mOp dMod (mOp dMod (mOp dAdd (mOp dMul (mVar 4) (mVar 4)) (mOp dDiv (mVar 4) (mC (.int 31)))) (mC (.int 2147483629))) (mVar 2))))))))
def m_law_up : MS := (mSeq (mSet 2 [] (mL (mLc [3, 4] (mItems (mOp dIx (mVar 0) (mC (.int 0)))) (bTup [(bName 3), (bName 4)]) (mB (mOp dLe (mVar 3) (mVar 1))) (mVar 4))))
    (mRet [] (mOp dAdd (mVar 1) (mCall dMax (mCons (mVar 2) mNil)))))
def m_is_step : MS := (mSeq (mIfS [] (mOr (mNot (mB (mIsi .tuple (mVar 0)))) (mB (mOp dNe (mCall dLen (mCons (mVar 0) mNil)) (mC (.int 2))))) (mRet [] (mC (.bool false))) mSkip)
    (mRet [] (mAndV (mCall (mDef m_is_int 3) (mCons (mOp dIx (mVar 0) (mC (.int 0))) (mCons (mC (.int 0)) (mCons (mC (.int 200)) mNil)))) (mCall (mDef m_is_int 3) (mCons (mOp dIx (mVar 0) (mC (.int 1))) (mCons (mC (.int 1)) (mCons (mC (.int 50)) mNil)))))))
def m_is_bid : MS := (mSeq (mIfS [] (mOr (mNot (mB (mIsi .tuple (mVar 0)))) (mB (mOp dNe (mCall dLen (mCons (mVar 0) mNil)) (mC (.int 2))))) (mRet [] (mC (.bool false))) mSkip)
    (mRet [] (mAndV (mCall (mDef m_is_bidder 1) (mCons (mOp dIx (mVar 0) (mC (.int 0))) mNil)) (mCall (mDef m_is_int 3) (mCons (mOp dIx (mVar 0) (mC (.int 1))) (mCons (mC (.int 1)) (mCons (mC (.int 200)) mNil)))))))
def m_check_price : MS := (mIfS [] (mNot (mB (mCall (mDef m_is_int 3) (mCons (mVar 0) (mCons (mC (.int 0)) (mCons (mC (.int 200)) mNil)))))) (mRaise (PySem.Str.ofString "InvalidPrice")) mSkip)
def m_law_house : MS := (mSeq (mPar [4, 5, 6] [] [.o mNil, .v (mC (.int 0)), .v (mC (.int 0))])
    (mSeq (mFor [] (mRng (mCons (mOp dAdd (mC (.int 1)) (mCall (mDef m_law_pick 7) (mCons (mVar 0) (mCons (mVar 1) (mCons (mC (.int 3)) mNil))))) mNil)) (bName 2) (mSeq (mSet 6 [] (mOp dAdd (mOp dAdd (mVar 6) (mC (.int 1))) (mCall (mDef m_law_pick 7) (mCons (mVar 0) (mCons (mOp dAdd (mOp dAdd (mVar 1) (mC (.int 1))) (mOp dMul (mC (.int 2)) (mVar 2))) (mCons (mC (.int 3)) mNil))))))
    (mSeq (mApp 4 [] (mTup (mCons (mVar 5) (mCons (mVar 6) mNil))))
    (mSet 5 [] (mOp dAdd (mOp dAdd (mVar 5) (mC (.int 1))) (mCall (mDef m_law_pick 7) (mCons (mVar 0) (mCons (mOp dAdd (mOp dAdd (mVar 1) (mC (.int 2))) (mOp dMul (mC (.int 2)) (mVar 2))) (mCons (mC (.int 12)) mNil)))))))))
    (mSeq (mSet 3 [] (mOp dAdd (mC (.int 1)) (mCall (mDef m_law_pick 7) (mCons (mVar 0) (mCons (mOp dAdd (mVar 1) (mC (.int 9))) (mCons (mC (.int 8)) mNil))))))
    (mRet [4] (mTup (mCons (mCall dTuple (mCons (mVar 4) mNil)) (mCons (mVar 3) (mCons (mOp dAdd (mVar 3) (mOp dIx (mTup (mCons (mC (.int 0)) (mCons (mC (.int 0)) (mCons (mC (.int 3)) (mCons (mC (.int 9)) (mCons (mC (.int 20)) mNil)))))) (mCall (mDef m_law_pick 7) (mCons (mVar 0) (mCons (mOp dAdd (mVar 1) (mC (.int 10))) (mCons (mC (.int 5)) mNil)))))) mNil))))))))
def m_are_steps : MS := (mSeq (mIfS [] (mOr (mNot (mB (mIsi .tuple (mVar 0)))) (mOr (mNot (mB (mChain dLe dLe (mC (.int 1)) (mCall dLen (mCons (mVar 0) mNil)) (mC (.int 4))))) (mNot (mB (mCall dAll (mCons (mL (mLc [4] (mItems (mVar 0)) (bName 4) mT (mCall (mDef m_is_step 1) (mCons (mVar 4) mNil)))) mNil)))))) (mRet [] (mC (.bool false))) mSkip)
    (mSeq (mSet 1 [] (mL (mLc [2, 3] (mZip (mCons (mVar 0) (mCons (mSl (mVar 0) (mPS (mC (.int 1))) mPN) mNil))) (bTup [(bName 2), (bName 3)]) mT (mAndV (mOp dLt (mOp dIx (mVar 2) (mC (.int 0))) (mOp dIx (mVar 3) (mC (.int 0)))) (mOp dLt (mOp dIx (mVar 2) (mC (.int 1))) (mOp dIx (mVar 3) (mC (.int 1))))))))
    (mRet [] (mAndV (mOp dEq (mOp dIx (mOp dIx (mVar 0) (mC (.int 0))) (mC (.int 0))) (mC (.int 0))) (mCall dAll (mCons (mVar 1) mNil))))))
def m_are_bids : MS := (mSeq (mIfS [] (mOr (mNot (mB (mIsi .list (mVar 0)))) (mB (mOp dGt (mCall dLen (mCons (mVar 0) mNil)) (mC (.int 8))))) (mRet [] (mC (.bool false))) mSkip)
    (mRet [] (mCall dAll (mCons (mL (mLc [1] (mItems (mVar 0)) (bName 1) mT (mCall (mDef m_is_bid 1) (mCons (mVar 1) mNil)))) mNil))))
def m_is_sale : MS := (mSeq (mIfS [] (mOr (mNot (mB (mIsi .tuple (mVar 0)))) (mOr (mB (mOp dNe (mCall dLen (mCons (mVar 0) mNil)) (mC (.int 3)))) (mNot (mB (mCall (mDef m_are_steps 5) (mCons (mOp dIx (mVar 0) (mC (.int 0))) mNil)))))) (mRet [] (mC (.bool false))) mSkip)
    (mSeq (mAsg (bTup [(bName 1), (bName 2), (bName 3)]) [] (mVar 0))
    (mRet [] (mAndV (mCall (mDef m_is_int 3) (mCons (mVar 2) (mCons (mC (.int 1)) (mCons (mC (.int 100)) mNil)))) (mCall (mDef m_is_int 3) (mCons (mVar 3) (mCons (mVar 2) (mCons (mC (.int 200)) mNil))))))))
def m_check_sale : MS := (mIfS [] (mNot (mB (mCall (mDef m_is_sale 4) (mCons (mVar 0) mNil)))) (mRaise (PySem.Str.ofString "InvalidSale")) mSkip)
def m_next_price : MS := (mSeq (mDo [] (mCall (mDef m_check_sale 1) (mCons (mVar 0) mNil)))
    (mSeq (mDo [] (mCall (mDef m_check_price 1) (mCons (mVar 1) mNil)))
    (mRet [] (mCall (mDef m_step_up 4) (mCons (mVar 0) (mCons (mVar 1) mNil))))))
def m_climb : MS := (mSeq (mDo [] (mCall (mDef m_check_sale 1) (mCons (mVar 0) mNil)))
    (mSeq (mDo [] (mCall (mDef m_check_price 1) (mCons (mVar 1) mNil)))
    (mSeq (mDo [] (mCall (mDef m_check_price 1) (mCons (mVar 2) mNil)))
    (mSeq (mOwn 3 [] (mCons (mVar 1) mNil))
    (mSeq (mWh [] (mB (mOp dLe (mCall (mDef m_step_up 4) (mCons (mVar 0) (mCons (mIxO 3 (mNeg (mC (.int 1)))) mNil))) (mVar 2))) (mApp 3 [] (mCall (mDef m_step_up 4) (mCons (mVar 0) (mCons (mIxO 3 (mNeg (mC (.int 1)))) mNil)))) 1000)
    (mRet [3] (mVar 3)))))))
def m_with_reserve : MS := (mSeq (mAsg (bTup [(bName 2), (bName 3), (bName 4)]) [] (mVar 1))
    (mRet [] (mIf (mB (mOp dGe (mVar 4) (mOp dIx (mVar 0) (mC (.int 2))))) (mTup (mCons (mVar 2) (mCons (mCall dMax (mCons (mVar 3) (mCons (mOp dIx (mVar 0) (mC (.int 2))) mNil))) (mCons (mVar 4) mNil)))) (mVar 1))))
def m_find_winner : MS := (mRet [] (mIf (mAnd (mB (mOp dNe (mOp dIx (mVar 1) (mC (.int 0))) (mC (.str (PySem.Str.ofString ""))))) (mB (mOp dGe (mOp dIx (mVar 1) (mC (.int 2))) (mOp dIx (mVar 0) (mC (.int 2)))))) (mOp dIx (mVar 1) (mC (.int 0))) (mC .none)))
def m_is_refused : MS := (mSeq (mAsg (bTup [(bName 3), (bName 4), (bName 5)]) [] (mVar 1))
    (mSeq (mIfS [] (mB (mOp dEq (mVar 3) (mC (.str (PySem.Str.ofString ""))))) (mRet [] (mOp dLt (mOp dIx (mVar 2) (mC (.int 1))) (mOp dIx (mVar 0) (mC (.int 1))))) mSkip)
    (mSeq (mIfS [] (mB (mOp dEq (mOp dIx (mVar 2) (mC (.int 0))) (mVar 3))) (mRet [] (mOp dLe (mOp dIx (mVar 2) (mC (.int 1))) (mVar 5))) mSkip)
    (mRet [] (mOp dLt (mOp dIx (mVar 2) (mC (.int 1))) (mCall (mDef m_step_up 4) (mCons (mVar 0) (mCons (mVar 4) mNil))))))))
def m_law_offers : MS := (mSeq (mOwn 4 [] mNil)
    (mSeq (mFor [] (mRng (mCons (mCall (mDef m_law_pick 7) (mCons (mVar 0) (mCons (mVar 1) (mCons (mOp dAdd (mVar 2) (mC (.int 1))) mNil)))) mNil)) (bName 5) (mSeq (mSet 6 [] (mOp dIx (mC (.str (PySem.Str.ofString "abcdef"))) (mIf (mB (mVar 3)) (mVar 5) (mCall (mDef m_law_pick 7) (mCons (mVar 0) (mCons (mOp dAdd (mOp dAdd (mVar 1) (mC (.int 1))) (mOp dMul (mC (.int 3)) (mVar 5))) (mCons (mC (.int 4)) mNil)))))))
    (mSeq (mSet 7 [] (mOp dAdd (mC (.int 1)) (mCall (mDef m_law_pick 7) (mCons (mVar 0) (mCons (mOp dAdd (mOp dAdd (mVar 1) (mC (.int 2))) (mOp dMul (mC (.int 3)) (mVar 5))) (mCons (mC (.int 30)) mNil))))))
    (mSeq (mIfS [] (mAnd (mB (mOp dGt (mVar 5) (mC (.int 0)))) (mB (mOp dEq (mCall (mDef m_law_pick 7) (mCons (mVar 0) (mCons (mOp dAdd (mOp dAdd (mVar 1) (mC (.int 3))) (mOp dMul (mC (.int 3)) (mVar 5))) (mCons (mC (.int 3)) mNil)))) (mC (.int 0))))) (mSet 7 [] (mCall dMax (mCons (mC (.int 1)) (mCons (mOp dSub (mOp dAdd (mOp dIx (mIxO 4 (mNeg (mC (.int 1)))) (mC (.int 1))) (mCall (mDef m_law_pick 7) (mCons (mVar 0) (mCons (mOp dAdd (mOp dAdd (mVar 1) (mC (.int 2))) (mOp dMul (mC (.int 3)) (mVar 5))) (mCons (mC (.int 5)) mNil))))) (mC (.int 2))) mNil)))) mSkip)
    (mApp 4 [] (mTup (mCons (mVar 6) (mCons (mVar 7) mNil))))))))
    (mRet [4] (mVar 4))))
def m_law_run : MS := (mSeq (mAsg (bTup [(bName 3), (bName 4), (bName 5)]) [] (mVar 0))
    (mSeq (mPar [6, 7, 8, 9, 10] [] [.o mNil, .o mNil, .v (mC (.str (PySem.Str.ofString ""))), .v (mC (.int 0)), .v (mC (.int 0))])
    (mSeq (mFor [] (mRng (mCons (mCall dLen (mCons (mVar 1) mNil)) mNil)) (bName 2) (mSeq (mAsg (bTup [(bName 12), (bName 13)]) [] (mOp dIx (mVar 1) (mVar 2)))
    (mSeq (mSet 11 [] (mIf (mB (mOp dEq (mVar 8) (mC (.str (PySem.Str.ofString ""))))) (mVar 4) (mCall (mDef m_law_up 5) (mCons (mVar 0) (mCons (mVar 9) mNil)))))
    (mSeq (mIfS [] (mB (mOp dEq (mVar 12) (mVar 8))) (mSet 11 [] (mOp dAdd (mVar 10) (mC (.int 1)))) mSkip)
    (mSeq (mIfS [] (mB (mOp dLt (mVar 13) (mVar 11))) (mApp 7 [] (mVar 2)) (mIfS [] (mB (mOp dEq (mVar 8) (mC (.str (PySem.Str.ofString ""))))) (mPar [8, 9, 10] [] [.v (mVar 12), .v (mVar 4), .v (mVar 13)]) (mIfS [] (mB (mOp dEq (mVar 12) (mVar 8))) (mSet 10 [] (mVar 13)) (mSeq (mPar [14, 15] [] [.v (mCall dMin (mCons (mVar 13) (mCons (mVar 10) mNil))), .v (mCall dMax (mCons (mVar 13) (mCons (mVar 10) mNil)))])
    (mSeq (mSet 9 [] (mCall dMin (mCons (mVar 15) (mCons (mCall (mDef m_law_up 5) (mCons (mVar 0) (mCons (mVar 14) mNil))) mNil))))
    (mPar [8, 10] [] [.v (mIf (mB (mOp dGt (mVar 13) (mVar 10))) (mVar 12) (mVar 8)), .v (mVar 15)]))))))
    (mSeq (mIfS [] (mAnd (mB (mOp dGe (mVar 13) (mVar 11))) (mAnd (mB (mOp dGe (mVar 10) (mVar 5))) (mB (mOp dLt (mVar 9) (mVar 5))))) (mSet 9 [] (mVar 5)) mSkip)
    (mApp 6 [] (mTup (mCons (mVar 8) (mCons (mVar 9) (mCons (mVar 10) mNil)))))))))))
    (mRet [6, 7] (mTup (mCons (mVar 6) (mCons (mVar 7) mNil)))))))
def m_advance : MS := (mSeq (mIfS [] (mB (mCall (mDef m_is_refused 6) (mCons (mVar 0) (mCons (mVar 1) (mCons (mVar 2) mNil))))) (mRet [] (mVar 1)) mSkip)
    (mSeq (mAsg (bTup [(bName 3), (bName 4), (bName 5)]) [] (mVar 1))
    (mSeq (mIfS [] (mB (mOp dEq (mVar 3) (mC (.str (PySem.Str.ofString ""))))) (mRet [] (mCall (mDef m_with_reserve 5) (mCons (mVar 0) (mCons (mTup (mCons (mOp dIx (mVar 2) (mC (.int 0))) (mCons (mOp dIx (mVar 0) (mC (.int 1))) (mCons (mOp dIx (mVar 2) (mC (.int 1))) mNil)))) mNil)))) mSkip)
    (mSeq (mIfS [] (mB (mOp dEq (mOp dIx (mVar 2) (mC (.int 0))) (mVar 3))) (mRet [] (mCall (mDef m_with_reserve 5) (mCons (mVar 0) (mCons (mTup (mCons (mVar 3) (mCons (mVar 4) (mCons (mOp dIx (mVar 2) (mC (.int 1))) mNil)))) mNil)))) mSkip)
    (mSeq (mIfS [] (mB (mOp dLe (mOp dIx (mVar 2) (mC (.int 1))) (mVar 5))) (mRet [] (mCall (mDef m_with_reserve 5) (mCons (mVar 0) (mCons (mTup (mCons (mVar 3) (mCons (mCall dMin (mCons (mVar 5) (mCons (mCall (mDef m_step_up 4) (mCons (mVar 0) (mCons (mOp dIx (mVar 2) (mC (.int 1))) mNil))) mNil))) (mCons (mVar 5) mNil)))) mNil)))) mSkip)
    (mRet [] (mCall (mDef m_with_reserve 5) (mCons (mVar 0) (mCons (mTup (mCons (mOp dIx (mVar 2) (mC (.int 0))) (mCons (mCall dMin (mCons (mOp dIx (mVar 2) (mC (.int 1))) (mCons (mCall (mDef m_step_up 4) (mCons (mVar 0) (mCons (mVar 5) mNil))) mNil))) (mCons (mOp dIx (mVar 2) (mC (.int 1))) mNil)))) mNil)))))))))
def m_law_last : MS := (mSeq (mSet 2 [] (mOp dIx (mCall (mDef m_law_run 16) (mCons (mVar 0) (mCons (mVar 1) mNil))) (mC (.int 0))))
    (mRet [] (mIf (mB (mOp dNe (mVar 2) (mL mNil))) (mOp dIx (mVar 2) (mNeg (mC (.int 1)))) (mTup (mCons (mC (.str (PySem.Str.ofString ""))) (mCons (mC (.int 0)) (mCons (mC (.int 0)) mNil)))))))
def m_find_states : MS := (mSeq (mPar [3, 4] [] [.o mNil, .v (mC (.tuple [(.str (PySem.Str.ofString "")), (.int 0), (.int 0)]))])
    (mSeq (mFor [] (mItems (mVar 1)) (bName 2) (mSeq (mSet 4 [] (mCall (mDef m_advance 6) (mCons (mVar 0) (mCons (mVar 4) (mCons (mVar 2) mNil)))))
    (mApp 3 [] (mVar 4))))
    (mRet [3] (mVar 3))))
def m_find_result : MS := (mRet [] (mOp dIx (mOp dAdd (mL (mCons (mC (.tuple [(.str (PySem.Str.ofString "")), (.int 0), (.int 0)])) mNil)) (mCall (mDef m_find_states 5) (mCons (mVar 0) (mCons (mVar 1) mNil)))) (mNeg (mC (.int 1)))))
def m_find_refused : MS := (mSeq (mSet 2 [] (mOp dAdd (mL (mCons (mC (.tuple [(.str (PySem.Str.ofString "")), (.int 0), (.int 0)])) mNil)) (mCall (mDef m_find_states 5) (mCons (mVar 0) (mCons (mVar 1) mNil)))))
    (mRet [] (mL (mLc [3, 4] (mEnum (mCons (mVar 1) mNil)) (bTup [(bName 3), (bName 4)]) (mB (mCall (mDef m_is_refused 6) (mCons (mVar 0) (mCons (mOp dIx (mVar 2) (mVar 3)) (mCons (mVar 4) mNil))))) (mVar 3)))))
def m_check_bids : MS := (mSeq (mDo [] (mCall (mDef m_check_sale 1) (mCons (mVar 0) mNil)))
    (mIfS [] (mNot (mB (mCall (mDef m_are_bids 2) (mCons (mVar 1) mNil)))) (mRaise (PySem.Str.ofString "InvalidBids")) mSkip))
def m_result : MS := (mSeq (mDo [] (mCall (mDef m_check_bids 2) (mCons (mVar 0) (mCons (mVar 1) mNil))))
    (mRet [] (mCall (mDef m_find_result 2) (mCons (mVar 0) (mCons (mVar 1) mNil)))))
def m_states : MS := (mSeq (mDo [] (mCall (mDef m_check_bids 2) (mCons (mVar 0) (mCons (mVar 1) mNil))))
    (mRet [] (mCall (mDef m_find_states 5) (mCons (mVar 0) (mCons (mVar 1) mNil)))))
def m_refused : MS := (mSeq (mDo [] (mCall (mDef m_check_bids 2) (mCons (mVar 0) (mCons (mVar 1) mNil))))
    (mRet [] (mCall (mDef m_find_refused 5) (mCons (mVar 0) (mCons (mVar 1) mNil)))))
def m_winner : MS := (mSeq (mDo [] (mCall (mDef m_check_bids 2) (mCons (mVar 0) (mCons (mVar 1) mNil))))
    (mRet [] (mCall (mDef m_find_winner 2) (mCons (mVar 0) (mCons (mCall (mDef m_find_result 2) (mCons (mVar 0) (mCons (mVar 1) mNil))) mNil)))))
def m_leads : MS := (mSeq (mDo [] (mCall (mDef m_check_bids 2) (mCons (mVar 0) (mCons (mVar 1) mNil))))
    (mSeq (mPar [2, 3, 4] [] [.o mNil, .v (mC (.str (PySem.Str.ofString ""))), .v (mC (.int 0))])
    (mSeq (mFor [] (mItems (mCall (mDef m_find_states 5) (mCons (mVar 0) (mCons (mVar 1) mNil)))) (bTup [(bName 5), (bName 6), (bName 7)]) (mSeq (mSet 4 [] (mOp dAdd (mVar 4) (mIf (mB (mOp dNe (mVar 5) (mVar 3))) (mC (.int 1)) (mC (.int 0)))))
    (mSeq (mSet 3 [] (mVar 5))
    (mApp 2 [] (mVar 4)))))
    (mRet [2] (mVar 2)))))
def m_have_single : MS := (mRet [] (mOp dEq (mLenSetT (mL (mLc [1] (mItems (mVar 0)) (bName 1) mT (mOp dIx (mVar 1) (mC (.int 0)))))) (mCall dLen (mCons (mVar 0) mNil))))
def m_all_orders : MS := (mSeq (mSet 1 [] (mL (mCons (mL mNil) mNil)))
    (mSeq (mFor [] (mRng (mCons (mCall dLen (mCons (mVar 0) mNil)) mNil)) (bName 2) (mSet 1 [] (mL (mLc2 [3, 4] [4] (mItems (mVar 1)) (bName 3) mT (mItems (mVar 0)) (bName 4) (mB (mOp dNotIn (mVar 4) (mVar 3))) (mOp dAdd (mVar 3) (mL (mCons (mVar 4) mNil)))))))
    (mRet [] (mVar 1))))
def m_are_single : MS := (mSeq (mIfS [] (mNot (mB (mCall (mDef m_are_bids 2) (mCons (mVar 0) mNil)))) (mRaise (PySem.Str.ofString "InvalidBids")) mSkip)
    (mRet [] (mCall (mDef m_have_single 2) (mCons (mVar 0) mNil))))
def m_all_ends : MS := (mSeq (mDo [] (mCall (mDef m_check_bids 2) (mCons (mVar 0) (mCons (mVar 1) mNil))))
    (mSeq (mIfS [] (mNot (mB (mCall (mDef m_have_single 2) (mCons (mVar 1) mNil)))) (mRaise (PySem.Str.ofString "Repeated")) mSkip)
    (mRet [] (mL (mLc [2] (mItems (mCall (mDef m_all_orders 5) (mCons (mVar 1) mNil))) (bName 2) mT (mTup (mCons (mCall (mDef m_find_result 2) (mCons (mVar 0) (mCons (mVar 2) mNil))) (mCons (mVar 2) mNil))))))))
def m_possible_winners : MS := (mSeq (mSet 2 [] (mL (mLc [3, 4] (mItems (mCall (mDef m_all_ends 3) (mCons (mVar 0) (mCons (mVar 1) mNil)))) (bTup [(bName 3), (bName 4)]) mT (mCall (mDef m_find_winner 2) (mCons (mVar 0) (mCons (mVar 3) mNil))))))
    (mRet [] (mSortSetA (mL (mLc [5] (mItems (mVar 2)) (bName 5) (mB (mOp dIsNot (mVar 5) (mC .none))) (mVar 5))))))
def m_possible_prices : MS := (mRet [] (mSortSetA (mL (mLc [2, 3] (mItems (mCall (mDef m_all_ends 3) (mCons (mVar 0) (mCons (mVar 1) mNil)))) (bTup [(bName 2), (bName 3)]) mT (mOp dIx (mVar 2) (mC (.int 1)))))))
def m_does_order_matter : MS := (mRet [] (mOp dGt (mLenSetK (mL (mLc [2, 3] (mItems (mCall (mDef m_all_ends 3) (mCons (mVar 0) (mCons (mVar 1) mNil)))) (bTup [(bName 2), (bName 3)]) mT (mSl (mVar 2) mPN (mPS (mC (.int 2))))))) (mC (.int 1))))
def m_dearest_order : MS := (mRet [] (mOp dIx (mCall dMinA (mCons (mL (mLc [2, 3] (mItems (mCall (mDef m_all_ends 3) (mCons (mVar 0) (mCons (mVar 1) mNil)))) (bTup [(bName 2), (bName 3)]) mT (mTup (mCons (mOp dSub (mC (.int 0)) (mOp dIx (mVar 2) (mC (.int 1)))) (mCons (mVar 3) mNil))))) mNil)) (mC (.int 1))))
def m_cheapest_order : MS := (mRet [] (mOp dIx (mCall dMinA (mCons (mL (mLc [2, 3] (mItems (mCall (mDef m_all_ends 3) (mCons (mVar 0) (mCons (mVar 1) mNil)))) (bTup [(bName 2), (bName 3)]) mT (mTup (mCons (mOp dIx (mVar 2) (mC (.int 1))) (mCons (mVar 3) mNil))))) mNil)) (mC (.int 1))))
def m_least_one : MS := (mRet [] (mIf (mB (mOp dNe (mVar 0) (mL mNil))) (mOp dIx (mVar 0) (mC (.int 0))) (mC .none)))
def m_check_bidder : MS := (mSeq (mDo [] (mCall (mDef m_check_bids 2) (mCons (mVar 0) (mCons (mVar 1) mNil))))
    (mIfS [] (mNot (mB (mCall (mDef m_is_bidder 1) (mCons (mVar 2) mNil)))) (mRaise (PySem.Str.ofString "InvalidBidder")) mSkip))
def m_price_with : MS := (mSeq (mDo [] (mCall (mDef m_check_bids 2) (mCons (mVar 0) (mCons (mVar 1) mNil))))
    (mSeq (mIfS [] (mNot (mB (mCall (mDef m_is_bid 1) (mCons (mVar 2) mNil)))) (mRaise (PySem.Str.ofString "InvalidBid")) mSkip)
    (mRet [] (mOp dIx (mCall (mDef m_advance 6) (mCons (mVar 0) (mCons (mCall (mDef m_find_result 2) (mCons (mVar 0) (mCons (mVar 1) mNil))) (mCons (mVar 2) mNil)))) (mC (.int 1))))))
def m_greatest_price : MS := (mSeq (mDo [] (mCall (mDef m_check_bids 2) (mCons (mVar 0) (mCons (mVar 1) mNil))))
    (mSeq (mAsg (bTup [(bName 2), (bName 3), (bName 4)]) [] (mCall (mDef m_find_result 2) (mCons (mVar 0) (mCons (mVar 1) mNil))))
    (mSeq (mIfS [] (mOr (mB (mOp dEq (mVar 2) (mC (.str (PySem.Str.ofString ""))))) (mB (mOp dGt (mCall (mDef m_step_up 4) (mCons (mVar 0) (mCons (mVar 3) mNil))) (mVar 4)))) (mRet [] (mC .none)) mSkip)
    (mRet [] (mVar 4)))))
def m_least_accepted : MS := (mSeq (mDo [] (mCall (mDef m_check_bidder 3) (mCons (mVar 0) (mCons (mVar 1) (mCons (mVar 2) mNil)))))
    (mSeq (mSet 3 [] (mCall (mDef m_find_result 2) (mCons (mVar 0) (mCons (mVar 1) mNil))))
    (mSeq (mSet 4 [] (mLstR (mCons (mC (.int 1)) (mCons (mOp dAdd (mC (.int 200)) (mC (.int 1))) mNil))))
    (mRet [] (mCall (mDef m_least_one 1) (mCons (mL (mLc [5] (mItems (mVar 4)) (bName 5) (mNot (mB (mCall (mDef m_is_refused 6) (mCons (mVar 0) (mCons (mVar 3) (mCons (mTup (mCons (mVar 2) (mCons (mVar 5) mNil))) mNil)))))) (mVar 5))) mNil))))))
def m_least_leading : MS := (mSeq (mDo [] (mCall (mDef m_check_bidder 3) (mCons (mVar 0) (mCons (mVar 1) (mCons (mVar 2) mNil)))))
    (mSeq (mSet 3 [] (mCall (mDef m_find_result 2) (mCons (mVar 0) (mCons (mVar 1) mNil))))
    (mSeq (mIfS [] (mB (mOp dEq (mOp dIx (mVar 3) (mC (.int 0))) (mVar 2))) (mRet [] (mC (.int 0))) mSkip)
    (mSeq (mSet 4 [] (mLstR (mCons (mC (.int 1)) (mCons (mOp dAdd (mC (.int 200)) (mC (.int 1))) mNil))))
    (mRet [] (mCall (mDef m_least_one 1) (mCons (mL (mLc [5] (mItems (mVar 4)) (bName 5) (mB (mOp dEq (mOp dIx (mCall (mDef m_advance 6) (mCons (mVar 0) (mCons (mVar 3) (mCons (mTup (mCons (mVar 2) (mCons (mVar 5) mNil))) mNil)))) (mC (.int 0))) (mVar 2))) (mVar 5))) mNil)))))))
def m_result_without : MS := (mRet [] (mCall (mDef m_find_result 2) (mCons (mVar 0) (mCons (mOp dAdd (mSl (mVar 1) mPN (mPS (mVar 2))) (mSl (mVar 1) (mPS (mOp dAdd (mVar 2) (mC (.int 1)))) mPN)) mNil))))
def m_without_bid : MS := (mSeq (mDo [] (mCall (mDef m_check_bids 2) (mCons (mVar 0) (mCons (mVar 1) mNil))))
    (mSeq (mIfS [] (mNot (mB (mCall (mDef m_is_int 3) (mCons (mVar 2) (mCons (mC (.int 0)) (mCons (mOp dSub (mCall dLen (mCons (mVar 1) mNil)) (mC (.int 1))) mNil)))))) (mRaise (PySem.Str.ofString "InvalidIndex")) mSkip)
    (mRet [] (mCall (mDef m_result_without 3) (mCons (mVar 0) (mCons (mVar 1) (mCons (mVar 2) mNil)))))))
def m_raisers : MS := (mSeq (mDo [] (mCall (mDef m_check_bids 2) (mCons (mVar 0) (mCons (mVar 1) mNil))))
    (mSeq (mAsg (bTup [(bName 4), (bName 5), (bName 6)]) [] (mCall (mDef m_find_result 2) (mCons (mVar 0) (mCons (mVar 1) mNil))))
    (mSeq (mOwn 2 [] mNil)
    (mSeq (mFor [] (mRng (mCons (mCall dLen (mCons (mVar 1) mNil)) mNil)) (bName 3) (mSeq (mSet 7 [] (mCall (mDef m_result_without 3) (mCons (mVar 0) (mCons (mVar 1) (mCons (mVar 3) mNil)))))
    (mIfS [] (mAnd (mB (mOp dEq (mOp dIx (mVar 7) (mC (.int 0))) (mVar 4))) (mB (mOp dLt (mOp dIx (mVar 7) (mC (.int 1))) (mVar 5)))) (mApp 2 [] (mVar 3)) mSkip)))
    (mRet [2] (mVar 2))))))
def m_needless : MS := (mSeq (mDo [] (mCall (mDef m_check_bids 2) (mCons (mVar 0) (mCons (mVar 1) mNil))))
    (mSeq (mSet 2 [] (mCall (mDef m_find_result 2) (mCons (mVar 0) (mCons (mVar 1) mNil))))
    (mRet [] (mL (mLc [3] (mRng (mCons (mCall dLen (mCons (mVar 1) mNil)) mNil)) (bName 3) (mB (mOp dEq (mCall (mDef m_result_without 3) (mCons (mVar 0) (mCons (mVar 1) (mCons (mVar 3) mNil)))) (mVar 2))) (mVar 3))))))
def m_deciding : MS := (mSeq (mDo [] (mCall (mDef m_check_bids 2) (mCons (mVar 0) (mCons (mVar 1) mNil))))
    (mSeq (mSet 2 [] (mOp dIx (mCall (mDef m_find_result 2) (mCons (mVar 0) (mCons (mVar 1) mNil))) (mC (.int 0))))
    (mRet [] (mL (mLc [3] (mRng (mCons (mCall dLen (mCons (mVar 1) mNil)) mNil)) (bName 3) (mB (mOp dNe (mOp dIx (mCall (mDef m_result_without 3) (mCons (mVar 0) (mCons (mVar 1) (mCons (mVar 3) mNil)))) (mC (.int 0))) (mVar 2))) (mVar 3))))))
def m_seen : MS := (mRet [] (mTup (mCons (mL (mLc [2] (mItems (mCall (mDef m_find_states 5) (mCons (mVar 0) (mCons (mVar 1) mNil)))) (bName 2) mT (mSl (mVar 2) mPN (mPS (mC (.int 2)))))) (mCons (mCall (mDef m_find_refused 5) (mCons (mVar 0) (mCons (mVar 1) mNil))) mNil))))
def m_last_bid : MS := (mSeq (mSet 3 [] (mCall (mDef m_find_refused 5) (mCons (mVar 0) (mCons (mVar 1) mNil))))
    (mRet [] (mOp dIx (mL (mLc [4, 5] (mEnum (mCons (mVar 1) mNil)) (bTup [(bName 4), (bName 5)]) (mAnd (mB (mOp dEq (mOp dIx (mVar 5) (mC (.int 0))) (mVar 2))) (mB (mOp dNotIn (mVar 4) (mVar 3)))) (mVar 4))) (mNeg (mC (.int 1))))))
def m_find_known : MS := (mSeq (mSet 2 [] (mOp dIx (mCall (mDef m_find_result 2) (mCons (mVar 0) (mCons (mVar 1) mNil))) (mC (.int 0))))
    (mSeq (mIfS [] (mB (mOp dEq (mVar 2) (mC (.str (PySem.Str.ofString ""))))) (mRet [] (mC .none)) mSkip)
    (mSeq (mPar [4, 5, 6] [] [.v (mCall (mDef m_last_bid 6) (mCons (mVar 0) (mCons (mVar 1) (mCons (mVar 2) mNil)))), .v (mCall (mDef m_seen 3) (mCons (mVar 0) (mCons (mVar 1) mNil))), .o mNil])
    (mSeq (mFor [] (mRng (mCons (mC (.int 1)) (mCons (mOp dAdd (mC (.int 200)) (mC (.int 1))) mNil))) (bName 3) (mIfS [] (mB (mOp dEq (mCall (mDef m_seen 3) (mCons (mVar 0) (mCons (mOp dAdd (mOp dAdd (mSl (mVar 1) mPN (mPS (mVar 4))) (mL (mCons (mTup (mCons (mVar 2) (mCons (mVar 3) mNil))) mNil))) (mSl (mVar 1) (mPS (mOp dAdd (mVar 4) (mC (.int 1)))) mPN)) mNil))) (mVar 5))) (mApp 6 [] (mVar 3)) mSkip))
    (mRet [] (mTup (mCons (mIxO 6 (mC (.int 0))) (mCons (mIxO 6 (mNeg (mC (.int 1)))) mNil))))))))
def m_still_to_pay : MS := (mSeq (mDo [] (mCall (mDef m_check_bids 2) (mCons (mVar 0) (mCons (mVar 1) mNil))))
    (mSeq (mAsg (bTup [(bName 2), (bName 3), (bName 4)]) [] (mCall (mDef m_find_result 2) (mCons (mVar 0) (mCons (mVar 1) mNil))))
    (mRet [] (mOp dSub (mVar 4) (mVar 3)))))
def m_known_amount : MS := (mSeq (mDo [] (mCall (mDef m_check_bids 2) (mCons (mVar 0) (mCons (mVar 1) mNil))))
    (mRet [] (mCall (mDef m_find_known 7) (mCons (mVar 0) (mCons (mVar 1) mNil)))))
def m_is_known : MS := (mSeq (mDo [] (mCall (mDef m_check_bids 2) (mCons (mVar 0) (mCons (mVar 1) mNil))))
    (mSeq (mSet 2 [] (mCall (mDef m_find_known 7) (mCons (mVar 0) (mCons (mVar 1) mNil))))
    (mRet [] (mAndV (mOp dIsNot (mVar 2) (mC .none)) (mOp dEq (mOp dIx (mVar 2) (mC (.int 0))) (mOp dIx (mVar 2) (mC (.int 1))))))))
def mk_class (a : Addr) (c : Str) : MS := (mSeq (mOwn 1 [] (mCons (mIsP 0 a (decide (c = "InvalidSale"))) (mCons (mIsP 0 a (decide (c = "InvalidPrice"))) mNil)))
    (mSeq (mExt 1 [] (mL (mCons (mIsP 0 a (decide (c = "InvalidBids"))) (mCons (mIsP 0 a (decide (c = "Repeated"))) mNil))))
    (mSeq (mExt 1 [] (mL (mCons (mIsP 0 a (decide (c = "InvalidBidder"))) (mCons (mIsP 0 a (decide (c = "InvalidBid"))) mNil))))
    (mSeq (mExt 1 [] (mL (mCons (mIsP 0 a (decide (c = "InvalidIndex"))) mNil)))
    (mSeq (mIfS [1] (mOr (mB (mOp dNeI (mCount (mVar 1) (mC (.bool true))) (mC (.int 1)))) (mNot (mB (mIsP 0 a true)))) (mRet [] (mC (.str (PySem.Str.ofString "wrong")))) mSkip)
    (mSeq (mOwn 2 [] (mCons (mC (.str (PySem.Str.ofString "InvalidSale"))) (mCons (mC (.str (PySem.Str.ofString "InvalidPrice"))) (mCons (mC (.str (PySem.Str.ofString "InvalidBids"))) (mCons (mC (.str (PySem.Str.ofString "Repeated"))) mNil)))))
    (mSeq (mExt 2 [] (mL (mCons (mC (.str (PySem.Str.ofString "InvalidBidder"))) (mCons (mC (.str (PySem.Str.ofString "InvalidBid"))) (mCons (mC (.str (PySem.Str.ofString "InvalidIndex"))) mNil)))))
    (mRet [1, 2] (mOp dIx (mVar 2) (mIndex (mVar 1) (mC (.bool true))))))))))))
def ml_law_sales : List M := [(mCall (mDef m_next_price 2) (mCons (mVar 0) (mCons (mNeg (mC (.int 1))) mNil))),
  (mCall (mDef m_climb 4) (mCons (mVar 0) (mCons (mNeg (mC (.int 1))) (mCons (mNeg (mC (.int 1))) mNil)))),
  (mCall (mDef m_result 2) (mCons (mVar 0) (mCons (mC .none) mNil))),
  (mCall (mDef m_states 2) (mCons (mVar 0) (mCons (mC .none) mNil))),
  (mCall (mDef m_refused 2) (mCons (mVar 0) (mCons (mC .none) mNil))),
  (mCall (mDef m_winner 2) (mCons (mVar 0) (mCons (mC .none) mNil))),
  (mCall (mDef m_leads 8) (mCons (mVar 0) (mCons (mC .none) mNil))),
  (mCall (mDef m_possible_winners 6) (mCons (mVar 0) (mCons (mC .none) mNil))),
  (mCall (mDef m_possible_prices 4) (mCons (mVar 0) (mCons (mC .none) mNil))),
  (mCall (mDef m_does_order_matter 4) (mCons (mVar 0) (mCons (mC .none) mNil))),
  (mCall (mDef m_dearest_order 4) (mCons (mVar 0) (mCons (mC .none) mNil))),
  (mCall (mDef m_cheapest_order 4) (mCons (mVar 0) (mCons (mC .none) mNil))),
  (mCall (mDef m_least_accepted 6) (mCons (mVar 0) (mCons (mC .none) (mCons (mC .none) mNil)))),
  (mCall (mDef m_least_leading 6) (mCons (mVar 0) (mCons (mC .none) (mCons (mC .none) mNil)))),
  (mCall (mDef m_price_with 3) (mCons (mVar 0) (mCons (mC .none) (mCons (mC .none) mNil)))),
  (mCall (mDef m_greatest_price 5) (mCons (mVar 0) (mCons (mC .none) mNil))),
  (mCall (mDef m_without_bid 3) (mCons (mVar 0) (mCons (mC .none) (mCons (mNeg (mC (.int 1))) mNil)))),
  (mCall (mDef m_raisers 8) (mCons (mVar 0) (mCons (mC .none) mNil))),
  (mCall (mDef m_needless 4) (mCons (mVar 0) (mCons (mC .none) mNil))),
  (mCall (mDef m_deciding 4) (mCons (mVar 0) (mCons (mC .none) mNil))),
  (mCall (mDef m_known_amount 2) (mCons (mVar 0) (mCons (mC .none) mNil))),
  (mCall (mDef m_is_known 3) (mCons (mVar 0) (mCons (mC .none) mNil))),
  (mCall (mDef m_still_to_pay 5) (mCons (mVar 0) (mCons (mC .none) mNil)))]
def ml_law_bids : List M := [(mCall (mDef m_result 2) (mCons (mVar 0) (mCons (mVar 1) mNil))),
  (mCall (mDef m_states 2) (mCons (mVar 0) (mCons (mVar 1) mNil))),
  (mCall (mDef m_refused 2) (mCons (mVar 0) (mCons (mVar 1) mNil))),
  (mCall (mDef m_winner 2) (mCons (mVar 0) (mCons (mVar 1) mNil))),
  (mCall (mDef m_leads 8) (mCons (mVar 0) (mCons (mVar 1) mNil))),
  (mCall (mDef m_are_single 1) (mCons (mVar 1) mNil)),
  (mCall (mDef m_possible_winners 6) (mCons (mVar 0) (mCons (mVar 1) mNil))),
  (mCall (mDef m_possible_prices 4) (mCons (mVar 0) (mCons (mVar 1) mNil))),
  (mCall (mDef m_does_order_matter 4) (mCons (mVar 0) (mCons (mVar 1) mNil))),
  (mCall (mDef m_dearest_order 4) (mCons (mVar 0) (mCons (mVar 1) mNil))),
  (mCall (mDef m_cheapest_order 4) (mCons (mVar 0) (mCons (mVar 1) mNil))),
  (mCall (mDef m_least_accepted 6) (mCons (mVar 0) (mCons (mVar 1) (mCons (mC .none) mNil)))),
  (mCall (mDef m_least_leading 6) (mCons (mVar 0) (mCons (mVar 1) (mCons (mC .none) mNil)))),
  (mCall (mDef m_price_with 3) (mCons (mVar 0) (mCons (mVar 1) (mCons (mC .none) mNil)))),
  (mCall (mDef m_greatest_price 5) (mCons (mVar 0) (mCons (mVar 1) mNil))),
  (mCall (mDef m_without_bid 3) (mCons (mVar 0) (mCons (mVar 1) (mCons (mNeg (mC (.int 1))) mNil)))),
  (mCall (mDef m_raisers 8) (mCons (mVar 0) (mCons (mVar 1) mNil))),
  (mCall (mDef m_needless 4) (mCons (mVar 0) (mCons (mVar 1) mNil))),
  (mCall (mDef m_deciding 4) (mCons (mVar 0) (mCons (mVar 1) mNil))),
  (mCall (mDef m_known_amount 2) (mCons (mVar 0) (mCons (mVar 1) mNil))),
  (mCall (mDef m_is_known 3) (mCons (mVar 0) (mCons (mVar 1) mNil))),
  (mCall (mDef m_still_to_pay 5) (mCons (mVar 0) (mCons (mVar 1) mNil)))]
def fl_k26 : Gam → Lls → Prop := (kPl (mPar [12, 13] [] [.v (mCall (mDef m_law_house 7) (mCons (mVar 0) (mCons (mC (.int 0)) mNil))), .v (mCall (mDef m_law_pick 7) (mCons (mVar 0) (mCons (mC (.int 30)) (mCons (mC (.int 8)) mNil))))])
  (kPl (mSet 1 [] (mCall (mDef m_law_offers 8) (mCons (mVar 0) (mCons (mC (.int 11)) (mCons (mC (.int 6)) (mCons (mC (.bool false)) mNil))))))
  (kPl (mSet 2 [] (mTup (mCons (mTup (mCons (mC (.int 0)) (mCons (mC (.int 1)) mNil))) mNil)))
  (kPl (mSet 3 [] (mOp dIx (mTup (mCons (mC .none) (mCons (mC (.int 5)) (mCons (mTup (mCons (mVar 2) (mCons (mC (.int 0)) (mCons (mC (.int 1)) mNil)))) (mCons (mTup (mCons (mVar 2) (mCons (mC (.int 5)) (mCons (mC (.int 4)) mNil)))) (mCons (mTup (mCons (mTup mNil) (mCons (mC (.int 1)) (mCons (mC (.int 1)) mNil)))) (mCons (mTup (mCons (mTup (mCons (mTup (mCons (mC (.int 0)) (mCons (mC (.int 2)) mNil))) (mCons (mTup (mCons (mC (.int 9)) (mCons (mC (.int 2)) mNil))) mNil))) (mCons (mC (.int 1)) (mCons (mC (.int 1)) mNil)))) (mCons (mL (mCons (mVar 2) (mCons (mC (.int 1)) (mCons (mC (.int 1)) mNil)))) (mCons (mTup (mCons (mVar 2) (mCons (mC (.int 1)) mNil))) mNil))))))))) (mVar 13)))
  (kPl (mSet 4 [] (mOp dIx (mTup (mCons (mC .none) (mCons (mC (.int 5)) (mCons (mTup mNil) (mCons (mL (mCons (mTup (mCons (mC (.str (PySem.Str.ofString "g"))) (mCons (mC (.int 1)) mNil))) mNil)) (mCons (mL (mCons (mTup (mCons (mC (.str (PySem.Str.ofString "a"))) (mCons (mC (.int 0)) mNil))) mNil)) (mCons (mL (mCons (mTup (mCons (mC (.str (PySem.Str.ofString "a"))) (mCons (mC (.int 201)) mNil))) mNil)) (mCons (mOp dMul (mL (mCons (mTup (mCons (mC (.str (PySem.Str.ofString "a"))) (mCons (mC (.int 1)) mNil))) mNil)) (mC (.int 9))) (mCons (mL (mCons (mL (mCons (mC (.str (PySem.Str.ofString "a"))) (mCons (mC (.int 1)) mNil))) mNil)) mNil))))))))) (mVar 13)))
  (kIf (kMkC ml_law_sales (mCons (mVar 3) mNil) "InvalidSale") (kMkC ml_law_bids (mCons (mVar 12) (mCons (mVar 4) mNil)) "InvalidBids")
  (kMk1 5 (mCall (mDef m_next_price 2) (mCons (mVar 0) (mCons (mNeg (mC (.int 1))) mNil)))
  (kMkA 5 (mCall (mDef m_next_price 2) (mCons (mVar 0) (mCons (mC (.int 201)) mNil)))
  (kMkA 5 (mCall (mDef m_climb 4) (mCons (mVar 0) (mCons (mC (.bool true)) (mCons (mNeg (mC (.int 1))) mNil))))
  (kMkA 5 (mCall (mDef m_climb 4) (mCons (mVar 0) (mCons (mC (.int 5)) (mCons (mC (.int 201)) mNil))))
  (kPl (mSet 6 [] (mL (mCons (mTup (mCons (mC (.str (PySem.Str.ofString "a"))) (mCons (mC (.int 5)) mNil))) (mCons (mTup (mCons (mC (.str (PySem.Str.ofString "b"))) (mCons (mC (.int 6)) mNil))) (mCons (mTup (mCons (mC (.str (PySem.Str.ofString "a"))) (mCons (mC (.int 7)) mNil))) mNil)))))
  (kMk1 7 (mCall (mDef m_possible_winners 6) (mCons (mVar 0) (mCons (mVar 2) mNil)))
  (kMkA 7 (mCall (mDef m_possible_prices 4) (mCons (mVar 0) (mCons (mVar 2) mNil)))
  (kMkA 7 (mCall (mDef m_does_order_matter 4) (mCons (mVar 0) (mCons (mVar 2) mNil)))
  (kMkA 7 (mCall (mDef m_dearest_order 4) (mCons (mVar 0) (mCons (mVar 2) mNil)))
  (kMkA 7 (mCall (mDef m_cheapest_order 4) (mCons (mVar 0) (mCons (mVar 2) mNil)))
  (kMk1 8 (mCall (mDef m_least_accepted 6) (mCons (mVar 0) (mCons (mVar 1) (mCons (mC (.str (PySem.Str.ofString "g"))) mNil))))
  (kMkA 8 (mCall (mDef m_least_leading 6) (mCons (mVar 0) (mCons (mVar 1) (mCons (mC .none) mNil))))
  (kMkA 8 (mCall (mDef m_least_leading 6) (mCons (mVar 0) (mCons (mVar 1) (mCons (mC (.str (PySem.Str.ofString "ab"))) mNil))))
  (kMk1 9 (mCall (mDef m_price_with 3) (mCons (mVar 0) (mCons (mVar 1) (mCons (mC .none) mNil))))
  (kMkA 9 (mCall (mDef m_price_with 3) (mCons (mVar 0) (mCons (mVar 1) (mCons (mTup (mCons (mC (.str (PySem.Str.ofString "a"))) (mCons (mC (.int 0)) mNil))) mNil))))
  (kMkA 9 (mCall (mDef m_price_with 3) (mCons (mVar 0) (mCons (mVar 1) (mCons (mL (mCons (mC (.str (PySem.Str.ofString "a"))) (mCons (mC (.int 1)) mNil))) mNil))))
  (kMk1 10 (mCall (mDef m_without_bid 3) (mCons (mVar 0) (mCons (mVar 1) (mCons (mCall dLen (mCons (mVar 1) mNil)) mNil))))
  (kMkA 10 (mCall (mDef m_without_bid 3) (mCons (mVar 0) (mCons (mVar 1) (mCons (mNeg (mC (.int 1))) mNil))))
  (kMkA 10 (mCall (mDef m_without_bid 3) (mCons (mVar 0) (mCons (mL (mCons (mTup (mCons (mC (.str (PySem.Str.ofString "a"))) (mCons (mC (.int 5)) mNil))) (mCons (mTup (mCons (mC (.str (PySem.Str.ofString "b"))) (mCons (mC (.int 9)) mNil))) mNil))) (mCons (mC (.bool true)) mNil))))
  (kIf (kLiv 5 [12, 1, 6] "InvalidPrice") (kLiv 7 [12, 1, 6] "Repeated")
  (kIf (kLiv 8 [12, 1, 6] "InvalidBidder") (kLiv 9 [12, 1, 6] "InvalidBid")
  (kPl (mSet 11 [] (mOp dAdd (mVar 1) (mOp dMul (mL (mCons (mTup (mCons (mC (.str (PySem.Str.ofString "a"))) (mCons (mC (.int 1)) mNil))) mNil)) (mOp dSub (mC (.int 8)) (mCall dLen (mCons (mVar 1) mNil))))))
  (kRet (kLiv 10 [12, 1, 6] "InvalidIndex") (mOp dEq (mCall (mDef m_price_with 3) (mCons (mVar 12) (mCons (mVar 11) (mCons (mTup (mCons (mC (.str (PySem.Str.ofString "b"))) (mCons (mC (.int 1)) mNil))) mNil)))) (mOp dIx (mCall (mDef m_result 2) (mCons (mVar 12) (mCons (mVar 11) mNil))) (mC (.int 1)))))))))))))))))))))))))))))))))
end PD
/-! The mathematics, first part: sales, bids, draws. -/
namespace PD
open PySem L2

/-! ### loops over mapped lists -/
theorem lcGo_map {α : Type} (enc : α → PyData) (p : α → Bool) (f : α → PyData) {b : Bd} {mt : Gam → R Bool} {me : M} {Γ : Gam} : ∀ (xs : List α),
    (∀ x ∈ xs, ∃ Γ1, b (enc x) Γ = some Γ1 ∧ mt Γ1 = .ok (p x) ∧ (p x = true → me Γ1 = .ok (f x))) → lcGo b mt me Γ (xs.map enc) = .ok ((xs.filter p).map f)
  | [], _ => rfl
  | x :: xs, h => by
    obtain ⟨Γ1, h1, h2, h3⟩ := h x (by simp)
    have ih := lcGo_map enc p f xs fun y hy => h y (by simp [hy])
    rw [List.map_cons]
    unfold lcGo
    rw [h1]
    dsimp only
    rw [h2]
    cases hp : p x with
    | true => dsimp only; rw [h3 hp, ih, List.filter_cons_of_pos hp]; rfl
    | false => dsimp only; rw [ih, List.filter_cons_of_neg (by simp [hp])]
theorem lcGo_all {α : Type} (enc : α → PyData) (f : α → PyData) {b : Bd} {mt : Gam → R Bool} {me : M} {Γ : Gam} (xs : List α)
    (h : ∀ x ∈ xs, ∃ Γ1, b (enc x) Γ = some Γ1 ∧ mt Γ1 = .ok true ∧ me Γ1 = .ok (f x)) : lcGo b mt me Γ (xs.map enc) = .ok (xs.map f) := by
  rw [lcGo_map enc (fun _ => true) f xs fun x hx => by
    obtain ⟨Γ1, h1, h2, h3⟩ := h x hx
    exact ⟨Γ1, h1, h2, fun _ => h3⟩]
  rw [List.filter_eq_self.mpr (by simp)]
/-- a for loop: the state is a function of a fold -/
theorem forGo_fold {α β : Type} (enc : α → PyData) (st : β → Gam → Prop) (f : β → α → β) {b : Bd} {body : MS} : ∀ (xs : List α) (y : β) (Γ : Gam), st y Γ →
    (∀ x ∈ xs, ∀ y Γ, st y Γ → ∃ Γ1 Γ2, b (enc x) Γ = some Γ1 ∧ (body Γ1 = .nx Γ2 ∨ body Γ1 = .ct Γ2) ∧ st (f y x) Γ2) → ∃ Γ', forGo b body (xs.map enc) Γ = .nx Γ' ∧ st (xs.foldl f y) Γ'
  | [], y, Γ, h, _ => ⟨Γ, rfl, h⟩
  | x :: xs, y, Γ, h, hs => by
    obtain ⟨Γ1, Γ2, h1, h2, h3⟩ := hs x (by simp) y Γ h
    obtain ⟨Γ', e, q⟩ := forGo_fold enc st f xs (f y x) Γ2 h3 fun z hz => hs z (by simp [hz])
    refine ⟨Γ', ?_, q⟩
    rw [List.map_cons]
    unfold forGo
    rw [h1]
    dsimp only
    rcases h2 with h2 | h2 <;> rw [h2] <;> exact e
/-- .. with an invariant alone -/
theorem forGo_inv {b : Bd} {body : MS} (st : Gam → Prop) (ds : List PyData) (Γ : Gam) (h : st Γ)
    (hs : ∀ d ∈ ds, ∀ Γ, st Γ → ∃ Γ1 Γ2, b d Γ = some Γ1 ∧ (body Γ1 = .nx Γ2 ∨ body Γ1 = .ct Γ2) ∧ st Γ2) : ∃ Γ', forGo b body ds Γ = .nx Γ' ∧ st Γ' := by
  have := forGo_fold (α := PyData) (β := Unit) id (fun _ => st) (fun _ _ => ()) (b := b) (body := body) ds () Γ h fun x hx _ Γ hΓ => hs x hx Γ hΓ
  simpa using this
/-- a while loop -/
theorem mWh_step {l : List Nat} {t : Gam → R Bool} {b : MS} {n : Nat} {Γ : Gam} (ht : t (fz l Γ) = .ok true) {Γ1 : Gam} (hb : b Γ = .nx Γ1) : mWh l t b (n + 1) Γ = mWh l t b n Γ1 := by
  show mEvB l t Γ _ = _
  rw [mEvB_eq, ht]
  dsimp only
  rw [if_pos rfl, hb]
theorem mWh_end {l : List Nat} {t : Gam → R Bool} {b : MS} {n : Nat} {Γ : Gam} (ht : t (fz l Γ) = .ok false) : mWh l t b (n + 1) Γ = .nx Γ := by
  show mEvB l t Γ _ = _
  rw [mEvB_eq, ht]
  dsimp only
  rw [if_neg Bool.false_ne_true]
/-! ### defs -/
theorem def_rt {m : MS} {n : Nat} {ds : List PyData} {d : PyData} (h : m (ds.map .v ++ List.replicate (n - ds.length) .no) = .rt d) : mDef m n ds = .ok d := by unfold mDef; rw [h]
theorem def_nx {m : MS} {n : Nat} {ds : List PyData} {Γ : Gam} (h : m (ds.map .v ++ List.replicate (n - ds.length) .no) = .nx Γ) : mDef m n ds = .ok .none := by unfold mDef; rw [h]
theorem def_ex {m : MS} {n : Nat} {ds : List PyData} {c : Str} (h : m (ds.map .v ++ List.replicate (n - ds.length) .no) = .ex c) : mDef m n ds = .ex c := by unfold mDef; rw [h]

/-! ### judging -/
def isInt (d : PyData) (lo hi : Int) : Bool := match d with
  | .int i => decide (lo ≤ i) && decide (i ≤ hi)
  | _ => false
theorem f_is_int (d : PyData) (lo hi : Int) : mDef m_is_int 3 [d, .int lo, .int hi] = .ok (.bool (isInt d lo hi)) := by
  apply def_rt
  cases d with
  | int i =>
    by_cases h : lo ≤ i <;> simp [m_is_int, isInt, h]
  | _ => simp [m_is_int, isInt, isiD]
abbrev Steps := List (Int × Int)
def eStep (p : Int × Int) : PyData := .tuple [.int p.1, .int p.2]
def eSteps (st : Steps) : PyData := .tuple (st.map eStep)
structure Sale where
  steps : Steps
  start : Int
  res : Int
def Sale.d (s : Sale) : PyData := .tuple [eSteps s.steps, .int s.start, .int s.res]
def asc : Steps → Bool
  | a :: b :: r => decide (a.1 < b.1) && decide (a.2 < b.2) && asc (b :: r)
  | _ => true
structure Sale.Ok (s : Sale) : Prop where
  len : s.steps.length ≤ 4
  zero : ∃ p r, s.steps = (0, p) :: r
  rng : ∀ q ∈ s.steps, (0 ≤ q.1 ∧ q.1 ≤ 200) ∧ 1 ≤ q.2 ∧ q.2 ≤ 50
  up : asc s.steps = true
  st : 1 ≤ s.start ∧ s.start ≤ 100
  rs : s.start ≤ s.res ∧ s.res ≤ 200
theorem f_is_step {q : Int × Int} (h : (0 ≤ q.1 ∧ q.1 ≤ 200) ∧ 1 ≤ q.2 ∧ q.2 ≤ 50) : mDef m_is_step 1 [eStep q] = .ok (.bool true) := by
  apply def_rt
  obtain ⟨⟨h1, h2⟩, h3, h4⟩ := h
  simp [m_is_step, eStep, f_is_int, isInt, h1, h2, h3, h4]
theorem zip_asc : ∀ st : Steps, zipL (st.map eStep) ((st.map eStep).drop 1) = (st.zip (st.drop 1)).map fun p => .tuple [eStep p.1, eStep p.2]
  | [] => rfl
  | [a] => rfl
  | a :: b :: r => by
    have ih := zip_asc (b :: r)
    simp only [List.map_cons, List.drop_succ_cons, List.drop_zero] at ih ⊢
    simp only [zipL, ih, List.zip_cons_cons, List.map_cons]
theorem asc_zip : ∀ st : Steps, asc st = (st.zip (st.drop 1)).all fun p => decide (p.1.1 < p.2.1) && decide (p.1.2 < p.2.2)
  | [] => rfl
  | [a] => rfl
  | a :: b :: r => by
    have ih := asc_zip (b :: r)
    simp only [asc, ih, List.drop_succ_cons, List.drop_zero, List.zip_cons_cons, List.all_cons]
theorem cutG_1 {α : Type} (xs : List α) : cutG xs (some 1) none = xs.drop 1 := by
  unfold cutG
  rw [show HT.sIx xs.length 0 (some 1) = min 1 xs.length from HT.sIx_nat xs.length 0 1, HT.sIx_none]
  cases xs with
  | nil => rfl
  | cons x r =>
    rw [show min 1 (x :: r).length = 1 by simp]
    rw [List.take_of_length_le (by simp)]
theorem f_are_steps {s : Sale} (h : s.Ok) : mDef m_are_steps 5 [eSteps s.steps] = .ok (.bool true) := by
  apply def_rt
  obtain ⟨p, r, e⟩ := h.zero
  have hl : 1 ≤ s.steps.length := by rw [e]; simp
  have hl2 := h.len
  have e1 : lcGo (bName 4) mT (mCall (mDef m_is_step 1) (mCons (mVar 4) mNil)) [.v (eSteps s.steps), .no, .no, .no, .no] (s.steps.map eStep) = .ok (s.steps.map fun _ => .bool true) :=
    lcGo_all eStep _ _ fun x hx => ⟨_, rfl, rfl, by simp [f_is_step (h.rng x hx)]⟩
  have e4 : lcGo (bTup [bName 2, bName 3]) mT (mAndV (mOp dLt (mOp dIx (mVar 2) (mC (.int 0))) (mOp dIx (mVar 3) (mC (.int 0)))) (mOp dLt (mOp dIx (mVar 2) (mC (.int 1))) (mOp dIx (mVar 3) (mC (.int 1))))) [.v (eSteps s.steps), .no, .no, .no, .no]
      ((s.steps.zip (s.steps.drop 1)).map fun p => .tuple [eStep p.1, eStep p.2]) = .ok ((s.steps.zip (s.steps.drop 1)).map fun p => .bool (decide (p.1.1 < p.2.1) && decide (p.1.2 < p.2.2))) :=
    lcGo_all (fun p : (Int × Int) × (Int × Int) => .tuple [eStep p.1, eStep p.2]) _ _ fun x hx => ⟨_, rfl, rfl, by
      by_cases hh : x.1.1 < x.2.1 <;> simp [eStep, hh]⟩
  have e6 := asc_zip s.steps
  rw [h.up] at e6
  have e7 : ((1 : Int) ≤ (s.steps.length : Int)) = True := by simp; omega
  have e8 : ((s.steps.length : Int) ≤ 4) = True := by simp; omega
  have e9 : atI (s.steps.map eStep) 0 = some (eStep (0, p)) := by rw [e]; simp
  have g1 : eSteps s.steps = .tuple (s.steps.map eStep) := rfl
  rw [g1] at e1 e4 ⊢
  have z1 := zip_asc s.steps
  simp [m_are_steps, e1, e7, e8, cutG_1] at z1 e4 ⊢
  simp [z1, e4, e9]
  simp [eStep]
  simpa using e6
theorem f_is_sale {s : Sale} (h : s.Ok) : mDef m_is_sale 4 [s.d] = .ok (.bool true) := by
  apply def_rt
  obtain ⟨h1, h2⟩ := h.st
  obtain ⟨h3, h4⟩ := h.rs
  have h5 : 1 ≤ s.res := by omega
  simp [m_is_sale, Sale.d, f_are_steps h, f_is_int, isInt, h1, h2, h3, h4]
theorem f_check_sale {s : Sale} (h : s.Ok) : mDef m_check_sale 1 [s.d] = .ok .none := by
  apply def_nx (Γ := [.v s.d])
  simp [m_check_sale, f_is_sale h]
theorem f_check_price {p : Int} (h0 : 0 ≤ p) (h1 : p ≤ 200) : mDef m_check_price 1 [.int p] = .ok .none := by
  apply def_nx (Γ := [.v (.int p)])
  simp [m_check_price, f_is_int, isInt, h0, h1]
/-! ### steps -/
/-- the step of the last tuple whose bound is at most p -/
def below (st : Steps) (p : Int) : Steps := st.filter fun q => decide (q.1 ≤ p)
def stepAt (st : Steps) (p : Int) : Int := (((below st p).map (·.2)).getLast?).getD 0
def Sale.up (s : Sale) (p : Int) : Int := p + stepAt s.steps p
theorem below_ne {s : Sale} (h : s.Ok) {p : Int} (h0 : 0 ≤ p) : ∃ q r, below s.steps p = q :: r := by
  obtain ⟨a, r, e⟩ := h.zero
  unfold below
  rw [e, List.filter_cons_of_pos (by simpa using h0)]
  exact ⟨_, _, rfl⟩
theorem atI_neg {α : Type} (xs : List α) (x : α) (h : xs.getLast? = some x) : atI xs (-1) = some x := by
  cases xs with
  | nil => simp at h
  | cons a r =>
    have e : (a :: r) = (a :: r).dropLast ++ [x] := by
      have h2 : (a :: r).getLast (List.cons_ne_nil a r) = x := by
        rw [List.getLast?_eq_getLast (List.cons_ne_nil a r)] at h
        exact Option.some.inj h
      rw [← h2, List.dropLast_concat_getLast]
    rw [e]
    exact atI_last _ _
theorem lc_below (st : Steps) (Γ : Gam) (i j : Nat) (hi : i < Γ.length) (hj : j < Γ.length) (hij : i ≠ j) (k : Nat) (hk : k ≠ i) (hk2 : k ≠ j) (p : Int) (hp : gat Γ k = .v (.int p)) :
    lcGo (bTup [bName i, bName j]) (mB (mOp dLe (mVar i) (mVar k))) (mVar j) Γ (st.map eStep) = .ok ((below st p).map fun q => .int q.2) := by
  apply lcGo_map eStep (fun q => decide (q.1 ≤ p)) (fun q => .int q.2) st
  intro x hx
  refine ⟨(Γ.set i (.v (.int x.1))).set j (.v (.int x.2)), by simp [eStep], ?_, fun _ => ?_⟩
  · simp [gat_set, hi, hj, hij, hk, hk2, hp]
  · simp [gat_set, hi, hj]
theorem f_step_up {s : Sale} (h : s.Ok) {p : Int} (h0 : 0 ≤ p) : mDef m_step_up 4 [s.d, .int p] = .ok (.int (s.up p)) := by
  apply def_rt
  obtain ⟨q, r, e⟩ := below_ne h h0
  have e1 := lc_below s.steps [.v s.d, .v (.int p), .no, .no] 2 3 (by simp) (by simp) (by simp) 1 (by simp) (by simp) p rfl
  have e2 : atI ((below s.steps p).map fun q => PyData.int q.2) (-1) = some (.int (stepAt s.steps p)) := by
    apply atI_neg
    unfold stepAt
    rw [e]
    simp [List.getLast?_map, List.getLast?_cons]
  simp only [Sale.d] at e1
  simp [m_step_up, Sale.d, eSteps, e1, e2, Sale.up]
  simp only [eSteps] at e1
  simp [e1, e2]
theorem f_next_price {s : Sale} (h : s.Ok) {p : Int} (h0 : 0 ≤ p) (h1 : p ≤ 200) : mDef m_next_price 2 [s.d, .int p] = .ok (.int (s.up p)) := by
  apply def_rt
  simp [m_next_price, f_check_sale h, f_check_price h0 h1, f_step_up h h0]
end PD

/-! The mathematics: the draws of the first laws, their sales. -/
namespace PD
open PySem L2

def outR : Out → R PyData
  | .rt d => .ok d
  | .ex c => .ex c
  | .nx _ => .ok .none
  | _ => .no
theorem mDef_eq (m : MS) (n : Nat) (ds : List PyData) : mDef m n ds = outR (m (ds.map .v ++ List.replicate (n - ds.length) .no)) := by
  unfold mDef
  cases m (ds.map .v ++ List.replicate (n - ds.length) .no) <;> rfl
@[simp] theorem outR_rt (d : PyData) : outR (.rt d) = .ok d := rfl
@[simp] theorem outR_ex (d : Str) : outR (.ex d) = .ex d := rfl
@[simp] theorem outR_nx (d : Gam) : outR (.nx d) = .ok .none := rfl

/-- the script -/
def S (ns : List Int) : PyData := .dict (ns.map fun n => (.int n, .none))
theorem lay_ints : ∀ ns : List Int, PyData.canLayAll0 (ns.map PyData.int) = true ∧ PyData.depthAll (ns.map PyData.int) = 0
  | [] => ⟨rfl, rfl⟩
  | n :: ns => by
    obtain ⟨h1, h2⟩ := lay_ints ns
    simp [PyData.canLayAll0, PyData.depthAll, PyData.canLay0, PyData.depth, h1, h2]
theorem shaped_ints (ns : List Int) : SeqAt.shaped (.list (ns.map PyData.int)) = true := by
  obtain ⟨h1, h2⟩ := lay_ints ns
  simp [SeqAt.shaped, PyData.canLay0, PyData.depth, h1, h2]
theorem unS_S (ns : List Int) : unS (S ns) = .list (ns.map PyData.int) := by cases ns <;> simp [unS, S, List.map_map, Function.comp_def]
@[simp] theorem eqD_S (ns : List Int) : eqD (S ns) (.list []) = .ok ns.isEmpty := by
  have e : sEq (S ns) (.list []) = none := rfl
  unfold eqD
  rw [e]
  dsimp only
  rw [unS_S, if_pos ⟨shaped_ints ns, by decide⟩]
  cases ns <;> rfl
theorem atI_map {α β : Type} (f : α → β) (xs : List α) (i : Int) : atI (xs.map f) i = (atI xs i).map f := by
  unfold atI
  rw [List.length_map]
  cases ixN xs.length i with
  | none => rfl
  | some j => simp
@[simp] theorem dIx_S (ns : List Int) (i : Int) : dIx (S ns) (.int i) = oR ((atI ns i).map PyData.int) := by
  have e : dIx (S ns) (.int i) = oR (atI (((ns.map fun n => (PyData.int n, PyData.none))).map (·.1)) i) := by cases ns <;> rfl
  rw [e, List.map_map, ← atI_map]
  rfl
@[simp] theorem dLen_S (ns : List Int) : dLen [S ns] = .ok (.int (ns.length : Nat)) := by simp [S]
theorem atI_mod {ns : List Int} (h : ns ≠ []) (k : Int) : ∃ c, atI ns (k % (ns.length : Nat)) = some c := by
  have hl : 0 < ns.length := List.length_pos_iff.mpr h
  have h1 : 0 ≤ k % (ns.length : Int) := Int.emod_nonneg _ (by omega)
  have h2 : k % (ns.length : Int) < ns.length := Int.emod_lt_of_pos _ (by omega)
  obtain ⟨j, hj⟩ : ∃ j : Nat, k % (ns.length : Int) = j := ⟨(k % (ns.length : Int)).toNat, by omega⟩
  rw [hj]
  refine ⟨ns[j]'(by omega), atI_nat ?_⟩
  simp
theorem pick_loop (a0 a1 a2 a3 a4 : Sl) : ∀ (n : Nat) (rest again : Int), 0 ≤ again → again < n → ∃ rest' again', mWh [] (mAnd (mB (mOp dGt (mVar 5) (mC (.int 0)))) (mB (mOp dGt (mVar 6) (mC (.int 0))))) (mPar [5, 6] [] [.v (mOp dDiv (mVar 5) (mC (.int 840))), .v (mOp dSub (mVar 6) (mC (.int 1)))]) n
    [a0, a1, a2, a3, a4, .v (.int rest), .v (.int again)] = .nx [a0, a1, a2, a3, a4, .v (.int rest'), .v (.int again')]
  | 0, rest, again, h0, h1 => absurd h1 (by simp; omega)
  | n + 1, rest, again, h0, h1 => by
    by_cases h : 0 < rest ∧ 0 < again
    · obtain ⟨r', g', e⟩ := pick_loop a0 a1 a2 a3 a4 n (rest / 840) (again - 1) (by omega) (by omega)
      refine ⟨r', g', ?_⟩
      rw [mWh_step (Γ1 := [a0, a1, a2, a3, a4, .v (.int (rest / 840)), .v (.int (again - 1))]) (by simp [h.1, h.2]) (by simp [dDiv_int])]
      exact e
    · refine ⟨rest, again, mWh_end ?_⟩
      by_cases h1 : 0 < rest
      · have h2 : ¬ 0 < again := fun z => h ⟨h1, z⟩
        simp [h1]; omega
      · simp [h1]
def pickF (ns : List Int) (k many : Int) : Int := match mDef m_law_pick 7 [S ns, .int k, .int many] with
  | .ok (.int r) => r
  | _ => 0
theorem pick_ex {ns : List Int} (hs : ns.length ≤ 63) {k many : Int} (h0 : 0 ≤ k) (h1 : k < 1000) (hm : 0 < many) : ∃ r, 0 ≤ r ∧ r < many ∧ mDef m_law_pick 7 [S ns, .int k, .int many] = .ok (.int r) := by
  obtain ⟨c, hc⟩ : ∃ c, (if ns.isEmpty = true then R.ok (PyData.int 0) else oR ((atI ns (k % (ns.length : Nat))).map PyData.int)) = .ok (.int c) := by
    by_cases hn : ns = []
    · subst hn; exact ⟨0, rfl⟩
    · obtain ⟨c, e⟩ := atI_mod hn k
      refine ⟨c, ?_⟩
      rw [if_neg (by simp [hn]), e]
      rfl
  have hl : ∀ Γ : Gam, (mCall dMax (mCons (mCall dLen (mCons (mC (S ns)) mNil)) (mCons (mC (.int 1)) mNil))) Γ = .ok (.int (if (1 : Int) > (ns.length : Nat) then 1 else ((ns.length : Nat) : Int))) := fun Γ => by simp
  generalize hj : (if (1 : Int) > (ns.length : Nat) then 1 else ((ns.length : Nat) : Int)) = j at hl
  have hj0 : 0 < j := by subst hj; split <;> omega
  have hj1 : j < 2 ^ 64 := by subst hj; split <;> omega
  obtain ⟨rest, again, e⟩ := pick_loop (.v (S ns)) (.v (.int k)) (.v (.int many)) (.v (.int c)) .no 1000 (c / 10 ^ 18) (k / j) (Int.ediv_nonneg h0 (by omega)) (by
    have := Int.ediv_le_self j h0
    show k / j < 1000
    omega)
  have hcell : (mIf (mB (mOp dNe (mVar 0) (mL mNil))) (mOp dIx (mVar 0) (mOp dMod (mVar 1) (mCall dLen (mCons (mVar 0) mNil)))) (mC (.int 0))) [.v (S ns), .v (.int k), .v (.int many), .no, .no, .no, .no] = .ok (.int c) := by
    by_cases hn : ns = []
    · subst hn
      simpa using hc
    · have hl2 : (0 : Int) < (ns.length : Nat) := by have := List.length_pos_iff.mpr hn; omega
      have hn2 : ns.isEmpty = false := by simp [hn]
      rw [hn2] at hc
      simp [hn2, dMod_int hl2]
      simpa using hc
  have hk : (mPar [5, 6] [] [.v (mOp dDiv (mVar 3) (mOp dPow (mC (.int 10)) (mC (.int 18)))), .v (mOp dDiv (mVar 1) (mCall dMax (mCons (mCall dLen (mCons (mVar 0) mNil)) (mCons (mC (.int 1)) mNil))))]) [.v (S ns), .v (.int k), .v (.int many), .v (.int c), .no, .no, .no] = .nx [.v (S ns), .v (.int k), .v (.int many), .v (.int c), .no, .v (.int (c / 10 ^ 18)), .v (.int (k / j))] := by
    have h1 : dPow (.int 10) (.int 18) = .ok (.int (10 ^ 18)) := rfl
    have h2 := hl []
    simp only [ap_Call, ap_Cons, ap_C, ap_Nil, R.bind] at h2
    have h3 : dDiv (.int c) (.int 1000000000000000000) = .ok (.int (c / 1000000000000000000)) := dDiv_int (by decide) (by decide)
    simp at h2
    simp [h1, h3, h2, dDiv_int hj0 hj1]
  have hst : ∀ m : MS, mDef (mSeq (mSet 3 [] (mIf (mB (mOp dNe (mVar 0) (mL mNil))) (mOp dIx (mVar 0) (mOp dMod (mVar 1) (mCall dLen (mCons (mVar 0) mNil)))) (mC (.int 0))))
      (mSeq (mPar [5, 6] [] [.v (mOp dDiv (mVar 3) (mOp dPow (mC (.int 10)) (mC (.int 18)))), .v (mOp dDiv (mVar 1) (mCall dMax (mCons (mCall dLen (mCons (mVar 0) mNil)) (mCons (mC (.int 1)) mNil))))])
      (mSeq (mWh [] (mAnd (mB (mOp dGt (mVar 5) (mC (.int 0)))) (mB (mOp dGt (mVar 6) (mC (.int 0))))) (mPar [5, 6] [] [.v (mOp dDiv (mVar 5) (mC (.int 840))), .v (mOp dSub (mVar 6) (mC (.int 1)))]) 1000) m))) 7 [S ns, .int k, .int many]
      = outR (m [.v (S ns), .v (.int k), .v (.int many), .v (.int c), .no, .v (.int rest), .v (.int again)]) := fun m => by
    have a1 : ∀ m' : MS, (mSeq (mSet 3 [] (mIf (mB (mOp dNe (mVar 0) (mL mNil))) (mOp dIx (mVar 0) (mOp dMod (mVar 1) (mCall dLen (mCons (mVar 0) mNil)))) (mC (.int 0)))) m') [.v (S ns), .v (.int k), .v (.int many), .no, .no, .no, .no] = m' [.v (S ns), .v (.int k), .v (.int many), .v (.int c), .no, .no, .no] := fun m' => by
      rw [ap_Seq, ap_Set, mEv_nil, hcell]
      rfl
    have a2 : ∀ m' : MS, (mSeq (mPar [5, 6] [] [.v (mOp dDiv (mVar 3) (mOp dPow (mC (.int 10)) (mC (.int 18)))), .v (mOp dDiv (mVar 1) (mCall dMax (mCons (mCall dLen (mCons (mVar 0) mNil)) (mCons (mC (.int 1)) mNil))))]) m') [.v (S ns), .v (.int k), .v (.int many), .v (.int c), .no, .no, .no] = m' [.v (S ns), .v (.int k), .v (.int many), .v (.int c), .no, .v (.int (c / 10 ^ 18)), .v (.int (k / j))] := fun m' => by
      rw [ap_Seq, hk]
    have a3 : ∀ m' : MS, (mSeq (mWh [] (mAnd (mB (mOp dGt (mVar 5) (mC (.int 0)))) (mB (mOp dGt (mVar 6) (mC (.int 0))))) (mPar [5, 6] [] [.v (mOp dDiv (mVar 5) (mC (.int 840))), .v (mOp dSub (mVar 6) (mC (.int 1)))]) 1000) m') [.v (S ns), .v (.int k), .v (.int many), .v (.int c), .no, .v (.int (c / 10 ^ 18)), .v (.int (k / j))] = m' [.v (S ns), .v (.int k), .v (.int many), .v (.int c), .no, .v (.int rest), .v (.int again)] := fun m' => by
      rw [ap_Seq, e]
    rw [mDef_eq]
    show outR ((mSeq _ _) [.v (S ns), .v (.int k), .v (.int many), .no, .no, .no, .no]) = _
    rw [a1, a2, a3]
  unfold m_law_pick
  rw [hst]
  by_cases hr : 0 < rest
  · refine ⟨rest % 840 % many, Int.emod_nonneg _ (by omega), Int.emod_lt_of_pos _ hm, ?_⟩
    simp [hr, dMod_int hm, dMod_int (show (0:Int) < 840 by decide)]
  · generalize hd : (c * 31 + 6151 * (k + 1)) * 40692 % 2147483399 = dr
    have hd0 : 0 ≤ dr := by subst hd; exact Int.emod_nonneg _ (by decide)
    have hd1 : dr < 2147483399 := by subst hd; exact Int.emod_lt_of_pos _ (by decide)
    refine ⟨(dr * dr + dr / 31) % 2147483629 % many, Int.emod_nonneg _ (by omega), Int.emod_lt_of_pos _ hm, ?_⟩
    have m1 : dMul (.int c) (.int 31) = .ok (.int (c * 31)) := dMul_r (by decide) (by decide)
    have m2 : dMul (.int 6151) (.int (k + 1)) = .ok (.int (6151 * (k + 1))) := dMul_l (by decide) (by decide)
    have m3 : dMul (.int (c * 31 + 6151 * (k + 1))) (.int 40692) = .ok (.int ((c * 31 + 6151 * (k + 1)) * 40692)) := dMul_r (by decide) (by decide)
    have m4 : dMul (.int dr) (.int dr) = .ok (.int (dr * dr)) := dMul_r (by omega) (by omega)
    simp [hr, m1, m2, m3, m4, hd, dMod_int hm, dMod_int (show (0:Int) < 2147483399 by decide), dMod_int (show (0:Int) < 2147483629 by decide), dDiv_int (show (0:Int) < 31 by decide) (by decide)]
theorem f_pick {ns : List Int} (hs : ns.length ≤ 63) {k many : Int} (h0 : 0 ≤ k) (h1 : k < 1000) (hm : 0 < many) : mDef m_law_pick 7 [S ns, .int k, .int many] = .ok (.int (pickF ns k many)) := by
  obtain ⟨r, _, _, e⟩ := pick_ex hs h0 h1 hm
  rw [e]
  unfold pickF
  rw [e]
theorem pick_b {ns : List Int} (hs : ns.length ≤ 63) {k many : Int} (h0 : 0 ≤ k) (h1 : k < 1000) (hm : 0 < many) : 0 ≤ pickF ns k many ∧ pickF ns k many < many := by
  obtain ⟨r, a, b, e⟩ := pick_ex hs h0 h1 hm
  unfold pickF
  rw [e]
  exact ⟨a, b⟩
end PD

/-! The mathematics: the sales of the first laws. -/
namespace PD
open PySem L2

structure Sale.Small (s : Sale) : Prop where
  ok : s.Ok
  len : s.steps.length ≤ 3
  rng : ∀ q ∈ s.steps, q.1 ≤ 24 ∧ q.2 ≤ 9
  st : s.start ≤ 8
  rs : s.res ≤ 28
theorem three {x : Int} (h0 : 0 ≤ x) (h1 : x < 3) : x = 0 ∨ x = 1 ∨ x = 2 := by omega
theorem five {x : Int} (h0 : 0 ≤ x) (h1 : x < 5) : x = 0 ∨ x = 1 ∨ x = 2 ∨ x = 3 ∨ x = 4 := by omega
theorem f_house {ns : List Int} (hs : ns.length ≤ 63) {a : Int} (h0 : 0 ≤ a) (h1 : a < 900) : ∃ s : Sale, s.Small ∧ mDef m_law_house 7 [S ns, .int a] = .ok s.d := by
  obtain ⟨b0, b1⟩ := pick_b hs (k := a) (many := 3) h0 (by omega) (by decide)
  obtain ⟨c0, c1⟩ := pick_b hs (k := a + 1 + 2 * 0) (many := 3) (by omega) (by omega) (by decide)
  obtain ⟨d0, d1⟩ := pick_b hs (k := a + 2 + 2 * 0) (many := 12) (by omega) (by omega) (by decide)
  obtain ⟨e0, e1⟩ := pick_b hs (k := a + 1 + 2 * 1) (many := 3) (by omega) (by omega) (by decide)
  obtain ⟨f0, f1⟩ := pick_b hs (k := a + 2 + 2 * 1) (many := 12) (by omega) (by omega) (by decide)
  obtain ⟨g0, g1⟩ := pick_b hs (k := a + 1 + 2 * 2) (many := 3) (by omega) (by omega) (by decide)
  obtain ⟨i0, i1⟩ := pick_b hs (k := a + 9) (many := 8) (by omega) (by omega) (by decide)
  obtain ⟨j0, j1⟩ := pick_b hs (k := a + 10) (many := 5) (by omega) (by omega) (by decide)
  have p1 := f_pick hs (k := a) (many := 3) h0 (by omega) (by decide)
  have p2 := f_pick hs (k := a + 1 + 2 * 0) (many := 3) (by omega) (by omega) (by decide)
  have p3 := f_pick hs (k := a + 2 + 2 * 0) (many := 12) (by omega) (by omega) (by decide)
  have p4 := f_pick hs (k := a + 1 + 2 * 1) (many := 3) (by omega) (by omega) (by decide)
  have p5 := f_pick hs (k := a + 2 + 2 * 1) (many := 12) (by omega) (by omega) (by decide)
  have p6 := f_pick hs (k := a + 1 + 2 * 2) (many := 3) (by omega) (by omega) (by decide)
  have p7 := f_pick hs (k := a + 2 + 2 * 2) (many := 12) (by omega) (by omega) (by decide)
  have p8 := f_pick hs (k := a + 9) (many := 8) (by omega) (by omega) (by decide)
  have p9 := f_pick hs (k := a + 10) (many := 5) (by omega) (by omega) (by decide)
  generalize pickF ns a 3 = q1 at *
  generalize pickF ns (a + 1 + 2 * 0) 3 = q2 at *
  generalize pickF ns (a + 2 + 2 * 0) 12 = q3 at *
  generalize pickF ns (a + 1 + 2 * 1) 3 = q4 at *
  generalize pickF ns (a + 2 + 2 * 1) 12 = q5 at *
  generalize pickF ns (a + 1 + 2 * 2) 3 = q6 at *
  generalize pickF ns (a + 2 + 2 * 2) 12 = q7 at *
  generalize pickF ns (a + 9) 8 = q8 at *
  generalize pickF ns (a + 10) 5 = q9 at *
  have hr : ∃ r : Int, 0 ≤ r ∧ r ≤ 20 ∧ (mOp dIx (mTup (mCons (mC (.int 0)) (mCons (mC (.int 0)) (mCons (mC (.int 3)) (mCons (mC (.int 9)) (mCons (mC (.int 20)) mNil)))))) (mC (.int q9))) [] = .ok (.int r) := by
    rcases five j0 j1 with h | h | h | h | h <;> subst h
    · exact ⟨0, by decide, by decide, rfl⟩
    · exact ⟨0, by decide, by decide, rfl⟩
    · exact ⟨3, by decide, by decide, rfl⟩
    · exact ⟨9, by decide, by decide, rfl⟩
    · exact ⟨20, by decide, by decide, rfl⟩
  obtain ⟨r, r0, r1, er⟩ := hr
  simp at er
  have m0 : dMul (.int 2) (.int 0) = .ok (.int (2 * 0)) := rfl
  have m1 : dMul (.int 2) (.int 1) = .ok (.int (2 * 1)) := rfl
  have m2 : dMul (.int 2) (.int 2) = .ok (.int (2 * 2)) := rfl
  simp at m0 m1 m2 p2 p3 p4 p5 p6 p7
  rcases three b0 b1 with h | h | h <;> subst h
  · refine ⟨⟨[(0, 0 + 1 + q2)], 1 + q8, 1 + q8 + r⟩, ⟨⟨by simp, ⟨_, _, rfl⟩, ?_, rfl, ?_, ?_⟩, by simp, ?_, ?_, ?_⟩, ?_⟩
    · simp; omega
    · simp; omega
    · simp; omega
    · simp; omega
    · simp; omega
    · simp; omega
    · apply def_rt
      have hg : rngD [.int 1] = .ok [.int 0] := rfl
      simp [m_law_house, p1, p2, p3, p4, p5, p6, p7, p8, p9, m0, m1, m2, hg, er, forGo, Sale.d, eSteps, eStep]
  · refine ⟨⟨[(0, 0 + 1 + q2), (0 + 1 + q3, 0 + 1 + q2 + 1 + q4)], 1 + q8, 1 + q8 + r⟩, ⟨⟨by simp, ⟨_, _, rfl⟩, ?_, ?_, ?_, ?_⟩, by simp, ?_, ?_, ?_⟩, ?_⟩
    · simp; omega
    · simp [asc]; omega
    · simp; omega
    · simp; omega
    · simp; omega
    · simp; omega
    · simp; omega
    · apply def_rt
      have hg : rngD [.int 2] = .ok [.int 0, .int 1] := rfl
      simp [m_law_house, p1, p2, p3, p4, p5, p6, p7, p8, p9, m0, m1, m2, hg, er, forGo, Sale.d, eSteps, eStep]
  · refine ⟨⟨[(0, 0 + 1 + q2), (0 + 1 + q3, 0 + 1 + q2 + 1 + q4), (0 + 1 + q3 + 1 + q5, 0 + 1 + q2 + 1 + q4 + 1 + q6)], 1 + q8, 1 + q8 + r⟩, ⟨⟨by simp, ⟨_, _, rfl⟩, ?_, ?_, ?_, ?_⟩, by simp, ?_, ?_, ?_⟩, ?_⟩
    · simp; omega
    · simp [asc]; omega
    · simp; omega
    · simp; omega
    · simp; omega
    · simp; omega
    · simp; omega
    · apply def_rt
      have hg : rngD [.int 3] = .ok [.int 0, .int 1, .int 2] := rfl
      simp [m_law_house, p1, p2, p3, p4, p5, p6, p7, p8, p9, m0, m1, m2, hg, er, forGo, Sale.d, eSteps, eStep]
end PD

/-! The mathematics: the climb; the first law. -/
namespace PD
open PySem L2

theorem eqD_datum {α : Type} [DecidableEq α] [PySem.W.Datum α] {x y : α} (hx : SeqAt.shaped (PySem.W.Datum.toD x) = true) (hy : SeqAt.shaped (PySem.W.Datum.toD y) = true)
    (ux : unS (PySem.W.Datum.toD x) = PySem.W.Datum.toD x) (uy : unS (PySem.W.Datum.toD y) = PySem.W.Datum.toD y) (us : sEq (PySem.W.Datum.toD x) (PySem.W.Datum.toD y) = none) :
    eqD (PySem.W.Datum.toD x) (PySem.W.Datum.toD y) = .ok (decide (x = y)) := by
  unfold eqD
  rw [us]
  dsimp only
  rw [ux, uy, if_pos ⟨hx, hy⟩, PySem.W.Datum.eqv]
@[simp] theorem eqD_ints (a b : List Int) : eqD (.list (a.map .int)) (.list (b.map .int)) = .ok (decide (a = b)) :=
  eqD_datum (α := List Int) (x := a) (y := b) (shaped_ints a) (shaped_ints b) rfl rfl rfl
/-! ### the step at a price -/
theorem asc_pw : ∀ st : Steps, asc st = true → st.Pairwise fun a b => a.1 < b.1 ∧ a.2 < b.2
  | [], _ => List.Pairwise.nil
  | [a], _ => List.pairwise_singleton _ _
  | a :: b :: r, h => by
    simp only [asc, Bool.and_eq_true, decide_eq_true_eq] at h
    have ih := asc_pw (b :: r) h.2
    refine List.pairwise_cons.mpr ⟨fun c hc => ?_, ih⟩
    rcases List.mem_cons.mp hc with e | hc
    · subst e; exact h.1
    · have := (List.pairwise_cons.mp ih).1 c hc
      omega
theorem stepAt_spec {s : Sale} (h : s.Ok) {p : Int} (h0 : 0 ≤ p) : (∃ q ∈ below s.steps p, q.2 = stepAt s.steps p) ∧ ∀ q ∈ below s.steps p, q.2 ≤ stepAt s.steps p := by
  obtain ⟨q, r, e⟩ := below_ne h h0
  have hp : (below s.steps p).Pairwise fun a b => a.1 < b.1 ∧ a.2 < b.2 := (asc_pw _ h.up).filter _
  have hb : ∃ i l, below s.steps p = i ++ [l] := ⟨(below s.steps p).dropLast, (below s.steps p).getLast (by rw [e]; simp), (List.dropLast_concat_getLast _).symm⟩
  obtain ⟨i, l, e2⟩ := hb
  have e3 : stepAt s.steps p = l.2 := by unfold stepAt; rw [e2]; simp
  rw [e3, e2]
  rw [e2] at hp
  refine ⟨⟨l, by simp, rfl⟩, fun q hq => ?_⟩
  rcases List.mem_append.mp hq with h1 | h1
  · exact Int.le_of_lt ((List.pairwise_append.mp hp).2.2 q h1 l (by simp)).2
  · rw [List.mem_singleton.mp h1]; exact Int.le_refl _
theorem stepAt_b {s : Sale} (h : s.Ok) {p : Int} (h0 : 0 ≤ p) : 1 ≤ stepAt s.steps p ∧ stepAt s.steps p ≤ 50 := by
  obtain ⟨⟨q, hq, e⟩, _⟩ := stepAt_spec h h0
  have := h.rng q (List.mem_filter.mp hq).1
  omega
theorem stepAt_mono {s : Sale} (h : s.Ok) {p r : Int} (h0 : 0 ≤ p) (hr : p ≤ r) : stepAt s.steps p ≤ stepAt s.steps r := by
  obtain ⟨⟨q, hq, e⟩, _⟩ := stepAt_spec h h0
  obtain ⟨_, h2⟩ := stepAt_spec h (Int.le_trans h0 hr)
  rw [← e]
  refine h2 q (List.mem_filter.mpr ⟨(List.mem_filter.mp hq).1, ?_⟩)
  have := (List.mem_filter.mp hq).2
  simp at *
  omega
theorem up_b {s : Sale} (h : s.Ok) {p : Int} (h0 : 0 ≤ p) : p + 1 ≤ s.up p ∧ s.up p ≤ p + 50 := by
  have := stepAt_b h h0
  unfold Sale.up
  omega
theorem up_mono {s : Sale} (h : s.Ok) {p r : Int} (h0 : 0 ≤ p) (hr : p < r) : s.up p < s.up r := by
  have := stepAt_mono h h0 (Int.le_of_lt hr)
  unfold Sale.up
  omega
theorem maxI_eq {r : List Int} {n m : Int} (h : m ∈ n :: r) (h2 : ∀ y ∈ n :: r, y ≤ m) : maxI n r = m := by
  obtain ⟨a, b, c⟩ := maxI_spec r n
  have h3 : maxI n r ≤ m := by
    rcases a with a | a
    · rw [a]; exact h2 n (by simp)
    · exact h2 _ (by simp [a])
  have h4 : m ≤ maxI n r := by
    rcases List.mem_cons.mp h with e | e
    · rw [e]; exact b
    · exact c m e
  omega
theorem f_law_up {s : Sale} (h : s.Ok) {p : Int} (h0 : 0 ≤ p) : mDef m_law_up 5 [s.d, .int p] = .ok (.int (s.up p)) := by
  apply def_rt
  have e1 := lc_below s.steps [.v s.d, .v (.int p), .no, .no, .no] 3 4 (by simp) (by simp) (by simp) 1 (by simp) (by simp) p rfl
  have e2 : dMax [.list ((below s.steps p).map fun q => PyData.int q.2)] = .ok (.int (stepAt s.steps p)) := by
    obtain ⟨⟨q, hq, e⟩, h2⟩ := stepAt_spec h h0
    show (match intsOf ((below s.steps p).map fun q => PyData.int q.2) with
      | some (n :: ns) => R.ok (PyData.int (maxI n ns))
      | _ => R.no) = _
    rw [intsOf_mapf]
    cases hb : below s.steps p with
    | nil => rw [hb] at hq; simp at hq
    | cons a r =>
      rw [hb] at hq h2
      rw [List.map_cons]
      dsimp only
      rw [maxI_eq (m := stepAt s.steps p)]
      · rw [← e]
        exact List.mem_map_of_mem (f := fun q : Int × Int => q.2) hq
      · intro y hy
        rw [← List.map_cons (f := fun q : Int × Int => q.2)] at hy
        obtain ⟨z, hz, e⟩ := List.mem_map.mp hy
        rw [← e]
        exact h2 z hz
  simp only [Sale.d, eSteps] at e1
  simp [m_law_up, Sale.d, eSteps, e1, e2, Sale.up]
/-! ### the climb -/
/-- the prices from one on, up to the most -/
def rise (s : Sale) (most : Int) : Nat → Int → List Int
  | 0, _ => []
  | n + 1, h => if h ≤ most then h :: rise s most n (s.up h) else []
theorem rise_succ (s : Sale) (most : Int) (n : Nat) (h : Int) : rise s most (n + 1) h = if h ≤ most then h :: rise s most n (s.up h) else [] := rfl
theorem climb_loop {s : Sale} (h : s.Ok) (a1 a2 : Sl) (most : Int) (hm : gat [.v s.d, a1, a2] 2 = .v (.int most)) : ∀ (n : Nat) (i : List Int) (l : Int), 0 ≤ l → most < s.up l + n → i.length + n ≤ 2000 →
    mWh [] (mB (mOp dLe (mCall (mDef m_step_up 4) (mCons (mVar 0) (mCons (mIxO 3 (mNeg (mC (.int 1)))) mNil))) (mVar 2))) (mApp 3 [] (mCall (mDef m_step_up 4) (mCons (mVar 0) (mCons (mIxO 3 (mNeg (mC (.int 1)))) mNil)))) (n + 1)
      [.v s.d, a1, a2, .own ((i ++ [l]).map .int)] = .nx [.v s.d, a1, a2, .own ((i ++ l :: rise s most (n + 1) (s.up l)).map .int)]
  | n, i, l, h0, hn, hl => by
    have e0 : a2 = .v (.int most) := hm
    subst e0
    have e1 : atI (i.map PyData.int ++ [.int l]) (-1) = some (.int l) := atI_last _ _
    have hu := up_b h h0
    by_cases hh : s.up l ≤ most
    · match n, hn with
      | 0, hn => omega
      | n + 1, hn =>
        have hu2 := up_b h (p := s.up l) (by omega)
        have ih := climb_loop h a1 (.v (.int most)) most rfl n (i ++ [l]) (s.up l) (by omega) (by omega) (by simp; omega)
        rw [mWh_step (Γ1 := [.v s.d, a1, .v (.int most), .own (((i ++ [l]) ++ [s.up l]).map .int)])]
        · rw [ih, rise_succ s most (n + 1) (s.up l), if_pos hh]
          simp
        · simp [e1, f_step_up h h0, hh]
        · have : i.length + 1 < 100000 := by omega
          simp [e1, f_step_up h h0, this]
    · rw [mWh_end]
      · unfold rise
        simp [hh]
      · simp [e1, f_step_up h h0]; omega
theorem f_climb {s : Sale} (h : s.Ok) {p most : Int} (h0 : 0 ≤ p) (h1 : p ≤ 200) (m0 : 0 ≤ most) (m1 : most ≤ 200) : mDef m_climb 4 [s.d, .int p, .int most] = .ok (.list ((p :: rise s most 1000 (s.up p)).map .int)) := by
  apply def_rt
  have hu := up_b h h0
  have e := climb_loop h (.v (.int p)) (.v (.int most)) most rfl 999 [] p h0 (by omega) (by simp)
  simp at e
  simp [m_climb, f_check_sale h, f_check_price h0 h1, f_check_price m0 m1, e]
theorem law_loop {s : Sale} (h : s.Ok) (a0 a1 a3 a4 : Sl) (most : Int) : ∀ (n : Nat) (i : List Int) (l : Int), 0 ≤ l → most < l + n → i.length + n ≤ 2000 → ∃ a7,
    mWh [] (mB (mOp dLe (mVar 7) (mVar 5))) (mSeq (mApp 6 [] (mVar 7)) (mSet 7 [] (mCall (mDef m_law_up 5) (mCons (mVar 2) (mCons (mVar 7) mNil))))) (n + 1)
      [a0, a1, .v s.d, a3, a4, .v (.int most), .own (i.map .int), .v (.int l)] = .nx [a0, a1, .v s.d, a3, a4, .v (.int most), .own ((i ++ rise s most (n + 1) l).map .int), a7]
  | n, i, l, h0, hn, hl => by
    have hu := up_b h h0
    by_cases hh : l ≤ most
    · match n, hn with
      | 0, hn => omega
      | n + 1, hn =>
        obtain ⟨a7, ih⟩ := law_loop h a0 a1 a3 a4 most n (i ++ [l]) (s.up l) (by omega) (by omega) (by simp; omega)
        refine ⟨a7, ?_⟩
        rw [mWh_step (Γ1 := [a0, a1, .v s.d, a3, a4, .v (.int most), .own ((i ++ [l]).map .int), .v (.int (s.up l))])]
        · rw [ih, rise_succ s most (n + 1) l, if_pos hh]
          simp
        · simp [hh]
        · have : i.length < 100000 := by omega
          simp [this, f_law_up h h0]
    · refine ⟨.v (.int l), ?_⟩
      rw [mWh_end]
      · unfold rise
        simp [hh]
      · simp; omega
/-! ### the last row of each sale -/
theorem after_row {s : Sale} (h : s.Ok) (Γ : Gam) (i j : Nat) (hi : i < Γ.length) (hj : i ≠ j) (hs : gat Γ j = .v s.d) :
    lcGo (bName i) mT (mCall (mDef m_next_price 2) (mCons (mVar j) (mCons (mVar i) mNil))) Γ (intsFrom 0 201) = .ok (((List.range 201).map fun k => s.up ((k : Nat) : Int)).map .int) := by
  have := lcGo_all (b := bName i) (mt := mT) (me := mCall (mDef m_next_price 2) (mCons (mVar j) (mCons (mVar i) mNil))) (Γ := Γ) (fun k : Nat => PyData.int (0 + (k : Int))) (fun k => .int (s.up ((k : Nat) : Int))) (List.range 201) fun x hx => ⟨Γ.set i (.v (.int (0 + (x : Int)))), rfl, rfl, by
    have hx2 := List.mem_range.mp hx
    simp [gat_set, hi, hj, hs, f_next_price h (p := (x : Int)) (by omega) (by omega), Ne.symm hj]⟩
  rw [List.map_map]
  exact this
theorem after_pw {s : Sale} (h : s.Ok) (n : Nat) : ((List.range n).map fun k => s.up ((k : Nat) : Int)).Pairwise (· < ·) := by
  rw [List.pairwise_map]
  exact List.pairwise_lt_range.imp fun {a b} hab => up_mono h (by omega) (by omega)
theorem sortI_of {ns : List Int} (h : ns.Pairwise (· < ·)) : sortI ns = ns := (sortI_eq (List.Perm.refl _) (h.imp Int.le_of_lt)).symm
theorem dSortedI_of {ns : List Int} (h : ns.Pairwise (· < ·)) : dSortedI [.list (ns.map .int)] = .ok (.list (ns.map .int)) := by
  show (oR (intsOf (ns.map .int))).bind _ = _
  rw [intsOf_map]
  simp [sortI_of h]
theorem dLenSet_of {ns : List Int} (h : ns.Pairwise (· < ·)) (hl : ns.length ≤ 4000) : dLenSet (.list (ns.map .int)) = .ok (.int (ns.length : Nat)) := by
  show (oR (intsOf (ns.map .int))).bind _ = _
  rw [intsOf_map]
  have hd : ns.Nodup := h.imp fun hab e => by omega
  simp [hd, hl]
end PD

/-! The mathematics: names, bids, states; a run bid by bid. -/
namespace PD
open PySem L2

/-! ### equality of mapped data -/
theorem eqD_eqv {d e : PyData} (h1 : SeqAt.shaped d = true) (h2 : SeqAt.shaped e = true) : eqD d e = .ok (PyData.eqv d e) := by
  unfold eqD
  cases q : sEq d e with
  | some b =>
    dsimp only
    cases d <;> cases e <;> simp only [sEq] at q <;> cases q <;> simp only [PyData.eqv] <;> congr 1 <;> exact (PySem.W.beq_decide _ _).symm
  | none =>
    dsimp only
    have u : ∀ x : PyData, SeqAt.shaped x = true → unS x = x := fun x hx => by
      cases x with
      | dict kvs => simp [SeqAt.shaped, PyData.canLay0] at hx
      | _ => rfl
    rw [u d h1, u e h2, if_pos ⟨h1, h2⟩]
structure Enc {α : Type} [DecidableEq α] (f : α → PyData) : Prop where
  eqv : ∀ x y, PyData.eqv (f x) (f y) = decide (x = y)
  lay : ∀ x, (f x).canLay0 = true
  dep : ∀ x, (f x).depth ≤ 20
section
variable {α : Type} [DecidableEq α] {f : α → PyData}
theorem Enc.all (E : Enc f) : ∀ l m : List α, PyData.eqvAll (l.map f) (m.map f) = decide (l = m)
  | [], [] => by simp [PyData.eqvAll]
  | [], _ :: _ => by simp [PyData.eqvAll]
  | _ :: _, [] => by simp [PyData.eqvAll]
  | x :: l, y :: m => by
    simp only [List.map_cons, PyData.eqvAll, E.eqv, E.all l m, List.cons.injEq, Bool.decide_and]
theorem Enc.layAll (E : Enc f) : ∀ l : List α, PyData.canLayAll0 (l.map f) = true ∧ PyData.depthAll (l.map f) ≤ 20
  | [] => by simp [PyData.canLayAll0, PyData.depthAll]
  | x :: l => by
    obtain ⟨h1, h2⟩ := E.layAll l
    have := E.dep x
    simp only [List.map_cons, PyData.canLayAll0, PyData.depthAll, E.lay x, h1, Bool.and_self, true_and]
    exact Nat.max_le.mpr ⟨this, h2⟩
theorem Enc.shaped (E : Enc f) (x : α) : SeqAt.shaped (f x) = true := by
  have := E.dep x
  simp only [SeqAt.shaped, E.lay x, Bool.true_and, decide_eq_true_eq]
  omega
theorem Enc.shapedL (E : Enc f) (l : List α) : SeqAt.shaped (.list (l.map f)) = true := by
  obtain ⟨h1, h2⟩ := E.layAll l
  simp only [SeqAt.shaped, PyData.canLay0, PyData.depth, h1, Bool.true_and, decide_eq_true_eq]
  exact decide_eq_true (Nat.le_trans (Nat.add_le_add_right h2 1) (by decide : 20 + 1 ≤ 64))
theorem Enc.eq (E : Enc f) (x y : α) : eqD (f x) (f y) = .ok (decide (x = y)) := by rw [eqD_eqv (E.shaped x) (E.shaped y), E.eqv]
theorem Enc.eqL (E : Enc f) (l m : List α) : eqD (.list (l.map f)) (.list (m.map f)) = .ok (decide (l = m)) := by
  rw [eqD_eqv (E.shapedL l) (E.shapedL m), PyData.eqv, E.all]
theorem Enc.inL (E : Enc f) (x : α) (l : List α) (h : ∀ z, f x ≠ .str z) : inD (f x) (.list (l.map f)) = .ok (decide (x ∈ l)) := by
  have e : inD (f x) (.list (l.map f)) = if SeqAt.shaped (f x) = true ∧ SeqAt.shaped (.list (l.map f)) = true then .ok ((l.map f).any fun z => PyData.eqv z (f x)) else .no := by
    cases q : f x <;> first | rfl | exact absurd q (h _)
  rw [e, if_pos ⟨E.shaped x, E.shapedL l⟩]
  congr 1
  rw [List.any_map, Bool.eq_iff_iff]
  simp only [List.any_eq_true, Function.comp_def, E.eqv, decide_eq_true_eq]
  exact ⟨fun ⟨y, h1, h2⟩ => h2 ▸ h1, fun h => ⟨x, h, rfl⟩⟩
theorem Enc.empty (E : Enc f) (l : List α) : eqD (.list (l.map f)) (.list []) = .ok (decide (l = [])) := E.eqL l []
end
theorem enc_int : Enc PyData.int := ⟨fun x y => by simp only [PyData.eqv]; exact PySem.W.beq_decide x y, fun _ => rfl, fun _ => by simp [PyData.depth]⟩
/-! ### names, bids, states -/
abbrev Nm := Fin 128
def nm (n : Nm) : Str := if n.val = 0 then ⟨#[]⟩ else ⟨#[n.val]⟩
theorem nm_inj (a b : Nm) : (nm a = nm b) = (a = b) := by
  refine propext ⟨fun h => ?_, fun h => by rw [h]⟩
  unfold nm at h
  by_cases h1 : a.val = 0 <;> by_cases h2 : b.val = 0 <;> simp [h1, h2] at h
  · exact Fin.ext (h1.trans h2.symm)
  · exact Fin.ext h
def eN (n : Nm) : PyData := .str (nm n)
abbrev Bid := Nm × Int
def eB (b : Bid) : PyData := .tuple [eN b.1, .int b.2]
abbrev St3 := Nm × Int × Int
def eSt (t : St3) : PyData := .tuple [eN t.1, .int t.2.1, .int t.2.2]
theorem enc_nm : Enc eN where
  eqv := fun x y => by
    unfold eN
    simp only [PyData.eqv]
    rw [PySem.W.beq_decide]
    exact decide_eq_decide.mpr (by rw [nm_inj])
  lay := by decide +kernel
  dep := fun x => by simp [eN, PyData.depth]
theorem enc_bid : Enc eB where
  eqv := fun x y => by
    simp only [eB, PyData.eqv, PyData.eqvAll, enc_nm.eqv, PySem.W.beq_decide, Bool.and_true, ← Bool.decide_and]
    exact decide_eq_decide.mpr ⟨fun e => Prod.ext e.1 e.2, fun e => by rw [e]; exact ⟨rfl, rfl⟩⟩
  lay := fun x => by simp only [eB, PyData.canLay0, PyData.canLayAll0, enc_nm.lay, enc_int.lay, Bool.and_self]
  dep := fun x => by simp [eB, PyData.depth, PyData.depthAll, eN]
theorem enc_st : Enc eSt where
  eqv := fun x y => by
    simp only [eSt, PyData.eqv, PyData.eqvAll, enc_nm.eqv, PySem.W.beq_decide, Bool.and_true, ← Bool.decide_and]
    exact decide_eq_decide.mpr ⟨fun e => Prod.ext e.1 (Prod.ext e.2.1 e.2.2), fun e => by rw [e]; exact ⟨rfl, rfl, rfl⟩⟩
  lay := fun x => by simp only [eSt, PyData.canLay0, PyData.canLayAll0, enc_nm.lay, enc_int.lay, Bool.and_self]
  dep := fun x => by simp [eSt, PyData.depth, PyData.depthAll, eN]
theorem str_empty : PySem.Str.ofString "" = nm 0 := by decide +kernel
@[simp] theorem eqD_nm (a b : Nm) : eqD (eN a) (eN b) = .ok (decide (a = b)) := enc_nm.eq a b
@[simp] theorem eqD_nm0 (a : Nm) : eqD (eN a) (.str (PySem.Str.ofString "")) = .ok (decide (a = 0)) := by
  rw [str_empty]; exact enc_nm.eq a 0
theorem c_empty : PyData.str (PySem.Str.ofString "") = eN 0 := by rw [str_empty]; rfl
theorem c_nobody : PyData.tuple [PyData.str (PySem.Str.ofString ""), .int 0, .int 0] = eSt (0, 0, 0) := by rw [c_empty]; rfl
theorem dMax_mx (i j : Int) : dMax [.int i, .int j] = .ok (.int (max i j)) := by
  rw [dMax_int]; congr 2; omega
theorem dMin_mn (i j : Int) : dMin [.int i, .int j] = .ok (.int (min i j)) := by
  rw [dMin_int]; congr 2; omega
/-! ### one bid -/
def rej (s : Sale) (t : St3) (b : Bid) : Bool :=
  if t.1 = 0 then decide (b.2 < s.start) else if b.1 = t.1 then decide (b.2 ≤ t.2.2) else decide (b.2 < s.up t.2.1)
def wr (s : Sale) (t : St3) : St3 := if s.res ≤ t.2.2 then (t.1, max t.2.1 s.res, t.2.2) else t
def adv (s : Sale) (t : St3) (b : Bid) : St3 :=
  if rej s t b then t else if t.1 = 0 then wr s (b.1, s.start, b.2) else if b.1 = t.1 then wr s (t.1, t.2.1, b.2)
  else if b.2 ≤ t.2.2 then wr s (t.1, min t.2.2 (s.up b.2), t.2.2) else wr s (b.1, min b.2 (s.up t.2.2), b.2)
def Lt (n : Nm) : Prop := 97 ≤ n.val ∧ n.val ≤ 102
instance (n : Nm) : Decidable (Lt n) := inferInstanceAs (Decidable (_ ∧ _))
theorem Lt.ne {n : Nm} (h : Lt n) : n ≠ 0 := fun e => by subst e; exact absurd h.1 (by decide)
structure OkB (b : Bid) : Prop where
  n : Lt b.1
  lo : 1 ≤ b.2
  hi : b.2 ≤ 200
def InvS (s : Sale) (t : St3) : Prop := t = (0, 0, 0) ∨ (Lt t.1 ∧ (s.start ≤ t.2.1 ∧ t.2.1 ≤ t.2.2) ∧ t.2.2 ≤ 200 ∧ (s.res ≤ t.2.2 → s.res ≤ t.2.1))
theorem f_with_reserve {s : Sale} (t : St3) : mDef m_with_reserve 5 [s.d, eSt t] = .ok (eSt (wr s t)) := by
  apply def_rt
  by_cases h : s.res ≤ t.2.2 <;> simp [m_with_reserve, Sale.d, eSt, wr, h, -dMax_int, dMax_mx]
theorem inv_price {s : Sale} (hs : s.Ok) {t : St3} (h : InvS s t) : 0 ≤ t.2.1 ∧ 0 ≤ t.2.2 := by
  have := hs.st
  rcases h with h | h
  · subst h; simp
  · omega
theorem f_is_refused {s : Sale} (hs : s.Ok) {t : St3} (h : InvS s t) (b : Bid) : mDef m_is_refused 6 [s.d, eSt t, eB b] = .ok (.bool (rej s t b)) := by
  apply def_rt
  have hp := inv_price hs h
  have hu := f_step_up hs hp.1
  simp only [Sale.d] at hu
  by_cases h1 : t.1 = 0
  · simp [m_is_refused, Sale.d, eSt, eB, rej, h1]
  · by_cases h2 : b.1 = t.1
    · simp [m_is_refused, Sale.d, eSt, eB, rej, h1, h2]
    · simp [m_is_refused, Sale.d, eSt, eB, rej, h1, h2, hu]
theorem f_advance {s : Sale} (hs : s.Ok) {t : St3} (h : InvS s t) {b : Bid} (hb : OkB b) : mDef m_advance 6 [s.d, eSt t, eB b] = .ok (eSt (adv s t b)) := by
  apply def_rt
  have hp := inv_price hs h
  have hl := hb.lo
  have hr := f_is_refused hs h b
  have hu := f_step_up hs hp.2
  have hu2 := f_step_up hs (p := b.2) (by omega)
  have w1 := f_with_reserve (s := s) (b.1, s.start, b.2)
  have w2 := f_with_reserve (s := s) (t.1, t.2.1, b.2)
  have w3 := f_with_reserve (s := s) (t.1, min t.2.2 (s.up b.2), t.2.2)
  have w4 := f_with_reserve (s := s) (b.1, min b.2 (s.up t.2.2), b.2)
  simp only [Sale.d] at hu hu2 w1 w2 w3 w4 hr
  unfold adv
  cases h0 : rej s t b with
  | true =>
    rw [h0] at hr
    simp [m_advance, Sale.d, hr]
  | false =>
    rw [h0] at hr
    simp only [eSt, eB] at hr w1 w2 w3 w4
    by_cases h1 : t.1 = 0
    · rw [h1] at hr
      simp [m_advance, Sale.d, eSt, eB, hr, h1, w1]
    · by_cases h2 : b.1 = t.1
      · rw [h2] at hr
        simp [m_advance, Sale.d, eSt, eB, hr, h1, h2, w2]
      · by_cases h3 : b.2 ≤ t.2.2 <;> simp [m_advance, Sale.d, eSt, eB, hr, h1, h2, h3, w3, w4, hu, hu2, -dMin_int, dMin_mn]
theorem wr_inv {s : Sale} (hs : s.Ok) {t : St3} (h1 : Lt t.1) (h2 : s.start ≤ t.2.1) (h3 : t.2.1 ≤ t.2.2) (h4 : t.2.2 ≤ 200) : InvS s (wr s t) := by
  unfold wr
  by_cases h : s.res ≤ t.2.2
  · rw [if_pos h]
    exact .inr ⟨h1, ⟨by simp; omega, by simp; omega⟩, h4, fun _ => by simp; omega⟩
  · rw [if_neg h]
    exact .inr ⟨h1, ⟨h2, h3⟩, h4, fun z => absurd z h⟩
theorem adv_inv {s : Sale} (hs : s.Ok) {t : St3} (h : InvS s t) {b : Bid} (hb : OkB b) : InvS s (adv s t b) := by
  have hp := inv_price hs h
  have h0 := hb.lo
  have h9 := hb.hi
  have hst := hs.st
  unfold adv
  cases hr : rej s t b with
  | true => rw [if_pos rfl]; exact h
  | false =>
    rw [if_neg Bool.false_ne_true]
    unfold rej at hr
    by_cases h1 : t.1 = 0
    · rw [if_pos h1]
      rw [if_pos h1] at hr
      simp at hr
      exact wr_inv hs hb.n (Int.le_refl _) hr h9
    · rw [if_neg h1]
      rw [if_neg h1] at hr
      have ht : Lt t.1 ∧ (s.start ≤ t.2.1 ∧ t.2.1 ≤ t.2.2) ∧ t.2.2 ≤ 200 ∧ (s.res ≤ t.2.2 → s.res ≤ t.2.1) := by
        rcases h with h | h
        · rw [h] at h1; exact absurd rfl h1
        · exact h
      by_cases h2 : b.1 = t.1
      · rw [if_pos h2]
        rw [if_pos h2] at hr
        simp at hr
        exact wr_inv hs ht.1 ht.2.1.1 (by simp; omega) h9
      · rw [if_neg h2]
        rw [if_neg h2] at hr
        simp at hr
        have hu := up_b hs (p := b.2) (by omega)
        have hu1 := up_b hs hp.1
        have hu2 := up_b hs hp.2
        by_cases h3 : b.2 ≤ t.2.2
        · rw [if_pos h3]
          exact wr_inv hs ht.1 (by simp; omega) (by simp; omega) ht.2.2.1
        · rw [if_neg h3]
          exact wr_inv hs hb.n (by simp; omega) (by simp; omega) h9
/-! ### bid by bid -/
def sts (s : Sale) (t : St3) : List Bid → List St3
  | [] => []
  | b :: r => adv s t b :: sts s (adv s t b) r
def fin (s : Sale) (t : St3) (bs : List Bid) : St3 := bs.foldl (adv s) t
def outs (s : Sale) (t : St3) (k : Int) : List Bid → List Int
  | [] => []
  | b :: r => (if rej s t b then [k] else []) ++ outs s (adv s t b) (k + 1) r
def eBs (bs : List Bid) : PyData := .list (bs.map eB)
theorem sts_len (s : Sale) : ∀ (bs : List Bid) (t : St3), (sts s t bs).length = bs.length
  | [], _ => rfl
  | b :: r, t => by simp [sts, sts_len s r]
theorem states_loop {s : Sale} (hs : s.Ok) (a1 : Sl) : ∀ (bs : List Bid) (t : St3) (l : List St3) (a2 : Sl), (∀ b ∈ bs, OkB b) → InvS s t → l.length + bs.length ≤ 1000 → ∃ a2',
    forGo (bName 2) (mSeq (mSet 4 [] (mCall (mDef m_advance 6) (mCons (mVar 0) (mCons (mVar 4) (mCons (mVar 2) mNil))))) (mApp 3 [] (mVar 4))) (bs.map eB) [.v s.d, a1, a2, .own (l.map eSt), .v (eSt t)]
      = .nx [.v s.d, a1, a2', .own ((l ++ sts s t bs).map eSt), .v (eSt (fin s t bs))]
  | [], t, l, a2, _, _, _ => ⟨a2, by simp [forGo, sts, fin]⟩
  | b :: r, t, l, a2, hb, hi, hl => by
    have hb0 := hb b (by simp)
    simp only [List.length_cons] at hl
    obtain ⟨a2', ih⟩ := states_loop hs a1 r (adv s t b) (l ++ [adv s t b]) (.v (eB b)) (fun c hc => hb c (by simp [hc])) (adv_inv hs hi hb0) (by simp; omega)
    refine ⟨a2', ?_⟩
    have hq : l.length < 100000 := by omega
    rw [List.map_cons]
    unfold forGo
    simp [f_advance hs hi hb0, hq]
    simp at ih
    rw [ih]
    simp [sts, fin]
theorem f_find_states {s : Sale} (hs : s.Ok) {bs : List Bid} (hb : ∀ b ∈ bs, OkB b) (hl : bs.length ≤ 500) : mDef m_find_states 5 [s.d, eBs bs] = .ok (.list ((sts s (0, 0, 0) bs).map eSt)) := by
  apply def_rt
  obtain ⟨a2, e⟩ := states_loop hs (.v (eBs bs)) bs (0, 0, 0) [] .no hb (.inl rfl) (by simp; omega)
  simp at e
  simp [m_find_states, c_nobody, eBs] at e ⊢
  simp [e]
theorem fin_last (s : Sale) : ∀ (bs : List Bid) (t : St3), (t :: sts s t bs).getLast? = some (fin s t bs)
  | [], t => rfl
  | b :: r, t => by
    have ih := fin_last s r (adv s t b)
    simp only [sts, fin, List.foldl_cons] at ih ⊢
    rw [List.getLast?_cons_cons]
    exact ih
theorem f_find_result {s : Sale} (hs : s.Ok) {bs : List Bid} (hb : ∀ b ∈ bs, OkB b) (hl : bs.length ≤ 500) : mDef m_find_result 2 [s.d, eBs bs] = .ok (eSt (fin s (0, 0, 0) bs)) := by
  apply def_rt
  have h1 : 1 + (sts s (0, 0, 0) bs).length ≤ 100000 := by rw [sts_len]; omega
  have h2 : atI (eSt (0, 0, 0) :: (sts s (0, 0, 0) bs).map eSt) (-1) = some (eSt (fin s (0, 0, 0) bs)) := by
    apply atI_neg
    rw [← List.map_cons, List.getLast?_map, fin_last]
    rfl
  have e : dAdd (.list [eSt (0, 0, 0)]) (.list ((sts s (0, 0, 0) bs).map eSt)) = .ok (.list (eSt (0, 0, 0) :: (sts s (0, 0, 0) bs).map eSt)) := by
    show (if _ then R.ok (PyData.list _) else .no) = _
    rw [if_pos (by simp; omega)]
    rfl
  simp [m_find_result, c_nobody, f_find_states hs hb hl, e, h2]
end PD

/-! The mathematics: the judged lists, the law's own run, the drawn offers. -/
namespace PD
open PySem L2

theorem intsFrom_succ (lo : Int) (n : Nat) : intsFrom lo (n + 1) = .int lo :: intsFrom (lo + 1) n := by
  unfold intsFrom
  rw [List.range_succ_eq_map]
  simp only [List.map_cons, List.map_map]
  congr 1
  · simp
  · refine List.map_congr_left fun i _ => ?_
    simp only [Function.comp_def, Nat.succ_eq_add_one]
    congr 1
    omega
theorem intsFrom_zero (lo : Int) : intsFrom lo 0 = [] := rfl
/-! ### judged bids -/
theorem f_is_bidder {n : Nm} (h : Lt n) : mDef m_is_bidder 1 [eN n] = .ok (.bool true) := by
  have : ∀ n : Nm, Lt n → mDef m_is_bidder 1 [eN n] = .ok (.bool true) := by
    intro n h
    obtain ⟨h1, h2⟩ := h
    have hn : nm n = ⟨#[n.val]⟩ := by unfold nm; rw [if_neg (by omega)]
    have hc : (PySem.Str.ofString "abcdef").cps.toList = [97, 98, 99, 100, 101, 102] := by decide +kernel
    apply def_rt
    have e1 : inD (.str (nm n)) (.str (PySem.Str.ofString "abcdef")) = .ok true := by
      rw [hn]
      show R.ok (decide (n.val ∈ (PySem.Str.ofString "abcdef").cps.toList)) = _
      rw [hc]
      congr 1
      simp only [List.mem_cons, List.not_mem_nil, or_false, decide_eq_true_eq]
      omega
    have e2 : dLen [.str (nm n)] = .ok (.int 1) := by rw [hn]; rfl
    simp [m_is_bidder, eN, e1, e2]
  exact this n h
theorem f_is_bid {b : Bid} (h : OkB b) : mDef m_is_bid 1 [eB b] = .ok (.bool true) := by
  apply def_rt
  have := f_is_bidder h.n
  simp [m_is_bid, eB, this, f_is_int, isInt, h.lo, h.hi]
theorem f_are_bids {bs : List Bid} (h : ∀ b ∈ bs, OkB b) (hl : bs.length ≤ 8) : mDef m_are_bids 2 [eBs bs] = .ok (.bool true) := by
  apply def_rt
  have e1 : lcGo (bName 1) mT (mCall (mDef m_is_bid 1) (mCons (mVar 1) mNil)) [.v (eBs bs), .no] (bs.map eB) = .ok (bs.map fun _ => .bool true) :=
    lcGo_all eB _ _ fun x hx => ⟨_, rfl, rfl, by simp [f_is_bid (h x hx)]⟩
  have e2 := dAll_mapf (fun _ : Bid => true) bs
  have e3 : ¬ (8 : Int) < (bs.length : Int) := by omega
  simp only [eBs] at e1
  simp only [List.map_const', List.all_eq_true, implies_true] at e1 e2
  simp [m_are_bids, eBs, e1, e2, e3]
theorem f_check_bids {s : Sale} (hs : s.Ok) {bs : List Bid} (h : ∀ b ∈ bs, OkB b) (hl : bs.length ≤ 8) : mDef m_check_bids 2 [s.d, eBs bs] = .ok .none := by
  apply def_nx (Γ := [.v s.d, .v (eBs bs)])
  simp [m_check_bids, f_check_sale hs, f_are_bids h hl]
theorem f_result {s : Sale} (hs : s.Ok) {bs : List Bid} (h : ∀ b ∈ bs, OkB b) (hl : bs.length ≤ 8) : mDef m_result 2 [s.d, eBs bs] = .ok (eSt (fin s (0, 0, 0) bs)) := by
  apply def_rt
  simp [m_result, f_check_bids hs h hl, f_find_result hs h (by omega)]
theorem f_states {s : Sale} (hs : s.Ok) {bs : List Bid} (h : ∀ b ∈ bs, OkB b) (hl : bs.length ≤ 8) : mDef m_states 2 [s.d, eBs bs] = .ok (.list ((sts s (0, 0, 0) bs).map eSt)) := by
  apply def_rt
  simp [m_states, f_check_bids hs h hl, f_find_states hs h (by omega)]
/-! ### the refused bids -/
theorem atI_mid {α : Type} (p : List α) (x : α) (r : List α) : atI (p ++ x :: r) ((p.length : Nat) : Int) = some x := by
  exact atI_nat (by simp)
theorem refused_lc {s : Sale} (hs : s.Ok) (a1 : Sl) (known : List St3) : ∀ (bs : List Bid) (p : List St3) (t : St3), (∀ b ∈ bs, OkB b) → InvS s t → known = p ++ t :: sts s t bs →
    lcGo (bTup [bName 3, bName 4]) (mB (mCall (mDef m_is_refused 6) (mCons (mVar 0) (mCons (mOp dIx (mVar 2) (mVar 3)) (mCons (mVar 4) mNil))))) (mVar 3) [.v s.d, a1, .v (.list (known.map eSt)), .no, .no] (enumFrom p.length (bs.map eB))
      = .ok ((outs s t (p.length : Nat) bs).map .int)
  | [], p, t, _, _, _ => rfl
  | b :: r, p, t, hb, hi, hk => by
    have hb0 := hb b (by simp)
    have ih := refused_lc hs a1 known r (p ++ [t]) (adv s t b) (fun c hc => hb c (by simp [hc])) (adv_inv hs hi hb0) (by rw [hk]; simp [sts])
    have hx : atI (known.map eSt) ((p.length : Nat) : Int) = some (eSt t) := by
      rw [hk, List.map_append, List.map_cons]
      have := atI_mid (p.map eSt) (eSt t) ((sts s t (b :: r)).map eSt)
      simpa using this
    rw [List.map_cons]
    unfold enumFrom lcGo
    have e0 : bTup [bName 3, bName 4] (.tuple [.int ((p.length : Nat) : Int), eB b]) [.v s.d, a1, .v (.list (known.map eSt)), .no, .no] = some [.v s.d, a1, .v (.list (known.map eSt)), .v (.int ((p.length : Nat) : Int)), .v (eB b)] := rfl
    rw [e0]
    simp only [List.length_append, List.length_cons, List.length_nil] at ih
    simp [hx, f_is_refused hs hi b]
    simp at ih
    cases hr : rej s t b with
    | true =>
      dsimp only
      rw [ih]
      simp [outs, hr]
    | false =>
      dsimp only
      rw [ih]
      simp [outs, hr]
theorem f_find_refused {s : Sale} (hs : s.Ok) {bs : List Bid} (hb : ∀ b ∈ bs, OkB b) (hl : bs.length ≤ 500) : mDef m_find_refused 5 [s.d, eBs bs] = .ok (.list ((outs s (0, 0, 0) 0 bs).map .int)) := by
  apply def_rt
  have e := refused_lc hs (.v (eBs bs)) ((0, 0, 0) :: sts s (0, 0, 0) bs) bs [] (0, 0, 0) hb (.inl rfl) rfl
  have e1 : dAdd (.list [eSt (0, 0, 0)]) (.list ((sts s (0, 0, 0) bs).map eSt)) = .ok (.list (eSt (0, 0, 0) :: (sts s (0, 0, 0) bs).map eSt)) := by
    have h1 : 1 + (sts s (0, 0, 0) bs).length ≤ 100000 := by rw [sts_len]; omega
    show (if _ then R.ok (PyData.list _) else .no) = _
    rw [if_pos (by simp; omega)]
    rfl
  simp at e
  have f := f_find_states hs hb hl
  simp only [eBs] at f e
  simp [m_find_refused, c_nobody, f, e1, eBs, e]
theorem f_refused {s : Sale} (hs : s.Ok) {bs : List Bid} (h : ∀ b ∈ bs, OkB b) (hl : bs.length ≤ 8) : mDef m_refused 2 [s.d, eBs bs] = .ok (.list ((outs s (0, 0, 0) 0 bs).map .int)) := by
  apply def_rt
  simp [m_refused, f_check_bids hs h hl, f_find_refused hs h (by omega)]
/-! ### the winner -/
def won (s : Sale) (t : St3) : Option Nm := if t.1 ≠ 0 ∧ s.res ≤ t.2.2 then some t.1 else none
def eO : Option Nm → PyData
  | some n => eN n
  | none => .none
theorem f_find_winner {s : Sale} (t : St3) : mDef m_find_winner 2 [s.d, eSt t] = .ok (eO (won s t)) := by
  apply def_rt
  by_cases h1 : t.1 = 0
  · simp [m_find_winner, Sale.d, eSt, h1, won, eO]
  · by_cases h2 : s.res ≤ t.2.2 <;> simp [m_find_winner, Sale.d, eSt, h1, h2, won, eO]
theorem f_winner {s : Sale} (hs : s.Ok) {bs : List Bid} (h : ∀ b ∈ bs, OkB b) (hl : bs.length ≤ 8) : mDef m_winner 2 [s.d, eBs bs] = .ok (eO (won s (fin s (0, 0, 0) bs))) := by
  apply def_rt
  simp [m_winner, f_check_bids hs h hl, f_find_result hs h (by omega), f_find_winner]
/-! ### leads -/
def ledF (last : Nm) (many : Int) : List St3 → List Int
  | [] => []
  | t :: r => (many + if t.1 ≠ last then 1 else 0) :: ledF t.1 (many + if t.1 ≠ last then 1 else 0) r
theorem leads_loop (a0 a1 : Sl) : ∀ (ts : List St3) (l : List Int) (last : Nm) (many : Int) (x5 x6 x7 : Sl), l.length + ts.length ≤ 1000 → ∃ y3 y4 y5 y6 y7,
    forGo (bTup [(bName 5), (bName 6), (bName 7)]) (mSeq (mSet 4 [] (mOp dAdd (mVar 4) (mIf (mB (mOp dNe (mVar 5) (mVar 3))) (mC (.int 1)) (mC (.int 0))))) (mSeq (mSet 3 [] (mVar 5)) (mApp 2 [] (mVar 4)))) (ts.map eSt) [a0, a1, .own (l.map .int), .v (eN last), .v (.int many), x5, x6, x7]
      = .nx [a0, a1, .own ((l ++ ledF last many ts).map .int), y3, y4, y5, y6, y7]
  | [], l, last, many, x5, x6, x7, _ => ⟨_, _, _, _, _, by simp only [List.map_nil, forGo, ledF, List.append_nil]; rfl⟩
  | t :: r, l, last, many, x5, x6, x7, hl => by
    simp only [List.length_cons] at hl
    obtain ⟨y3, y4, y5, y6, y7, ih⟩ := leads_loop a0 a1 r (l ++ [many + if t.1 ≠ last then 1 else 0]) t.1 (many + if t.1 ≠ last then 1 else 0) (.v (eN t.1)) (.v (.int t.2.1)) (.v (.int t.2.2)) (by simp; omega)
    refine ⟨y3, y4, y5, y6, y7, ?_⟩
    have hq : l.length < 100000 := by omega
    rw [List.map_cons]
    unfold forGo
    by_cases hh : t.1 = last
    · simp [hh] at ih
      simp [eSt, hq, hh, ih, ledF]
    · simp [hh] at ih
      simp [eSt, hq, hh, ih, ledF]
theorem f_leads {s : Sale} (hs : s.Ok) {bs : List Bid} (h : ∀ b ∈ bs, OkB b) (hl : bs.length ≤ 8) : mDef m_leads 8 [s.d, eBs bs] = .ok (.list ((ledF 0 0 (sts s (0, 0, 0) bs)).map .int)) := by
  apply def_rt
  obtain ⟨y3, y4, y5, y6, y7, e⟩ := leads_loop (.v s.d) (.v (eBs bs)) (sts s (0, 0, 0) bs) [] 0 0 .no .no .no (by rw [sts_len]; simp; omega)
  simp at e
  simp [m_leads, f_check_bids hs h hl, f_find_states hs h (by omega), c_empty, e]
end PD

/-! The mathematics: the law's own run, the drawn offers. -/
namespace PD
open PySem L2

def lawBody : MS := (mSeq (mAsg (bTup [(bName 12), (bName 13)]) [] (mOp dIx (mVar 1) (mVar 2)))
    (mSeq (mSet 11 [] (mIf (mB (mOp dEq (mVar 8) (mC (.str (PySem.Str.ofString ""))))) (mVar 4) (mCall (mDef m_law_up 5) (mCons (mVar 0) (mCons (mVar 9) mNil)))))
    (mSeq (mIfS [] (mB (mOp dEq (mVar 12) (mVar 8))) (mSet 11 [] (mOp dAdd (mVar 10) (mC (.int 1)))) mSkip)
    (mSeq (mIfS [] (mB (mOp dLt (mVar 13) (mVar 11))) (mApp 7 [] (mVar 2)) (mIfS [] (mB (mOp dEq (mVar 8) (mC (.str (PySem.Str.ofString ""))))) (mPar [8, 9, 10] [] [.v (mVar 12), .v (mVar 4), .v (mVar 13)]) (mIfS [] (mB (mOp dEq (mVar 12) (mVar 8))) (mSet 10 [] (mVar 13)) (mSeq (mPar [14, 15] [] [.v (mCall dMin (mCons (mVar 13) (mCons (mVar 10) mNil))), .v (mCall dMax (mCons (mVar 13) (mCons (mVar 10) mNil)))])
    (mSeq (mSet 9 [] (mCall dMin (mCons (mVar 15) (mCons (mCall (mDef m_law_up 5) (mCons (mVar 0) (mCons (mVar 14) mNil))) mNil))))
    (mPar [8, 10] [] [.v (mIf (mB (mOp dGt (mVar 13) (mVar 10))) (mVar 12) (mVar 8)), .v (mVar 15)]))))))
    (mSeq (mIfS [] (mAnd (mB (mOp dGe (mVar 13) (mVar 11))) (mAnd (mB (mOp dGe (mVar 10) (mVar 5))) (mB (mOp dLt (mVar 9) (mVar 5))))) (mSet 9 [] (mVar 5)) mSkip)
    (mApp 6 [] (mTup (mCons (mVar 8) (mCons (mVar 9) (mCons (mVar 10) mNil))))))))))
/-- the slots of the law's run -/
def runG (s : Sale) (a1 a2 : Sl) (rows : List St3) (out : List Int) (t : St3) (x11 x12 x13 x14 x15 : Sl) : Gam :=
  [.v s.d, a1, a2, .v (eSteps s.steps), .v (.int s.start), .v (.int s.res), .own (rows.map eSt), .own (out.map .int), .v (eN t.1), .v (.int t.2.1), .v (.int t.2.2), x11, x12, x13, x14, x15]
theorem run_step {s : Sale} (hs : s.Ok) {a1 : Sl} {bs : List Bid} (ha : a1 = .v (eBs bs)) {k : Nat} {b : Bid} (hk : bs[k]? = some b) {t : St3} (hi : InvS s t) (hb : OkB b) {rows : List St3} {out : List Int} (hr : rows.length < 1000) (ho : out.length < 1000) (x11 x12 x13 x14 x15 : Sl) :
    ∃ y11 y12 y13 y14 y15, lawBody (runG s a1 (.v (.int (k : Nat))) rows out t x11 x12 x13 x14 x15)
      = .nx (runG s a1 (.v (.int (k : Nat))) (rows ++ [adv s t b]) (out ++ if rej s t b then [(k : Int)] else []) (adv s t b) y11 y12 y13 y14 y15) := by
  subst ha
  have hx : atI (bs.map eB) ((k : Nat) : Int) = some (eB b) := atI_nat (by simp [hk])
  have hp := inv_price hs hi
  have hl := hb.lo
  have hst := hs.st
  have hu := f_law_up hs hp.1
  have hu2 := f_law_up hs hp.2
  have hu3 := f_law_up hs (p := b.2) (by omega)
  have q1 : rows.length < 100000 := by omega
  have q2 : out.length < 100000 := by omega
  have hs2 := hs.rs
  by_cases h1 : t.1 = 0
  · have hn := hb.n.ne
    have h0 : t = (0, 0, 0) := by
      rcases hi with h | h
      · exact h
      · exact absurd h1 h.1.ne
    subst h0
    have hn2 : ¬ (b.1 = 0) := hn
    by_cases h2 : b.2 < s.start
    · have hrj : rej s (0, 0, 0) b = true := by simp [rej, h2]
      have ha : adv s (0, 0, 0) b = (0, 0, 0) := by simp [adv, hrj]
      have h3 : ¬ s.start ≤ b.2 := by omega
      refine ⟨.v (.int s.start), .v (eN b.1), .v (.int b.2), x14, x15, ?_⟩
      simp [lawBody, runG, eBs, hx, eB, hn2, h2, h3, q1, q2, ha, hrj, eSt]
    · have hrj : rej s (0, 0, 0) b = false := by simp [rej]; omega
      have h3 : s.start ≤ b.2 := by omega
      by_cases h4 : s.res ≤ b.2
      · by_cases h5 : s.start < s.res
        · have ha : adv s (0, 0, 0) b = (b.1, s.res, b.2) := by simp [adv, hrj, wr, h4]; omega
          refine ⟨.v (.int s.start), .v (eN b.1), .v (.int b.2), x14, x15, ?_⟩
          simp [lawBody, runG, eBs, hx, eB, hn2, h2, h3, h4, h5, q1, q2, ha, hrj, eSt]
        · have ha : adv s (0, 0, 0) b = (b.1, s.start, b.2) := by simp [adv, hrj, wr, h4]; omega
          refine ⟨.v (.int s.start), .v (eN b.1), .v (.int b.2), x14, x15, ?_⟩
          simp [lawBody, runG, eBs, hx, eB, hn2, h2, h3, h4, h5, q1, q2, ha, hrj, eSt]
      · have ha : adv s (0, 0, 0) b = (b.1, s.start, b.2) := by simp [adv, hrj, wr, h4]
        refine ⟨.v (.int s.start), .v (eN b.1), .v (.int b.2), x14, x15, ?_⟩
        simp [lawBody, runG, eBs, hx, eB, hn2, h2, h3, h4, q1, q2, ha, hrj, eSt]
  · have ht : Lt t.1 ∧ (s.start ≤ t.2.1 ∧ t.2.1 ≤ t.2.2) ∧ t.2.2 ≤ 200 ∧ (s.res ≤ t.2.2 → s.res ≤ t.2.1) := by
      rcases hi with h | h
      · rw [h] at h1; exact absurd rfl h1
      · exact h
    by_cases h2 : b.1 = t.1
    · by_cases h3 : b.2 ≤ t.2.2
      · have hrj : rej s t b = true := by simp [rej, h1, h2, h3]
        have ha : adv s t b = t := by simp [adv, hrj]
        have h4 : b.2 < t.2.2 + 1 := by omega
        have h5 : ¬ t.2.2 + 1 ≤ b.2 := by omega
        refine ⟨.v (.int (t.2.2 + 1)), .v (eN b.1), .v (.int b.2), x14, x15, ?_⟩
        simp [lawBody, runG, eBs, hx, eB, h1, h2, h4, h5, q1, q2, ha, hrj, eSt, hu]
      · have hrj : rej s t b = false := by simp [rej, h1, h2]; omega
        have h4 : ¬ b.2 < t.2.2 + 1 := by omega
        have h5 : t.2.2 + 1 ≤ b.2 := by omega
        by_cases h6 : s.res ≤ b.2
        · by_cases h7 : t.2.1 < s.res
          · have ha : adv s t b = (t.1, s.res, b.2) := by simp [adv, hrj, wr, h1, h2, h6]; omega
            refine ⟨.v (.int (t.2.2 + 1)), .v (eN b.1), .v (.int b.2), x14, x15, ?_⟩
            simp [lawBody, runG, eBs, hx, eB, h1, h2, h4, h5, h6, h7, q1, q2, ha, hrj, eSt, hu]
          · have ha : adv s t b = (t.1, t.2.1, b.2) := by simp [adv, hrj, wr, h1, h2, h6]; omega
            refine ⟨.v (.int (t.2.2 + 1)), .v (eN b.1), .v (.int b.2), x14, x15, ?_⟩
            simp [lawBody, runG, eBs, hx, eB, h1, h2, h4, h5, h6, h7, q1, q2, ha, hrj, eSt, hu]
        · have ha : adv s t b = (t.1, t.2.1, b.2) := by simp [adv, hrj, wr, h1, h2, h6]
          refine ⟨.v (.int (t.2.2 + 1)), .v (eN b.1), .v (.int b.2), x14, x15, ?_⟩
          simp [lawBody, runG, eBs, hx, eB, h1, h2, h4, h5, h6, q1, q2, ha, hrj, eSt, hu]
    · by_cases h3 : b.2 < s.up t.2.1
      · have hrj : rej s t b = true := by simp [rej, h1, h2, h3]
        have ha : adv s t b = t := by simp [adv, hrj]
        have h5 : ¬ s.up t.2.1 ≤ b.2 := by omega
        refine ⟨.v (.int (s.up t.2.1)), .v (eN b.1), .v (.int b.2), x14, x15, ?_⟩
        simp [lawBody, runG, eBs, hx, eB, h1, h2, h3, h5, q1, q2, ha, hrj, eSt, hu]
      · have hrj : rej s t b = false := by simp [rej, h1, h2]; omega
        have h5 : s.up t.2.1 ≤ b.2 := by omega
        by_cases h4 : b.2 ≤ t.2.2
        · have e1 : min b.2 t.2.2 = b.2 := by omega
          have e2 : max b.2 t.2.2 = t.2.2 := by omega
          have h9 : ¬ t.2.2 < b.2 := by omega
          by_cases h6 : s.res ≤ t.2.2
          · by_cases h7 : min t.2.2 (s.up b.2) < s.res
            · have ha : adv s t b = (t.1, s.res, t.2.2) := by simp [adv, hrj, wr, h1, h2, h4, h6]; omega
              refine ⟨.v (.int (s.up t.2.1)), .v (eN b.1), .v (.int b.2), .v (.int b.2), .v (.int t.2.2), ?_⟩
              simp [lawBody, runG, eBs, hx, eB, h1, h2, h3, h5, h6, h7, h9, q1, q2, ha, hrj, eSt, hu, hu3, -dMin_int, -dMax_int, dMin_mn, dMax_mx, e1, e2]
            · have ha : adv s t b = (t.1, min t.2.2 (s.up b.2), t.2.2) := by simp [adv, hrj, wr, h1, h2, h4, h6]; omega
              refine ⟨.v (.int (s.up t.2.1)), .v (eN b.1), .v (.int b.2), .v (.int b.2), .v (.int t.2.2), ?_⟩
              simp [lawBody, runG, eBs, hx, eB, h1, h2, h3, h5, h6, h7, h9, q1, q2, ha, hrj, eSt, hu, hu3, -dMin_int, -dMax_int, dMin_mn, dMax_mx, e1, e2]
          · have ha : adv s t b = (t.1, min t.2.2 (s.up b.2), t.2.2) := by simp [adv, hrj, wr, h1, h2, h4, h6]
            refine ⟨.v (.int (s.up t.2.1)), .v (eN b.1), .v (.int b.2), .v (.int b.2), .v (.int t.2.2), ?_⟩
            simp [lawBody, runG, eBs, hx, eB, h1, h2, h3, h5, h6, h9, q1, q2, ha, hrj, eSt, hu, hu3, -dMin_int, -dMax_int, dMin_mn, dMax_mx, e1, e2]
        · have e1 : min b.2 t.2.2 = t.2.2 := by omega
          have e2 : max b.2 t.2.2 = b.2 := by omega
          have h9 : t.2.2 < b.2 := by omega
          by_cases h6 : s.res ≤ b.2
          · by_cases h7 : min b.2 (s.up t.2.2) < s.res
            · have ha : adv s t b = (b.1, s.res, b.2) := by simp [adv, hrj, wr, h1, h2, h4, h6]; omega
              refine ⟨.v (.int (s.up t.2.1)), .v (eN b.1), .v (.int b.2), .v (.int t.2.2), .v (.int b.2), ?_⟩
              simp [lawBody, runG, eBs, hx, eB, h1, h2, h3, h5, h6, h7, h9, q1, q2, ha, hrj, eSt, hu, hu2, -dMin_int, -dMax_int, dMin_mn, dMax_mx, e1, e2]
            · have ha : adv s t b = (b.1, min b.2 (s.up t.2.2), b.2) := by simp [adv, hrj, wr, h1, h2, h4, h6]; omega
              refine ⟨.v (.int (s.up t.2.1)), .v (eN b.1), .v (.int b.2), .v (.int t.2.2), .v (.int b.2), ?_⟩
              simp [lawBody, runG, eBs, hx, eB, h1, h2, h3, h5, h6, h7, h9, q1, q2, ha, hrj, eSt, hu, hu2, -dMin_int, -dMax_int, dMin_mn, dMax_mx, e1, e2]
          · have ha : adv s t b = (b.1, min b.2 (s.up t.2.2), b.2) := by simp [adv, hrj, wr, h1, h2, h4, h6]
            refine ⟨.v (.int (s.up t.2.1)), .v (eN b.1), .v (.int b.2), .v (.int t.2.2), .v (.int b.2), ?_⟩
            simp [lawBody, runG, eBs, hx, eB, h1, h2, h3, h5, h6, h9, q1, q2, ha, hrj, eSt, hu, hu2, -dMin_int, -dMax_int, dMin_mn, dMax_mx, e1, e2]
theorem run_loop {s : Sale} (hs : s.Ok) {a1 : Sl} {bs : List Bid} (ha : a1 = .v (eBs bs)) (hb : ∀ b ∈ bs, OkB b) (hl : bs.length ≤ 500) : ∀ (r : List Bid) (k : Nat) (p : List Bid) (t : St3) (rows : List St3) (out : List Int) (a2 x11 x12 x13 x14 x15 : Sl), bs = p ++ r → p.length = k → InvS s t → rows.length = k → out.length ≤ k → ∃ y2 y11 y12 y13 y14 y15,
    forGo (bName 2) lawBody (intsFrom (k : Nat) r.length) (runG s a1 a2 rows out t x11 x12 x13 x14 x15) = .nx (runG s a1 y2 (rows ++ sts s t r) (out ++ outs s t (k : Nat) r) (fin s t r) y11 y12 y13 y14 y15)
  | [], k, p, t, rows, out, a2, x11, x12, x13, x14, x15, hp, hk, hi, hr, ho => ⟨a2, x11, x12, x13, x14, x15, by simp [intsFrom_zero, forGo, sts, outs, fin]⟩
  | b :: r, k, p, t, rows, out, a2, x11, x12, x13, x14, x15, hp, hk, hi, hr, ho => by
    have hb0 : OkB b := hb b (by rw [hp]; simp)
    have hkb : bs[k]? = some b := by rw [hp, ← hk]; simp
    have hlk : k < 500 := by rw [hp] at hl; simp at hl; omega
    obtain ⟨z11, z12, z13, z14, z15, e⟩ := run_step hs ha hkb hi hb0 (rows := rows) (out := out) (by omega) (by omega) x11 x12 x13 x14 x15
    obtain ⟨y2, y11, y12, y13, y14, y15, ih⟩ := run_loop hs ha hb hl r (k + 1) (p ++ [b]) (adv s t b) (rows ++ [adv s t b]) (out ++ if rej s t b then [(k : Int)] else []) (.v (.int (k : Nat))) z11 z12 z13 z14 z15 (by rw [hp]; simp) (by simp [hk]) (adv_inv hs hi hb0) (by simp [hr])
      (by cases rej s t b <;> simp <;> omega)
    refine ⟨y2, y11, y12, y13, y14, y15, ?_⟩
    rw [List.length_cons, intsFrom_succ]
    unfold forGo
    have e0 : bName 2 (.int (k : Nat)) (runG s a1 a2 rows out t x11 x12 x13 x14 x15) = some (runG s a1 (.v (.int (k : Nat))) rows out t x11 x12 x13 x14 x15) := rfl
    rw [e0]
    dsimp only
    rw [e]
    dsimp only
    have e2 : ((k : Nat) : Int) + 1 = ((k + 1 : Nat) : Int) := by omega
    rw [e2, ih]
    simp [sts, outs, fin]
theorem f_law_run {s : Sale} (hs : s.Ok) {bs : List Bid} (hb : ∀ b ∈ bs, OkB b) (hl : bs.length ≤ 500) :
    mDef m_law_run 16 [s.d, eBs bs] = .ok (.tuple [.list ((sts s (0, 0, 0) bs).map eSt), .list ((outs s (0, 0, 0) 0 bs).map .int)]) := by
  apply def_rt
  obtain ⟨y2, y11, y12, y13, y14, y15, e⟩ := run_loop hs rfl hb hl bs 0 [] (0, 0, 0) [] [] .no .no .no .no .no .no rfl rfl (.inl rfl) rfl (by simp)
  have hr : rngD [.int (bs.length : Nat)] = .ok (intsFrom 0 bs.length) := by
    show (if _ then R.ok (intsFrom 0 (((bs.length : Nat) : Int)).toNat) else .no) = _
    rw [if_pos (by omega), Int.toNat_natCast]
  show m_law_run _ = _
  unfold m_law_run
  have hb2 : (mFor [] (mRng (mCons (mCall dLen (mCons (mVar 1) mNil)) mNil)) (bName 2) lawBody) (runG s (.v (eBs bs)) .no [] [] (0, 0, 0) .no .no .no .no .no) = .nx (runG s (.v (eBs bs)) y2 (sts s (0, 0, 0) bs) (outs s (0, 0, 0) 0 bs) (fin s (0, 0, 0) bs) y11 y12 y13 y14 y15) := by
    rw [ap_For, mEvL_eq, fz_nil]
    have e1 : (mRng (mCons (mCall dLen (mCons (mVar 1) mNil)) mNil)) (runG s (.v (eBs bs)) .no [] [] (0, 0, 0) .no .no .no .no .no) = .ok (intsFrom 0 bs.length) := by
      simp [runG, eBs, hr]
    rw [e1]
    dsimp only
    simpa using e
  have h3 : ∀ (m1 m2 m3 : MS) (Γ Γ1 Γ2 Γ3 : Gam) (d : PyData), m1 Γ = .nx Γ1 → m2 Γ1 = .nx Γ2 → (mFor [] (mRng (mCons (mCall dLen (mCons (mVar 1) mNil)) mNil)) (bName 2) lawBody) Γ2 = .nx Γ3 → m3 Γ3 = .rt d →
      (mSeq m1 (mSeq m2 (mSeq (mFor [] (mRng (mCons (mCall dLen (mCons (mVar 1) mNil)) mNil)) (bName 2) lawBody) m3))) Γ = .rt d := by
    intro m1 m2 m3 Γ Γ1 Γ2 Γ3 d h1 h2 h3 h4
    rw [ap_Seq, h1]
    dsimp only
    rw [ap_Seq, h2]
    dsimp only
    rw [ap_Seq, h3]
    exact h4
  refine h3 _ _ _ _ _ _ _ _ rfl ?_ hb2 ?_
  · simp [runG, c_empty]
  · simp [runG]
theorem f_law_last {s : Sale} (hs : s.Ok) {bs : List Bid} (hb : ∀ b ∈ bs, OkB b) (hl : bs.length ≤ 500) : mDef m_law_last 3 [s.d, eBs bs] = .ok (eSt (fin s (0, 0, 0) bs)) := by
  apply def_rt
  have h0 := enc_st.empty (sts s (0, 0, 0) bs)
  cases hbs : bs with
  | nil =>
    subst hbs
    have := f_law_run hs hb (by simp)
    simp [sts, outs] at this
    have h0 := enc_st.empty ([] : List St3)
    simp at h0
    simp [m_law_last, this, h0, fin, c_empty, eSt]
  | cons b r =>
    rw [← hbs]
    have hne : sts s (0, 0, 0) bs ≠ [] := by rw [hbs]; simp [sts]
    have h2 : atI ((sts s (0, 0, 0) bs).map eSt) (-1) = some (eSt (fin s (0, 0, 0) bs)) := by
      apply atI_neg
      have := fin_last s bs (0, 0, 0)
      rw [List.getLast?_map]
      rw [hbs] at this ⊢
      simp only [sts] at this ⊢
      rw [List.getLast?_cons_cons] at this
      rw [this]
      rfl
    simp [m_law_last, f_law_run hs hb hl, h0, hne, h2]
end PD

/-! The mathematics: the drawn offers. -/
namespace PD
open PySem L2

def nmAt (k : Nat) : Nm := if h : k < 6 then ⟨97 + k, by omega⟩ else 97
theorem nmAt_lt {k : Nat} (h : k < 6) : Lt (nmAt k) := by unfold nmAt; rw [dif_pos h]; exact ⟨by simp, by simp; omega⟩
theorem nmAt_val {k : Nat} (h : k < 6) : (nmAt k).val = 97 + k := by unfold nmAt; rw [dif_pos h]
theorem letter_at : ∀ {k : Int}, 0 ≤ k → k < 6 → dIx (.str (PySem.Str.ofString "abcdef")) (.int k) = .ok (eN (nmAt k.toNat)) := by
  intro k h0 h1
  have : k = 0 ∨ k = 1 ∨ k = 2 ∨ k = 3 ∨ k = 4 ∨ k = 5 := by omega
  rcases this with h | h | h | h | h | h <;> subst h <;> kernel_rfl
def offersBody : MS := (mSeq (mSet 6 [] (mOp dIx (mC (.str (PySem.Str.ofString "abcdef"))) (mIf (mB (mVar 3)) (mVar 5) (mCall (mDef m_law_pick 7) (mCons (mVar 0) (mCons (mOp dAdd (mOp dAdd (mVar 1) (mC (.int 1))) (mOp dMul (mC (.int 3)) (mVar 5))) (mCons (mC (.int 4)) mNil)))))))
    (mSeq (mSet 7 [] (mOp dAdd (mC (.int 1)) (mCall (mDef m_law_pick 7) (mCons (mVar 0) (mCons (mOp dAdd (mOp dAdd (mVar 1) (mC (.int 2))) (mOp dMul (mC (.int 3)) (mVar 5))) (mCons (mC (.int 30)) mNil))))))
    (mSeq (mIfS [] (mAnd (mB (mOp dGt (mVar 5) (mC (.int 0)))) (mB (mOp dEq (mCall (mDef m_law_pick 7) (mCons (mVar 0) (mCons (mOp dAdd (mOp dAdd (mVar 1) (mC (.int 3))) (mOp dMul (mC (.int 3)) (mVar 5))) (mCons (mC (.int 3)) mNil)))) (mC (.int 0))))) (mSet 7 [] (mCall dMax (mCons (mC (.int 1)) (mCons (mOp dSub (mOp dAdd (mOp dIx (mIxO 4 (mNeg (mC (.int 1)))) (mC (.int 1))) (mCall (mDef m_law_pick 7) (mCons (mVar 0) (mCons (mOp dAdd (mOp dAdd (mVar 1) (mC (.int 2))) (mOp dMul (mC (.int 3)) (mVar 5))) (mCons (mC (.int 5)) mNil))))) (mC (.int 2))) mNil)))) mSkip)
    (mApp 4 [] (mTup (mCons (mVar 6) (mCons (mVar 7) mNil)))))))
def offG (ns : List Int) (a : Int) (a2 : Sl) (single : Bool) (l : List Bid) (x5 x6 x7 : Sl) : Gam := [.v (S ns), .v (.int a), a2, .v (.bool single), .own (l.map eB), x5, x6, x7]
/-- what is known of a beginning of drawn offers -/
structure Drawn (single : Bool) (k : Nat) (l : List Bid) : Prop where
  len : l.length = k
  ok : ∀ b ∈ l, OkB b ∧ b.2 ≤ 30 + 2 * (k : Int)
  one : single = true → l.map (·.1) = (List.range k).map nmAt
  few : single = false → ∀ b ∈ l, b.1.val ≤ 100
theorem offers_step {ns : List Int} (hs : ns.length ≤ 63) {a : Int} (h0 : 0 ≤ a) (h1 : a ≤ 900) (a2 : Sl) {single : Bool} {k : Nat} (hk : k < 8) (hk6 : single = true → k < 6) {l : List Bid} (D : Drawn single k l) (x6 x7 : Sl) :
    ∃ b y6 y7, offersBody (offG ns a a2 single l (.v (.int (k : Nat))) x6 x7) = .nx (offG ns a a2 single (l ++ [b]) (.v (.int (k : Nat))) y6 y7) ∧ Drawn single (k + 1) (l ++ [b]) := by
  have mk : dMul (.int 3) (.int (k : Nat)) = .ok (.int (3 * (k : Int))) := dMul_l (by decide) (by decide)
  have p1 := f_pick hs (k := a + 1 + 3 * (k : Int)) (many := 4) (by omega) (by omega) (by decide)
  have p2 := f_pick hs (k := a + 2 + 3 * (k : Int)) (many := 30) (by omega) (by omega) (by decide)
  have p3 := f_pick hs (k := a + 3 + 3 * (k : Int)) (many := 3) (by omega) (by omega) (by decide)
  have p4 := f_pick hs (k := a + 2 + 3 * (k : Int)) (many := 5) (by omega) (by omega) (by decide)
  obtain ⟨b1, c1⟩ := pick_b hs (k := a + 1 + 3 * (k : Int)) (many := 4) (by omega) (by omega) (by decide)
  obtain ⟨b2, c2⟩ := pick_b hs (k := a + 2 + 3 * (k : Int)) (many := 30) (by omega) (by omega) (by decide)
  obtain ⟨b4, c4⟩ := pick_b hs (k := a + 2 + 3 * (k : Int)) (many := 5) (by omega) (by omega) (by decide)
  generalize pickF ns (a + 1 + 3 * (k : Int)) 4 = q1 at *
  generalize pickF ns (a + 2 + 3 * (k : Int)) 30 = q2 at *
  generalize pickF ns (a + 3 + 3 * (k : Int)) 3 = q3 at *
  generalize pickF ns (a + 2 + 3 * (k : Int)) 5 = q4 at *
  have hq : l.length < 100000 := by rw [D.len]; omega
  -- the bidder
  obtain ⟨n, hn, e1, hn1, hn2⟩ : ∃ n : Nm, Lt n ∧ (mOp dIx (mC (.str (PySem.Str.ofString "abcdef"))) (mIf (mB (mVar 3)) (mVar 5) (mCall (mDef m_law_pick 7) (mCons (mVar 0) (mCons (mOp dAdd (mOp dAdd (mVar 1) (mC (.int 1))) (mOp dMul (mC (.int 3)) (mVar 5))) (mCons (mC (.int 4)) mNil)))))) (offG ns a a2 single l (.v (.int (k : Nat))) x6 x7) = .ok (eN n)
      ∧ (single = true → n = nmAt k) ∧ (single = false → n.val ≤ 100) := by
    cases hsg : single with
    | true =>
      have h6 := hk6 hsg
      refine ⟨nmAt k, nmAt_lt h6, ?_, fun _ => rfl, fun h => absurd h (by decide)⟩
      have := letter_at (k := (k : Int)) (by omega) (by omega)
      simp at this
      simp [offG, this]
    | false =>
      refine ⟨nmAt q1.toNat, nmAt_lt (by omega), ?_, fun h => absurd h (by decide), fun _ => by rw [nmAt_val (by omega)]; omega⟩
      have := letter_at (k := q1) (by omega) (by omega)
      simp [offG, mk, p1, this]
  have st1 : ∀ m : MS, (mSeq (mSet 6 [] (mOp dIx (mC (.str (PySem.Str.ofString "abcdef"))) (mIf (mB (mVar 3)) (mVar 5) (mCall (mDef m_law_pick 7) (mCons (mVar 0) (mCons (mOp dAdd (mOp dAdd (mVar 1) (mC (.int 1))) (mOp dMul (mC (.int 3)) (mVar 5))) (mCons (mC (.int 4)) mNil))))))) m) (offG ns a a2 single l (.v (.int (k : Nat))) x6 x7)
      = m (offG ns a a2 single l (.v (.int (k : Nat))) (.v (eN n)) x7) := fun m => by
    rw [ap_Seq, ap_Set, mEv_nil, e1]
    rfl
  have hn3 : Drawn single (k + 1) (l ++ [(n, 1 + q2)]) := by
    refine ⟨by simp [D.len], fun b hb => ?_, fun h => ?_, fun h b hb => ?_⟩
    · rcases List.mem_append.mp hb with hb | hb
      · obtain ⟨z1, z2⟩ := D.ok b hb
        exact ⟨z1, by push_cast; omega⟩
      · rw [List.mem_singleton.mp hb]
        exact ⟨⟨hn, by simp; omega, by simp; omega⟩, by simp; omega⟩
    · rw [List.map_append, D.one h, List.range_succ, List.map_append, hn1 h]; rfl
    · rcases List.mem_append.mp hb with hb | hb
      · exact D.few h b hb
      · rw [List.mem_singleton.mp hb]; exact hn2 h
  unfold offersBody
  by_cases hk0 : k = 0
  · refine ⟨(n, 1 + q2), .v (eN n), .v (.int (1 + q2)), ?_, hn3⟩
    subst hk0
    rw [st1]
    simp at p2 mk
    simp [offG, p2, mk, hq, eB]
  · have hkp : 0 < k := Nat.pos_of_ne_zero hk0
    by_cases hq3 : q3 = 0
    · obtain ⟨i, z, e2⟩ : ∃ i z, l = i ++ [z] := ⟨l.dropLast, l.getLast (by intro e; rw [e] at D; have := D.len; simp at this; omega), (List.dropLast_concat_getLast _).symm⟩
      have hz : atI (l.map eB) (-1) = some (eB z) := by rw [e2, List.map_append]; exact atI_last _ _
      have hzb := D.ok z (by rw [e2]; simp)
      have hmx : dMax [.int 1, .int (z.2 + q4 - 2)] = .ok (.int (max 1 (z.2 + q4 - 2))) := dMax_mx _ _
      refine ⟨(n, max 1 (z.2 + q4 - 2)), .v (eN n), .v (.int (max 1 (z.2 + q4 - 2))), ?_, ?_⟩
      · rw [st1]
        simp [offG, mk, p2, p3, p4, hq3, hkp, hz, hq, eB, hmx, -dMax_int]
      · refine ⟨by simp [D.len], fun b hb => ?_, fun h => ?_, fun h b hb => ?_⟩
        · rcases List.mem_append.mp hb with hb | hb
          · obtain ⟨z1, z2⟩ := D.ok b hb
            exact ⟨z1, by push_cast; omega⟩
          · rw [List.mem_singleton.mp hb]
            exact ⟨⟨hn, by simp; omega, by simp; omega⟩, by simp; omega⟩
        · rw [List.map_append, D.one h, List.range_succ, List.map_append, hn1 h]; rfl
        · rcases List.mem_append.mp hb with hb | hb
          · exact D.few h b hb
          · rw [List.mem_singleton.mp hb]; exact hn2 h
    · refine ⟨(n, 1 + q2), .v (eN n), .v (.int (1 + q2)), ?_, hn3⟩
      rw [st1]
      simp [offG, mk, p2, p3, hq3, hkp, hq, eB]
theorem offers_loop {ns : List Int} (hs : ns.length ≤ 63) {a : Int} (h0 : 0 ≤ a) (h1 : a ≤ 900) (a2 : Sl) {single : Bool} : ∀ (n k : Nat) (l : List Bid) (x5 x6 x7 : Sl), k + n ≤ 8 → (single = true → k + n ≤ 6) → Drawn single k l →
    ∃ l' y5 y6 y7, forGo (bName 5) offersBody (intsFrom (k : Nat) n) (offG ns a a2 single l x5 x6 x7) = .nx (offG ns a a2 single l' y5 y6 y7) ∧ Drawn single (k + n) l'
  | 0, k, l, x5, x6, x7, _, _, D => ⟨l, x5, x6, x7, rfl, D⟩
  | n + 1, k, l, x5, x6, x7, hk, hk6, D => by
    obtain ⟨b, y6, y7, e, D2⟩ := offers_step hs h0 h1 a2 (k := k) (by omega) (fun h => by have := hk6 h; omega) D x6 x7
    obtain ⟨l', z5, z6, z7, e2, D3⟩ := offers_loop hs h0 h1 a2 n (k + 1) (l ++ [b]) (.v (.int (k : Nat))) y6 y7 (by omega) (fun h => by have := hk6 h; omega) D2
    refine ⟨l', z5, z6, z7, ?_, by rw [show k + (n + 1) = k + 1 + n by omega]; exact D3⟩
    rw [intsFrom_succ]
    unfold forGo
    have e0 : bName 5 (.int (k : Nat)) (offG ns a a2 single l x5 x6 x7) = some (offG ns a a2 single l (.v (.int (k : Nat))) x6 x7) := rfl
    rw [e0]
    dsimp only
    rw [e]
    dsimp only
    exact e2
/-- drawn offers -/
theorem f_offers {ns : List Int} (hs : ns.length ≤ 63) {a most : Int} (h0 : 0 ≤ a) (h1 : a ≤ 900) (m0 : 0 ≤ most) (m1 : most ≤ 8) {single : Bool} (m6 : single = true → most ≤ 6) : ∃ bs : List Bid, (bs.length : Int) ≤ most ∧ Drawn single bs.length bs ∧ mDef m_law_offers 8 [S ns, .int a, .int most, .bool single] = .ok (eBs bs) := by
  have p := f_pick hs (k := a) (many := most + 1) h0 (by omega) (by omega)
  obtain ⟨b, c⟩ := pick_b hs (k := a) (many := most + 1) h0 (by omega) (by omega)
  generalize pickF ns a (most + 1) = q at *
  obtain ⟨n, rfl⟩ : ∃ n : Nat, q = n := ⟨q.toNat, by omega⟩
  obtain ⟨l, y5, y6, y7, e, D⟩ := offers_loop hs h0 h1 (.v (.int most)) (single := single) n 0 [] .no .no .no (by omega) (fun h => by have := m6 h; omega) ⟨rfl, by simp, fun _ => rfl, by simp⟩
  refine ⟨l, by rw [D.len]; omega, by rw [D.len]; exact D, def_rt ?_⟩
  have hr : rngD [.int (n : Nat)] = .ok (intsFrom 0 n) := by
    show (if _ then R.ok (intsFrom 0 (((n : Nat) : Int)).toNat) else .no) = _
    rw [if_pos (by omega), Int.toNat_natCast]
  show m_law_offers _ = _
  unfold m_law_offers
  have hb2 : (mFor [] (mRng (mCons (mCall (mDef m_law_pick 7) (mCons (mVar 0) (mCons (mVar 1) (mCons (mOp dAdd (mVar 2) (mC (.int 1))) mNil)))) mNil)) (bName 5) offersBody) (offG ns a (.v (.int most)) single [] .no .no .no) = .nx (offG ns a (.v (.int most)) single l y5 y6 y7) := by
    rw [ap_For, mEvL_eq, fz_nil]
    have e1 : (mRng (mCons (mCall (mDef m_law_pick 7) (mCons (mVar 0) (mCons (mVar 1) (mCons (mOp dAdd (mVar 2) (mC (.int 1))) mNil)))) mNil)) (offG ns a (.v (.int most)) single [] .no .no .no) = .ok (intsFrom 0 n) := by
      simp [offG, p, hr]
    rw [e1]
    dsimp only
    simpa using e
  rw [ap_Seq]
  show (mSeq (mFor [] (mRng (mCons (mCall (mDef m_law_pick 7) (mCons (mVar 0) (mCons (mVar 1) (mCons (mOp dAdd (mVar 2) (mC (.int 1))) mNil)))) mNil)) (bName 5) offersBody) _) (offG ns a (.v (.int most)) single [] .no .no .no) = _
  rw [ap_Seq, hb2]
  simp [offG, eBs]
end PD

/-! The mathematics of running: prices rise, refused bids can go, the leader. -/
namespace PD
open PySem L2

theorem wr_price (s : Sale) (t : St3) : t.2.1 ≤ (wr s t).2.1 ∧ (wr s t).1 = t.1 ∧ (wr s t).2.2 = t.2.2 := by
  unfold wr
  by_cases h : s.res ≤ t.2.2
  · rw [if_pos h]; exact ⟨by simp; omega, rfl, rfl⟩
  · rw [if_neg h]; exact ⟨Int.le_refl _, rfl, rfl⟩
/-- what an advance does: nothing, or leader and greatest amount anew -/
theorem adv_cases {s : Sale} (hs : s.Ok) {t : St3} (h : InvS s t) {b : Bid} (hb : OkB b) :
    (rej s t b = true ∧ adv s t b = t) ∨ (rej s t b = false ∧ t.2.1 ≤ (adv s t b).2.1 ∧
      ((t.1 = 0 ∧ (adv s t b).1 = b.1 ∧ (adv s t b).2.2 = b.2) ∨ (t.1 ≠ 0 ∧ t.2.2 < b.2 ∧ (adv s t b).1 = b.1 ∧ (adv s t b).2.2 = b.2) ∨ (t.1 ≠ 0 ∧ b.1 ≠ t.1 ∧ b.2 ≤ t.2.2 ∧ (adv s t b).1 = t.1 ∧ (adv s t b).2.2 = t.2.2))) := by
  have hp := inv_price hs h
  have h0 := hb.lo
  have hst := hs.st
  cases hr : rej s t b with
  | true => exact .inl ⟨rfl, by simp [adv, hr]⟩
  | false =>
    refine .inr ⟨rfl, ?_⟩
    have hr2 := hr
    unfold rej at hr2
    by_cases h1 : t.1 = 0
    · have h9 : t = (0, 0, 0) := by
        rcases h with h | h
        · exact h
        · exact absurd h1 h.1.ne
      have e : adv s t b = wr s (b.1, s.start, b.2) := by simp [adv, hr, h1]
      obtain ⟨w1, w2, w3⟩ := wr_price s (b.1, s.start, b.2)
      rw [e]
      refine ⟨?_, .inl ⟨h1, w2, w3⟩⟩
      have : t.2.1 = 0 := by rw [h9]
      simp at w1
      omega
    · rw [if_neg h1] at hr2
      have ht : Lt t.1 ∧ (s.start ≤ t.2.1 ∧ t.2.1 ≤ t.2.2) ∧ t.2.2 ≤ 200 ∧ (s.res ≤ t.2.2 → s.res ≤ t.2.1) := by
        rcases h with h | h
        · rw [h] at h1; exact absurd rfl h1
        · exact h
      by_cases h2 : b.1 = t.1
      · rw [if_pos h2] at hr2
        simp at hr2
        have e : adv s t b = wr s (t.1, t.2.1, b.2) := by simp [adv, hr, h1, h2]
        obtain ⟨w1, w2, w3⟩ := wr_price s (t.1, t.2.1, b.2)
        rw [e]
        exact ⟨w1, .inr (.inl ⟨h1, hr2, w2.trans h2.symm, w3⟩)⟩
      · rw [if_neg h2] at hr2
        simp at hr2
        have hu := up_b hs (p := b.2) (by omega)
        have hu1 := up_b hs hp.1
        have hu2 := up_b hs hp.2
        by_cases h3 : b.2 ≤ t.2.2
        · have e : adv s t b = wr s (t.1, min t.2.2 (s.up b.2), t.2.2) := by simp [adv, hr, h1, h2, h3]
          obtain ⟨w1, w2, w3⟩ := wr_price s (t.1, min t.2.2 (s.up b.2), t.2.2)
          rw [e]
          refine ⟨?_, .inr (.inr ⟨h1, h2, h3, w2, w3⟩)⟩
          simp at w1
          omega
        · have e : adv s t b = wr s (b.1, min b.2 (s.up t.2.2), b.2) := by simp [adv, hr, h1, h2, h3]
          obtain ⟨w1, w2, w3⟩ := wr_price s (b.1, min b.2 (s.up t.2.2), b.2)
          rw [e]
          refine ⟨?_, .inr (.inl ⟨h1, by omega, w2, w3⟩)⟩
          simp at w1
          omega
theorem adv_mono {s : Sale} (hs : s.Ok) {t : St3} (h : InvS s t) {b : Bid} (hb : OkB b) : t.2.1 ≤ (adv s t b).2.1 := by
  rcases adv_cases hs h hb with ⟨_, e⟩ | ⟨_, e, _⟩
  · rw [e]; exact Int.le_refl _
  · exact e
theorem fin_inv {s : Sale} (hs : s.Ok) : ∀ (bs : List Bid) (t : St3), (∀ b ∈ bs, OkB b) → InvS s t → InvS s (fin s t bs)
  | [], t, _, h => h
  | b :: r, t, hb, h => fin_inv hs r (adv s t b) (fun c hc => hb c (by simp [hc])) (adv_inv hs h (hb b (by simp)))
theorem fin_mono {s : Sale} (hs : s.Ok) : ∀ (bs : List Bid) (t : St3), (∀ b ∈ bs, OkB b) → InvS s t → t.2.1 ≤ (fin s t bs).2.1
  | [], t, _, h => Int.le_refl _
  | b :: r, t, hb, h => Int.le_trans (adv_mono hs h (hb b (by simp))) (fin_mono hs r (adv s t b) (fun c hc => hb c (by simp [hc])) (adv_inv hs h (hb b (by simp))))
theorem fin_app (s : Sale) (t : St3) (bs cs : List Bid) : fin s t (bs ++ cs) = fin s (fin s t bs) cs := List.foldl_append
theorem sts_inv {s : Sale} (hs : s.Ok) : ∀ (bs : List Bid) (t : St3), (∀ b ∈ bs, OkB b) → InvS s t → ∀ x ∈ sts s t bs, InvS s x
  | [], t, _, _, x, hx => absurd hx (by simp [sts])
  | b :: r, t, hb, h, x, hx => by
    have hi := adv_inv hs h (hb b (by simp))
    rcases List.mem_cons.mp hx with e | hx
    · rw [e]; exact hi
    · exact sts_inv hs r _ (fun c hc => hb c (by simp [hc])) hi x hx
theorem sts_rise {s : Sale} (hs : s.Ok) : ∀ (bs : List Bid) (t : St3), (∀ b ∈ bs, OkB b) → InvS s t → ((t :: sts s t bs).map (·.2.1)).Pairwise (· ≤ ·)
  | [], t, _, _ => by simp [sts]
  | b :: r, t, hb, h => by
    have hb0 := hb b (by simp)
    have hi := adv_inv hs h hb0
    have ih := sts_rise hs r (adv s t b) (fun c hc => hb c (by simp [hc])) hi
    have hm := adv_mono hs h hb0
    simp only [sts, List.map_cons] at ih ⊢
    refine List.pairwise_cons.mpr ⟨fun y hy => ?_, ih⟩
    rcases List.mem_cons.mp hy with e | hy
    · rw [e]; exact hm
    · exact Int.le_trans hm ((List.pairwise_cons.mp ih).1 y hy)
theorem inv_top {s : Sale} {t : St3} (h : InvS s t) : t.2.1 ≤ t.2.2 := by
  rcases h with h | h
  · rw [h]; decide
  · omega
/-! ### the bids that are not refused -/
def keep (s : Sale) (t : St3) : List Bid → List Bid
  | [] => []
  | b :: r => if rej s t b then keep s t r else b :: keep s (adv s t b) r
theorem adv_rej {s : Sale} {t : St3} {b : Bid} (h : rej s t b = true) : adv s t b = t := by simp [adv, h]
theorem keep_sub (s : Sale) : ∀ (bs : List Bid) (t : St3), (keep s t bs).Sublist bs
  | [], t => by simp [keep]
  | b :: r, t => by
    unfold keep
    cases rej s t b with
    | true => simpa using (keep_sub s r t).cons b
    | false => simpa using (keep_sub s r (adv s t b))
theorem keep_fin (s : Sale) : ∀ (bs : List Bid) (t : St3), fin s t (keep s t bs) = fin s t bs
  | [], t => rfl
  | b :: r, t => by
    unfold keep
    cases h : rej s t b with
    | true =>
      rw [if_pos rfl, keep_fin s r t]
      show _ = fin s (adv s t b) r
      rw [adv_rej h]
    | false => exact keep_fin s r (adv s t b)
theorem keep_outs (s : Sale) : ∀ (bs : List Bid) (t : St3) (k : Int), outs s t k (keep s t bs) = []
  | [], t, k => rfl
  | b :: r, t, k => by
    unfold keep
    cases h : rej s t b with
    | true => exact keep_outs s r t k
    | false =>
      show (if rej s t b then [k] else []) ++ outs s (adv s t b) (k + 1) (keep s (adv s t b) r) = []
      rw [h, keep_outs s r]
      rfl
theorem outs_ge (s : Sale) : ∀ (bs : List Bid) (t : St3) (k x : Int), x ∈ outs s t k bs → k ≤ x
  | [], t, k, x, h => absurd h (by simp [outs])
  | b :: r, t, k, x, h => by
    rcases List.mem_append.mp h with h | h
    · have : x = k := by
        cases hr : rej s t b <;> rw [hr] at h <;> simp at h
        exact h
      omega
    · have := outs_ge s r _ _ _ h
      omega
/-! the leader: the first greatest of the kept ones -/
def Led (h : List Bid) (t : St3) : Prop := (h = [] ∧ t = (0, 0, 0)) ∨ (t.1 ≠ 0 ∧ (∀ b ∈ h, b.2 ≤ t.2.2) ∧ ((h.filter fun b => decide (b.2 = t.2.2)).map (·.1)).head? = some t.1)
theorem filter_none {h : List Bid} {m x : Int} (hl : ∀ b ∈ h, b.2 ≤ m) (hm : m < x) : (h.filter fun b => decide (b.2 = x)) = [] :=
  List.filter_eq_nil_iff.mpr fun b hb => by have := hl b hb; simp; omega
theorem led_go {s : Sale} (hs : s.Ok) : ∀ (bs h : List Bid) (t : St3), (∀ b ∈ bs, OkB b) → InvS s t → Led h t → Led (h ++ keep s t bs) (fin s t bs)
  | [], h, t, _, _, L => by simpa [keep, fin] using L
  | b :: r, h, t, hb, hi, L => by
    have hb0 := hb b (by simp)
    have hi2 := adv_inv hs hi hb0
    show Led (h ++ if rej s t b then keep s t r else b :: keep s (adv s t b) r) (fin s (adv s t b) r)
    rcases adv_cases hs hi hb0 with ⟨e1, e2⟩ | ⟨e1, _, e2⟩
    · rw [e1, e2]
      exact led_go hs r h t (fun c hc => hb c (by simp [hc])) hi L
    · rw [e1]
      have hx := led_go hs r (h ++ [b]) (adv s t b) (fun c hc => hb c (by simp [hc])) hi2 ?_
      · simpa using hx
      · rcases e2 with ⟨z, a1, a2⟩ | ⟨z, a0, a1, a2⟩ | ⟨z, z2, a0, a1, a2⟩
        · have hh : h = [] := by
            rcases L with ⟨l, _⟩ | ⟨l, _⟩
            · exact l
            · exact absurd z l
          subst hh
          refine .inr ⟨by rw [a1]; exact hb0.n.ne, fun c hc => ?_, ?_⟩
          · simp at hc
            rw [hc, a2]
            exact Int.le_refl _
          · simp [a1, a2]
        · have hl : ∀ c ∈ h, c.2 ≤ t.2.2 := by
            rcases L with ⟨l, _⟩ | ⟨_, l, _⟩
            · rw [l]; simp
            · exact l
          refine .inr ⟨by rw [a1]; exact hb0.n.ne, fun c hc => ?_, ?_⟩
          · rw [a2]
            rcases List.mem_append.mp hc with hc | hc
            · have := hl c hc; omega
            · rw [List.mem_singleton.mp hc]; exact Int.le_refl _
          · rw [a1, a2, List.filter_append, filter_none hl a0]
            simp
        · rcases L with ⟨_, l⟩ | ⟨l0, l, l2⟩
          · rw [l] at z; exact absurd rfl z
          · refine .inr ⟨by rw [a1]; exact z, fun c hc => ?_, ?_⟩
            · rw [a2]
              rcases List.mem_append.mp hc with hc | hc
              · exact l c hc
              · rw [List.mem_singleton.mp hc]; exact a0
            · rw [a1, a2, List.filter_append, List.map_append, List.head?_append, l2]
              rfl
theorem led_all {s : Sale} (hs : s.Ok) {bs : List Bid} (hb : ∀ b ∈ bs, OkB b) : Led (keep s (0, 0, 0) bs) (fin s (0, 0, 0) bs) := by
  simpa using led_go hs bs [] (0, 0, 0) hb (.inl rfl) (.inl ⟨rfl, rfl⟩)
/-! sorted -/
theorem sortI_le {ns : List Int} (h : ns.Pairwise (· ≤ ·)) : sortI ns = ns := (sortI_eq (List.Perm.refl _) h).symm
theorem dSortedI_le {ns : List Int} (h : ns.Pairwise (· ≤ ·)) : dSortedI [.list (ns.map .int)] = .ok (.list (ns.map .int)) := by
  show (oR (intsOf (ns.map .int))).bind _ = _
  rw [intsOf_map]
  simp [sortI_le h]
theorem dMax_ints {ns : List Int} {m : Int} (h : m ∈ ns) (h2 : ∀ y ∈ ns, y ≤ m) : dMax [.list (ns.map .int)] = .ok (.int m) := by
  show (match intsOf (ns.map .int) with
      | some (n :: ns) => R.ok (PyData.int (maxI n ns))
      | _ => R.no) = _
  rw [intsOf_map]
  cases ns with
  | nil => simp at h
  | cons a r => simp [maxI_eq h h2]
end PD

/-! The mathematics: how a law is walked. -/
namespace PD
open PySem L2

theorem for_inv (st : Gam → Prop) {ms : Gam → R (List PyData)} {b : Bd} {body m : MS} {Γ : Gam} {ds : List PyData} {X : R PyData} (hd : ms Γ = .ok ds) (h : st Γ)
    (hs : ∀ d ∈ ds, ∀ Γ, st Γ → ∃ Γ1 Γ2, b d Γ = some Γ1 ∧ (body Γ1 = .nx Γ2 ∨ body Γ1 = .ct Γ2) ∧ st Γ2) (k : ∀ Γ', st Γ' → outR (m Γ') = X) : outR (mSeq (mFor [] ms b body) m Γ) = X := by
  obtain ⟨Γ', e, q⟩ := forGo_inv st ds Γ h hs
  rw [ap_Seq, ap_For, mEvL_eq, fz_nil, hd]
  dsimp only
  rw [e]
  exact k Γ' q
theorem seq_nx {s m : MS} {Γ Γ1 : Gam} {X : R PyData} (h : s Γ = .nx Γ1) (k : outR (m Γ1) = X) : outR (mSeq s m Γ) = X := by
  rw [ap_Seq, h]
  exact k
theorem seq_to {s m : MS} {Γ Γ1 : Gam} {o : Out} (h : s Γ = .nx Γ1) (k : m Γ1 = o) : mSeq s m Γ = o := by
  rw [ap_Seq, h]
  exact k
theorem enc_o : Enc eO where
  eqv := fun x y => by
    cases x with
    | none =>
      cases y with
      | none => simp [eO, PyData.eqv]
      | some b => simp [eO, eN, PyData.eqv]
    | some a =>
      cases y with
      | none => simp [eO, eN, PyData.eqv]
      | some b =>
        simp only [eO, enc_nm.eqv]
        exact decide_eq_decide.mpr (by rw [Option.some.injEq])
  lay := fun x => by cases x with | none => rfl | some a => exact enc_nm.lay a
  dep := fun x => by cases x with | none => simp [eO, PyData.depth] | some a => exact enc_nm.dep a
@[simp] theorem eqD_nil : eqD (.list []) (.list []) = .ok true := by simpa using enc_int.empty []
end PD

namespace PD
open PySem PySem.Spec PyProof.Rows L2
theorem isp (a : Addr) (b : Bool) (r : Gam) : mIsP 0 a b (.ad a :: r) = .ok (.bool b) := by simp [mIsP]
theorem eq_err : ∀ c ∈ (["InvalidSale", "InvalidPrice", "InvalidBids", "Repeated", "InvalidBidder", "InvalidBid", "InvalidIndex"] : List Str), dEq (.tuple [.str "error", .str c]) (.tuple [.str "error", .str c]) = .ok (.bool true) := by
  intro c hc
  simp only [List.mem_cons, List.not_mem_nil, or_false] at hc
  rcases hc with rfl | rfl | rfl | rfl | rfl | rfl | rfl <;> kernel_rfl
def cl_fl (c : Str) : List PyData := [.bool (decide (c = "InvalidSale")), .bool (decide (c = "InvalidPrice")), .bool (decide (c = "InvalidBids")), .bool (decide (c = "Repeated")), .bool (decide (c = "InvalidBidder")), .bool (decide (c = "InvalidBid")), .bool (decide (c = "InvalidIndex"))]
theorem cl_true : ∀ a : Addr, ∀ c ∈ (["InvalidSale", "InvalidPrice", "InvalidBids", "Repeated", "InvalidBidder", "InvalidBid", "InvalidIndex"] : List Str), mk_class a c (.ad a :: List.replicate 2 .no) = .rt (.str c) := by
  intro a c hc
  have h0 : (.ad a :: List.replicate 2 Sl.no : Gam) = [.ad a, .no, .no] := rfl
  rw [h0]
  unfold mk_class
  refine seq_to (Γ1 := [.ad a, .own [.bool (decide (c = "InvalidSale")), .bool (decide (c = "InvalidPrice"))], .no]) (by simp [mOwn, mEvL, fz, isp, mCons, mNil]) ?_
  refine seq_to (Γ1 := [.ad a, .own [.bool (decide (c = "InvalidSale")), .bool (decide (c = "InvalidPrice")), .bool (decide (c = "InvalidBids")), .bool (decide (c = "Repeated"))], .no]) (by simp [mExt, mEv, fz, isp, mCons, mNil, mL]) ?_
  refine seq_to (Γ1 := [.ad a, .own [.bool (decide (c = "InvalidSale")), .bool (decide (c = "InvalidPrice")), .bool (decide (c = "InvalidBids")), .bool (decide (c = "Repeated")), .bool (decide (c = "InvalidBidder")), .bool (decide (c = "InvalidBid"))], .no]) (by simp [mExt, mEv, fz, isp, mCons, mNil, mL]) ?_
  refine seq_to (Γ1 := [.ad a, .own (cl_fl c), .no]) (by simp [mExt, mEv, fz, isp, mCons, mNil, mL, cl_fl]) ?_
  refine seq_to (Γ1 := [.ad a, .own (cl_fl c), .no]) ?_ ?_
  · have e1 : (mCount (mVar 1) (mC (.bool true))) [.ad a, .v (.list (cl_fl c)), .no] = .ok (.int 1) := by
      simp only [List.mem_cons, List.not_mem_nil, or_false] at hc
      have e : dCount (.list (cl_fl c)) (.bool true) = .ok (.int 1) := by rcases hc with rfl | rfl | rfl | rfl | rfl | rfl | rfl <;> kernel_rfl
      exact e
    have e2 : (mIsP 0 a true) [.ad a, .v (.list (cl_fl c)), .no] = .ok (.bool true) := isp _ _ _
    unfold mIfS mEvB
    simp [fz, fz1, mOr, mNot, mB, mOp, e1, e2, mC, dNeI, asB, mSkip]
  refine seq_to (Γ1 := [.ad a, .own (cl_fl c), .own [.str "InvalidSale", .str "InvalidPrice", .str "InvalidBids", .str "Repeated"]]) (by kernel_rfl) ?_
  refine seq_to (Γ1 := [.ad a, .own (cl_fl c), .own [.str "InvalidSale", .str "InvalidPrice", .str "InvalidBids", .str "Repeated", .str "InvalidBidder", .str "InvalidBid", .str "InvalidIndex"]]) (by kernel_rfl) ?_
  simp only [List.mem_cons, List.not_mem_nil, or_false] at hc
  rcases hc with rfl | rfl | rfl | rfl | rfl | rfl | rfl <;> kernel_rfl
end PD

/-! k26: what each call raises. -/
namespace PD
open PySem PySem.Spec PyProof.Rows L2
def exB (c : Str) : R PyData → Bool
  | .ex d => decide (d = c)
  | _ => false
theorem exB_eq {c : Str} {r : R PyData} (h : exB c r = true) : r = .ex c := by
  cases r with
  | ex d => rw [of_decide_eq_true h]
  | ok _ => cases h
  | no => cases h
def one26 : PyData := .tuple [.tuple [.int 0, .int 1]]
def noL : List PyData := [.none, .int 5, .tuple [one26, .int 0, .int 1], .tuple [one26, .int 5, .int 4], .tuple [.tuple [], .int 1, .int 1], .tuple [.tuple [.tuple [.int 0, .int 2], .tuple [.int 9, .int 2]], .int 1, .int 1], .list [one26, .int 1, .int 1], .tuple [one26, .int 1]]
def bidL : List PyData := [.none, .int 5, .tuple [], .list [.tuple [.str "g", .int 1]], .list [.tuple [.str "a", .int 0]], .list [.tuple [.str "a", .int 201]], .list (List.replicate 9 (.tuple [.str "a", .int 1])), .list [.list [.str "a", .int 1]]]
theorem sales_bad : ∀ d ∈ noL, ∀ m ∈ ml_law_sales, m ([d].map .v) = .ex "InvalidSale" := by
  have h : (noL.all fun d => ml_law_sales.all fun m => exB "InvalidSale" (m ([d].map .v))) = true := by kernel_rfl
  exact fun d hd m hm => exB_eq (List.all_eq_true.mp (List.all_eq_true.mp h d hd) m hm)
def okB (b : Bool) : R PyData → Bool
  | .ok (.bool c) => b == c
  | _ => false
theorem okB_eq {b : Bool} {r : R PyData} (h : okB b r = true) : r = .ok (.bool b) := by
  unfold okB at h
  split at h
  · rw [beq_iff_eq.mp h]
  · cases h
theorem bids_no : ∀ e ∈ bidL, mDef m_are_bids 2 [e] = .ok (.bool false) := by
  have h : (bidL.all fun e => okB false (mDef m_are_bids 2 [e])) = true := by kernel_rfl
  exact fun e he => okB_eq (List.all_eq_true.mp h e he)
section
variable {s : Sale} {c : Str}
theorem cb_bad (hs : s.Ok) {e : PyData} (h : mDef m_are_bids 2 [e] = .ok (.bool false)) : mDef m_check_bids 2 [s.d, e] = .ex "InvalidBids" := by
  have h1 := f_check_sale hs
  refine def_ex ?_
  unfold m_check_bids
  simp [h1, h]
theorem do_ex {r : MS} {n : Nat} {a b : PyData} (more : List PyData) (h : mDef m_check_bids 2 [a, b] = .ex c) : mDef (mSeq (mDo [] (mCall (mDef m_check_bids 2) (mCons (mVar 0) (mCons (mVar 1) mNil)))) r) n (a :: b :: more) = .ex c := by
  refine def_ex ?_
  simp [h]
theorem do_ex3 {r : MS} {n : Nat} {a b d : PyData} (h : mDef m_check_bidder 3 [a, b, d] = .ex c) : mDef (mSeq (mDo [] (mCall (mDef m_check_bidder 3) (mCons (mVar 0) (mCons (mVar 1) (mCons (mVar 2) mNil))))) r) n [a, b, d] = .ex c := by
  refine def_ex ?_
  simp [h]
theorem cbr_bad {a b d : PyData} (h : mDef m_check_bids 2 [a, b] = .ex c) : mDef m_check_bidder 3 [a, b, d] = .ex c := do_ex [d] h
theorem ends_ex {a b : PyData} (h : mDef m_all_ends 3 [a, b] = .ex c) : mDef m_possible_winners 6 [a, b] = .ex c ∧ mDef m_possible_prices 4 [a, b] = .ex c ∧ mDef m_does_order_matter 4 [a, b] = .ex c ∧ mDef m_dearest_order 4 [a, b] = .ex c ∧ mDef m_cheapest_order 4 [a, b] = .ex c := by
  refine ⟨?_, ?_, ?_, ?_, ?_⟩ <;> refine def_ex ?_
  · unfold m_possible_winners; simp [h]
  · unfold m_possible_prices; simp [h, mSortSetA]
  · unfold m_does_order_matter; simp [h, mLenSetK]
  · unfold m_dearest_order; simp [h]
  · unfold m_cheapest_order; simp [h]
theorem bids_bad (hs : s.Ok) : ∀ e ∈ bidL, ∀ m ∈ ml_law_bids, m ([s.d, e].map .v) = .ex "InvalidBids" := by
  intro e he
  have h0 := bids_no e he
  have h := cb_bad hs h0
  have ha : mDef m_are_single 1 [e] = .ex "InvalidBids" := by
    refine def_ex ?_
    unfold m_are_single
    simp [h0]
  have he : mDef m_all_ends 3 [s.d, e] = .ex "InvalidBids" := do_ex [] h
  obtain ⟨e1, e2, e3, e4, e5⟩ := ends_ex he
  have hb : mDef m_check_bidder 3 [s.d, e, .none] = .ex "InvalidBids" := cbr_bad h
  unfold ml_law_bids
  simp only [List.forall_mem_cons, List.not_mem_nil, false_implies, implies_true, and_true]
  exact ⟨do_ex [] h, do_ex [] h, do_ex [] h, do_ex [] h, do_ex [] h, ha, e1, e2, e3, e4, e5, do_ex3 hb, do_ex3 hb, do_ex [.none] h, do_ex [] h, do_ex [.int (-1)] h, do_ex [] h, do_ex [] h, do_ex [] h, do_ex [] h, do_ex [] h, do_ex [] h⟩
/-! prices -/
theorem cp_bad : mDef m_check_price 1 [.int (-1)] = .ex "InvalidPrice" ∧ mDef m_check_price 1 [.int 201] = .ex "InvalidPrice" ∧ mDef m_check_price 1 [.bool true] = .ex "InvalidPrice" ∧ mDef m_check_price 1 [.int 5] = .ok .none := ⟨by kernel_rfl, by kernel_rfl, by kernel_rfl, by kernel_rfl⟩
theorem next_bad (hs : s.Ok) {d : PyData} (h : mDef m_check_price 1 [d] = .ex c) : mDef m_next_price 2 [s.d, d] = .ex c := by
  have h1 := f_check_sale hs
  refine def_ex ?_
  unfold m_next_price
  simp [h1, h]
theorem climb_bad (hs : s.Ok) {d e : PyData} (h : mDef m_check_price 1 [d] = .ex c) : mDef m_climb 4 [s.d, d, e] = .ex c := by
  have h1 := f_check_sale hs
  refine def_ex ?_
  unfold m_climb
  simp [h1, h]
theorem climb_bad2 (hs : s.Ok) {d e : PyData} (h : mDef m_check_price 1 [d] = .ok .none) (h2 : mDef m_check_price 1 [e] = .ex c) : mDef m_climb 4 [s.d, d, e] = .ex c := by
  have h1 := f_check_sale hs
  refine def_ex ?_
  unfold m_climb
  simp [h1, h, h2]
/-! a bidder twice -/
def twice26 : PyData := .list [.tuple [.str "a", .int 5], .tuple [.str "b", .int 6], .tuple [.str "a", .int 7]]
def twB : List Bid := [(97, 5), (98, 6), (97, 7)]
theorem tw_eq : eBs twB = twice26 := by kernel_rfl
theorem tw_not : mDef m_have_single 2 [twice26] = .ok (.bool false) := by kernel_rfl
theorem ends_tw (hs : s.Ok) : mDef m_all_ends 3 [s.d, twice26] = .ex "Repeated" := by
  have h1 : mDef m_check_bids 2 [s.d, twice26] = .ok .none := by
    rw [← tw_eq]
    exact f_check_bids hs (fun b hb => by
      simp only [twB, List.mem_cons, List.not_mem_nil, or_false] at hb
      rcases hb with rfl | rfl | rfl <;> exact ⟨by decide, by decide, by decide⟩) (by decide)
  have h2 := tw_not
  refine def_ex ?_
  unfold m_all_ends
  simp [h1, h2]
/-! bidders, single bids, indexes -/
theorem bidder_no : mDef m_is_bidder 1 [.str "g"] = .ok (.bool false) ∧ mDef m_is_bidder 1 [.none] = .ok (.bool false) ∧ mDef m_is_bidder 1 [.str "ab"] = .ok (.bool false) := ⟨by kernel_rfl, by kernel_rfl, by kernel_rfl⟩
theorem bid_no : mDef m_is_bid 1 [.none] = .ok (.bool false) ∧ mDef m_is_bid 1 [.tuple [.str "a", .int 0]] = .ok (.bool false) ∧ mDef m_is_bid 1 [.list [.str "a", .int 1]] = .ok (.bool false) := ⟨by kernel_rfl, by kernel_rfl, by kernel_rfl⟩
variable {a b d : PyData}
theorem cbr_no (h : mDef m_check_bids 2 [a, b] = .ok .none) (h2 : mDef m_is_bidder 1 [d] = .ok (.bool false)) : mDef m_check_bidder 3 [a, b, d] = .ex "InvalidBidder" := by
  refine def_ex ?_
  unfold m_check_bidder
  simp [h, h2]
theorem pw_no (h : mDef m_check_bids 2 [a, b] = .ok .none) (h2 : mDef m_is_bid 1 [d] = .ok (.bool false)) : mDef m_price_with 3 [a, b, d] = .ex "InvalidBid" := by
  refine def_ex ?_
  unfold m_price_with
  simp [h, h2]
theorem wb_no {l : List PyData} (h : mDef m_check_bids 2 [a, .list l] = .ok .none) (h2 : isInt d 0 ((l.length : Nat) - 1 : Int) = false) : mDef m_without_bid 3 [a, .list l, d] = .ex "InvalidIndex" := by
  have h3 := f_is_int d 0 ((l.length : Nat) - 1 : Int)
  rw [h2] at h3
  refine def_ex ?_
  unfold m_without_bid
  simp [h, h3]
end
end PD

/-! k26: the law is true. -/
namespace PD
open PySem PySem.Spec PyProof.Rows L2
theorem kPl_i {m : MS} {f : Gam → Lls → Prop} {Γ : Gam} {L : Lls} (Γ' : Gam) (h : m Γ = .nx Γ') (no : noOwn Γ' = true) (k : f Γ' L) : kPl m f Γ L := ⟨Γ', h, no, k⟩
theorem kMk1_i {i : Nat} {m : M} {f : Gam → Lls → Prop} {Γ : Gam} {L : Lls} (k : ∀ l, f (Γ.set i (.ad l)) ((l, [m]) :: L)) : kMk1 i m f Γ L := k
theorem kMkA_i {i : Nat} {m : M} {f : Gam → Lls → Prop} {Γ : Gam} {l : Addr} {ms : List M} {L : Lls} (h : gat Γ i = .ad l) (hz : ms.length ≤ 400) (k : f Γ ((l, ms ++ [m]) :: L)) : kMkA i m f Γ ((l, ms) :: L) := ⟨l, ms, L, h, rfl, hz, k⟩
theorem kLiv_i {i : Nat} {ks : List Nat} {c : Str} {Γ : Gam} {L : Lls} (l : Addr) (ms : List M) (ds : List PyData) (h : gat Γ i = .ad l) (hm : (l, ms) ∈ L) (hv : VS Γ ks ds) (hz : ms.length ≤ 400) (k : ∀ m ∈ ms, m (ds.map .v) = .ex c) : kLiv i ks c Γ L := ⟨l, ms, ds, h, hm, hv, hz, k⟩
theorem eight {x : Int} (h0 : 0 ≤ x) (h1 : x < 8) : x = 0 ∨ x = 1 ∨ x = 2 ∨ x = 3 ∨ x = 4 ∨ x = 5 ∨ x = 6 ∨ x = 7 := by omega
/-- the last bids leave the price -/
theorem last_price {s : Sale} (hs : s.Ok) {bs : List Bid} (hb : ∀ b ∈ bs, OkB b) : (adv s (fin s (0, 0, 0) (bs ++ [(97, 1)])) (98, 1)).2.1 = (fin s (0, 0, 0) (bs ++ [(97, 1)])).2.1 := by
  have hst := hs.st
  have ha : OkB ((97, 1) : Bid) := ⟨by decide, by decide, by decide⟩
  have h0 := fin_inv hs bs (0, 0, 0) hb (.inl rfl)
  have e0 : fin s (0, 0, 0) (bs ++ [(97, 1)]) = adv s (fin s (0, 0, 0) bs) (97, 1) := by rw [fin_app]; rfl
  have h1 := adv_inv hs h0 ha
  rw [← e0] at h1
  suffices hr : rej s (fin s (0, 0, 0) (bs ++ [(97, 1)])) (98, 1) = true by rw [adv_rej hr]
  rcases h1 with h1 | ⟨h1, h2, _⟩
  · -- nobody leads: the start is above 1
    have hr : 1 < s.start := by
      apply Classical.byContradiction
      intro hn
      have hs1 : s.start = 1 := by omega
      rcases adv_cases hs h0 ha with ⟨h2, h3⟩ | ⟨_, _, h3⟩
      · rw [← e0, h1] at h3
        rw [← h3] at h2
        simp [rej, hs1] at h2
      · rw [← e0, h1] at h3
        rcases h3 with ⟨_, h3, _⟩ | ⟨_, _, h3, _⟩ | ⟨h3, _, _, h4, _⟩
        · exact absurd h3 (by decide)
        · exact absurd h3 (by decide)
        · exact h3 h4.symm
    rw [h1]
    simp [rej, hr]
  · have h3 := up_b hs (p := (fin s (0, 0, 0) (bs ++ [(97, 1)])).2.1) (by omega)
    have h4 := h1.ne
    unfold rej
    rw [if_neg h4]
    split
    · exact decide_eq_true (by show (1 : Int) ≤ _; omega)
    · exact decide_eq_true (by show (1 : Int) < _; omega)
theorem f_price_with {s : Sale} (hs : s.Ok) {bs : List Bid} (hb : ∀ b ∈ bs, OkB b) (hl : bs.length ≤ 8) {b : Bid} (h : OkB b) : mDef m_price_with 3 [s.d, eBs bs, eB b] = .ok (.int (adv s (fin s (0, 0, 0) bs) b).2.1) := by
  have h1 := f_check_bids hs hb hl
  have h2 := f_is_bid h
  have h3 := f_find_result hs hb (by omega)
  have h4 := f_advance hs (fin_inv hs bs (0, 0, 0) hb (.inl rfl)) h
  refine def_rt ?_
  unfold m_price_with
  have h5 : ∀ t : St3, dIx (eSt t) (.int 1) = .ok (.int t.2.1) := fun t => rfl
  simp [h1, h2, h3, h4, h5]
theorem b1_eq : eB (98, 1) = .tuple [.str "b", .int 1] := by kernel_rfl
theorem a1_eq : eB (97, 1) = .tuple [.str "a", .int 1] := by kernel_rfl
theorem kPl_ex {P : PyData → Prop} {m : MS} {f : Gam → Lls → Prop} {Γ : Gam} {L : Lls} (i : Nat) (h : ∃ d, P d ∧ m Γ = .nx (Γ.set i (.v d))) (no : ∀ d, noOwn (Γ.set i (.v d)) = true) (k : ∀ d, P d → f (Γ.set i (.v d)) L) : kPl m f Γ L := by
  obtain ⟨d, h1, h2⟩ := h
  exact ⟨_, h2, no d, k d h1⟩
theorem kIf_i {ca cb f : Gam → Lls → Prop} {Γ : Gam} {L : Lls} (a : ca Γ L) (b : cb Γ L) (c : f Γ L) : kIf ca cb f Γ L := ⟨a, b, c⟩
theorem kMkC_i {ms : List M} {ma : Gam → R (List PyData)} {c : Str} {Γ : Gam} {L : Lls} (ds : List PyData) (h : ma Γ = .ok ds) (k : ∀ m ∈ ms, m (ds.map .v) = .ex c) : kMkC ms ma c Γ L := ⟨ds, h, k⟩
theorem kRet_i {ca : Gam → Lls → Prop} {m : M} {Γ : Gam} {L : Lls} (a : ca Γ L) (b : m Γ = .ok (.bool true)) : kRet ca m Γ L := ⟨a, b⟩
theorem law_true (ns : List Int) (h : ns.length ≤ 63) : fl_k26 (.v (.dict (ns.map fun n => (.int n, .none))) :: List.replicate (14 - 1) .no) [] := by
  obtain ⟨s, hsm, eh⟩ := f_house h (a := 0) (by decide) (by decide)
  have hs := hsm.ok
  obtain ⟨bs, hl, D, eo⟩ := f_offers h (a := 11) (most := 6) (single := false) (by decide) (by decide) (by decide) (by decide) (fun z => nomatch z)
  have hb : ∀ b ∈ bs, OkB b := fun b h => (D.ok b h).1
  have ep := f_pick h (k := 30) (many := 8) (by decide) (by decide) (by decide)
  obtain ⟨p0, p1⟩ := pick_b h (k := 30) (many := 8) (by decide) (by decide) (by decide)
  generalize pickF ns 30 8 = p at *
  have hl6 : bs.length ≤ 6 := by omega
  have cb := f_check_bids hs hb (by omega)
  show fl_k26 [.v (S ns), .no, .no, .no, .no, .no, .no, .no, .no, .no, .no, .no, .no, .no] []
  unfold fl_k26
  refine kPl_i [.v (S ns), .no, .no, .no, .no, .no, .no, .no, .no, .no, .no, .no, .v s.d, .v (.int p)] (by simp [eh, ep]) rfl ?_
  refine kPl_i [.v (S ns), .v (eBs bs), .no, .no, .no, .no, .no, .no, .no, .no, .no, .no, .v s.d, .v (.int p)] (by simp [eo]) rfl ?_
  refine kPl_i [.v (S ns), .v (eBs bs), .v one26, .no, .no, .no, .no, .no, .no, .no, .no, .no, .v s.d, .v (.int p)] (by simp [one26]) rfl ?_
  clear eh eo ep
  generalize S ns = a0
  refine kPl_ex (P := (· ∈ noL)) 3 ?_ (fun d => rfl) fun d hd => ?_
  · generalize Sl.v s.d = a12
    generalize Sl.v (eBs bs) = a1
    rcases eight p0 p1 with rfl | rfl | rfl | rfl | rfl | rfl | rfl | rfl
    · exact ⟨noL[0], by simp [noL], by kernel_rfl⟩
    · exact ⟨noL[1], by simp [noL], by kernel_rfl⟩
    · exact ⟨noL[2], by simp [noL], by kernel_rfl⟩
    · exact ⟨noL[3], by simp [noL], by kernel_rfl⟩
    · exact ⟨noL[4], by simp [noL], by kernel_rfl⟩
    · exact ⟨noL[5], by simp [noL], by kernel_rfl⟩
    · exact ⟨noL[6], by simp [noL], by kernel_rfl⟩
    · exact ⟨noL[7], by simp [noL], by kernel_rfl⟩
  refine kPl_ex (P := (· ∈ bidL)) 4 ?_ (fun d => rfl) fun e he => ?_
  · generalize Sl.v s.d = a12
    generalize Sl.v (eBs bs) = a1
    rcases eight p0 p1 with rfl | rfl | rfl | rfl | rfl | rfl | rfl | rfl
    · exact ⟨bidL[0], by simp [bidL], by kernel_rfl⟩
    · exact ⟨bidL[1], by simp [bidL], by kernel_rfl⟩
    · exact ⟨bidL[2], by simp [bidL], by kernel_rfl⟩
    · exact ⟨bidL[3], by simp [bidL], by kernel_rfl⟩
    · exact ⟨bidL[4], by simp [bidL], by kernel_rfl⟩
    · exact ⟨bidL[5], by simp [bidL], by kernel_rfl⟩
    · exact ⟨bidL[6], by simp [bidL], by kernel_rfl⟩
    · exact ⟨bidL[7], by simp [bidL], by kernel_rfl⟩
  refine kIf_i (kMkC_i [d] rfl (sales_bad d hd)) (kMkC_i [s.d, e] rfl (bids_bad hs e he)) ?_
  refine kMk1_i fun l5 => ?_
  refine kMkA_i rfl (by decide) ?_
  refine kMkA_i rfl (by decide) ?_
  refine kMkA_i rfl (by decide) ?_
  refine kPl_i [.v a0, .v (eBs bs), .v one26, .v d, .v e, .ad l5, .v twice26, .no, .no, .no, .no, .no, .v s.d, .v (.int p)] (by kernel_rfl) rfl ?_
  refine kMk1_i fun l7 => ?_
  refine kMkA_i rfl (by decide) ?_
  refine kMkA_i rfl (by decide) ?_
  refine kMkA_i rfl (by decide) ?_
  refine kMkA_i rfl (by decide) ?_
  refine kMk1_i fun l8 => ?_
  refine kMkA_i rfl (by decide) ?_
  refine kMkA_i rfl (by decide) ?_
  refine kMk1_i fun l9 => ?_
  refine kMkA_i rfl (by decide) ?_
  refine kMkA_i rfl (by decide) ?_
  refine kMk1_i fun l10 => ?_
  refine kMkA_i rfl (by decide) ?_
  refine kMkA_i rfl (by decide) ?_
  have hv : VS [.v a0, .v (eBs bs), .v one26, .v d, .v e, .ad l5, .v twice26, .ad l7, .ad l8, .ad l9, .ad l10, .no, .v s.d, .v (.int p)] [12, 1, 6] [s.d, eBs bs, twice26] := .cons rfl (.cons rfl (.cons rfl .nil))
  obtain ⟨c1, c2, c3, c4⟩ := cp_bad
  obtain ⟨e1, e2, e3, e4, e5⟩ := ends_ex (ends_tw hs)
  obtain ⟨b1, b2, b3⟩ := bidder_no
  obtain ⟨d1, d2, d3⟩ := bid_no
  refine kIf_i (kLiv_i l5 _ [s.d, eBs bs, twice26] rfl (.tail _ (.tail _ (.tail _ (.tail _ (.head _))))) hv (by decide) ?_) (kLiv_i l7 _ [s.d, eBs bs, twice26] rfl (.tail _ (.tail _ (.tail _ (.head _)))) hv (by decide) ?_) ?_
  · simp only [List.cons_append, List.nil_append, List.forall_mem_cons, List.not_mem_nil, false_implies, implies_true, and_true]
    exact ⟨next_bad hs c1, next_bad hs c2, climb_bad hs c3, climb_bad2 hs c4 c2⟩
  · simp only [List.cons_append, List.nil_append, List.forall_mem_cons, List.not_mem_nil, false_implies, implies_true, and_true]
    exact ⟨e1, e2, e3, e4, e5⟩
  refine kIf_i (kLiv_i l8 _ [s.d, eBs bs, twice26] rfl (.tail _ (.tail _ (.head _))) hv (by decide) ?_) (kLiv_i l9 _ [s.d, eBs bs, twice26] rfl (.tail _ (.head _)) hv (by decide) ?_) ?_
  · simp only [List.cons_append, List.nil_append, List.forall_mem_cons, List.not_mem_nil, false_implies, implies_true, and_true]
    exact ⟨do_ex3 (cbr_no cb b1), do_ex3 (cbr_no cb b2), do_ex3 (cbr_no cb b3)⟩
  · simp only [List.cons_append, List.nil_append, List.forall_mem_cons, List.not_mem_nil, false_implies, implies_true, and_true]
    exact ⟨pw_no cb d1, pw_no cb d2, pw_no cb d3⟩
  have hfull : ∃ cs : List Bid, (∀ b ∈ cs, OkB b) ∧ cs.length = 7 ∧ bs ++ List.replicate (8 - bs.length) (97, 1) = cs ++ [(97, 1)] := by
    refine ⟨bs ++ List.replicate (7 - bs.length) (97, 1), fun b hb2 => ?_, by simp; omega, ?_⟩
    · rcases List.mem_append.mp hb2 with z | z
      · exact hb b z
      · rw [(List.mem_replicate.mp z).2]
        exact ⟨by decide, by decide, by decide⟩
    · rw [show 8 - bs.length = (7 - bs.length) + 1 by omega, List.replicate_succ', List.append_assoc]
  obtain ⟨cs, hc1, hc2, hc3⟩ := hfull
  have hk : (8 - ((bs.length : Nat) : Int)).toNat = 8 - bs.length := by omega
  have e2 : dLen [eBs bs] = .ok (.int (bs.length : Nat)) := by simp [eBs]
  have hd8 : dMul (.list [.tuple [.str (PySem.Str.ofString "a"), .int 1]]) (.int (8 - (bs.length : Nat))) = .ok (.list (List.replicate (8 - bs.length) (eB (97, 1)))) := by
    show (if (0 ≤ 8 - ((bs.length : Nat) : Int) ∧ 8 - ((bs.length : Nat) : Int) ≤ 100000) ∧ 1 * (8 - ((bs.length : Nat) : Int)).toNat ≤ 100000 then R.ok (PyData.list (List.replicate (8 - ((bs.length : Nat) : Int)).toNat [.tuple [.str (PySem.Str.ofString "a"), .int 1]]).flatten) else .no) = _
    rw [if_pos ⟨⟨by omega, by omega⟩, by omega⟩, hk, ← a1_eq]
    simp
  have hadd : dAdd (eBs bs) (.list (List.replicate (8 - bs.length) (eB (97, 1)))) = .ok (eBs (cs ++ [(97, 1)])) := by
    rw [← hc3]
    show (if (bs.map eB).length + (List.replicate (8 - bs.length) (eB (97, 1))).length ≤ 100000 then R.ok (PyData.list (bs.map eB ++ List.replicate (8 - bs.length) (eB (97, 1)))) else .no) = _
    rw [if_pos (by simp; omega)]
    simp [eBs]
  have hok : ∀ b ∈ cs ++ [(97, 1)], OkB b := fun b hb2 => by
    rcases List.mem_append.mp hb2 with z | z
    · exact hc1 b z
    · rw [List.mem_singleton.mp z]
      exact ⟨by decide, by decide, by decide⟩
  have hl8 : (cs ++ [((97, 1) : Bid)]).length ≤ 8 := by simp [hc2]
  refine kPl_i [.v a0, .v (eBs bs), .v one26, .v d, .v e, .ad l5, .v twice26, .ad l7, .ad l8, .ad l9, .ad l10, .v (eBs (cs ++ [(97, 1)])), .v s.d, .v (.int p)] ?_ rfl ?_
  · simp [e2, hd8, hadd]
  refine kRet_i (kLiv_i l10 _ [s.d, eBs bs, twice26] rfl (.head _) (.cons rfl (.cons rfl (.cons rfl .nil))) (by decide) ?_) ?_
  · simp only [List.cons_append, List.nil_append, List.forall_mem_cons, List.not_mem_nil, false_implies, implies_true, and_true]
    have cb2 : mDef m_check_bids 2 [s.d, .list [.tuple [.str "a", .int 5], .tuple [.str "b", .int 9]]] = .ok .none := by
      have e9 : eBs [(97, 5), (98, 9)] = .list [.tuple [.str "a", .int 5], .tuple [.str "b", .int 9]] := by kernel_rfl
      rw [← e9]
      exact f_check_bids hs (fun b hb => by
        simp only [List.mem_cons, List.not_mem_nil, or_false] at hb
        rcases hb with rfl | rfl <;> exact ⟨by decide, by decide, by decide⟩) (by decide)
    refine ⟨wb_no (l := bs.map eB) (d := .int ((bs.map eB).length : Nat)) cb (by simp [isInt]; omega), wb_no (l := bs.map eB) (d := .int (-1)) cb (by simp [isInt]), wb_no (d := .bool true) cb2 rfl⟩
  · have h1 := f_price_with hs hok hl8 (b := (98, 1)) ⟨by decide, by decide, by decide⟩
    rw [b1_eq, last_price hs hc1] at h1
    have h2 := f_result hs hok hl8
    have h5 : ∀ t : St3, dIx (eSt t) (.int 1) = .ok (.int t.2.1) := fun t => rfl
    have h6 : ∀ i : Int, dEq (.int i) (.int i) = .ok (.bool true) := fun i => by simp [dEq, eqD, sEq]
    simp [h1, h2, h5, h6]
end PD

namespace PD
open PySem PySem.Spec PyProof.Rows L2
def topS (i : Nat) : Stmt := PySem.Challenge.pw_proxybids_k26_errors.main.body.getD i (.Pass ⟨0, 0, 0, 0⟩)
abbrev s_is_int : Stmt := topS 16
theorem sc_is_int : FnScope ["value", "least", "most"] ["value", "least", "most"] (defScope s_is_int) := ⟨rfl, rfl, rfl, by decide +kernel, rfl, by decide +kernel, by decide +kernel⟩
abbrev s_is_bidder : Stmt := topS 20
theorem sc_is_bidder : FnScope ["value"] ["value"] (defScope s_is_bidder) := ⟨rfl, rfl, rfl, by decide +kernel, rfl, by decide +kernel, by decide +kernel⟩
abbrev s_step_up : Stmt := topS 26
theorem sc_step_up : FnScope ["sale", "price", "bound", "step"] ["sale", "price"] (defScope s_step_up) := ⟨rfl, rfl, rfl, by decide +kernel, rfl, by decide +kernel, by decide +kernel⟩
abbrev s_with_reserve : Stmt := topS 31
theorem sc_with_reserve : FnScope ["sale", "state", "leader", "price", "amount"] ["sale", "state"] (defScope s_with_reserve) := ⟨rfl, rfl, rfl, by decide +kernel, rfl, by decide +kernel, by decide +kernel⟩
abbrev s_find_winner : Stmt := topS 40
theorem sc_find_winner : FnScope ["sale", "state"] ["sale", "state"] (defScope s_find_winner) := ⟨rfl, rfl, rfl, by decide +kernel, rfl, by decide +kernel, by decide +kernel⟩
abbrev s_least_one : Stmt := topS 51
theorem sc_least_one : FnScope ["found"] ["found"] (defScope s_least_one) := ⟨rfl, rfl, rfl, by decide +kernel, rfl, by decide +kernel, by decide +kernel⟩
abbrev s_have_single : Stmt := topS 64
theorem sc_have_single : FnScope ["bids", "bid"] ["bids"] (defScope s_have_single) := ⟨rfl, rfl, rfl, by decide +kernel, rfl, by decide +kernel, by decide +kernel⟩
abbrev s_all_orders : Stmt := topS 66
theorem sc_all_orders : FnScope ["bids", "found", "turn", "begun", "bid"] ["bids"] (defScope s_all_orders) := ⟨rfl, rfl, rfl, by decide +kernel, rfl, by decide +kernel, by decide +kernel⟩
abbrev s_law_pick : Stmt := topS 74
theorem sc_law_pick : FnScope ["_law_script", "_law_k", "_law_many", "_law_cell", "_law_drawn", "_law_rest", "_law_again"] ["_law_script", "_law_k", "_law_many"] (defScope s_law_pick) := ⟨rfl, rfl, rfl, by decide +kernel, rfl, by decide +kernel, by decide +kernel⟩
abbrev s_is_step : Stmt := topS 17
theorem sc_is_step : FnScope ["value"] ["value"] (defScope s_is_step) := ⟨rfl, rfl, rfl, by decide +kernel, rfl, by decide +kernel, by decide +kernel⟩
abbrev s_is_bid : Stmt := topS 21
theorem sc_is_bid : FnScope ["value"] ["value"] (defScope s_is_bid) := ⟨rfl, rfl, rfl, by decide +kernel, rfl, by decide +kernel, by decide +kernel⟩
abbrev s_check_price : Stmt := topS 25
theorem sc_check_price : FnScope ["value"] ["value"] (defScope s_check_price) := ⟨rfl, rfl, rfl, by decide +kernel, rfl, by decide +kernel, by decide +kernel⟩
abbrev s_is_refused : Stmt := topS 32
theorem sc_is_refused : FnScope ["sale", "state", "bid", "leader", "price", "amount"] ["sale", "state", "bid"] (defScope s_is_refused) := ⟨rfl, rfl, rfl, by decide +kernel, rfl, by decide +kernel, by decide +kernel⟩
abbrev s_law_house : Stmt := topS 75
theorem sc_law_house : FnScope ["_law_script", "_law_at", "_law_k", "_law_start", "_law_rows", "_law_bound", "_law_step"] ["_law_script", "_law_at"] (defScope s_law_house) := ⟨rfl, rfl, rfl, by decide +kernel, rfl, by decide +kernel, by decide +kernel⟩
abbrev s_law_offers : Stmt := topS 76
theorem sc_law_offers : FnScope ["_law_script", "_law_at", "_law_most", "_law_is_single", "_law_found", "_law_k", "_law_bidder", "_law_amount"] ["_law_script", "_law_at", "_law_most", "_law_is_single"] (defScope s_law_offers) := ⟨rfl, rfl, rfl, by decide +kernel, rfl, by decide +kernel, by decide +kernel⟩
abbrev s_are_steps : Stmt := topS 18
theorem sc_are_steps : FnScope ["value", "rising", "one", "other", "step"] ["value"] (defScope s_are_steps) := ⟨rfl, rfl, rfl, by decide +kernel, rfl, by decide +kernel, by decide +kernel⟩
abbrev s_are_bids : Stmt := topS 22
theorem sc_are_bids : FnScope ["candidate", "bid"] ["candidate"] (defScope s_are_bids) := ⟨rfl, rfl, rfl, by decide +kernel, rfl, by decide +kernel, by decide +kernel⟩
abbrev s_advance : Stmt := topS 33
theorem sc_advance : FnScope ["sale", "state", "bid", "leader", "price", "amount"] ["sale", "state", "bid"] (defScope s_advance) := ⟨rfl, rfl, rfl, by decide +kernel, rfl, by decide +kernel, by decide +kernel⟩
abbrev s_is_sale : Stmt := topS 19
theorem sc_is_sale : FnScope ["candidate", "steps", "start", "reserve"] ["candidate"] (defScope s_is_sale) := ⟨rfl, rfl, rfl, by decide +kernel, rfl, by decide +kernel, by decide +kernel⟩
abbrev s_find_states : Stmt := topS 34
theorem sc_find_states : FnScope ["sale", "bids", "bid", "found", "state"] ["sale", "bids"] (defScope s_find_states) := ⟨rfl, rfl, rfl, by decide +kernel, rfl, by decide +kernel, by decide +kernel⟩
abbrev s_are_single : Stmt := topS 65
theorem sc_are_single : FnScope ["bids"] ["bids"] (defScope s_are_single) := ⟨rfl, rfl, rfl, by decide +kernel, rfl, by decide +kernel, by decide +kernel⟩
abbrev s_check_sale : Stmt := topS 23
theorem sc_check_sale : FnScope ["value"] ["value"] (defScope s_check_sale) := ⟨rfl, rfl, rfl, by decide +kernel, rfl, by decide +kernel, by decide +kernel⟩
abbrev s_find_result : Stmt := topS 35
theorem sc_find_result : FnScope ["sale", "bids"] ["sale", "bids"] (defScope s_find_result) := ⟨rfl, rfl, rfl, by decide +kernel, rfl, by decide +kernel, by decide +kernel⟩
abbrev s_find_refused : Stmt := topS 38
theorem sc_find_refused : FnScope ["sale", "bids", "known", "index", "bid"] ["sale", "bids"] (defScope s_find_refused) := ⟨rfl, rfl, rfl, by decide +kernel, rfl, by decide +kernel, by decide +kernel⟩
abbrev s_check_bids : Stmt := topS 24
theorem sc_check_bids : FnScope ["sale", "bids"] ["sale", "bids"] (defScope s_check_bids) := ⟨rfl, rfl, rfl, by decide +kernel, rfl, by decide +kernel, by decide +kernel⟩
abbrev s_next_price : Stmt := topS 27
theorem sc_next_price : FnScope ["sale", "price"] ["sale", "price"] (defScope s_next_price) := ⟨rfl, rfl, rfl, by decide +kernel, rfl, by decide +kernel, by decide +kernel⟩
abbrev s_climb : Stmt := topS 28
theorem sc_climb : FnScope ["sale", "price", "most", "found"] ["sale", "price", "most"] (defScope s_climb) := ⟨rfl, rfl, rfl, by decide +kernel, rfl, by decide +kernel, by decide +kernel⟩
abbrev s_result_without : Stmt := topS 44
theorem sc_result_without : FnScope ["sale", "bids", "index"] ["sale", "bids", "index"] (defScope s_result_without) := ⟨rfl, rfl, rfl, by decide +kernel, rfl, by decide +kernel, by decide +kernel⟩
abbrev s_seen : Stmt := topS 57
theorem sc_seen : FnScope ["sale", "bids", "state"] ["sale", "bids"] (defScope s_seen) := ⟨rfl, rfl, rfl, by decide +kernel, rfl, by decide +kernel, by decide +kernel⟩
abbrev s_last_bid : Stmt := topS 58
theorem sc_last_bid : FnScope ["sale", "bids", "leader", "known", "index", "bid"] ["sale", "bids", "leader"] (defScope s_last_bid) := ⟨rfl, rfl, rfl, by decide +kernel, rfl, by decide +kernel, by decide +kernel⟩
abbrev s_result : Stmt := topS 36
theorem sc_result : FnScope ["sale", "bids"] ["sale", "bids"] (defScope s_result) := ⟨rfl, rfl, rfl, by decide +kernel, rfl, by decide +kernel, by decide +kernel⟩
abbrev s_states : Stmt := topS 37
theorem sc_states : FnScope ["sale", "bids"] ["sale", "bids"] (defScope s_states) := ⟨rfl, rfl, rfl, by decide +kernel, rfl, by decide +kernel, by decide +kernel⟩
abbrev s_refused : Stmt := topS 39
theorem sc_refused : FnScope ["sale", "bids"] ["sale", "bids"] (defScope s_refused) := ⟨rfl, rfl, rfl, by decide +kernel, rfl, by decide +kernel, by decide +kernel⟩
abbrev s_winner : Stmt := topS 41
theorem sc_winner : FnScope ["sale", "bids"] ["sale", "bids"] (defScope s_winner) := ⟨rfl, rfl, rfl, by decide +kernel, rfl, by decide +kernel, by decide +kernel⟩
abbrev s_leads : Stmt := topS 42
theorem sc_leads : FnScope ["sale", "bids", "found", "last", "many", "leader", "price", "amount"] ["sale", "bids"] (defScope s_leads) := ⟨rfl, rfl, rfl, by decide +kernel, rfl, by decide +kernel, by decide +kernel⟩
abbrev s_without_bid : Stmt := topS 45
theorem sc_without_bid : FnScope ["sale", "bids", "index"] ["sale", "bids", "index"] (defScope s_without_bid) := ⟨rfl, rfl, rfl, by decide +kernel, rfl, by decide +kernel, by decide +kernel⟩
abbrev s_raisers : Stmt := topS 46
theorem sc_raisers : FnScope ["sale", "bids", "found", "index", "leader", "price", "amount", "other"] ["sale", "bids"] (defScope s_raisers) := ⟨rfl, rfl, rfl, by decide +kernel, rfl, by decide +kernel, by decide +kernel⟩
abbrev s_needless : Stmt := topS 47
theorem sc_needless : FnScope ["sale", "bids", "state", "index"] ["sale", "bids"] (defScope s_needless) := ⟨rfl, rfl, rfl, by decide +kernel, rfl, by decide +kernel, by decide +kernel⟩
abbrev s_deciding : Stmt := topS 48
theorem sc_deciding : FnScope ["sale", "bids", "leader", "index"] ["sale", "bids"] (defScope s_deciding) := ⟨rfl, rfl, rfl, by decide +kernel, rfl, by decide +kernel, by decide +kernel⟩
abbrev s_check_bidder : Stmt := topS 50
theorem sc_check_bidder : FnScope ["sale", "bids", "bidder"] ["sale", "bids", "bidder"] (defScope s_check_bidder) := ⟨rfl, rfl, rfl, by decide +kernel, rfl, by decide +kernel, by decide +kernel⟩
abbrev s_price_with : Stmt := topS 54
theorem sc_price_with : FnScope ["sale", "bids", "bid"] ["sale", "bids", "bid"] (defScope s_price_with) := ⟨rfl, rfl, rfl, by decide +kernel, rfl, by decide +kernel, by decide +kernel⟩
abbrev s_greatest_price : Stmt := topS 55
theorem sc_greatest_price : FnScope ["sale", "bids", "leader", "price", "amount"] ["sale", "bids"] (defScope s_greatest_price) := ⟨rfl, rfl, rfl, by decide +kernel, rfl, by decide +kernel, by decide +kernel⟩
abbrev s_find_known : Stmt := topS 59
theorem sc_find_known : FnScope ["sale", "bids", "leader", "amount", "index", "wanted", "found"] ["sale", "bids"] (defScope s_find_known) := ⟨rfl, rfl, rfl, by decide +kernel, rfl, by decide +kernel, by decide +kernel⟩
abbrev s_still_to_pay : Stmt := topS 62
theorem sc_still_to_pay : FnScope ["sale", "bids", "leader", "price", "amount"] ["sale", "bids"] (defScope s_still_to_pay) := ⟨rfl, rfl, rfl, by decide +kernel, rfl, by decide +kernel, by decide +kernel⟩
abbrev s_all_ends : Stmt := topS 67
theorem sc_all_ends : FnScope ["sale", "bids", "order"] ["sale", "bids"] (defScope s_all_ends) := ⟨rfl, rfl, rfl, by decide +kernel, rfl, by decide +kernel, by decide +kernel⟩
abbrev s_least_accepted : Stmt := topS 52
theorem sc_least_accepted : FnScope ["sale", "bids", "bidder", "state", "amounts", "amount"] ["sale", "bids", "bidder"] (defScope s_least_accepted) := ⟨rfl, rfl, rfl, by decide +kernel, rfl, by decide +kernel, by decide +kernel⟩
abbrev s_least_leading : Stmt := topS 53
theorem sc_least_leading : FnScope ["sale", "bids", "bidder", "state", "amounts", "amount"] ["sale", "bids", "bidder"] (defScope s_least_leading) := ⟨rfl, rfl, rfl, by decide +kernel, rfl, by decide +kernel, by decide +kernel⟩
abbrev s_known_amount : Stmt := topS 60
theorem sc_known_amount : FnScope ["sale", "bids"] ["sale", "bids"] (defScope s_known_amount) := ⟨rfl, rfl, rfl, by decide +kernel, rfl, by decide +kernel, by decide +kernel⟩
abbrev s_is_known : Stmt := topS 61
theorem sc_is_known : FnScope ["sale", "bids", "found"] ["sale", "bids"] (defScope s_is_known) := ⟨rfl, rfl, rfl, by decide +kernel, rfl, by decide +kernel, by decide +kernel⟩
abbrev s_possible_winners : Stmt := topS 68
theorem sc_possible_winners : FnScope ["sale", "bids", "known", "state", "order", "bidder"] ["sale", "bids"] (defScope s_possible_winners) := ⟨rfl, rfl, rfl, by decide +kernel, rfl, by decide +kernel, by decide +kernel⟩
abbrev s_possible_prices : Stmt := topS 69
theorem sc_possible_prices : FnScope ["sale", "bids", "state", "order"] ["sale", "bids"] (defScope s_possible_prices) := ⟨rfl, rfl, rfl, by decide +kernel, rfl, by decide +kernel, by decide +kernel⟩
abbrev s_does_order_matter : Stmt := topS 70
theorem sc_does_order_matter : FnScope ["sale", "bids", "state", "order"] ["sale", "bids"] (defScope s_does_order_matter) := ⟨rfl, rfl, rfl, by decide +kernel, rfl, by decide +kernel, by decide +kernel⟩
abbrev s_dearest_order : Stmt := topS 71
theorem sc_dearest_order : FnScope ["sale", "bids", "state", "order"] ["sale", "bids"] (defScope s_dearest_order) := ⟨rfl, rfl, rfl, by decide +kernel, rfl, by decide +kernel, by decide +kernel⟩
abbrev s_cheapest_order : Stmt := topS 72
theorem sc_cheapest_order : FnScope ["sale", "bids", "state", "order"] ["sale", "bids"] (defScope s_cheapest_order) := ⟨rfl, rfl, rfl, by decide +kernel, rfl, by decide +kernel, by decide +kernel⟩
abbrev s_law_class : Stmt := topS 77
theorem sc_law_class : FnScope ["_law_error", "_law_kinds", "_law_names"] ["_law_error"] (defScope s_law_class) := ⟨rfl, rfl, rfl, by decide +kernel, rfl, by decide +kernel, by decide +kernel⟩
abbrev s_law_result : Stmt := topS 78
theorem sc_law_result : FnScope ["_law_call", "_law_error"] ["_law_call"] (defScope s_law_result) := ⟨rfl, rfl, rfl, by decide +kernel, rfl, by decide +kernel, by decide +kernel⟩
abbrev s_law_all : Stmt := topS 79
theorem sc_law_all : FnScope ["_law_calls", "_law_name", "_law_call"] ["_law_calls", "_law_name"] (defScope s_law_all) := ⟨rfl, rfl, rfl, by decide +kernel, rfl, by decide +kernel, by decide +kernel⟩
abbrev s_law_sales : Stmt := topS 80
theorem sc_law_sales : FnScope ["_law_no", "_law_calls"] ["_law_no"] (defScope s_law_sales) := ⟨rfl, rfl, rfl, by decide +kernel, rfl, by decide +kernel, by decide +kernel⟩
abbrev s_law_bids : Stmt := topS 81
theorem sc_law_bids : FnScope ["_law_house_here", "_law_no", "_law_calls"] ["_law_house_here", "_law_no"] (defScope s_law_bids) := ⟨rfl, rfl, rfl, by decide +kernel, rfl, by decide +kernel, by decide +kernel⟩
abbrev s_law : Stmt := topS 82
theorem sc_law : FnScope ["_law_script", "_law_offers_here", "_law_one", "_law_no", "_law_bids_here", "_law_prices", "_law_twice", "_law_repeated", "_law_bidders", "_law_single", "_law_indexes", "_law_full", "_law_house_here", "_law_at"] ["_law_script"] (defScope s_law) := ⟨rfl, rfl, rfl, by decide +kernel, rfl, by decide +kernel, by decide +kernel⟩
abbrev e_law_sales_0 : Lam3 := lamOf ((defBody s_law_sales).getD 0 (.Pass ⟨0, 0, 0, 0⟩))
abbrev e_law_sales_1 : Lam3 := lamOf ((defBody s_law_sales).getD 1 (.Pass ⟨0, 0, 0, 0⟩))
abbrev e_law_sales_2 : Lam3 := lamOf ((defBody s_law_sales).getD 2 (.Pass ⟨0, 0, 0, 0⟩))
abbrev e_law_sales_3 : Lam3 := lamOf ((defBody s_law_sales).getD 3 (.Pass ⟨0, 0, 0, 0⟩))
abbrev e_law_sales_4 : Lam3 := lamOf ((defBody s_law_sales).getD 4 (.Pass ⟨0, 0, 0, 0⟩))
abbrev e_law_sales_5 : Lam3 := lamOf ((defBody s_law_sales).getD 5 (.Pass ⟨0, 0, 0, 0⟩))
abbrev e_law_sales_6 : Lam3 := lamOf ((defBody s_law_sales).getD 6 (.Pass ⟨0, 0, 0, 0⟩))
abbrev e_law_sales_7 : Lam3 := lamOf ((defBody s_law_sales).getD 7 (.Pass ⟨0, 0, 0, 0⟩))
abbrev e_law_sales_8 : Lam3 := lamOf ((defBody s_law_sales).getD 8 (.Pass ⟨0, 0, 0, 0⟩))
abbrev e_law_sales_9 : Lam3 := lamOf ((defBody s_law_sales).getD 9 (.Pass ⟨0, 0, 0, 0⟩))
abbrev e_law_sales_10 : Lam3 := lamOf ((defBody s_law_sales).getD 10 (.Pass ⟨0, 0, 0, 0⟩))
abbrev e_law_sales_11 : Lam3 := lamOf ((defBody s_law_sales).getD 11 (.Pass ⟨0, 0, 0, 0⟩))
abbrev e_law_sales_12 : Lam3 := lamOf ((defBody s_law_sales).getD 12 (.Pass ⟨0, 0, 0, 0⟩))
abbrev e_law_sales_13 : Lam3 := lamOf ((defBody s_law_sales).getD 13 (.Pass ⟨0, 0, 0, 0⟩))
abbrev e_law_sales_14 : Lam3 := lamOf ((defBody s_law_sales).getD 14 (.Pass ⟨0, 0, 0, 0⟩))
abbrev e_law_sales_15 : Lam3 := lamOf ((defBody s_law_sales).getD 15 (.Pass ⟨0, 0, 0, 0⟩))
abbrev e_law_sales_16 : Lam3 := lamOf ((defBody s_law_sales).getD 16 (.Pass ⟨0, 0, 0, 0⟩))
abbrev e_law_sales_17 : Lam3 := lamOf ((defBody s_law_sales).getD 17 (.Pass ⟨0, 0, 0, 0⟩))
abbrev e_law_sales_18 : Lam3 := lamOf ((defBody s_law_sales).getD 18 (.Pass ⟨0, 0, 0, 0⟩))
abbrev e_law_sales_19 : Lam3 := lamOf ((defBody s_law_sales).getD 19 (.Pass ⟨0, 0, 0, 0⟩))
abbrev e_law_sales_20 : Lam3 := lamOf ((defBody s_law_sales).getD 20 (.Pass ⟨0, 0, 0, 0⟩))
abbrev e_law_sales_21 : Lam3 := lamOf ((defBody s_law_sales).getD 21 (.Pass ⟨0, 0, 0, 0⟩))
abbrev e_law_sales_22 : Lam3 := lamOf ((defBody s_law_sales).getD 22 (.Pass ⟨0, 0, 0, 0⟩))
abbrev e_law_bids_0 : Lam3 := lamOf ((defBody s_law_bids).getD 0 (.Pass ⟨0, 0, 0, 0⟩))
abbrev e_law_bids_1 : Lam3 := lamOf ((defBody s_law_bids).getD 1 (.Pass ⟨0, 0, 0, 0⟩))
abbrev e_law_bids_2 : Lam3 := lamOf ((defBody s_law_bids).getD 2 (.Pass ⟨0, 0, 0, 0⟩))
abbrev e_law_bids_3 : Lam3 := lamOf ((defBody s_law_bids).getD 3 (.Pass ⟨0, 0, 0, 0⟩))
abbrev e_law_bids_4 : Lam3 := lamOf ((defBody s_law_bids).getD 4 (.Pass ⟨0, 0, 0, 0⟩))
abbrev e_law_bids_5 : Lam3 := lamOf ((defBody s_law_bids).getD 5 (.Pass ⟨0, 0, 0, 0⟩))
abbrev e_law_bids_6 : Lam3 := lamOf ((defBody s_law_bids).getD 6 (.Pass ⟨0, 0, 0, 0⟩))
abbrev e_law_bids_7 : Lam3 := lamOf ((defBody s_law_bids).getD 7 (.Pass ⟨0, 0, 0, 0⟩))
abbrev e_law_bids_8 : Lam3 := lamOf ((defBody s_law_bids).getD 8 (.Pass ⟨0, 0, 0, 0⟩))
abbrev e_law_bids_9 : Lam3 := lamOf ((defBody s_law_bids).getD 9 (.Pass ⟨0, 0, 0, 0⟩))
abbrev e_law_bids_10 : Lam3 := lamOf ((defBody s_law_bids).getD 10 (.Pass ⟨0, 0, 0, 0⟩))
abbrev e_law_bids_11 : Lam3 := lamOf ((defBody s_law_bids).getD 11 (.Pass ⟨0, 0, 0, 0⟩))
abbrev e_law_bids_12 : Lam3 := lamOf ((defBody s_law_bids).getD 12 (.Pass ⟨0, 0, 0, 0⟩))
abbrev e_law_bids_13 : Lam3 := lamOf ((defBody s_law_bids).getD 13 (.Pass ⟨0, 0, 0, 0⟩))
abbrev e_law_bids_14 : Lam3 := lamOf ((defBody s_law_bids).getD 14 (.Pass ⟨0, 0, 0, 0⟩))
abbrev e_law_bids_15 : Lam3 := lamOf ((defBody s_law_bids).getD 15 (.Pass ⟨0, 0, 0, 0⟩))
abbrev e_law_bids_16 : Lam3 := lamOf ((defBody s_law_bids).getD 16 (.Pass ⟨0, 0, 0, 0⟩))
abbrev e_law_bids_17 : Lam3 := lamOf ((defBody s_law_bids).getD 17 (.Pass ⟨0, 0, 0, 0⟩))
abbrev e_law_bids_18 : Lam3 := lamOf ((defBody s_law_bids).getD 18 (.Pass ⟨0, 0, 0, 0⟩))
abbrev e_law_bids_19 : Lam3 := lamOf ((defBody s_law_bids).getD 19 (.Pass ⟨0, 0, 0, 0⟩))
abbrev e_law_bids_20 : Lam3 := lamOf ((defBody s_law_bids).getD 20 (.Pass ⟨0, 0, 0, 0⟩))
abbrev e_law_bids_21 : Lam3 := lamOf ((defBody s_law_bids).getD 21 (.Pass ⟨0, 0, 0, 0⟩))
abbrev e_law_6 : Lam3 := lamOf ((defBody s_law).getD 6 (.Pass ⟨0, 0, 0, 0⟩))
abbrev e_law_7 : Lam3 := lamOf ((defBody s_law).getD 7 (.Pass ⟨0, 0, 0, 0⟩))
abbrev e_law_8 : Lam3 := lamOf ((defBody s_law).getD 8 (.Pass ⟨0, 0, 0, 0⟩))
abbrev e_law_9 : Lam3 := lamOf ((defBody s_law).getD 9 (.Pass ⟨0, 0, 0, 0⟩))
abbrev e_law_11 : Lam3 := lamOf ((defBody s_law).getD 11 (.Pass ⟨0, 0, 0, 0⟩))
abbrev e_law_12 : Lam3 := lamOf ((defBody s_law).getD 12 (.Pass ⟨0, 0, 0, 0⟩))
abbrev e_law_13 : Lam3 := lamOf ((defBody s_law).getD 13 (.Pass ⟨0, 0, 0, 0⟩))
abbrev e_law_14 : Lam3 := lamOf ((defBody s_law).getD 14 (.Pass ⟨0, 0, 0, 0⟩))
abbrev e_law_15 : Lam3 := lamOf ((defBody s_law).getD 15 (.Pass ⟨0, 0, 0, 0⟩))
abbrev e_law_16 : Lam3 := lamOf ((defBody s_law).getD 16 (.Pass ⟨0, 0, 0, 0⟩))
abbrev e_law_17 : Lam3 := lamOf ((defBody s_law).getD 17 (.Pass ⟨0, 0, 0, 0⟩))
abbrev e_law_18 : Lam3 := lamOf ((defBody s_law).getD 18 (.Pass ⟨0, 0, 0, 0⟩))
abbrev e_law_19 : Lam3 := lamOf ((defBody s_law).getD 19 (.Pass ⟨0, 0, 0, 0⟩))
abbrev e_law_20 : Lam3 := lamOf ((defBody s_law).getD 20 (.Pass ⟨0, 0, 0, 0⟩))
abbrev e_law_21 : Lam3 := lamOf ((defBody s_law).getD 21 (.Pass ⟨0, 0, 0, 0⟩))
abbrev e_law_22 : Lam3 := lamOf ((defBody s_law).getD 22 (.Pass ⟨0, 0, 0, 0⟩))
abbrev e_law_23 : Lam3 := lamOf ((defBody s_law).getD 23 (.Pass ⟨0, 0, 0, 0⟩))
abbrev e_law_24 : Lam3 := lamOf ((defBody s_law).getD 24 (.Pass ⟨0, 0, 0, 0⟩))
def tf26 : List (Str × Option Str) := [("_law_sales", none), ("_law_bids", none), ("law", none)]
def qs26 : List ((Str × Option Str) × Str) := [(("_law_sales", none), "_law_sales" ++ ".<locals>." ++ "<lambda>"), (("_law_bids", none), "_law_bids" ++ ".<locals>." ++ "<lambda>"), (("law", none), "law" ++ ".<locals>." ++ "<lambda>")]
structure Fx (K : PySem.W.Frag) (mg : Str → Option Value) : Prop where
  z_ValueError : mg "ValueError" = none
  z_all : mg "all" = none
  z_bool : mg "bool" = none
  z_enumerate : mg "enumerate" = none
  z_int : mg "int" = none
  z_isinstance : mg "isinstance" = none
  z_len : mg "len" = none
  z_list : mg "list" = none
  z_max : mg "max" = none
  z_min : mg "min" = none
  z_range : mg "range" = none
  z_set : mg "set" = none
  z_sorted : mg "sorted" = none
  z_str : mg "str" = none
  z_tuple : mg "tuple" = none
  z_zip : mg "zip" = none
  e_InvalidBid : Exn K mg "InvalidBid"
  e_InvalidBidder : Exn K mg "InvalidBidder"
  e_InvalidBids : Exn K mg "InvalidBids"
  e_InvalidIndex : Exn K mg "InvalidIndex"
  e_InvalidPrice : Exn K mg "InvalidPrice"
  e_InvalidSale : Exn K mg "InvalidSale"
  e_Repeated : Exn K mg "Repeated"
  g_LETTERS : Glo K mg "LETTERS" (.str (PySem.Str.ofString "abcdef"))
  g_MAX_AMOUNT : Glo K mg "MAX_AMOUNT" (.int 200)
  g_MAX_BIDS : Glo K mg "MAX_BIDS" (.int 8)
  g_MAX_START : Glo K mg "MAX_START" (.int 100)
  g_MAX_STEP : Glo K mg "MAX_STEP" (.int 50)
  g_MAX_STEPS : Glo K mg "MAX_STEPS" (.int 4)
  g_NOBODY : Glo K mg "NOBODY" (.tuple [(.str (PySem.Str.ofString "")), (.int 0), (.int 0)])
  f_is_int : ∃ f fd, FnP K "is_int" s_is_int f fd ∧ mg "is_int" = some (.ref f)
  f_is_bidder : ∃ f fd, FnP K "is_bidder" s_is_bidder f fd ∧ mg "is_bidder" = some (.ref f)
  f_step_up : ∃ f fd, FnP K "step_up" s_step_up f fd ∧ mg "step_up" = some (.ref f)
  f_with_reserve : ∃ f fd, FnP K "with_reserve" s_with_reserve f fd ∧ mg "with_reserve" = some (.ref f)
  f_find_winner : ∃ f fd, FnP K "find_winner" s_find_winner f fd ∧ mg "find_winner" = some (.ref f)
  f_least_one : ∃ f fd, FnP K "least_one" s_least_one f fd ∧ mg "least_one" = some (.ref f)
  f_have_single : ∃ f fd, FnP K "have_single" s_have_single f fd ∧ mg "have_single" = some (.ref f)
  f_all_orders : ∃ f fd, FnP K "all_orders" s_all_orders f fd ∧ mg "all_orders" = some (.ref f)
  f_law_pick : ∃ f fd, FnP K "_law_pick" s_law_pick f fd ∧ mg "_law_pick" = some (.ref f)
  f_is_step : ∃ f fd, FnP K "is_step" s_is_step f fd ∧ mg "is_step" = some (.ref f)
  f_is_bid : ∃ f fd, FnP K "is_bid" s_is_bid f fd ∧ mg "is_bid" = some (.ref f)
  f_check_price : ∃ f fd, FnP K "check_price" s_check_price f fd ∧ mg "check_price" = some (.ref f)
  f_is_refused : ∃ f fd, FnP K "is_refused" s_is_refused f fd ∧ mg "is_refused" = some (.ref f)
  f_law_house : ∃ f fd, FnP K "_law_house" s_law_house f fd ∧ mg "_law_house" = some (.ref f)
  f_law_offers : ∃ f fd, FnP K "_law_offers" s_law_offers f fd ∧ mg "_law_offers" = some (.ref f)
  f_are_steps : ∃ f fd, FnP K "are_steps" s_are_steps f fd ∧ mg "are_steps" = some (.ref f)
  f_are_bids : ∃ f fd, FnP K "are_bids" s_are_bids f fd ∧ mg "are_bids" = some (.ref f)
  f_advance : ∃ f fd, FnP K "advance" s_advance f fd ∧ mg "advance" = some (.ref f)
  f_is_sale : ∃ f fd, FnP K "is_sale" s_is_sale f fd ∧ mg "is_sale" = some (.ref f)
  f_find_states : ∃ f fd, FnP K "find_states" s_find_states f fd ∧ mg "find_states" = some (.ref f)
  f_are_single : ∃ f fd, FnP K "are_single" s_are_single f fd ∧ mg "are_single" = some (.ref f)
  f_check_sale : ∃ f fd, FnP K "check_sale" s_check_sale f fd ∧ mg "check_sale" = some (.ref f)
  f_find_result : ∃ f fd, FnP K "find_result" s_find_result f fd ∧ mg "find_result" = some (.ref f)
  f_find_refused : ∃ f fd, FnP K "find_refused" s_find_refused f fd ∧ mg "find_refused" = some (.ref f)
  f_check_bids : ∃ f fd, FnP K "check_bids" s_check_bids f fd ∧ mg "check_bids" = some (.ref f)
  f_next_price : ∃ f fd, FnP K "next_price" s_next_price f fd ∧ mg "next_price" = some (.ref f)
  f_climb : ∃ f fd, FnP K "climb" s_climb f fd ∧ mg "climb" = some (.ref f)
  f_result_without : ∃ f fd, FnP K "result_without" s_result_without f fd ∧ mg "result_without" = some (.ref f)
  f_seen : ∃ f fd, FnP K "seen" s_seen f fd ∧ mg "seen" = some (.ref f)
  f_last_bid : ∃ f fd, FnP K "last_bid" s_last_bid f fd ∧ mg "last_bid" = some (.ref f)
  f_result : ∃ f fd, FnP K "result" s_result f fd ∧ mg "result" = some (.ref f)
  f_states : ∃ f fd, FnP K "states" s_states f fd ∧ mg "states" = some (.ref f)
  f_refused : ∃ f fd, FnP K "refused" s_refused f fd ∧ mg "refused" = some (.ref f)
  f_winner : ∃ f fd, FnP K "winner" s_winner f fd ∧ mg "winner" = some (.ref f)
  f_leads : ∃ f fd, FnP K "leads" s_leads f fd ∧ mg "leads" = some (.ref f)
  f_without_bid : ∃ f fd, FnP K "without_bid" s_without_bid f fd ∧ mg "without_bid" = some (.ref f)
  f_raisers : ∃ f fd, FnP K "raisers" s_raisers f fd ∧ mg "raisers" = some (.ref f)
  f_needless : ∃ f fd, FnP K "needless" s_needless f fd ∧ mg "needless" = some (.ref f)
  f_deciding : ∃ f fd, FnP K "deciding" s_deciding f fd ∧ mg "deciding" = some (.ref f)
  f_check_bidder : ∃ f fd, FnP K "check_bidder" s_check_bidder f fd ∧ mg "check_bidder" = some (.ref f)
  f_price_with : ∃ f fd, FnP K "price_with" s_price_with f fd ∧ mg "price_with" = some (.ref f)
  f_greatest_price : ∃ f fd, FnP K "greatest_price" s_greatest_price f fd ∧ mg "greatest_price" = some (.ref f)
  f_find_known : ∃ f fd, FnP K "find_known" s_find_known f fd ∧ mg "find_known" = some (.ref f)
  f_still_to_pay : ∃ f fd, FnP K "still_to_pay" s_still_to_pay f fd ∧ mg "still_to_pay" = some (.ref f)
  f_all_ends : ∃ f fd, FnP K "all_ends" s_all_ends f fd ∧ mg "all_ends" = some (.ref f)
  f_least_accepted : ∃ f fd, FnP K "least_accepted" s_least_accepted f fd ∧ mg "least_accepted" = some (.ref f)
  f_least_leading : ∃ f fd, FnP K "least_leading" s_least_leading f fd ∧ mg "least_leading" = some (.ref f)
  f_known_amount : ∃ f fd, FnP K "known_amount" s_known_amount f fd ∧ mg "known_amount" = some (.ref f)
  f_is_known : ∃ f fd, FnP K "is_known" s_is_known f fd ∧ mg "is_known" = some (.ref f)
  f_possible_winners : ∃ f fd, FnP K "possible_winners" s_possible_winners f fd ∧ mg "possible_winners" = some (.ref f)
  f_possible_prices : ∃ f fd, FnP K "possible_prices" s_possible_prices f fd ∧ mg "possible_prices" = some (.ref f)
  f_does_order_matter : ∃ f fd, FnP K "does_order_matter" s_does_order_matter f fd ∧ mg "does_order_matter" = some (.ref f)
  f_dearest_order : ∃ f fd, FnP K "dearest_order" s_dearest_order f fd ∧ mg "dearest_order" = some (.ref f)
  f_cheapest_order : ∃ f fd, FnP K "cheapest_order" s_cheapest_order f fd ∧ mg "cheapest_order" = some (.ref f)
  xv : ExsV K mg "BidError" ["InvalidSale", "InvalidPrice", "InvalidBids", "Repeated", "InvalidBidder", "InvalidBid", "InvalidIndex"]
  dist : distB K qs26 = true
  f_law_class : ∃ f fd, FnP K "_law_class" s_law_class f fd ∧ mg "_law_class" = some (.ref f)
  f_law_result : ∃ f fd, FnP K "_law_result" s_law_result f fd ∧ mg "_law_result" = some (.ref f)
  f_law_all : ∃ f fd, FnP K "_law_all" s_law_all f fd ∧ mg "_law_all" = some (.ref f)
  c_law_sales : ∃ fd, FnP K "_law_sales" s_law_sales (He.fAd K ("_law_sales", none)) fd ∧ mg "_law_sales" = some (.ref (He.fAd K ("_law_sales", none)))
  f_law_sales : ∃ f fd, FnP K "_law_sales" s_law_sales f fd ∧ mg "_law_sales" = some (.ref f)
  c_law_bids : ∃ fd, FnP K "_law_bids" s_law_bids (He.fAd K ("_law_bids", none)) fd ∧ mg "_law_bids" = some (.ref (He.fAd K ("_law_bids", none)))
  f_law_bids : ∃ f fd, FnP K "_law_bids" s_law_bids f fd ∧ mg "_law_bids" = some (.ref f)
  c_law : ∃ fd, FnP K "law" s_law (He.fAd K ("law", none)) fd ∧ mg "law" = some (.ref (He.fAd K ("law", none)))
  f_law : ∃ f fd, FnP K "law" s_law f fd ∧ mg "law" = some (.ref f)
theorem ok_is_int {P : Program} {w : World} {K : PySem.W.Frag} {mg : Str → Option Value} {base : Heap} (h : Fx K mg) : Dn P w K mg base 1 "is_int" 3 (mDef m_is_int 3) := by
  obtain ⟨f, fd, F, hg⟩ := h.f_is_int
  have hN := sc_is_int.nd
  refine dn_mk F sc_is_int hg (F.bindsN fun _ _ _ _ _ _ us hl => match us, hl with | [_, _, _], _ => rfl) (by decide) fun cdv A outer s H E hr => ?_
  unfold m_is_int
  exact (sb_one (ss_ret [] (se_and (se_isi .int (se_var 0) h.z_isinstance h.z_int) (se_and (se_not (se_isi .bool (se_var 0) h.z_isinstance h.z_bool)) (se_one (se_chain od_le od_le (se_var 1) (se_var 0) (se_var 2)))))))
theorem ok_is_bidder {P : Program} {w : World} {K : PySem.W.Frag} {mg : Str → Option Value} {base : Heap} (h : Fx K mg) : Dn P w K mg base 1 "is_bidder" 1 (mDef m_is_bidder 1) := by
  obtain ⟨f, fd, F, hg⟩ := h.f_is_bidder
  have hN := sc_is_bidder.nd
  refine dn_mk F sc_is_bidder hg (F.bindsN fun _ _ _ _ _ _ us hl => match us, hl with | [_], _ => rfl) (by decide) fun cdv A outer s H E hr => ?_
  unfold m_is_bidder
  exact (sb_one (ss_ret [] (se_and (se_isi .str (se_var 0) h.z_isinstance h.z_str) (se_and (se_cmp (od_eq hr) (se_bi cd_len h.z_len (sa_cons (se_var 0) sa_nil)) se_int) (se_one (se_cmp (od_in hr) (se_var 0) (se_glob h.g_LETTERS)))))))
theorem ok_step_up {P : Program} {w : World} {K : PySem.W.Frag} {mg : Str → Option Value} {base : Heap} (h : Fx K mg) : Dn P w K mg base 1 "step_up" 2 (mDef m_step_up 4) := by
  obtain ⟨f, fd, F, hg⟩ := h.f_step_up
  have hN := sc_step_up.nd
  refine dn_mk F sc_step_up hg (F.bindsN fun _ _ _ _ _ _ us hl => match us, hl with | [_, _], _ => rfl) (by decide) fun cdv A outer s H E hr => ?_
  unfold m_step_up
  exact (sb_one (ss_ret [] (se_op od_add (se_var 1) (se_ix id_ix (se_l (sl_lc (own := [((PySem.Str.ofString "bound"), 2), ((PySem.Str.ofString "step"), 3)]) (is := [2, 3]) rfl hN (si_val (se_ix id_ix (se_var 0) se_int)) (blkc (N := ["sale", "price", "bound", "step"]) (sc := (defScope s_step_up)) (by decide +kernel)) (fun _ _ _ _ _ => (sg_tup rfl (sgs_cons (sg_name 2 hN) (sgs_cons (sg_name 3 hN) sgs_nil)))) (fun _ _ _ _ _ => (sts_one (st_cmp od_le (se_var 2) (se_var 1)))) (fun _ _ _ _ _ => (se_var 3)) (by decide))) (se_neg se_int)))))
theorem ok_with_reserve {P : Program} {w : World} {K : PySem.W.Frag} {mg : Str → Option Value} {base : Heap} (h : Fx K mg) : Dn P w K mg base 1 "with_reserve" 2 (mDef m_with_reserve 5) := by
  obtain ⟨f, fd, F, hg⟩ := h.f_with_reserve
  have hN := sc_with_reserve.nd
  refine dn_mk F sc_with_reserve hg (F.bindsN fun _ _ _ _ _ _ us hl => match us, hl with | [_, _], _ => rfl) (by decide) fun cdv A outer s H E hr => ?_
  unfold m_with_reserve
  exact (sb_cons (ss_asg [] (se_var 1) (sg_tup rfl (sgs_cons (sg_name 2 hN) (sgs_cons (sg_name 3 hN) (sgs_cons (sg_name 4 hN) sgs_nil)))))
    (sb_one (ss_ret [] (se_if (st_cmp od_ge (se_var 4) (se_ix id_ix (se_var 0) se_int)) (se_tup (sa_cons (se_var 2) (sa_cons (se_bi (cd_max rfl) h.z_max (sa_cons (se_var 3) (sa_cons (se_ix id_ix (se_var 0) se_int) sa_nil))) (sa_cons (se_var 4) sa_nil)))) (se_var 1)))))
theorem ok_find_winner {P : Program} {w : World} {K : PySem.W.Frag} {mg : Str → Option Value} {base : Heap} (h : Fx K mg) : Dn P w K mg base 1 "find_winner" 2 (mDef m_find_winner 2) := by
  obtain ⟨f, fd, F, hg⟩ := h.f_find_winner
  have hN := sc_find_winner.nd
  refine dn_mk F sc_find_winner hg (F.bindsN fun _ _ _ _ _ _ us hl => match us, hl with | [_, _], _ => rfl) (by decide) fun cdv A outer s H E hr => ?_
  unfold m_find_winner
  exact (sb_one (ss_ret [] (se_if (st_w (sw_and (st_cmp (od_ne hr) (se_ix id_ix (se_var 1) se_int) se_str) (sw_and1 (st_cmp od_ge (se_ix id_ix (se_var 1) se_int) (se_ix id_ix (se_var 0) se_int))))) (se_ix id_ix (se_var 1) se_int) se_non)))
theorem ok_least_one {P : Program} {w : World} {K : PySem.W.Frag} {mg : Str → Option Value} {base : Heap} (h : Fx K mg) : Dn P w K mg base 1 "least_one" 1 (mDef m_least_one 1) := by
  obtain ⟨f, fd, F, hg⟩ := h.f_least_one
  have hN := sc_least_one.nd
  refine dn_mk F sc_least_one hg (F.bindsN fun _ _ _ _ _ _ us hl => match us, hl with | [_], _ => rfl) (by decide) fun cdv A outer s H E hr => ?_
  unfold m_least_one
  exact (sb_one (ss_ret [] (se_if (st_cmp (od_ne hr) (se_var 0) (se_l (sl_lst sa_nil))) (se_ix id_ix (se_var 0) se_int) se_non)))
theorem ok_have_single {P : Program} {w : World} {K : PySem.W.Frag} {mg : Str → Option Value} {base : Heap} (h : Fx K mg) : Dn P w K mg base 1 "have_single" 1 (mDef m_have_single 2) := by
  obtain ⟨f, fd, F, hg⟩ := h.f_have_single
  have hN := sc_have_single.nd
  refine dn_mk F sc_have_single hg (F.bindsN fun _ _ _ _ _ _ us hl => match us, hl with | [_], _ => rfl) (by decide) fun cdv A outer s H E hr => ?_
  unfold m_have_single
  exact (sb_one (ss_ret [] (se_cmp (od_eq hr) (se_lensetT rfl h.z_len h.z_set (se_l (sl_lc (own := [((PySem.Str.ofString "bid"), 1)]) (is := [1]) rfl hN (si_val (se_var 0)) (blkc (N := ["bids", "bid"]) (sc := (defScope s_have_single)) (by decide +kernel)) (fun _ _ _ _ _ => (sg_name 1 hN)) (fun _ _ _ _ _ => sts_nil) (fun _ _ _ _ _ => (se_ix id_ix (se_var 1) se_int)) (by decide)))) (se_bi cd_len h.z_len (sa_cons (se_var 0) sa_nil)))))
theorem ok_all_orders {P : Program} {w : World} {K : PySem.W.Frag} {mg : Str → Option Value} {base : Heap} (h : Fx K mg) : Dn P w K mg base 1 "all_orders" 1 (mDef m_all_orders 5) := by
  obtain ⟨f, fd, F, hg⟩ := h.f_all_orders
  have hN := sc_all_orders.nd
  refine dn_mk F sc_all_orders hg (F.bindsN fun _ _ _ _ _ _ us hl => match us, hl with | [_], _ => rfl) (by decide) fun cdv A outer s H E hr => ?_
  unfold m_all_orders
  exact (sb_cons (ss_set 1 [] (se_l (sl_lst (sa_cons (se_l (sl_lst sa_nil)) sa_nil))) hN)
    (sb_cons (ss_for [] (passes_of rfl) rfl (si_range1 h.z_range (sa_cons (se_bi cd_len h.z_len (sa_cons (se_var 0) sa_nil)) sa_nil)) (sg_name 2 hN) (sb_one (ss_setLc2 1 [] (own := [((PySem.Str.ofString "begun"), 3), ((PySem.Str.ofString "bid"), 4)]) (is := [3]) (is1 := [4]) (vs1 := [4]) rfl hN (si_val (se_var 1)) (blkc (N := ["bids", "found", "turn", "begun", "bid"]) (sc := (defScope s_all_orders)) (by decide +kernel)) (fun _ _ _ _ _ => (sg_name 3 hN)) (fun _ _ _ _ _ => sts_nil) (fun _ _ _ _ _ => (si_val (se_var 0))) (fun _ _ _ _ _ => (sg_name 4 hN)) (fun _ _ _ _ _ => (sts_one (st_cmp (od_notin hr) (se_var 4) (se_var 3)))) (fun _ _ _ _ _ => (se_op od_add (se_var 3) (se_l (sl_lst (sa_cons (se_var 4) sa_nil))))) (by decide) (by decide) (by decide))))
    (sb_one (ss_ret [] (se_var 1)))))
theorem ok_law_pick {P : Program} {w : World} {K : PySem.W.Frag} {mg : Str → Option Value} {base : Heap} (h : Fx K mg) : Dn P w K mg base 1 "_law_pick" 3 (mDef m_law_pick 7) := by
  obtain ⟨f, fd, F, hg⟩ := h.f_law_pick
  have hN := sc_law_pick.nd
  refine dn_mk F sc_law_pick hg (F.bindsN fun _ _ _ _ _ _ us hl => match us, hl with | [_, _, _], _ => rfl) (by decide) fun cdv A outer s H E hr => ?_
  unfold m_law_pick
  exact (sb_cons (ss_set 3 [] (se_if (st_cmp (od_ne hr) (se_var 0) (se_l (sl_lst sa_nil))) (se_ix id_ix (se_var 0) (se_op od_mod (se_var 1) (se_bi cd_len h.z_len (sa_cons (se_var 0) sa_nil)))) se_int) hN)
    (sb_cons (ss_par2 5 6 [] rfl hN (sp_v (se_op od_div (se_var 3) (se_op od_pow se_int se_int)) (sp_v (se_op od_div (se_var 1) (se_bi (cd_max rfl) h.z_max (sa_cons (se_bi cd_len h.z_len (sa_cons (se_var 0) sa_nil)) (sa_cons se_int sa_nil)))) sp_nil)))
    (sb_cons (ss_while 1000 [] (passes_of rfl) (st_w (sw_and (st_cmp od_gt (se_var 5) se_int) (sw_and1 (st_cmp od_gt (se_var 6) se_int)))) (sb_one (ss_par2 5 6 [] rfl hN (sp_v (se_op od_div (se_var 5) se_int) (sp_v (se_op od_sub (se_var 6) se_int) sp_nil)))))
    (sb_cons (ss_if [] (st_cmp od_gt (se_var 5) se_int) (sb_one (ss_ret [] (se_op od_mod (se_op od_mod (se_var 5) se_int) (se_var 2)))) sb_nil)
    (sb_cons (ss_set 4 [] (se_op od_mod (se_op od_mul (se_op od_add (se_op od_mul (se_var 3) se_int) (se_op od_mul se_int (se_op od_add (se_var 1) se_int))) se_int) se_int) hN)
    (sb_one (ss_ret [] (se_op od_mod (se_op od_mod (se_op od_add (se_op od_mul (se_var 4) (se_var 4)) (se_op od_div (se_var 4) se_int)) se_int) (se_var 2)))))))))
theorem ok_is_step {P : Program} {w : World} {K : PySem.W.Frag} {mg : Str → Option Value} {base : Heap} (h : Fx K mg) : Dn P w K mg base 2 "is_step" 1 (mDef m_is_step 1) := by
  obtain ⟨f, fd, F, hg⟩ := h.f_is_step
  have hN := sc_is_step.nd
  refine dn_mk F sc_is_step hg (F.bindsN fun _ _ _ _ _ _ us hl => match us, hl with | [_], _ => rfl) (by decide) fun cdv A outer s H E hr => ?_
  unfold m_is_step
  exact (sb_cons (ss_if [] (st_w (sw_or (st_not (st_val (se_isi .tuple (se_var 0) h.z_isinstance h.z_tuple))) (sw_or1 (st_cmp (od_ne hr) (se_bi cd_len h.z_len (sa_cons (se_var 0) sa_nil)) se_int)))) (sb_one (ss_ret [] se_bl)) sb_nil)
    (sb_one (ss_ret [] (se_and (se_call ((ok_is_int h).mono (k := 1) (by decide)) hr (passes_call (takes_of rfl rfl rfl rfl) (fun _ _ _ _ h => h)) (sa_cons (se_ix id_ix (se_var 0) se_int) (sa_cons se_int (sa_cons (se_glob h.g_MAX_AMOUNT) sa_nil)))) (se_one (se_call ((ok_is_int h).mono (k := 1) (by decide)) hr (passes_call (takes_of rfl rfl rfl rfl) (fun _ _ _ _ h => h)) (sa_cons (se_ix id_ix (se_var 0) se_int) (sa_cons se_int (sa_cons (se_glob h.g_MAX_STEP) sa_nil)))))))))
theorem ok_is_bid {P : Program} {w : World} {K : PySem.W.Frag} {mg : Str → Option Value} {base : Heap} (h : Fx K mg) : Dn P w K mg base 2 "is_bid" 1 (mDef m_is_bid 1) := by
  obtain ⟨f, fd, F, hg⟩ := h.f_is_bid
  have hN := sc_is_bid.nd
  refine dn_mk F sc_is_bid hg (F.bindsN fun _ _ _ _ _ _ us hl => match us, hl with | [_], _ => rfl) (by decide) fun cdv A outer s H E hr => ?_
  unfold m_is_bid
  exact (sb_cons (ss_if [] (st_w (sw_or (st_not (st_val (se_isi .tuple (se_var 0) h.z_isinstance h.z_tuple))) (sw_or1 (st_cmp (od_ne hr) (se_bi cd_len h.z_len (sa_cons (se_var 0) sa_nil)) se_int)))) (sb_one (ss_ret [] se_bl)) sb_nil)
    (sb_one (ss_ret [] (se_and (se_call ((ok_is_bidder h).mono (k := 1) (by decide)) hr (passes_call (takes_of rfl rfl rfl rfl) (fun _ _ _ _ h => h)) (sa_cons (se_ix id_ix (se_var 0) se_int) sa_nil)) (se_one (se_call ((ok_is_int h).mono (k := 1) (by decide)) hr (passes_call (takes_of rfl rfl rfl rfl) (fun _ _ _ _ h => h)) (sa_cons (se_ix id_ix (se_var 0) se_int) (sa_cons se_int (sa_cons (se_glob h.g_MAX_AMOUNT) sa_nil)))))))))
theorem ok_check_price {P : Program} {w : World} {K : PySem.W.Frag} {mg : Str → Option Value} {base : Heap} (h : Fx K mg) : Dn P w K mg base 2 "check_price" 1 (mDef m_check_price 1) := by
  obtain ⟨f, fd, F, hg⟩ := h.f_check_price
  have hN := sc_check_price.nd
  refine dn_mk F sc_check_price hg (F.bindsN fun _ _ _ _ _ _ us hl => match us, hl with | [_], _ => rfl) (by decide) fun cdv A outer s H E hr => ?_
  unfold m_check_price
  exact (sb_one (ss_if [] (st_not (st_val (se_call ((ok_is_int h).mono (k := 1) (by decide)) hr (passes_call (takes_of rfl rfl rfl rfl) (fun _ _ _ _ h => h)) (sa_cons (se_var 0) (sa_cons se_int (sa_cons (se_glob h.g_MAX_AMOUNT) sa_nil)))))) (sb_one (ss_raise rfl (takes_of rfl rfl rfl rfl) h.e_InvalidPrice)) sb_nil))
theorem ok_is_refused {P : Program} {w : World} {K : PySem.W.Frag} {mg : Str → Option Value} {base : Heap} (h : Fx K mg) : Dn P w K mg base 2 "is_refused" 3 (mDef m_is_refused 6) := by
  obtain ⟨f, fd, F, hg⟩ := h.f_is_refused
  have hN := sc_is_refused.nd
  refine dn_mk F sc_is_refused hg (F.bindsN fun _ _ _ _ _ _ us hl => match us, hl with | [_, _, _], _ => rfl) (by decide) fun cdv A outer s H E hr => ?_
  unfold m_is_refused
  exact (sb_cons (ss_asg [] (se_var 1) (sg_tup rfl (sgs_cons (sg_name 3 hN) (sgs_cons (sg_name 4 hN) (sgs_cons (sg_name 5 hN) sgs_nil)))))
    (sb_cons (ss_if [] (st_cmp (od_eq hr) (se_var 3) se_str) (sb_one (ss_ret [] (se_cmp od_lt (se_ix id_ix (se_var 2) se_int) (se_ix id_ix (se_var 0) se_int)))) sb_nil)
    (sb_cons (ss_if [] (st_cmp (od_eq hr) (se_ix id_ix (se_var 2) se_int) (se_var 3)) (sb_one (ss_ret [] (se_cmp od_le (se_ix id_ix (se_var 2) se_int) (se_var 5)))) sb_nil)
    (sb_one (ss_ret [] (se_cmp od_lt (se_ix id_ix (se_var 2) se_int) (se_call ((ok_step_up h).mono (k := 1) (by decide)) hr (passes_call (takes_of rfl rfl rfl rfl) (fun _ _ _ _ h => h)) (sa_cons (se_var 0) (sa_cons (se_var 4) sa_nil)))))))))
theorem ok_law_house {P : Program} {w : World} {K : PySem.W.Frag} {mg : Str → Option Value} {base : Heap} (h : Fx K mg) : Dn P w K mg base 2 "_law_house" 2 (mDef m_law_house 7) := by
  obtain ⟨f, fd, F, hg⟩ := h.f_law_house
  have hN := sc_law_house.nd
  refine dn_mk F sc_law_house hg (F.bindsN fun _ _ _ _ _ _ us hl => match us, hl with | [_, _], _ => rfl) (by decide) fun cdv A outer s H E hr => ?_
  unfold m_law_house
  exact (sb_cons (ss_par3 4 5 6 [] rfl hN (sp_o (sl_lst sa_nil) (sp_v se_int (sp_v se_int sp_nil))))
    (sb_cons (ss_for [] (passes_of rfl) rfl (si_range1 h.z_range (sa_cons (se_op od_add se_int (se_call ((ok_law_pick h).mono (k := 1) (by decide)) hr (passes_call (takes_of rfl rfl rfl rfl) (fun _ _ _ _ h => h)) (sa_cons (se_var 0) (sa_cons (se_var 1) (sa_cons se_int sa_nil))))) sa_nil)) (sg_name 2 hN) (sb_cons (ss_set 6 [] (se_op od_add (se_op od_add (se_var 6) se_int) (se_call ((ok_law_pick h).mono (k := 1) (by decide)) hr (passes_call (takes_of rfl rfl rfl rfl) (fun _ _ _ _ h => h)) (sa_cons (se_var 0) (sa_cons (se_op od_add (se_op od_add (se_var 1) se_int) (se_op od_mul se_int (se_var 2))) (sa_cons se_int sa_nil))))) hN)
    (sb_cons (ss_app 4 [] (se_tup (sa_cons (se_var 5) (sa_cons (se_var 6) sa_nil))))
    (sb_one (ss_set 5 [] (se_op od_add (se_op od_add (se_var 5) se_int) (se_call ((ok_law_pick h).mono (k := 1) (by decide)) hr (passes_call (takes_of rfl rfl rfl rfl) (fun _ _ _ _ h => h)) (sa_cons (se_var 0) (sa_cons (se_op od_add (se_op od_add (se_var 1) se_int) (se_op od_mul se_int (se_var 2))) (sa_cons se_int sa_nil))))) hN)))))
    (sb_cons (ss_set 3 [] (se_op od_add se_int (se_call ((ok_law_pick h).mono (k := 1) (by decide)) hr (passes_call (takes_of rfl rfl rfl rfl) (fun _ _ _ _ h => h)) (sa_cons (se_var 0) (sa_cons (se_op od_add (se_var 1) se_int) (sa_cons se_int sa_nil))))) hN)
    (sb_one (ss_ret [4] (se_tup (sa_cons (se_bt cd_tuple h.z_tuple (sa_cons (se_var 4) sa_nil)) (sa_cons (se_var 3) (sa_cons (se_op od_add (se_var 3) (se_ix id_ix (se_tup (sa_cons se_int (sa_cons se_int (sa_cons se_int (sa_cons se_int (sa_cons se_int sa_nil)))))) (se_call ((ok_law_pick h).mono (k := 1) (by decide)) hr (passes_call (takes_of rfl rfl rfl rfl) (fun _ _ _ _ h => h)) (sa_cons (se_var 0) (sa_cons (se_op od_add (se_var 1) se_int) (sa_cons se_int sa_nil)))))) sa_nil)))))))))
theorem ok_law_offers {P : Program} {w : World} {K : PySem.W.Frag} {mg : Str → Option Value} {base : Heap} (h : Fx K mg) : Dn P w K mg base 2 "_law_offers" 4 (mDef m_law_offers 8) := by
  obtain ⟨f, fd, F, hg⟩ := h.f_law_offers
  have hN := sc_law_offers.nd
  refine dn_mk F sc_law_offers hg (F.bindsN fun _ _ _ _ _ _ us hl => match us, hl with | [_, _, _, _], _ => rfl) (by decide) fun cdv A outer s H E hr => ?_
  unfold m_law_offers
  exact (sb_cons (ss_own 4 [] (sl_lst sa_nil) hN)
    (sb_cons (ss_for [] (passes_of rfl) rfl (si_range1 h.z_range (sa_cons (se_call ((ok_law_pick h).mono (k := 1) (by decide)) hr (passes_call (takes_of rfl rfl rfl rfl) (fun _ _ _ _ h => h)) (sa_cons (se_var 0) (sa_cons (se_var 1) (sa_cons (se_op od_add (se_var 2) se_int) sa_nil)))) sa_nil)) (sg_name 5 hN) (sb_cons (ss_set 6 [] (se_ix id_ix se_str (se_if (st_val (se_var 3)) (se_var 5) (se_call ((ok_law_pick h).mono (k := 1) (by decide)) hr (passes_call (takes_of rfl rfl rfl rfl) (fun _ _ _ _ h => h)) (sa_cons (se_var 0) (sa_cons (se_op od_add (se_op od_add (se_var 1) se_int) (se_op od_mul se_int (se_var 5))) (sa_cons se_int sa_nil)))))) hN)
    (sb_cons (ss_set 7 [] (se_op od_add se_int (se_call ((ok_law_pick h).mono (k := 1) (by decide)) hr (passes_call (takes_of rfl rfl rfl rfl) (fun _ _ _ _ h => h)) (sa_cons (se_var 0) (sa_cons (se_op od_add (se_op od_add (se_var 1) se_int) (se_op od_mul se_int (se_var 5))) (sa_cons se_int sa_nil))))) hN)
    (sb_cons (ss_if [] (st_w (sw_and (st_cmp od_gt (se_var 5) se_int) (sw_and1 (st_cmp (od_eq hr) (se_call ((ok_law_pick h).mono (k := 1) (by decide)) hr (passes_call (takes_of rfl rfl rfl rfl) (fun _ _ _ _ h => h)) (sa_cons (se_var 0) (sa_cons (se_op od_add (se_op od_add (se_var 1) se_int) (se_op od_mul se_int (se_var 5))) (sa_cons se_int sa_nil)))) se_int)))) (sb_one (ss_set 7 [] (se_bi (cd_max rfl) h.z_max (sa_cons se_int (sa_cons (se_op od_sub (se_op od_add (se_ix id_ix (se_ixo 4 (se_neg se_int)) se_int) (se_call ((ok_law_pick h).mono (k := 1) (by decide)) hr (passes_call (takes_of rfl rfl rfl rfl) (fun _ _ _ _ h => h)) (sa_cons (se_var 0) (sa_cons (se_op od_add (se_op od_add (se_var 1) se_int) (se_op od_mul se_int (se_var 5))) (sa_cons se_int sa_nil))))) se_int) sa_nil))) hN)) sb_nil)
    (sb_one (ss_app 4 [] (se_tup (sa_cons (se_var 6) (sa_cons (se_var 7) sa_nil)))))))))
    (sb_one (ss_ret [4] (se_var 4)))))
theorem ok_are_steps {P : Program} {w : World} {K : PySem.W.Frag} {mg : Str → Option Value} {base : Heap} (h : Fx K mg) : Dn P w K mg base 3 "are_steps" 1 (mDef m_are_steps 5) := by
  obtain ⟨f, fd, F, hg⟩ := h.f_are_steps
  have hN := sc_are_steps.nd
  refine dn_mk F sc_are_steps hg (F.bindsN fun _ _ _ _ _ _ us hl => match us, hl with | [_], _ => rfl) (by decide) fun cdv A outer s H E hr => ?_
  unfold m_are_steps
  exact (sb_cons (ss_if [] (st_w (sw_or (st_not (st_val (se_isi .tuple (se_var 0) h.z_isinstance h.z_tuple))) (sw_or (st_not (st_chain od_le od_le se_int (se_bi cd_len h.z_len (sa_cons (se_var 0) sa_nil)) (se_glob h.g_MAX_STEPS))) (sw_or1 (st_not (st_val (se_bi (cd_all rfl) h.z_all (sa_cons (se_l (sl_lc (own := [((PySem.Str.ofString "step"), 4)]) (is := [4]) rfl hN (si_val (se_var 0)) (blkc (N := ["value", "rising", "one", "other", "step"]) (sc := (defScope s_are_steps)) (by decide +kernel)) (fun _ _ _ _ _ => (sg_name 4 hN)) (fun _ _ _ _ _ => sts_nil) (fun _ _ _ _ _ => (se_call ((ok_is_step h).mono (k := 2) (by decide)) hr passL (sa_cons (se_var 4) sa_nil))) (by decide))) sa_nil)))))))) (sb_one (ss_ret [] se_bl)) sb_nil)
    (sb_cons (ss_setLc 1 [] (own := [((PySem.Str.ofString "one"), 2), ((PySem.Str.ofString "other"), 3)]) (is := [2, 3]) rfl hN (si_zip h.z_zip (sa_cons (se_var 0) (sa_cons (se_slice (se_var 0) (so_some se_int) so_none) sa_nil))) (blkc (N := ["value", "rising", "one", "other", "step"]) (sc := (defScope s_are_steps)) (by decide +kernel)) (fun _ _ _ _ _ => (sg_tup rfl (sgs_cons (sg_name 2 hN) (sgs_cons (sg_name 3 hN) sgs_nil)))) (fun _ _ _ _ _ => sts_nil) (fun _ _ _ _ _ => (se_and (se_cmp od_lt (se_ix id_ix (se_var 2) se_int) (se_ix id_ix (se_var 3) se_int)) (se_one (se_cmp od_lt (se_ix id_ix (se_var 2) se_int) (se_ix id_ix (se_var 3) se_int))))) (by decide))
    (sb_one (ss_ret [] (se_and (se_cmp (od_eq hr) (se_ix id_ix (se_ix id_ix (se_var 0) se_int) se_int) se_int) (se_one (se_bi (cd_all rfl) h.z_all (sa_cons (se_var 1) sa_nil))))))))
theorem ok_are_bids {P : Program} {w : World} {K : PySem.W.Frag} {mg : Str → Option Value} {base : Heap} (h : Fx K mg) : Dn P w K mg base 3 "are_bids" 1 (mDef m_are_bids 2) := by
  obtain ⟨f, fd, F, hg⟩ := h.f_are_bids
  have hN := sc_are_bids.nd
  refine dn_mk F sc_are_bids hg (F.bindsN fun _ _ _ _ _ _ us hl => match us, hl with | [_], _ => rfl) (by decide) fun cdv A outer s H E hr => ?_
  unfold m_are_bids
  exact (sb_cons (ss_if [] (st_w (sw_or (st_not (st_val (se_isi .list (se_var 0) h.z_isinstance h.z_list))) (sw_or1 (st_cmp od_gt (se_bi cd_len h.z_len (sa_cons (se_var 0) sa_nil)) (se_glob h.g_MAX_BIDS))))) (sb_one (ss_ret [] se_bl)) sb_nil)
    (sb_one (ss_ret [] (se_bi (cd_all rfl) h.z_all (sa_cons (se_l (sl_lc (own := [((PySem.Str.ofString "bid"), 1)]) (is := [1]) rfl hN (si_val (se_var 0)) (blkc (N := ["candidate", "bid"]) (sc := (defScope s_are_bids)) (by decide +kernel)) (fun _ _ _ _ _ => (sg_name 1 hN)) (fun _ _ _ _ _ => sts_nil) (fun _ _ _ _ _ => (se_call ((ok_is_bid h).mono (k := 2) (by decide)) hr passL (sa_cons (se_var 1) sa_nil))) (by decide))) sa_nil)))))
theorem ok_advance {P : Program} {w : World} {K : PySem.W.Frag} {mg : Str → Option Value} {base : Heap} (h : Fx K mg) : Dn P w K mg base 3 "advance" 3 (mDef m_advance 6) := by
  obtain ⟨f, fd, F, hg⟩ := h.f_advance
  have hN := sc_advance.nd
  refine dn_mk F sc_advance hg (F.bindsN fun _ _ _ _ _ _ us hl => match us, hl with | [_, _, _], _ => rfl) (by decide) fun cdv A outer s H E hr => ?_
  unfold m_advance
  exact (sb_cons (ss_if [] (st_val (se_call ((ok_is_refused h).mono (k := 2) (by decide)) hr (passes_call (takes_of rfl rfl rfl rfl) (fun _ _ _ _ h => h)) (sa_cons (se_var 0) (sa_cons (se_var 1) (sa_cons (se_var 2) sa_nil))))) (sb_one (ss_ret [] (se_var 1))) sb_nil)
    (sb_cons (ss_asg [] (se_var 1) (sg_tup rfl (sgs_cons (sg_name 3 hN) (sgs_cons (sg_name 4 hN) (sgs_cons (sg_name 5 hN) sgs_nil)))))
    (sb_cons (ss_if [] (st_cmp (od_eq hr) (se_var 3) se_str) (sb_one (ss_ret [] (se_call ((ok_with_reserve h).mono (k := 2) (by decide)) hr (passes_call (takes_of rfl rfl rfl rfl) (fun _ _ _ _ h => h)) (sa_cons (se_var 0) (sa_cons (se_tup (sa_cons (se_ix id_ix (se_var 2) se_int) (sa_cons (se_ix id_ix (se_var 0) se_int) (sa_cons (se_ix id_ix (se_var 2) se_int) sa_nil)))) sa_nil))))) sb_nil)
    (sb_cons (ss_if [] (st_cmp (od_eq hr) (se_ix id_ix (se_var 2) se_int) (se_var 3)) (sb_one (ss_ret [] (se_call ((ok_with_reserve h).mono (k := 2) (by decide)) hr (passes_call (takes_of rfl rfl rfl rfl) (fun _ _ _ _ h => h)) (sa_cons (se_var 0) (sa_cons (se_tup (sa_cons (se_var 3) (sa_cons (se_var 4) (sa_cons (se_ix id_ix (se_var 2) se_int) sa_nil)))) sa_nil))))) sb_nil)
    (sb_cons (ss_if [] (st_cmp od_le (se_ix id_ix (se_var 2) se_int) (se_var 5)) (sb_one (ss_ret [] (se_call ((ok_with_reserve h).mono (k := 2) (by decide)) hr (passes_call (takes_of rfl rfl rfl rfl) (fun _ _ _ _ h => h)) (sa_cons (se_var 0) (sa_cons (se_tup (sa_cons (se_var 3) (sa_cons (se_bi (cd_min rfl) h.z_min (sa_cons (se_var 5) (sa_cons (se_call ((ok_step_up h).mono (k := 2) (by decide)) hr (passes_call (takes_of rfl rfl rfl rfl) (fun _ _ _ _ h => h)) (sa_cons (se_var 0) (sa_cons (se_ix id_ix (se_var 2) se_int) sa_nil))) sa_nil))) (sa_cons (se_var 5) sa_nil)))) sa_nil))))) sb_nil)
    (sb_one (ss_ret [] (se_call ((ok_with_reserve h).mono (k := 2) (by decide)) hr (passes_call (takes_of rfl rfl rfl rfl) (fun _ _ _ _ h => h)) (sa_cons (se_var 0) (sa_cons (se_tup (sa_cons (se_ix id_ix (se_var 2) se_int) (sa_cons (se_bi (cd_min rfl) h.z_min (sa_cons (se_ix id_ix (se_var 2) se_int) (sa_cons (se_call ((ok_step_up h).mono (k := 2) (by decide)) hr (passes_call (takes_of rfl rfl rfl rfl) (fun _ _ _ _ h => h)) (sa_cons (se_var 0) (sa_cons (se_var 5) sa_nil))) sa_nil))) (sa_cons (se_ix id_ix (se_var 2) se_int) sa_nil)))) sa_nil))))))))))
theorem ok_is_sale {P : Program} {w : World} {K : PySem.W.Frag} {mg : Str → Option Value} {base : Heap} (h : Fx K mg) : Dn P w K mg base 4 "is_sale" 1 (mDef m_is_sale 4) := by
  obtain ⟨f, fd, F, hg⟩ := h.f_is_sale
  have hN := sc_is_sale.nd
  refine dn_mk F sc_is_sale hg (F.bindsN fun _ _ _ _ _ _ us hl => match us, hl with | [_], _ => rfl) (by decide) fun cdv A outer s H E hr => ?_
  unfold m_is_sale
  exact (sb_cons (ss_if [] (st_w (sw_or (st_not (st_val (se_isi .tuple (se_var 0) h.z_isinstance h.z_tuple))) (sw_or (st_cmp (od_ne hr) (se_bi cd_len h.z_len (sa_cons (se_var 0) sa_nil)) se_int) (sw_or1 (st_not (st_val (se_call ((ok_are_steps h).mono (k := 3) (by decide)) hr (passes_call (takes_of rfl rfl rfl rfl) (fun _ _ _ _ h => h)) (sa_cons (se_ix id_ix (se_var 0) se_int) sa_nil)))))))) (sb_one (ss_ret [] se_bl)) sb_nil)
    (sb_cons (ss_asg [] (se_var 0) (sg_tup rfl (sgs_cons (sg_name 1 hN) (sgs_cons (sg_name 2 hN) (sgs_cons (sg_name 3 hN) sgs_nil)))))
    (sb_one (ss_ret [] (se_and (se_call ((ok_is_int h).mono (k := 3) (by decide)) hr (passes_call (takes_of rfl rfl rfl rfl) (fun _ _ _ _ h => h)) (sa_cons (se_var 2) (sa_cons se_int (sa_cons (se_glob h.g_MAX_START) sa_nil)))) (se_one (se_call ((ok_is_int h).mono (k := 3) (by decide)) hr (passes_call (takes_of rfl rfl rfl rfl) (fun _ _ _ _ h => h)) (sa_cons (se_var 3) (sa_cons (se_var 2) (sa_cons (se_glob h.g_MAX_AMOUNT) sa_nil))))))))))
theorem ok_find_states {P : Program} {w : World} {K : PySem.W.Frag} {mg : Str → Option Value} {base : Heap} (h : Fx K mg) : Dn P w K mg base 4 "find_states" 2 (mDef m_find_states 5) := by
  obtain ⟨f, fd, F, hg⟩ := h.f_find_states
  have hN := sc_find_states.nd
  refine dn_mk F sc_find_states hg (F.bindsN fun _ _ _ _ _ _ us hl => match us, hl with | [_, _], _ => rfl) (by decide) fun cdv A outer s H E hr => ?_
  unfold m_find_states
  exact (sb_cons (ss_par2 3 4 [] rfl hN (sp_o (sl_lst sa_nil) (sp_v (se_glob h.g_NOBODY) sp_nil)))
    (sb_cons (ss_for [] (passes_of rfl) rfl (si_val (se_var 1)) (sg_name 2 hN) (sb_cons (ss_set 4 [] (se_call ((ok_advance h).mono (k := 3) (by decide)) hr (passes_call (takes_of rfl rfl rfl rfl) (fun _ _ _ _ h => h)) (sa_cons (se_var 0) (sa_cons (se_var 4) (sa_cons (se_var 2) sa_nil)))) hN)
    (sb_one (ss_app 3 [] (se_var 4)))))
    (sb_one (ss_ret [3] (se_var 3)))))
theorem ok_are_single {P : Program} {w : World} {K : PySem.W.Frag} {mg : Str → Option Value} {base : Heap} (h : Fx K mg) : Dn P w K mg base 4 "are_single" 1 (mDef m_are_single 1) := by
  obtain ⟨f, fd, F, hg⟩ := h.f_are_single
  have hN := sc_are_single.nd
  refine dn_mk F sc_are_single hg (F.bindsN fun _ _ _ _ _ _ us hl => match us, hl with | [_], _ => rfl) (by decide) fun cdv A outer s H E hr => ?_
  unfold m_are_single
  exact (sb_cons (ss_if [] (st_not (st_val (se_call ((ok_are_bids h).mono (k := 3) (by decide)) hr (passes_call (takes_of rfl rfl rfl rfl) (fun _ _ _ _ h => h)) (sa_cons (se_var 0) sa_nil)))) (sb_one (ss_raise rfl (takes_of rfl rfl rfl rfl) h.e_InvalidBids)) sb_nil)
    (sb_one (ss_ret [] (se_call ((ok_have_single h).mono (k := 3) (by decide)) hr (passes_call (takes_of rfl rfl rfl rfl) (fun _ _ _ _ h => h)) (sa_cons (se_var 0) sa_nil)))))
theorem ok_check_sale {P : Program} {w : World} {K : PySem.W.Frag} {mg : Str → Option Value} {base : Heap} (h : Fx K mg) : Dn P w K mg base 5 "check_sale" 1 (mDef m_check_sale 1) := by
  obtain ⟨f, fd, F, hg⟩ := h.f_check_sale
  have hN := sc_check_sale.nd
  refine dn_mk F sc_check_sale hg (F.bindsN fun _ _ _ _ _ _ us hl => match us, hl with | [_], _ => rfl) (by decide) fun cdv A outer s H E hr => ?_
  unfold m_check_sale
  exact (sb_one (ss_if [] (st_not (st_val (se_call ((ok_is_sale h).mono (k := 4) (by decide)) hr (passes_call (takes_of rfl rfl rfl rfl) (fun _ _ _ _ h => h)) (sa_cons (se_var 0) sa_nil)))) (sb_one (ss_raise rfl (takes_of rfl rfl rfl rfl) h.e_InvalidSale)) sb_nil))
theorem ok_find_result {P : Program} {w : World} {K : PySem.W.Frag} {mg : Str → Option Value} {base : Heap} (h : Fx K mg) : Dn P w K mg base 5 "find_result" 2 (mDef m_find_result 2) := by
  obtain ⟨f, fd, F, hg⟩ := h.f_find_result
  have hN := sc_find_result.nd
  refine dn_mk F sc_find_result hg (F.bindsN fun _ _ _ _ _ _ us hl => match us, hl with | [_, _], _ => rfl) (by decide) fun cdv A outer s H E hr => ?_
  unfold m_find_result
  exact (sb_one (ss_ret [] (se_ix id_ix (se_op od_add (se_l (sl_lst (sa_cons (se_glob h.g_NOBODY) sa_nil))) (se_call ((ok_find_states h).mono (k := 4) (by decide)) hr (passes_call (takes_of rfl rfl rfl rfl) (fun _ _ _ _ h => h)) (sa_cons (se_var 0) (sa_cons (se_var 1) sa_nil)))) (se_neg se_int))))
theorem ok_find_refused {P : Program} {w : World} {K : PySem.W.Frag} {mg : Str → Option Value} {base : Heap} (h : Fx K mg) : Dn P w K mg base 5 "find_refused" 2 (mDef m_find_refused 5) := by
  obtain ⟨f, fd, F, hg⟩ := h.f_find_refused
  have hN := sc_find_refused.nd
  refine dn_mk F sc_find_refused hg (F.bindsN fun _ _ _ _ _ _ us hl => match us, hl with | [_, _], _ => rfl) (by decide) fun cdv A outer s H E hr => ?_
  unfold m_find_refused
  exact (sb_cons (ss_set 2 [] (se_op od_add (se_l (sl_lst (sa_cons (se_glob h.g_NOBODY) sa_nil))) (se_call ((ok_find_states h).mono (k := 4) (by decide)) hr (passes_call (takes_of rfl rfl rfl rfl) (fun _ _ _ _ h => h)) (sa_cons (se_var 0) (sa_cons (se_var 1) sa_nil)))) hN)
    (sb_one (ss_ret [] (se_l (sl_lc (own := [((PySem.Str.ofString "index"), 3), ((PySem.Str.ofString "bid"), 4)]) (is := [3, 4]) rfl hN (si_enum h.z_enumerate (sa_cons (se_var 1) sa_nil)) (blkc (N := ["sale", "bids", "known", "index", "bid"]) (sc := (defScope s_find_refused)) (by decide +kernel)) (fun _ _ _ _ _ => (sg_tup rfl (sgs_cons (sg_name 3 hN) (sgs_cons (sg_name 4 hN) sgs_nil)))) (fun _ _ _ _ _ => (sts_one (st_val (se_call ((ok_is_refused h).mono (k := 4) (by decide)) hr passL (sa_cons (se_var 0) (sa_cons (se_ix id_ix (se_var 2) (se_var 3)) (sa_cons (se_var 4) sa_nil))))))) (fun _ _ _ _ _ => (se_var 3)) (by decide))))))
theorem ok_check_bids {P : Program} {w : World} {K : PySem.W.Frag} {mg : Str → Option Value} {base : Heap} (h : Fx K mg) : Dn P w K mg base 6 "check_bids" 2 (mDef m_check_bids 2) := by
  obtain ⟨f, fd, F, hg⟩ := h.f_check_bids
  have hN := sc_check_bids.nd
  refine dn_mk F sc_check_bids hg (F.bindsN fun _ _ _ _ _ _ us hl => match us, hl with | [_, _], _ => rfl) (by decide) fun cdv A outer s H E hr => ?_
  unfold m_check_bids
  exact (sb_cons (ss_expr [] (se_call ((ok_check_sale h).mono (k := 5) (by decide)) hr (passes_call (takes_of rfl rfl rfl rfl) (fun _ _ _ _ h => h)) (sa_cons (se_var 0) sa_nil)))
    (sb_one (ss_if [] (st_not (st_val (se_call ((ok_are_bids h).mono (k := 5) (by decide)) hr (passes_call (takes_of rfl rfl rfl rfl) (fun _ _ _ _ h => h)) (sa_cons (se_var 1) sa_nil)))) (sb_one (ss_raise rfl (takes_of rfl rfl rfl rfl) h.e_InvalidBids)) sb_nil)))
theorem ok_next_price {P : Program} {w : World} {K : PySem.W.Frag} {mg : Str → Option Value} {base : Heap} (h : Fx K mg) : Dn P w K mg base 6 "next_price" 2 (mDef m_next_price 2) := by
  obtain ⟨f, fd, F, hg⟩ := h.f_next_price
  have hN := sc_next_price.nd
  refine dn_mk F sc_next_price hg (F.bindsN fun _ _ _ _ _ _ us hl => match us, hl with | [_, _], _ => rfl) (by decide) fun cdv A outer s H E hr => ?_
  unfold m_next_price
  exact (sb_cons (ss_expr [] (se_call ((ok_check_sale h).mono (k := 5) (by decide)) hr (passes_call (takes_of rfl rfl rfl rfl) (fun _ _ _ _ h => h)) (sa_cons (se_var 0) sa_nil)))
    (sb_cons (ss_expr [] (se_call ((ok_check_price h).mono (k := 5) (by decide)) hr (passes_call (takes_of rfl rfl rfl rfl) (fun _ _ _ _ h => h)) (sa_cons (se_var 1) sa_nil)))
    (sb_one (ss_ret [] (se_call ((ok_step_up h).mono (k := 5) (by decide)) hr (passes_call (takes_of rfl rfl rfl rfl) (fun _ _ _ _ h => h)) (sa_cons (se_var 0) (sa_cons (se_var 1) sa_nil)))))))
theorem ok_climb {P : Program} {w : World} {K : PySem.W.Frag} {mg : Str → Option Value} {base : Heap} (h : Fx K mg) : Dn P w K mg base 6 "climb" 3 (mDef m_climb 4) := by
  obtain ⟨f, fd, F, hg⟩ := h.f_climb
  have hN := sc_climb.nd
  refine dn_mk F sc_climb hg (F.bindsN fun _ _ _ _ _ _ us hl => match us, hl with | [_, _, _], _ => rfl) (by decide) fun cdv A outer s H E hr => ?_
  unfold m_climb
  exact (sb_cons (ss_expr [] (se_call ((ok_check_sale h).mono (k := 5) (by decide)) hr (passes_call (takes_of rfl rfl rfl rfl) (fun _ _ _ _ h => h)) (sa_cons (se_var 0) sa_nil)))
    (sb_cons (ss_expr [] (se_call ((ok_check_price h).mono (k := 5) (by decide)) hr (passes_call (takes_of rfl rfl rfl rfl) (fun _ _ _ _ h => h)) (sa_cons (se_var 1) sa_nil)))
    (sb_cons (ss_expr [] (se_call ((ok_check_price h).mono (k := 5) (by decide)) hr (passes_call (takes_of rfl rfl rfl rfl) (fun _ _ _ _ h => h)) (sa_cons (se_var 2) sa_nil)))
    (sb_cons (ss_own 3 [] (sl_lst (sa_cons (se_var 1) sa_nil)) hN)
    (sb_cons (ss_while 1000 [] (passes_of rfl) (st_cmp od_le (se_call ((ok_step_up h).mono (k := 5) (by decide)) hr (passes_call (takes_of rfl rfl rfl rfl) (fun _ _ _ _ h => h)) (sa_cons (se_var 0) (sa_cons (se_ixo 3 (se_neg se_int)) sa_nil))) (se_var 2)) (sb_one (ss_app 3 [] (se_call ((ok_step_up h).mono (k := 5) (by decide)) hr (passes_call (takes_of rfl rfl rfl rfl) (fun _ _ _ _ h => h)) (sa_cons (se_var 0) (sa_cons (se_ixo 3 (se_neg se_int)) sa_nil))))))
    (sb_one (ss_ret [3] (se_var 3))))))))
theorem ok_result_without {P : Program} {w : World} {K : PySem.W.Frag} {mg : Str → Option Value} {base : Heap} (h : Fx K mg) : Dn P w K mg base 6 "result_without" 3 (mDef m_result_without 3) := by
  obtain ⟨f, fd, F, hg⟩ := h.f_result_without
  have hN := sc_result_without.nd
  refine dn_mk F sc_result_without hg (F.bindsN fun _ _ _ _ _ _ us hl => match us, hl with | [_, _, _], _ => rfl) (by decide) fun cdv A outer s H E hr => ?_
  unfold m_result_without
  exact (sb_one (ss_ret [] (se_call ((ok_find_result h).mono (k := 5) (by decide)) hr (passes_call (takes_of rfl rfl rfl rfl) (fun _ _ _ _ h => h)) (sa_cons (se_var 0) (sa_cons (se_op od_add (se_slice (se_var 1) so_none (so_some (se_var 2))) (se_slice (se_var 1) (so_some (se_op od_add (se_var 2) se_int)) so_none)) sa_nil)))))
theorem ok_seen {P : Program} {w : World} {K : PySem.W.Frag} {mg : Str → Option Value} {base : Heap} (h : Fx K mg) : Dn P w K mg base 6 "seen" 2 (mDef m_seen 3) := by
  obtain ⟨f, fd, F, hg⟩ := h.f_seen
  have hN := sc_seen.nd
  refine dn_mk F sc_seen hg (F.bindsN fun _ _ _ _ _ _ us hl => match us, hl with | [_, _], _ => rfl) (by decide) fun cdv A outer s H E hr => ?_
  unfold m_seen
  exact (sb_one (ss_ret [] (se_tup (sa_cons (se_l (sl_lc (own := [((PySem.Str.ofString "state"), 2)]) (is := [2]) rfl hN (si_val (se_call ((ok_find_states h).mono (k := 5) (by decide)) hr (passes_call (takes_of rfl rfl rfl rfl) (fun _ _ _ _ h => h)) (sa_cons (se_var 0) (sa_cons (se_var 1) sa_nil)))) (blkc (N := ["sale", "bids", "state"]) (sc := (defScope s_seen)) (by decide +kernel)) (fun _ _ _ _ _ => (sg_name 2 hN)) (fun _ _ _ _ _ => sts_nil) (fun _ _ _ _ _ => (se_slice (se_var 2) so_none (so_some se_int))) (by decide))) (sa_cons (se_call ((ok_find_refused h).mono (k := 5) (by decide)) hr (passes_call (takes_of rfl rfl rfl rfl) (fun _ _ _ _ h => h)) (sa_cons (se_var 0) (sa_cons (se_var 1) sa_nil))) sa_nil)))))
theorem ok_last_bid {P : Program} {w : World} {K : PySem.W.Frag} {mg : Str → Option Value} {base : Heap} (h : Fx K mg) : Dn P w K mg base 6 "last_bid" 3 (mDef m_last_bid 6) := by
  obtain ⟨f, fd, F, hg⟩ := h.f_last_bid
  have hN := sc_last_bid.nd
  refine dn_mk F sc_last_bid hg (F.bindsN fun _ _ _ _ _ _ us hl => match us, hl with | [_, _, _], _ => rfl) (by decide) fun cdv A outer s H E hr => ?_
  unfold m_last_bid
  exact (sb_cons (ss_set 3 [] (se_call ((ok_find_refused h).mono (k := 5) (by decide)) hr (passes_call (takes_of rfl rfl rfl rfl) (fun _ _ _ _ h => h)) (sa_cons (se_var 0) (sa_cons (se_var 1) sa_nil))) hN)
    (sb_one (ss_ret [] (se_ix id_ix (se_l (sl_lc (own := [((PySem.Str.ofString "index"), 4), ((PySem.Str.ofString "bid"), 5)]) (is := [4, 5]) rfl hN (si_enum h.z_enumerate (sa_cons (se_var 1) sa_nil)) (blkc (N := ["sale", "bids", "leader", "known", "index", "bid"]) (sc := (defScope s_last_bid)) (by decide +kernel)) (fun _ _ _ _ _ => (sg_tup rfl (sgs_cons (sg_name 4 hN) (sgs_cons (sg_name 5 hN) sgs_nil)))) (fun _ _ _ _ _ => (sts_one (st_w (sw_and (st_cmp (od_eq hr) (se_ix id_ix (se_var 5) se_int) (se_var 2)) (sw_and1 (st_cmp (od_notin hr) (se_var 4) (se_var 3))))))) (fun _ _ _ _ _ => (se_var 4)) (by decide))) (se_neg se_int)))))
theorem ok_result {P : Program} {w : World} {K : PySem.W.Frag} {mg : Str → Option Value} {base : Heap} (h : Fx K mg) : Dn P w K mg base 7 "result" 2 (mDef m_result 2) := by
  obtain ⟨f, fd, F, hg⟩ := h.f_result
  have hN := sc_result.nd
  refine dn_mk F sc_result hg (F.bindsN fun _ _ _ _ _ _ us hl => match us, hl with | [_, _], _ => rfl) (by decide) fun cdv A outer s H E hr => ?_
  unfold m_result
  exact (sb_cons (ss_expr [] (se_call ((ok_check_bids h).mono (k := 6) (by decide)) hr (passes_call (takes_of rfl rfl rfl rfl) (fun _ _ _ _ h => h)) (sa_cons (se_var 0) (sa_cons (se_var 1) sa_nil))))
    (sb_one (ss_ret [] (se_call ((ok_find_result h).mono (k := 6) (by decide)) hr (passes_call (takes_of rfl rfl rfl rfl) (fun _ _ _ _ h => h)) (sa_cons (se_var 0) (sa_cons (se_var 1) sa_nil))))))
theorem ok_states {P : Program} {w : World} {K : PySem.W.Frag} {mg : Str → Option Value} {base : Heap} (h : Fx K mg) : Dn P w K mg base 7 "states" 2 (mDef m_states 2) := by
  obtain ⟨f, fd, F, hg⟩ := h.f_states
  have hN := sc_states.nd
  refine dn_mk F sc_states hg (F.bindsN fun _ _ _ _ _ _ us hl => match us, hl with | [_, _], _ => rfl) (by decide) fun cdv A outer s H E hr => ?_
  unfold m_states
  exact (sb_cons (ss_expr [] (se_call ((ok_check_bids h).mono (k := 6) (by decide)) hr (passes_call (takes_of rfl rfl rfl rfl) (fun _ _ _ _ h => h)) (sa_cons (se_var 0) (sa_cons (se_var 1) sa_nil))))
    (sb_one (ss_ret [] (se_call ((ok_find_states h).mono (k := 6) (by decide)) hr (passes_call (takes_of rfl rfl rfl rfl) (fun _ _ _ _ h => h)) (sa_cons (se_var 0) (sa_cons (se_var 1) sa_nil))))))
theorem ok_refused {P : Program} {w : World} {K : PySem.W.Frag} {mg : Str → Option Value} {base : Heap} (h : Fx K mg) : Dn P w K mg base 7 "refused" 2 (mDef m_refused 2) := by
  obtain ⟨f, fd, F, hg⟩ := h.f_refused
  have hN := sc_refused.nd
  refine dn_mk F sc_refused hg (F.bindsN fun _ _ _ _ _ _ us hl => match us, hl with | [_, _], _ => rfl) (by decide) fun cdv A outer s H E hr => ?_
  unfold m_refused
  exact (sb_cons (ss_expr [] (se_call ((ok_check_bids h).mono (k := 6) (by decide)) hr (passes_call (takes_of rfl rfl rfl rfl) (fun _ _ _ _ h => h)) (sa_cons (se_var 0) (sa_cons (se_var 1) sa_nil))))
    (sb_one (ss_ret [] (se_call ((ok_find_refused h).mono (k := 6) (by decide)) hr (passes_call (takes_of rfl rfl rfl rfl) (fun _ _ _ _ h => h)) (sa_cons (se_var 0) (sa_cons (se_var 1) sa_nil))))))
theorem ok_winner {P : Program} {w : World} {K : PySem.W.Frag} {mg : Str → Option Value} {base : Heap} (h : Fx K mg) : Dn P w K mg base 7 "winner" 2 (mDef m_winner 2) := by
  obtain ⟨f, fd, F, hg⟩ := h.f_winner
  have hN := sc_winner.nd
  refine dn_mk F sc_winner hg (F.bindsN fun _ _ _ _ _ _ us hl => match us, hl with | [_, _], _ => rfl) (by decide) fun cdv A outer s H E hr => ?_
  unfold m_winner
  exact (sb_cons (ss_expr [] (se_call ((ok_check_bids h).mono (k := 6) (by decide)) hr (passes_call (takes_of rfl rfl rfl rfl) (fun _ _ _ _ h => h)) (sa_cons (se_var 0) (sa_cons (se_var 1) sa_nil))))
    (sb_one (ss_ret [] (se_call ((ok_find_winner h).mono (k := 6) (by decide)) hr (passes_call (takes_of rfl rfl rfl rfl) (fun _ _ _ _ h => h)) (sa_cons (se_var 0) (sa_cons (se_call ((ok_find_result h).mono (k := 6) (by decide)) hr (passes_call (takes_of rfl rfl rfl rfl) (fun _ _ _ _ h => h)) (sa_cons (se_var 0) (sa_cons (se_var 1) sa_nil))) sa_nil))))))
theorem ok_leads {P : Program} {w : World} {K : PySem.W.Frag} {mg : Str → Option Value} {base : Heap} (h : Fx K mg) : Dn P w K mg base 7 "leads" 2 (mDef m_leads 8) := by
  obtain ⟨f, fd, F, hg⟩ := h.f_leads
  have hN := sc_leads.nd
  refine dn_mk F sc_leads hg (F.bindsN fun _ _ _ _ _ _ us hl => match us, hl with | [_, _], _ => rfl) (by decide) fun cdv A outer s H E hr => ?_
  unfold m_leads
  exact (sb_cons (ss_expr [] (se_call ((ok_check_bids h).mono (k := 6) (by decide)) hr (passes_call (takes_of rfl rfl rfl rfl) (fun _ _ _ _ h => h)) (sa_cons (se_var 0) (sa_cons (se_var 1) sa_nil))))
    (sb_cons (ss_par3 2 3 4 [] rfl hN (sp_o (sl_lst sa_nil) (sp_v se_str (sp_v se_int sp_nil))))
    (sb_cons (ss_for [] (passes_of rfl) rfl (si_val (se_call ((ok_find_states h).mono (k := 6) (by decide)) hr (passes_call (takes_of rfl rfl rfl rfl) (fun _ _ _ _ h => h)) (sa_cons (se_var 0) (sa_cons (se_var 1) sa_nil)))) (sg_tup rfl (sgs_cons (sg_name 5 hN) (sgs_cons (sg_name 6 hN) (sgs_cons (sg_name 7 hN) sgs_nil)))) (sb_cons (ss_set 4 [] (se_op od_add (se_var 4) (se_if (st_cmp (od_ne hr) (se_var 5) (se_var 3)) se_int se_int)) hN)
    (sb_cons (ss_set 3 [] (se_var 5) hN)
    (sb_one (ss_app 2 [] (se_var 4))))))
    (sb_one (ss_ret [2] (se_var 2))))))
theorem ok_without_bid {P : Program} {w : World} {K : PySem.W.Frag} {mg : Str → Option Value} {base : Heap} (h : Fx K mg) : Dn P w K mg base 7 "without_bid" 3 (mDef m_without_bid 3) := by
  obtain ⟨f, fd, F, hg⟩ := h.f_without_bid
  have hN := sc_without_bid.nd
  refine dn_mk F sc_without_bid hg (F.bindsN fun _ _ _ _ _ _ us hl => match us, hl with | [_, _, _], _ => rfl) (by decide) fun cdv A outer s H E hr => ?_
  unfold m_without_bid
  exact (sb_cons (ss_expr [] (se_call ((ok_check_bids h).mono (k := 6) (by decide)) hr (passes_call (takes_of rfl rfl rfl rfl) (fun _ _ _ _ h => h)) (sa_cons (se_var 0) (sa_cons (se_var 1) sa_nil))))
    (sb_cons (ss_if [] (st_not (st_val (se_call ((ok_is_int h).mono (k := 6) (by decide)) hr (passes_call (takes_of rfl rfl rfl rfl) (fun _ _ _ _ h => h)) (sa_cons (se_var 2) (sa_cons se_int (sa_cons (se_op od_sub (se_bi cd_len h.z_len (sa_cons (se_var 1) sa_nil)) se_int) sa_nil)))))) (sb_one (ss_raise rfl (takes_of rfl rfl rfl rfl) h.e_InvalidIndex)) sb_nil)
    (sb_one (ss_ret [] (se_call ((ok_result_without h).mono (k := 6) (by decide)) hr (passes_call (takes_of rfl rfl rfl rfl) (fun _ _ _ _ h => h)) (sa_cons (se_var 0) (sa_cons (se_var 1) (sa_cons (se_var 2) sa_nil))))))))
theorem ok_raisers {P : Program} {w : World} {K : PySem.W.Frag} {mg : Str → Option Value} {base : Heap} (h : Fx K mg) : Dn P w K mg base 7 "raisers" 2 (mDef m_raisers 8) := by
  obtain ⟨f, fd, F, hg⟩ := h.f_raisers
  have hN := sc_raisers.nd
  refine dn_mk F sc_raisers hg (F.bindsN fun _ _ _ _ _ _ us hl => match us, hl with | [_, _], _ => rfl) (by decide) fun cdv A outer s H E hr => ?_
  unfold m_raisers
  exact (sb_cons (ss_expr [] (se_call ((ok_check_bids h).mono (k := 6) (by decide)) hr (passes_call (takes_of rfl rfl rfl rfl) (fun _ _ _ _ h => h)) (sa_cons (se_var 0) (sa_cons (se_var 1) sa_nil))))
    (sb_cons (ss_asg [] (se_call ((ok_find_result h).mono (k := 6) (by decide)) hr (passes_call (takes_of rfl rfl rfl rfl) (fun _ _ _ _ h => h)) (sa_cons (se_var 0) (sa_cons (se_var 1) sa_nil))) (sg_tup rfl (sgs_cons (sg_name 4 hN) (sgs_cons (sg_name 5 hN) (sgs_cons (sg_name 6 hN) sgs_nil)))))
    (sb_cons (ss_own 2 [] (sl_lst sa_nil) hN)
    (sb_cons (ss_for [] (passes_of rfl) rfl (si_range1 h.z_range (sa_cons (se_bi cd_len h.z_len (sa_cons (se_var 1) sa_nil)) sa_nil)) (sg_name 3 hN) (sb_cons (ss_set 7 [] (se_call ((ok_result_without h).mono (k := 6) (by decide)) hr (passes_call (takes_of rfl rfl rfl rfl) (fun _ _ _ _ h => h)) (sa_cons (se_var 0) (sa_cons (se_var 1) (sa_cons (se_var 3) sa_nil)))) hN)
    (sb_one (ss_if [] (st_w (sw_and (st_cmp (od_eq hr) (se_ix id_ix (se_var 7) se_int) (se_var 4)) (sw_and1 (st_cmp od_lt (se_ix id_ix (se_var 7) se_int) (se_var 5))))) (sb_one (ss_app 2 [] (se_var 3))) sb_nil))))
    (sb_one (ss_ret [2] (se_var 2)))))))
theorem ok_needless {P : Program} {w : World} {K : PySem.W.Frag} {mg : Str → Option Value} {base : Heap} (h : Fx K mg) : Dn P w K mg base 7 "needless" 2 (mDef m_needless 4) := by
  obtain ⟨f, fd, F, hg⟩ := h.f_needless
  have hN := sc_needless.nd
  refine dn_mk F sc_needless hg (F.bindsN fun _ _ _ _ _ _ us hl => match us, hl with | [_, _], _ => rfl) (by decide) fun cdv A outer s H E hr => ?_
  unfold m_needless
  exact (sb_cons (ss_expr [] (se_call ((ok_check_bids h).mono (k := 6) (by decide)) hr (passes_call (takes_of rfl rfl rfl rfl) (fun _ _ _ _ h => h)) (sa_cons (se_var 0) (sa_cons (se_var 1) sa_nil))))
    (sb_cons (ss_set 2 [] (se_call ((ok_find_result h).mono (k := 6) (by decide)) hr (passes_call (takes_of rfl rfl rfl rfl) (fun _ _ _ _ h => h)) (sa_cons (se_var 0) (sa_cons (se_var 1) sa_nil))) hN)
    (sb_one (ss_ret [] (se_l (sl_lc (own := [((PySem.Str.ofString "index"), 3)]) (is := [3]) rfl hN (si_range1 h.z_range (sa_cons (se_bi cd_len h.z_len (sa_cons (se_var 1) sa_nil)) sa_nil)) (blkc (N := ["sale", "bids", "state", "index"]) (sc := (defScope s_needless)) (by decide +kernel)) (fun _ _ _ _ _ => (sg_name 3 hN)) (fun _ _ _ _ _ => (sts_one (st_cmp (od_eq hr) (se_call ((ok_result_without h).mono (k := 6) (by decide)) hr passL (sa_cons (se_var 0) (sa_cons (se_var 1) (sa_cons (se_var 3) sa_nil)))) (se_var 2)))) (fun _ _ _ _ _ => (se_var 3)) (by decide)))))))
theorem ok_deciding {P : Program} {w : World} {K : PySem.W.Frag} {mg : Str → Option Value} {base : Heap} (h : Fx K mg) : Dn P w K mg base 7 "deciding" 2 (mDef m_deciding 4) := by
  obtain ⟨f, fd, F, hg⟩ := h.f_deciding
  have hN := sc_deciding.nd
  refine dn_mk F sc_deciding hg (F.bindsN fun _ _ _ _ _ _ us hl => match us, hl with | [_, _], _ => rfl) (by decide) fun cdv A outer s H E hr => ?_
  unfold m_deciding
  exact (sb_cons (ss_expr [] (se_call ((ok_check_bids h).mono (k := 6) (by decide)) hr (passes_call (takes_of rfl rfl rfl rfl) (fun _ _ _ _ h => h)) (sa_cons (se_var 0) (sa_cons (se_var 1) sa_nil))))
    (sb_cons (ss_set 2 [] (se_ix id_ix (se_call ((ok_find_result h).mono (k := 6) (by decide)) hr (passes_call (takes_of rfl rfl rfl rfl) (fun _ _ _ _ h => h)) (sa_cons (se_var 0) (sa_cons (se_var 1) sa_nil))) se_int) hN)
    (sb_one (ss_ret [] (se_l (sl_lc (own := [((PySem.Str.ofString "index"), 3)]) (is := [3]) rfl hN (si_range1 h.z_range (sa_cons (se_bi cd_len h.z_len (sa_cons (se_var 1) sa_nil)) sa_nil)) (blkc (N := ["sale", "bids", "leader", "index"]) (sc := (defScope s_deciding)) (by decide +kernel)) (fun _ _ _ _ _ => (sg_name 3 hN)) (fun _ _ _ _ _ => (sts_one (st_cmp (od_ne hr) (se_ix id_ix (se_call ((ok_result_without h).mono (k := 6) (by decide)) hr passL (sa_cons (se_var 0) (sa_cons (se_var 1) (sa_cons (se_var 3) sa_nil)))) se_int) (se_var 2)))) (fun _ _ _ _ _ => (se_var 3)) (by decide)))))))
theorem ok_check_bidder {P : Program} {w : World} {K : PySem.W.Frag} {mg : Str → Option Value} {base : Heap} (h : Fx K mg) : Dn P w K mg base 7 "check_bidder" 3 (mDef m_check_bidder 3) := by
  obtain ⟨f, fd, F, hg⟩ := h.f_check_bidder
  have hN := sc_check_bidder.nd
  refine dn_mk F sc_check_bidder hg (F.bindsN fun _ _ _ _ _ _ us hl => match us, hl with | [_, _, _], _ => rfl) (by decide) fun cdv A outer s H E hr => ?_
  unfold m_check_bidder
  exact (sb_cons (ss_expr [] (se_call ((ok_check_bids h).mono (k := 6) (by decide)) hr (passes_call (takes_of rfl rfl rfl rfl) (fun _ _ _ _ h => h)) (sa_cons (se_var 0) (sa_cons (se_var 1) sa_nil))))
    (sb_one (ss_if [] (st_not (st_val (se_call ((ok_is_bidder h).mono (k := 6) (by decide)) hr (passes_call (takes_of rfl rfl rfl rfl) (fun _ _ _ _ h => h)) (sa_cons (se_var 2) sa_nil)))) (sb_one (ss_raise rfl (takes_of rfl rfl rfl rfl) h.e_InvalidBidder)) sb_nil)))
theorem ok_price_with {P : Program} {w : World} {K : PySem.W.Frag} {mg : Str → Option Value} {base : Heap} (h : Fx K mg) : Dn P w K mg base 7 "price_with" 3 (mDef m_price_with 3) := by
  obtain ⟨f, fd, F, hg⟩ := h.f_price_with
  have hN := sc_price_with.nd
  refine dn_mk F sc_price_with hg (F.bindsN fun _ _ _ _ _ _ us hl => match us, hl with | [_, _, _], _ => rfl) (by decide) fun cdv A outer s H E hr => ?_
  unfold m_price_with
  exact (sb_cons (ss_expr [] (se_call ((ok_check_bids h).mono (k := 6) (by decide)) hr (passes_call (takes_of rfl rfl rfl rfl) (fun _ _ _ _ h => h)) (sa_cons (se_var 0) (sa_cons (se_var 1) sa_nil))))
    (sb_cons (ss_if [] (st_not (st_val (se_call ((ok_is_bid h).mono (k := 6) (by decide)) hr (passes_call (takes_of rfl rfl rfl rfl) (fun _ _ _ _ h => h)) (sa_cons (se_var 2) sa_nil)))) (sb_one (ss_raise rfl (takes_of rfl rfl rfl rfl) h.e_InvalidBid)) sb_nil)
    (sb_one (ss_ret [] (se_ix id_ix (se_call ((ok_advance h).mono (k := 6) (by decide)) hr (passes_call (takes_of rfl rfl rfl rfl) (fun _ _ _ _ h => h)) (sa_cons (se_var 0) (sa_cons (se_call ((ok_find_result h).mono (k := 6) (by decide)) hr (passes_call (takes_of rfl rfl rfl rfl) (fun _ _ _ _ h => h)) (sa_cons (se_var 0) (sa_cons (se_var 1) sa_nil))) (sa_cons (se_var 2) sa_nil)))) se_int)))))
theorem ok_greatest_price {P : Program} {w : World} {K : PySem.W.Frag} {mg : Str → Option Value} {base : Heap} (h : Fx K mg) : Dn P w K mg base 7 "greatest_price" 2 (mDef m_greatest_price 5) := by
  obtain ⟨f, fd, F, hg⟩ := h.f_greatest_price
  have hN := sc_greatest_price.nd
  refine dn_mk F sc_greatest_price hg (F.bindsN fun _ _ _ _ _ _ us hl => match us, hl with | [_, _], _ => rfl) (by decide) fun cdv A outer s H E hr => ?_
  unfold m_greatest_price
  exact (sb_cons (ss_expr [] (se_call ((ok_check_bids h).mono (k := 6) (by decide)) hr (passes_call (takes_of rfl rfl rfl rfl) (fun _ _ _ _ h => h)) (sa_cons (se_var 0) (sa_cons (se_var 1) sa_nil))))
    (sb_cons (ss_asg [] (se_call ((ok_find_result h).mono (k := 6) (by decide)) hr (passes_call (takes_of rfl rfl rfl rfl) (fun _ _ _ _ h => h)) (sa_cons (se_var 0) (sa_cons (se_var 1) sa_nil))) (sg_tup rfl (sgs_cons (sg_name 2 hN) (sgs_cons (sg_name 3 hN) (sgs_cons (sg_name 4 hN) sgs_nil)))))
    (sb_cons (ss_if [] (st_w (sw_or (st_cmp (od_eq hr) (se_var 2) se_str) (sw_or1 (st_cmp od_gt (se_call ((ok_step_up h).mono (k := 6) (by decide)) hr (passes_call (takes_of rfl rfl rfl rfl) (fun _ _ _ _ h => h)) (sa_cons (se_var 0) (sa_cons (se_var 3) sa_nil))) (se_var 4))))) (sb_one (ss_ret [] se_non)) sb_nil)
    (sb_one (ss_ret [] (se_var 4))))))
theorem ok_find_known {P : Program} {w : World} {K : PySem.W.Frag} {mg : Str → Option Value} {base : Heap} (h : Fx K mg) : Dn P w K mg base 7 "find_known" 2 (mDef m_find_known 7) := by
  obtain ⟨f, fd, F, hg⟩ := h.f_find_known
  have hN := sc_find_known.nd
  refine dn_mk F sc_find_known hg (F.bindsN fun _ _ _ _ _ _ us hl => match us, hl with | [_, _], _ => rfl) (by decide) fun cdv A outer s H E hr => ?_
  unfold m_find_known
  exact (sb_cons (ss_set 2 [] (se_ix id_ix (se_call ((ok_find_result h).mono (k := 6) (by decide)) hr (passes_call (takes_of rfl rfl rfl rfl) (fun _ _ _ _ h => h)) (sa_cons (se_var 0) (sa_cons (se_var 1) sa_nil))) se_int) hN)
    (sb_cons (ss_if [] (st_cmp (od_eq hr) (se_var 2) se_str) (sb_one (ss_ret [] se_non)) sb_nil)
    (sb_cons (ss_par3 4 5 6 [] rfl hN (sp_v (se_call ((ok_last_bid h).mono (k := 6) (by decide)) hr (passes_call (takes_of rfl rfl rfl rfl) (fun _ _ _ _ h => h)) (sa_cons (se_var 0) (sa_cons (se_var 1) (sa_cons (se_var 2) sa_nil)))) (sp_v (se_call ((ok_seen h).mono (k := 6) (by decide)) hr (passes_call (takes_of rfl rfl rfl rfl) (fun _ _ _ _ h => h)) (sa_cons (se_var 0) (sa_cons (se_var 1) sa_nil))) (sp_o (sl_lst sa_nil) sp_nil))))
    (sb_cons (ss_for [] (passes_of rfl) rfl (si_range2 h.z_range (sa_cons se_int (sa_cons (se_op od_add (se_glob h.g_MAX_AMOUNT) se_int) sa_nil))) (sg_name 3 hN) (sb_one (ss_if [] (st_cmp (od_eq hr) (se_call ((ok_seen h).mono (k := 6) (by decide)) hr (passes_call (takes_of rfl rfl rfl rfl) (fun _ _ _ _ h => h)) (sa_cons (se_var 0) (sa_cons (se_op od_add (se_op od_add (se_slice (se_var 1) so_none (so_some (se_var 4))) (se_l (sl_lst (sa_cons (se_tup (sa_cons (se_var 2) (sa_cons (se_var 3) sa_nil))) sa_nil)))) (se_slice (se_var 1) (so_some (se_op od_add (se_var 4) se_int)) so_none)) sa_nil))) (se_var 5)) (sb_one (ss_app 6 [] (se_var 3))) sb_nil)))
    (sb_one (ss_ret [] (se_tup (sa_cons (se_ixo 6 se_int) (sa_cons (se_ixo 6 (se_neg se_int)) sa_nil)))))))))
theorem ok_still_to_pay {P : Program} {w : World} {K : PySem.W.Frag} {mg : Str → Option Value} {base : Heap} (h : Fx K mg) : Dn P w K mg base 7 "still_to_pay" 2 (mDef m_still_to_pay 5) := by
  obtain ⟨f, fd, F, hg⟩ := h.f_still_to_pay
  have hN := sc_still_to_pay.nd
  refine dn_mk F sc_still_to_pay hg (F.bindsN fun _ _ _ _ _ _ us hl => match us, hl with | [_, _], _ => rfl) (by decide) fun cdv A outer s H E hr => ?_
  unfold m_still_to_pay
  exact (sb_cons (ss_expr [] (se_call ((ok_check_bids h).mono (k := 6) (by decide)) hr (passes_call (takes_of rfl rfl rfl rfl) (fun _ _ _ _ h => h)) (sa_cons (se_var 0) (sa_cons (se_var 1) sa_nil))))
    (sb_cons (ss_asg [] (se_call ((ok_find_result h).mono (k := 6) (by decide)) hr (passes_call (takes_of rfl rfl rfl rfl) (fun _ _ _ _ h => h)) (sa_cons (se_var 0) (sa_cons (se_var 1) sa_nil))) (sg_tup rfl (sgs_cons (sg_name 2 hN) (sgs_cons (sg_name 3 hN) (sgs_cons (sg_name 4 hN) sgs_nil)))))
    (sb_one (ss_ret [] (se_op od_sub (se_var 4) (se_var 3))))))
theorem ok_all_ends {P : Program} {w : World} {K : PySem.W.Frag} {mg : Str → Option Value} {base : Heap} (h : Fx K mg) : Dn P w K mg base 7 "all_ends" 2 (mDef m_all_ends 3) := by
  obtain ⟨f, fd, F, hg⟩ := h.f_all_ends
  have hN := sc_all_ends.nd
  refine dn_mk F sc_all_ends hg (F.bindsN fun _ _ _ _ _ _ us hl => match us, hl with | [_, _], _ => rfl) (by decide) fun cdv A outer s H E hr => ?_
  unfold m_all_ends
  exact (sb_cons (ss_expr [] (se_call ((ok_check_bids h).mono (k := 6) (by decide)) hr (passes_call (takes_of rfl rfl rfl rfl) (fun _ _ _ _ h => h)) (sa_cons (se_var 0) (sa_cons (se_var 1) sa_nil))))
    (sb_cons (ss_if [] (st_not (st_val (se_call ((ok_have_single h).mono (k := 6) (by decide)) hr (passes_call (takes_of rfl rfl rfl rfl) (fun _ _ _ _ h => h)) (sa_cons (se_var 1) sa_nil)))) (sb_one (ss_raise rfl (takes_of rfl rfl rfl rfl) h.e_Repeated)) sb_nil)
    (sb_one (ss_ret [] (se_l (sl_lc (own := [((PySem.Str.ofString "order"), 2)]) (is := [2]) rfl hN (si_val (se_call ((ok_all_orders h).mono (k := 6) (by decide)) hr (passes_call (takes_of rfl rfl rfl rfl) (fun _ _ _ _ h => h)) (sa_cons (se_var 1) sa_nil))) (blkc (N := ["sale", "bids", "order"]) (sc := (defScope s_all_ends)) (by decide +kernel)) (fun _ _ _ _ _ => (sg_name 2 hN)) (fun _ _ _ _ _ => sts_nil) (fun _ _ _ _ _ => (se_tup (sa_cons (se_call ((ok_find_result h).mono (k := 6) (by decide)) hr passL (sa_cons (se_var 0) (sa_cons (se_var 2) sa_nil))) (sa_cons (se_var 2) sa_nil)))) (by decide)))))))
theorem ok_least_accepted {P : Program} {w : World} {K : PySem.W.Frag} {mg : Str → Option Value} {base : Heap} (h : Fx K mg) : Dn P w K mg base 8 "least_accepted" 3 (mDef m_least_accepted 6) := by
  obtain ⟨f, fd, F, hg⟩ := h.f_least_accepted
  have hN := sc_least_accepted.nd
  refine dn_mk F sc_least_accepted hg (F.bindsN fun _ _ _ _ _ _ us hl => match us, hl with | [_, _, _], _ => rfl) (by decide) fun cdv A outer s H E hr => ?_
  unfold m_least_accepted
  exact (sb_cons (ss_expr [] (se_call ((ok_check_bidder h).mono (k := 7) (by decide)) hr (passes_call (takes_of rfl rfl rfl rfl) (fun _ _ _ _ h => h)) (sa_cons (se_var 0) (sa_cons (se_var 1) (sa_cons (se_var 2) sa_nil)))))
    (sb_cons (ss_set 3 [] (se_call ((ok_find_result h).mono (k := 7) (by decide)) hr (passes_call (takes_of rfl rfl rfl rfl) (fun _ _ _ _ h => h)) (sa_cons (se_var 0) (sa_cons (se_var 1) sa_nil))) hN)
    (sb_cons (ss_set 4 [] (se_listR2 rfl h.z_list h.z_range se_int (se_op od_add (se_glob h.g_MAX_AMOUNT) se_int)) hN)
    (sb_one (ss_ret [] (se_call ((ok_least_one h).mono (k := 7) (by decide)) hr (passes_call (takes_of rfl rfl rfl rfl) (fun _ _ _ _ h => h)) (sa_cons (se_l (sl_lc (own := [((PySem.Str.ofString "amount"), 5)]) (is := [5]) rfl hN (si_val (se_var 4)) (blkc (N := ["sale", "bids", "bidder", "state", "amounts", "amount"]) (sc := (defScope s_least_accepted)) (by decide +kernel)) (fun _ _ _ _ _ => (sg_name 5 hN)) (fun _ _ _ _ _ => (sts_one (st_not (st_val (se_call ((ok_is_refused h).mono (k := 7) (by decide)) hr passL (sa_cons (se_var 0) (sa_cons (se_var 3) (sa_cons (se_tup (sa_cons (se_var 2) (sa_cons (se_var 5) sa_nil))) sa_nil)))))))) (fun _ _ _ _ _ => (se_var 5)) (by decide))) sa_nil)))))))
theorem ok_least_leading {P : Program} {w : World} {K : PySem.W.Frag} {mg : Str → Option Value} {base : Heap} (h : Fx K mg) : Dn P w K mg base 8 "least_leading" 3 (mDef m_least_leading 6) := by
  obtain ⟨f, fd, F, hg⟩ := h.f_least_leading
  have hN := sc_least_leading.nd
  refine dn_mk F sc_least_leading hg (F.bindsN fun _ _ _ _ _ _ us hl => match us, hl with | [_, _, _], _ => rfl) (by decide) fun cdv A outer s H E hr => ?_
  unfold m_least_leading
  exact (sb_cons (ss_expr [] (se_call ((ok_check_bidder h).mono (k := 7) (by decide)) hr (passes_call (takes_of rfl rfl rfl rfl) (fun _ _ _ _ h => h)) (sa_cons (se_var 0) (sa_cons (se_var 1) (sa_cons (se_var 2) sa_nil)))))
    (sb_cons (ss_set 3 [] (se_call ((ok_find_result h).mono (k := 7) (by decide)) hr (passes_call (takes_of rfl rfl rfl rfl) (fun _ _ _ _ h => h)) (sa_cons (se_var 0) (sa_cons (se_var 1) sa_nil))) hN)
    (sb_cons (ss_if [] (st_cmp (od_eq hr) (se_ix id_ix (se_var 3) se_int) (se_var 2)) (sb_one (ss_ret [] se_int)) sb_nil)
    (sb_cons (ss_set 4 [] (se_listR2 rfl h.z_list h.z_range se_int (se_op od_add (se_glob h.g_MAX_AMOUNT) se_int)) hN)
    (sb_one (ss_ret [] (se_call ((ok_least_one h).mono (k := 7) (by decide)) hr (passes_call (takes_of rfl rfl rfl rfl) (fun _ _ _ _ h => h)) (sa_cons (se_l (sl_lc (own := [((PySem.Str.ofString "amount"), 5)]) (is := [5]) rfl hN (si_val (se_var 4)) (blkc (N := ["sale", "bids", "bidder", "state", "amounts", "amount"]) (sc := (defScope s_least_leading)) (by decide +kernel)) (fun _ _ _ _ _ => (sg_name 5 hN)) (fun _ _ _ _ _ => (sts_one (st_cmp (od_eq hr) (se_ix id_ix (se_call ((ok_advance h).mono (k := 7) (by decide)) hr passL (sa_cons (se_var 0) (sa_cons (se_var 3) (sa_cons (se_tup (sa_cons (se_var 2) (sa_cons (se_var 5) sa_nil))) sa_nil)))) se_int) (se_var 2)))) (fun _ _ _ _ _ => (se_var 5)) (by decide))) sa_nil))))))))
theorem ok_known_amount {P : Program} {w : World} {K : PySem.W.Frag} {mg : Str → Option Value} {base : Heap} (h : Fx K mg) : Dn P w K mg base 8 "known_amount" 2 (mDef m_known_amount 2) := by
  obtain ⟨f, fd, F, hg⟩ := h.f_known_amount
  have hN := sc_known_amount.nd
  refine dn_mk F sc_known_amount hg (F.bindsN fun _ _ _ _ _ _ us hl => match us, hl with | [_, _], _ => rfl) (by decide) fun cdv A outer s H E hr => ?_
  unfold m_known_amount
  exact (sb_cons (ss_expr [] (se_call ((ok_check_bids h).mono (k := 7) (by decide)) hr (passes_call (takes_of rfl rfl rfl rfl) (fun _ _ _ _ h => h)) (sa_cons (se_var 0) (sa_cons (se_var 1) sa_nil))))
    (sb_one (ss_ret [] (se_call ((ok_find_known h).mono (k := 7) (by decide)) hr (passes_call (takes_of rfl rfl rfl rfl) (fun _ _ _ _ h => h)) (sa_cons (se_var 0) (sa_cons (se_var 1) sa_nil))))))
theorem ok_is_known {P : Program} {w : World} {K : PySem.W.Frag} {mg : Str → Option Value} {base : Heap} (h : Fx K mg) : Dn P w K mg base 8 "is_known" 2 (mDef m_is_known 3) := by
  obtain ⟨f, fd, F, hg⟩ := h.f_is_known
  have hN := sc_is_known.nd
  refine dn_mk F sc_is_known hg (F.bindsN fun _ _ _ _ _ _ us hl => match us, hl with | [_, _], _ => rfl) (by decide) fun cdv A outer s H E hr => ?_
  unfold m_is_known
  exact (sb_cons (ss_expr [] (se_call ((ok_check_bids h).mono (k := 7) (by decide)) hr (passes_call (takes_of rfl rfl rfl rfl) (fun _ _ _ _ h => h)) (sa_cons (se_var 0) (sa_cons (se_var 1) sa_nil))))
    (sb_cons (ss_set 2 [] (se_call ((ok_find_known h).mono (k := 7) (by decide)) hr (passes_call (takes_of rfl rfl rfl rfl) (fun _ _ _ _ h => h)) (sa_cons (se_var 0) (sa_cons (se_var 1) sa_nil))) hN)
    (sb_one (ss_ret [] (se_and (se_cmp od_isnot (se_var 2) se_non) (se_one (se_cmp (od_eq hr) (se_ix id_ix (se_var 2) se_int) (se_ix id_ix (se_var 2) se_int))))))))
theorem ok_possible_winners {P : Program} {w : World} {K : PySem.W.Frag} {mg : Str → Option Value} {base : Heap} (h : Fx K mg) : Dn P w K mg base 8 "possible_winners" 2 (mDef m_possible_winners 6) := by
  obtain ⟨f, fd, F, hg⟩ := h.f_possible_winners
  have hN := sc_possible_winners.nd
  refine dn_mk F sc_possible_winners hg (F.bindsN fun _ _ _ _ _ _ us hl => match us, hl with | [_, _], _ => rfl) (by decide) fun cdv A outer s H E hr => ?_
  unfold m_possible_winners
  exact (sb_cons (ss_setLc 2 [] (own := [((PySem.Str.ofString "state"), 3), ((PySem.Str.ofString "order"), 4)]) (is := [3, 4]) rfl hN (si_val (se_call ((ok_all_ends h).mono (k := 7) (by decide)) hr (passes_call (takes_of rfl rfl rfl rfl) (fun _ _ _ _ h => h)) (sa_cons (se_var 0) (sa_cons (se_var 1) sa_nil)))) (blkc (N := ["sale", "bids", "known", "state", "order", "bidder"]) (sc := (defScope s_possible_winners)) (by decide +kernel)) (fun _ _ _ _ _ => (sg_tup rfl (sgs_cons (sg_name 3 hN) (sgs_cons (sg_name 4 hN) sgs_nil)))) (fun _ _ _ _ _ => sts_nil) (fun _ _ _ _ _ => (se_call ((ok_find_winner h).mono (k := 7) (by decide)) hr passL (sa_cons (se_var 0) (sa_cons (se_var 3) sa_nil)))) (by decide))
    (sb_one (ss_ret [] (se_sortsetA rfl h.z_sorted h.z_set (se_l (sl_lc (own := [((PySem.Str.ofString "bidder"), 5)]) (is := [5]) rfl hN (si_val (se_var 2)) (blkc (N := ["sale", "bids", "known", "state", "order", "bidder"]) (sc := (defScope s_possible_winners)) (by decide +kernel)) (fun _ _ _ _ _ => (sg_name 5 hN)) (fun _ _ _ _ _ => (sts_one (st_cmp od_isnot (se_var 5) se_non))) (fun _ _ _ _ _ => (se_var 5)) (by decide)))))))
theorem ok_possible_prices {P : Program} {w : World} {K : PySem.W.Frag} {mg : Str → Option Value} {base : Heap} (h : Fx K mg) : Dn P w K mg base 8 "possible_prices" 2 (mDef m_possible_prices 4) := by
  obtain ⟨f, fd, F, hg⟩ := h.f_possible_prices
  have hN := sc_possible_prices.nd
  refine dn_mk F sc_possible_prices hg (F.bindsN fun _ _ _ _ _ _ us hl => match us, hl with | [_, _], _ => rfl) (by decide) fun cdv A outer s H E hr => ?_
  unfold m_possible_prices
  exact (sb_one (ss_ret [] (se_sortsetA rfl h.z_sorted h.z_set (se_l (sl_lc (own := [((PySem.Str.ofString "state"), 2), ((PySem.Str.ofString "order"), 3)]) (is := [2, 3]) rfl hN (si_val (se_call ((ok_all_ends h).mono (k := 7) (by decide)) hr (passes_call (takes_of rfl rfl rfl rfl) (fun _ _ _ _ h => h)) (sa_cons (se_var 0) (sa_cons (se_var 1) sa_nil)))) (blkc (N := ["sale", "bids", "state", "order"]) (sc := (defScope s_possible_prices)) (by decide +kernel)) (fun _ _ _ _ _ => (sg_tup rfl (sgs_cons (sg_name 2 hN) (sgs_cons (sg_name 3 hN) sgs_nil)))) (fun _ _ _ _ _ => sts_nil) (fun _ _ _ _ _ => (se_ix id_ix (se_var 2) se_int)) (by decide))))))
theorem ok_does_order_matter {P : Program} {w : World} {K : PySem.W.Frag} {mg : Str → Option Value} {base : Heap} (h : Fx K mg) : Dn P w K mg base 8 "does_order_matter" 2 (mDef m_does_order_matter 4) := by
  obtain ⟨f, fd, F, hg⟩ := h.f_does_order_matter
  have hN := sc_does_order_matter.nd
  refine dn_mk F sc_does_order_matter hg (F.bindsN fun _ _ _ _ _ _ us hl => match us, hl with | [_, _], _ => rfl) (by decide) fun cdv A outer s H E hr => ?_
  unfold m_does_order_matter
  exact (sb_one (ss_ret [] (se_cmp od_gt (se_lensetK hr rfl h.z_len h.z_set (se_l (sl_lc (own := [((PySem.Str.ofString "state"), 2), ((PySem.Str.ofString "order"), 3)]) (is := [2, 3]) rfl hN (si_val (se_call ((ok_all_ends h).mono (k := 7) (by decide)) hr (passes_call (takes_of rfl rfl rfl rfl) (fun _ _ _ _ h => h)) (sa_cons (se_var 0) (sa_cons (se_var 1) sa_nil)))) (blkc (N := ["sale", "bids", "state", "order"]) (sc := (defScope s_does_order_matter)) (by decide +kernel)) (fun _ _ _ _ _ => (sg_tup rfl (sgs_cons (sg_name 2 hN) (sgs_cons (sg_name 3 hN) sgs_nil)))) (fun _ _ _ _ _ => sts_nil) (fun _ _ _ _ _ => (se_slice (se_var 2) so_none (so_some se_int))) (by decide)))) se_int)))
theorem ok_dearest_order {P : Program} {w : World} {K : PySem.W.Frag} {mg : Str → Option Value} {base : Heap} (h : Fx K mg) : Dn P w K mg base 8 "dearest_order" 2 (mDef m_dearest_order 4) := by
  obtain ⟨f, fd, F, hg⟩ := h.f_dearest_order
  have hN := sc_dearest_order.nd
  refine dn_mk F sc_dearest_order hg (F.bindsN fun _ _ _ _ _ _ us hl => match us, hl with | [_, _], _ => rfl) (by decide) fun cdv A outer s H E hr => ?_
  unfold m_dearest_order
  exact (sb_one (ss_ret [] (se_ix id_ix (se_bi (cd_minA hr rfl) h.z_min (sa_cons (se_l (sl_lc (own := [((PySem.Str.ofString "state"), 2), ((PySem.Str.ofString "order"), 3)]) (is := [2, 3]) rfl hN (si_val (se_call ((ok_all_ends h).mono (k := 7) (by decide)) hr (passes_call (takes_of rfl rfl rfl rfl) (fun _ _ _ _ h => h)) (sa_cons (se_var 0) (sa_cons (se_var 1) sa_nil)))) (blkc (N := ["sale", "bids", "state", "order"]) (sc := (defScope s_dearest_order)) (by decide +kernel)) (fun _ _ _ _ _ => (sg_tup rfl (sgs_cons (sg_name 2 hN) (sgs_cons (sg_name 3 hN) sgs_nil)))) (fun _ _ _ _ _ => sts_nil) (fun _ _ _ _ _ => (se_tup (sa_cons (se_op od_sub se_int (se_ix id_ix (se_var 2) se_int)) (sa_cons (se_var 3) sa_nil)))) (by decide))) sa_nil)) se_int)))
theorem ok_cheapest_order {P : Program} {w : World} {K : PySem.W.Frag} {mg : Str → Option Value} {base : Heap} (h : Fx K mg) : Dn P w K mg base 8 "cheapest_order" 2 (mDef m_cheapest_order 4) := by
  obtain ⟨f, fd, F, hg⟩ := h.f_cheapest_order
  have hN := sc_cheapest_order.nd
  refine dn_mk F sc_cheapest_order hg (F.bindsN fun _ _ _ _ _ _ us hl => match us, hl with | [_, _], _ => rfl) (by decide) fun cdv A outer s H E hr => ?_
  unfold m_cheapest_order
  exact (sb_one (ss_ret [] (se_ix id_ix (se_bi (cd_minA hr rfl) h.z_min (sa_cons (se_l (sl_lc (own := [((PySem.Str.ofString "state"), 2), ((PySem.Str.ofString "order"), 3)]) (is := [2, 3]) rfl hN (si_val (se_call ((ok_all_ends h).mono (k := 7) (by decide)) hr (passes_call (takes_of rfl rfl rfl rfl) (fun _ _ _ _ h => h)) (sa_cons (se_var 0) (sa_cons (se_var 1) sa_nil)))) (blkc (N := ["sale", "bids", "state", "order"]) (sc := (defScope s_cheapest_order)) (by decide +kernel)) (fun _ _ _ _ _ => (sg_tup rfl (sgs_cons (sg_name 2 hN) (sgs_cons (sg_name 3 hN) sgs_nil)))) (fun _ _ _ _ _ => sts_nil) (fun _ _ _ _ _ => (se_tup (sa_cons (se_ix id_ix (se_var 2) se_int) (sa_cons (se_var 3) sa_nil)))) (by decide))) sa_nil)) se_int)))
theorem ok_law_class {P : Program} {w : World} {K : PySem.W.Frag} {mg : Str → Option Value} {base : Heap} (h : Fx K mg) : ClD P w K mg base 2 "_law_class" ["InvalidSale", "InvalidPrice", "InvalidBids", "Repeated", "InvalidBidder", "InvalidBid", "InvalidIndex"] := by
  obtain ⟨f, fd, F, hg⟩ := h.f_law_class
  have hN := sc_law_class.nd
  refine clD_mk F sc_law_class hg (F.bindsN fun _ _ _ _ _ _ us hl => match us, hl with | [_], _ => rfl) (by decide) cl_true fun cdv A outer s H E p c hr S => ?_
  have hp : p ∈ (L2H.cxH (L2.CX P w) P w K mg base ["_law_error", "_law_kinds", "_law_names"] "_law_class" (defScope s_law_class) f cdv A outer s H E p).pn := List.mem_cons_self
  have hu : (L2H.cxH (L2.CX P w) P w K mg base ["_law_error", "_law_kinds", "_law_names"] "_law_class" (defScope s_law_class) f cdv A outer s H E p).A.units + 66 < cLine := by
    have := hr.un
    show (A.deeper _).units + 66 < cLine
    omega
  unfold mk_class
  exact (sb_cons (ss_own 1 [] (sl_lst (sa_cons (se_isP 0 hp S (by simp) h.z_isinstance) (sa_cons (se_isP 0 hp S (by simp) h.z_isinstance) sa_nil))) hN)
    (sb_cons (ss_ext 1 [] (se_l (sl_lst (sa_cons (se_isP 0 hp S (by simp) h.z_isinstance) (sa_cons (se_isP 0 hp S (by simp) h.z_isinstance) sa_nil)))))
    (sb_cons (ss_ext 1 [] (se_l (sl_lst (sa_cons (se_isP 0 hp S (by simp) h.z_isinstance) (sa_cons (se_isP 0 hp S (by simp) h.z_isinstance) sa_nil)))))
    (sb_cons (ss_ext 1 [] (se_l (sl_lst (sa_cons (se_isP 0 hp S (by simp) h.z_isinstance) sa_nil))))
    (sb_cons (ss_if [1] (st_w (sw_or (st_cmp od_neI (se_countU hu (se_var 1) se_bl) se_int) (sw_or1 (st_not (st_val (se_isPV 0 hp S h.z_isinstance h.z_ValueError)))))) (sb_one (ss_ret [] se_str)) sb_nil)
    (sb_cons (ss_own 2 [] (sl_lst (sa_cons se_str (sa_cons se_str (sa_cons se_str (sa_cons se_str sa_nil))))) hN)
    (sb_cons (ss_ext 2 [] (se_l (sl_lst (sa_cons se_str (sa_cons se_str (sa_cons se_str sa_nil))))))
    (sb_one (ss_ret [1, 2] (se_ix id_ix (se_var 2) (se_indexU hu (se_var 1) se_bl)))))))))))
theorem ok_law_result {P : Program} {w : World} {K : PySem.W.Frag} {mg : Str → Option Value} {base : Heap} (h : Fx K mg) : ResD P w K mg base 10 9 "_law_result" "error" ["InvalidSale", "InvalidPrice", "InvalidBids", "Repeated", "InvalidBidder", "InvalidBid", "InvalidIndex"] := by
  obtain ⟨f, fd, F, hg⟩ := h.f_law_result
  have hN := sc_law_result.nd
  refine resD_mk (k := 9) F sc_law_result hg (F.bindsN fun _ _ _ _ _ _ us hl => match us, hl with | [_], _ => rfl) (by decide) rfl fun cdv A outer s H E hr => ?_
  exact ps_res (i := 1) (n0 := "_law_call") (n := "_law_error") h.xv rfl rfl hN rfl rfl rfl rfl (by decide) ((takes_of rfl rfl rfl rfl).imp (fun _ _ _ _ z => z.elim)) (hr.mono (by decide)) (by decide) (by decide) (by decide) (.inl rfl) (by decide) (by decide) (ok_law_class h) (fun a => ⟨(hr.mono (j := 2) (by decide)).dp, (hr.mono (j := 2) (by decide)).un⟩) rfl (by decide) rfl rfl rfl rfl
theorem ok_law_all {P : Program} {w : World} {K : PySem.W.Frag} {mg : Str → Option Value} {base : Heap} (h : Fx K mg) : AllD P w K mg base 11 9 "_law_all" ["InvalidSale", "InvalidPrice", "InvalidBids", "Repeated", "InvalidBidder", "InvalidBid", "InvalidIndex"] := by
  obtain ⟨f, fd, F, hg⟩ := h.f_law_all
  have hN := sc_law_all.nd
  refine allD_mk (k := 10) F sc_law_all hg (F.bindsN fun _ _ _ _ _ _ us hl => match us, hl with | [_, _], _ => rfl) rfl h.z_all (fun cdv A outer s H E hr => ?_) fun cdv A outer s H E => ⟨rfl, rfl, rfl⟩
  exact pe_lc (own := [("_law_call", 2)]) rfl hN (pi_list (pe_var (i := 0) rfl (.inl rfl))) (blkOk_by (blkc (N := ["_law_calls", "_law_name", "_law_call"]) (sc := defScope s_law_all) (by decide +kernel))) (fun _ _ _ _ _ => pg_name (i := 2) hN rfl (.inl rfl)) (fun _ _ _ _ _ => pts_nil) (fun _ _ _ _ _ => pe_el 2 1 (ok_law_result h) (hr.mono (by decide)) passL eq_err rfl (by decide) rfl (by first | exact Or.inl rfl | exact Or.inr (Or.inl rfl) | exact Or.inr (Or.inr rfl)) (by decide) (by decide) rfl (by first | exact Or.inl rfl | exact Or.inr (Or.inl rfl) | exact Or.inr (Or.inr rfl)) (by decide) (by decide) rfl rfl rfl rfl rfl)
theorem lm_law_sales_0 {P : Program} {w : World} {K : PySem.W.Frag} {mg : Str → Option Value} {base : Heap} (h : Fx K mg) {q : Str} : LamM P w K mg base 8 q ["_law_no"] e_law_sales_0 (mCall (mDef m_next_price 2) (mCons (mVar 0) (mCons (mNeg (mC (.int 1))) mNil))) := ⟨lamN_by (by decide +kernel), fun _ _ _ _ => rfl, fun cells f c' A outer s H' E hr => by
  exact (se_call ((ok_next_price h).mono (k := 8) (by decide)) hr (passes_call (takes_of rfl rfl rfl rfl) (fun _ _ _ _ h => h)) (sa_cons (se_var 0) (sa_cons (se_neg se_int) sa_nil)))⟩
theorem lm_law_sales_1 {P : Program} {w : World} {K : PySem.W.Frag} {mg : Str → Option Value} {base : Heap} (h : Fx K mg) {q : Str} : LamM P w K mg base 8 q ["_law_no"] e_law_sales_1 (mCall (mDef m_climb 4) (mCons (mVar 0) (mCons (mNeg (mC (.int 1))) (mCons (mNeg (mC (.int 1))) mNil)))) := ⟨lamN_by (by decide +kernel), fun _ _ _ _ => rfl, fun cells f c' A outer s H' E hr => by
  exact (se_call ((ok_climb h).mono (k := 8) (by decide)) hr (passes_call (takes_of rfl rfl rfl rfl) (fun _ _ _ _ h => h)) (sa_cons (se_var 0) (sa_cons (se_neg se_int) (sa_cons (se_neg se_int) sa_nil))))⟩
theorem lm_law_sales_2 {P : Program} {w : World} {K : PySem.W.Frag} {mg : Str → Option Value} {base : Heap} (h : Fx K mg) {q : Str} : LamM P w K mg base 8 q ["_law_no"] e_law_sales_2 (mCall (mDef m_result 2) (mCons (mVar 0) (mCons (mC .none) mNil))) := ⟨lamN_by (by decide +kernel), fun _ _ _ _ => rfl, fun cells f c' A outer s H' E hr => by
  exact (se_call ((ok_result h).mono (k := 8) (by decide)) hr (passes_call (takes_of rfl rfl rfl rfl) (fun _ _ _ _ h => h)) (sa_cons (se_var 0) (sa_cons se_non sa_nil)))⟩
theorem lm_law_sales_3 {P : Program} {w : World} {K : PySem.W.Frag} {mg : Str → Option Value} {base : Heap} (h : Fx K mg) {q : Str} : LamM P w K mg base 8 q ["_law_no"] e_law_sales_3 (mCall (mDef m_states 2) (mCons (mVar 0) (mCons (mC .none) mNil))) := ⟨lamN_by (by decide +kernel), fun _ _ _ _ => rfl, fun cells f c' A outer s H' E hr => by
  exact (se_call ((ok_states h).mono (k := 8) (by decide)) hr (passes_call (takes_of rfl rfl rfl rfl) (fun _ _ _ _ h => h)) (sa_cons (se_var 0) (sa_cons se_non sa_nil)))⟩
theorem lm_law_sales_4 {P : Program} {w : World} {K : PySem.W.Frag} {mg : Str → Option Value} {base : Heap} (h : Fx K mg) {q : Str} : LamM P w K mg base 8 q ["_law_no"] e_law_sales_4 (mCall (mDef m_refused 2) (mCons (mVar 0) (mCons (mC .none) mNil))) := ⟨lamN_by (by decide +kernel), fun _ _ _ _ => rfl, fun cells f c' A outer s H' E hr => by
  exact (se_call ((ok_refused h).mono (k := 8) (by decide)) hr (passes_call (takes_of rfl rfl rfl rfl) (fun _ _ _ _ h => h)) (sa_cons (se_var 0) (sa_cons se_non sa_nil)))⟩
theorem lm_law_sales_5 {P : Program} {w : World} {K : PySem.W.Frag} {mg : Str → Option Value} {base : Heap} (h : Fx K mg) {q : Str} : LamM P w K mg base 8 q ["_law_no"] e_law_sales_5 (mCall (mDef m_winner 2) (mCons (mVar 0) (mCons (mC .none) mNil))) := ⟨lamN_by (by decide +kernel), fun _ _ _ _ => rfl, fun cells f c' A outer s H' E hr => by
  exact (se_call ((ok_winner h).mono (k := 8) (by decide)) hr (passes_call (takes_of rfl rfl rfl rfl) (fun _ _ _ _ h => h)) (sa_cons (se_var 0) (sa_cons se_non sa_nil)))⟩
theorem lm_law_sales_6 {P : Program} {w : World} {K : PySem.W.Frag} {mg : Str → Option Value} {base : Heap} (h : Fx K mg) {q : Str} : LamM P w K mg base 8 q ["_law_no"] e_law_sales_6 (mCall (mDef m_leads 8) (mCons (mVar 0) (mCons (mC .none) mNil))) := ⟨lamN_by (by decide +kernel), fun _ _ _ _ => rfl, fun cells f c' A outer s H' E hr => by
  exact (se_call ((ok_leads h).mono (k := 8) (by decide)) hr (passes_call (takes_of rfl rfl rfl rfl) (fun _ _ _ _ h => h)) (sa_cons (se_var 0) (sa_cons se_non sa_nil)))⟩
theorem lm_law_sales_7 {P : Program} {w : World} {K : PySem.W.Frag} {mg : Str → Option Value} {base : Heap} (h : Fx K mg) {q : Str} : LamM P w K mg base 8 q ["_law_no"] e_law_sales_7 (mCall (mDef m_possible_winners 6) (mCons (mVar 0) (mCons (mC .none) mNil))) := ⟨lamN_by (by decide +kernel), fun _ _ _ _ => rfl, fun cells f c' A outer s H' E hr => by
  exact (se_call ((ok_possible_winners h).mono (k := 8) (by decide)) hr (passes_call (takes_of rfl rfl rfl rfl) (fun _ _ _ _ h => h)) (sa_cons (se_var 0) (sa_cons se_non sa_nil)))⟩
theorem lm_law_sales_8 {P : Program} {w : World} {K : PySem.W.Frag} {mg : Str → Option Value} {base : Heap} (h : Fx K mg) {q : Str} : LamM P w K mg base 8 q ["_law_no"] e_law_sales_8 (mCall (mDef m_possible_prices 4) (mCons (mVar 0) (mCons (mC .none) mNil))) := ⟨lamN_by (by decide +kernel), fun _ _ _ _ => rfl, fun cells f c' A outer s H' E hr => by
  exact (se_call ((ok_possible_prices h).mono (k := 8) (by decide)) hr (passes_call (takes_of rfl rfl rfl rfl) (fun _ _ _ _ h => h)) (sa_cons (se_var 0) (sa_cons se_non sa_nil)))⟩
theorem lm_law_sales_9 {P : Program} {w : World} {K : PySem.W.Frag} {mg : Str → Option Value} {base : Heap} (h : Fx K mg) {q : Str} : LamM P w K mg base 8 q ["_law_no"] e_law_sales_9 (mCall (mDef m_does_order_matter 4) (mCons (mVar 0) (mCons (mC .none) mNil))) := ⟨lamN_by (by decide +kernel), fun _ _ _ _ => rfl, fun cells f c' A outer s H' E hr => by
  exact (se_call ((ok_does_order_matter h).mono (k := 8) (by decide)) hr (passes_call (takes_of rfl rfl rfl rfl) (fun _ _ _ _ h => h)) (sa_cons (se_var 0) (sa_cons se_non sa_nil)))⟩
theorem lm_law_sales_10 {P : Program} {w : World} {K : PySem.W.Frag} {mg : Str → Option Value} {base : Heap} (h : Fx K mg) {q : Str} : LamM P w K mg base 8 q ["_law_no"] e_law_sales_10 (mCall (mDef m_dearest_order 4) (mCons (mVar 0) (mCons (mC .none) mNil))) := ⟨lamN_by (by decide +kernel), fun _ _ _ _ => rfl, fun cells f c' A outer s H' E hr => by
  exact (se_call ((ok_dearest_order h).mono (k := 8) (by decide)) hr (passes_call (takes_of rfl rfl rfl rfl) (fun _ _ _ _ h => h)) (sa_cons (se_var 0) (sa_cons se_non sa_nil)))⟩
theorem lm_law_sales_11 {P : Program} {w : World} {K : PySem.W.Frag} {mg : Str → Option Value} {base : Heap} (h : Fx K mg) {q : Str} : LamM P w K mg base 8 q ["_law_no"] e_law_sales_11 (mCall (mDef m_cheapest_order 4) (mCons (mVar 0) (mCons (mC .none) mNil))) := ⟨lamN_by (by decide +kernel), fun _ _ _ _ => rfl, fun cells f c' A outer s H' E hr => by
  exact (se_call ((ok_cheapest_order h).mono (k := 8) (by decide)) hr (passes_call (takes_of rfl rfl rfl rfl) (fun _ _ _ _ h => h)) (sa_cons (se_var 0) (sa_cons se_non sa_nil)))⟩
theorem lm_law_sales_12 {P : Program} {w : World} {K : PySem.W.Frag} {mg : Str → Option Value} {base : Heap} (h : Fx K mg) {q : Str} : LamM P w K mg base 8 q ["_law_no"] e_law_sales_12 (mCall (mDef m_least_accepted 6) (mCons (mVar 0) (mCons (mC .none) (mCons (mC .none) mNil)))) := ⟨lamN_by (by decide +kernel), fun _ _ _ _ => rfl, fun cells f c' A outer s H' E hr => by
  exact (se_call ((ok_least_accepted h).mono (k := 8) (by decide)) hr (passes_call (takes_of rfl rfl rfl rfl) (fun _ _ _ _ h => h)) (sa_cons (se_var 0) (sa_cons se_non (sa_cons se_non sa_nil))))⟩
theorem lm_law_sales_13 {P : Program} {w : World} {K : PySem.W.Frag} {mg : Str → Option Value} {base : Heap} (h : Fx K mg) {q : Str} : LamM P w K mg base 8 q ["_law_no"] e_law_sales_13 (mCall (mDef m_least_leading 6) (mCons (mVar 0) (mCons (mC .none) (mCons (mC .none) mNil)))) := ⟨lamN_by (by decide +kernel), fun _ _ _ _ => rfl, fun cells f c' A outer s H' E hr => by
  exact (se_call ((ok_least_leading h).mono (k := 8) (by decide)) hr (passes_call (takes_of rfl rfl rfl rfl) (fun _ _ _ _ h => h)) (sa_cons (se_var 0) (sa_cons se_non (sa_cons se_non sa_nil))))⟩
theorem lm_law_sales_14 {P : Program} {w : World} {K : PySem.W.Frag} {mg : Str → Option Value} {base : Heap} (h : Fx K mg) {q : Str} : LamM P w K mg base 8 q ["_law_no"] e_law_sales_14 (mCall (mDef m_price_with 3) (mCons (mVar 0) (mCons (mC .none) (mCons (mC .none) mNil)))) := ⟨lamN_by (by decide +kernel), fun _ _ _ _ => rfl, fun cells f c' A outer s H' E hr => by
  exact (se_call ((ok_price_with h).mono (k := 8) (by decide)) hr (passes_call (takes_of rfl rfl rfl rfl) (fun _ _ _ _ h => h)) (sa_cons (se_var 0) (sa_cons se_non (sa_cons se_non sa_nil))))⟩
theorem lm_law_sales_15 {P : Program} {w : World} {K : PySem.W.Frag} {mg : Str → Option Value} {base : Heap} (h : Fx K mg) {q : Str} : LamM P w K mg base 8 q ["_law_no"] e_law_sales_15 (mCall (mDef m_greatest_price 5) (mCons (mVar 0) (mCons (mC .none) mNil))) := ⟨lamN_by (by decide +kernel), fun _ _ _ _ => rfl, fun cells f c' A outer s H' E hr => by
  exact (se_call ((ok_greatest_price h).mono (k := 8) (by decide)) hr (passes_call (takes_of rfl rfl rfl rfl) (fun _ _ _ _ h => h)) (sa_cons (se_var 0) (sa_cons se_non sa_nil)))⟩
theorem lm_law_sales_16 {P : Program} {w : World} {K : PySem.W.Frag} {mg : Str → Option Value} {base : Heap} (h : Fx K mg) {q : Str} : LamM P w K mg base 8 q ["_law_no"] e_law_sales_16 (mCall (mDef m_without_bid 3) (mCons (mVar 0) (mCons (mC .none) (mCons (mNeg (mC (.int 1))) mNil)))) := ⟨lamN_by (by decide +kernel), fun _ _ _ _ => rfl, fun cells f c' A outer s H' E hr => by
  exact (se_call ((ok_without_bid h).mono (k := 8) (by decide)) hr (passes_call (takes_of rfl rfl rfl rfl) (fun _ _ _ _ h => h)) (sa_cons (se_var 0) (sa_cons se_non (sa_cons (se_neg se_int) sa_nil))))⟩
theorem lm_law_sales_17 {P : Program} {w : World} {K : PySem.W.Frag} {mg : Str → Option Value} {base : Heap} (h : Fx K mg) {q : Str} : LamM P w K mg base 8 q ["_law_no"] e_law_sales_17 (mCall (mDef m_raisers 8) (mCons (mVar 0) (mCons (mC .none) mNil))) := ⟨lamN_by (by decide +kernel), fun _ _ _ _ => rfl, fun cells f c' A outer s H' E hr => by
  exact (se_call ((ok_raisers h).mono (k := 8) (by decide)) hr (passes_call (takes_of rfl rfl rfl rfl) (fun _ _ _ _ h => h)) (sa_cons (se_var 0) (sa_cons se_non sa_nil)))⟩
theorem lm_law_sales_18 {P : Program} {w : World} {K : PySem.W.Frag} {mg : Str → Option Value} {base : Heap} (h : Fx K mg) {q : Str} : LamM P w K mg base 8 q ["_law_no"] e_law_sales_18 (mCall (mDef m_needless 4) (mCons (mVar 0) (mCons (mC .none) mNil))) := ⟨lamN_by (by decide +kernel), fun _ _ _ _ => rfl, fun cells f c' A outer s H' E hr => by
  exact (se_call ((ok_needless h).mono (k := 8) (by decide)) hr (passes_call (takes_of rfl rfl rfl rfl) (fun _ _ _ _ h => h)) (sa_cons (se_var 0) (sa_cons se_non sa_nil)))⟩
theorem lm_law_sales_19 {P : Program} {w : World} {K : PySem.W.Frag} {mg : Str → Option Value} {base : Heap} (h : Fx K mg) {q : Str} : LamM P w K mg base 8 q ["_law_no"] e_law_sales_19 (mCall (mDef m_deciding 4) (mCons (mVar 0) (mCons (mC .none) mNil))) := ⟨lamN_by (by decide +kernel), fun _ _ _ _ => rfl, fun cells f c' A outer s H' E hr => by
  exact (se_call ((ok_deciding h).mono (k := 8) (by decide)) hr (passes_call (takes_of rfl rfl rfl rfl) (fun _ _ _ _ h => h)) (sa_cons (se_var 0) (sa_cons se_non sa_nil)))⟩
theorem lm_law_sales_20 {P : Program} {w : World} {K : PySem.W.Frag} {mg : Str → Option Value} {base : Heap} (h : Fx K mg) {q : Str} : LamM P w K mg base 8 q ["_law_no"] e_law_sales_20 (mCall (mDef m_known_amount 2) (mCons (mVar 0) (mCons (mC .none) mNil))) := ⟨lamN_by (by decide +kernel), fun _ _ _ _ => rfl, fun cells f c' A outer s H' E hr => by
  exact (se_call ((ok_known_amount h).mono (k := 8) (by decide)) hr (passes_call (takes_of rfl rfl rfl rfl) (fun _ _ _ _ h => h)) (sa_cons (se_var 0) (sa_cons se_non sa_nil)))⟩
theorem lm_law_sales_21 {P : Program} {w : World} {K : PySem.W.Frag} {mg : Str → Option Value} {base : Heap} (h : Fx K mg) {q : Str} : LamM P w K mg base 8 q ["_law_no"] e_law_sales_21 (mCall (mDef m_is_known 3) (mCons (mVar 0) (mCons (mC .none) mNil))) := ⟨lamN_by (by decide +kernel), fun _ _ _ _ => rfl, fun cells f c' A outer s H' E hr => by
  exact (se_call ((ok_is_known h).mono (k := 8) (by decide)) hr (passes_call (takes_of rfl rfl rfl rfl) (fun _ _ _ _ h => h)) (sa_cons (se_var 0) (sa_cons se_non sa_nil)))⟩
theorem lm_law_sales_22 {P : Program} {w : World} {K : PySem.W.Frag} {mg : Str → Option Value} {base : Heap} (h : Fx K mg) {q : Str} : LamM P w K mg base 8 q ["_law_no"] e_law_sales_22 (mCall (mDef m_still_to_pay 5) (mCons (mVar 0) (mCons (mC .none) mNil))) := ⟨lamN_by (by decide +kernel), fun _ _ _ _ => rfl, fun cells f c' A outer s H' E hr => by
  exact (se_call ((ok_still_to_pay h).mono (k := 8) (by decide)) hr (passes_call (takes_of rfl rfl rfl rfl) (fun _ _ _ _ h => h)) (sa_cons (se_var 0) (sa_cons se_non sa_nil)))⟩
theorem lm_law_bids_0 {P : Program} {w : World} {K : PySem.W.Frag} {mg : Str → Option Value} {base : Heap} (h : Fx K mg) {q : Str} : LamM P w K mg base 8 q ["_law_house_here", "_law_no"] e_law_bids_0 (mCall (mDef m_result 2) (mCons (mVar 0) (mCons (mVar 1) mNil))) := ⟨lamN_by (by decide +kernel), fun _ _ _ _ => rfl, fun cells f c' A outer s H' E hr => by
  exact (se_call ((ok_result h).mono (k := 8) (by decide)) hr (passes_call (takes_of rfl rfl rfl rfl) (fun _ _ _ _ h => h)) (sa_cons (se_var 0) (sa_cons (se_var 1) sa_nil)))⟩
theorem lm_law_bids_1 {P : Program} {w : World} {K : PySem.W.Frag} {mg : Str → Option Value} {base : Heap} (h : Fx K mg) {q : Str} : LamM P w K mg base 8 q ["_law_house_here", "_law_no"] e_law_bids_1 (mCall (mDef m_states 2) (mCons (mVar 0) (mCons (mVar 1) mNil))) := ⟨lamN_by (by decide +kernel), fun _ _ _ _ => rfl, fun cells f c' A outer s H' E hr => by
  exact (se_call ((ok_states h).mono (k := 8) (by decide)) hr (passes_call (takes_of rfl rfl rfl rfl) (fun _ _ _ _ h => h)) (sa_cons (se_var 0) (sa_cons (se_var 1) sa_nil)))⟩
theorem lm_law_bids_2 {P : Program} {w : World} {K : PySem.W.Frag} {mg : Str → Option Value} {base : Heap} (h : Fx K mg) {q : Str} : LamM P w K mg base 8 q ["_law_house_here", "_law_no"] e_law_bids_2 (mCall (mDef m_refused 2) (mCons (mVar 0) (mCons (mVar 1) mNil))) := ⟨lamN_by (by decide +kernel), fun _ _ _ _ => rfl, fun cells f c' A outer s H' E hr => by
  exact (se_call ((ok_refused h).mono (k := 8) (by decide)) hr (passes_call (takes_of rfl rfl rfl rfl) (fun _ _ _ _ h => h)) (sa_cons (se_var 0) (sa_cons (se_var 1) sa_nil)))⟩
theorem lm_law_bids_3 {P : Program} {w : World} {K : PySem.W.Frag} {mg : Str → Option Value} {base : Heap} (h : Fx K mg) {q : Str} : LamM P w K mg base 8 q ["_law_house_here", "_law_no"] e_law_bids_3 (mCall (mDef m_winner 2) (mCons (mVar 0) (mCons (mVar 1) mNil))) := ⟨lamN_by (by decide +kernel), fun _ _ _ _ => rfl, fun cells f c' A outer s H' E hr => by
  exact (se_call ((ok_winner h).mono (k := 8) (by decide)) hr (passes_call (takes_of rfl rfl rfl rfl) (fun _ _ _ _ h => h)) (sa_cons (se_var 0) (sa_cons (se_var 1) sa_nil)))⟩
theorem lm_law_bids_4 {P : Program} {w : World} {K : PySem.W.Frag} {mg : Str → Option Value} {base : Heap} (h : Fx K mg) {q : Str} : LamM P w K mg base 8 q ["_law_house_here", "_law_no"] e_law_bids_4 (mCall (mDef m_leads 8) (mCons (mVar 0) (mCons (mVar 1) mNil))) := ⟨lamN_by (by decide +kernel), fun _ _ _ _ => rfl, fun cells f c' A outer s H' E hr => by
  exact (se_call ((ok_leads h).mono (k := 8) (by decide)) hr (passes_call (takes_of rfl rfl rfl rfl) (fun _ _ _ _ h => h)) (sa_cons (se_var 0) (sa_cons (se_var 1) sa_nil)))⟩
theorem lm_law_bids_5 {P : Program} {w : World} {K : PySem.W.Frag} {mg : Str → Option Value} {base : Heap} (h : Fx K mg) {q : Str} : LamM P w K mg base 8 q ["_law_house_here", "_law_no"] e_law_bids_5 (mCall (mDef m_are_single 1) (mCons (mVar 1) mNil)) := ⟨lamN_by (by decide +kernel), fun _ _ _ _ => rfl, fun cells f c' A outer s H' E hr => by
  exact (se_call ((ok_are_single h).mono (k := 8) (by decide)) hr (passes_call (takes_of rfl rfl rfl rfl) (fun _ _ _ _ h => h)) (sa_cons (se_var 1) sa_nil))⟩
theorem lm_law_bids_6 {P : Program} {w : World} {K : PySem.W.Frag} {mg : Str → Option Value} {base : Heap} (h : Fx K mg) {q : Str} : LamM P w K mg base 8 q ["_law_house_here", "_law_no"] e_law_bids_6 (mCall (mDef m_possible_winners 6) (mCons (mVar 0) (mCons (mVar 1) mNil))) := ⟨lamN_by (by decide +kernel), fun _ _ _ _ => rfl, fun cells f c' A outer s H' E hr => by
  exact (se_call ((ok_possible_winners h).mono (k := 8) (by decide)) hr (passes_call (takes_of rfl rfl rfl rfl) (fun _ _ _ _ h => h)) (sa_cons (se_var 0) (sa_cons (se_var 1) sa_nil)))⟩
theorem lm_law_bids_7 {P : Program} {w : World} {K : PySem.W.Frag} {mg : Str → Option Value} {base : Heap} (h : Fx K mg) {q : Str} : LamM P w K mg base 8 q ["_law_house_here", "_law_no"] e_law_bids_7 (mCall (mDef m_possible_prices 4) (mCons (mVar 0) (mCons (mVar 1) mNil))) := ⟨lamN_by (by decide +kernel), fun _ _ _ _ => rfl, fun cells f c' A outer s H' E hr => by
  exact (se_call ((ok_possible_prices h).mono (k := 8) (by decide)) hr (passes_call (takes_of rfl rfl rfl rfl) (fun _ _ _ _ h => h)) (sa_cons (se_var 0) (sa_cons (se_var 1) sa_nil)))⟩
theorem lm_law_bids_8 {P : Program} {w : World} {K : PySem.W.Frag} {mg : Str → Option Value} {base : Heap} (h : Fx K mg) {q : Str} : LamM P w K mg base 8 q ["_law_house_here", "_law_no"] e_law_bids_8 (mCall (mDef m_does_order_matter 4) (mCons (mVar 0) (mCons (mVar 1) mNil))) := ⟨lamN_by (by decide +kernel), fun _ _ _ _ => rfl, fun cells f c' A outer s H' E hr => by
  exact (se_call ((ok_does_order_matter h).mono (k := 8) (by decide)) hr (passes_call (takes_of rfl rfl rfl rfl) (fun _ _ _ _ h => h)) (sa_cons (se_var 0) (sa_cons (se_var 1) sa_nil)))⟩
theorem lm_law_bids_9 {P : Program} {w : World} {K : PySem.W.Frag} {mg : Str → Option Value} {base : Heap} (h : Fx K mg) {q : Str} : LamM P w K mg base 8 q ["_law_house_here", "_law_no"] e_law_bids_9 (mCall (mDef m_dearest_order 4) (mCons (mVar 0) (mCons (mVar 1) mNil))) := ⟨lamN_by (by decide +kernel), fun _ _ _ _ => rfl, fun cells f c' A outer s H' E hr => by
  exact (se_call ((ok_dearest_order h).mono (k := 8) (by decide)) hr (passes_call (takes_of rfl rfl rfl rfl) (fun _ _ _ _ h => h)) (sa_cons (se_var 0) (sa_cons (se_var 1) sa_nil)))⟩
theorem lm_law_bids_10 {P : Program} {w : World} {K : PySem.W.Frag} {mg : Str → Option Value} {base : Heap} (h : Fx K mg) {q : Str} : LamM P w K mg base 8 q ["_law_house_here", "_law_no"] e_law_bids_10 (mCall (mDef m_cheapest_order 4) (mCons (mVar 0) (mCons (mVar 1) mNil))) := ⟨lamN_by (by decide +kernel), fun _ _ _ _ => rfl, fun cells f c' A outer s H' E hr => by
  exact (se_call ((ok_cheapest_order h).mono (k := 8) (by decide)) hr (passes_call (takes_of rfl rfl rfl rfl) (fun _ _ _ _ h => h)) (sa_cons (se_var 0) (sa_cons (se_var 1) sa_nil)))⟩
theorem lm_law_bids_11 {P : Program} {w : World} {K : PySem.W.Frag} {mg : Str → Option Value} {base : Heap} (h : Fx K mg) {q : Str} : LamM P w K mg base 8 q ["_law_house_here", "_law_no"] e_law_bids_11 (mCall (mDef m_least_accepted 6) (mCons (mVar 0) (mCons (mVar 1) (mCons (mC .none) mNil)))) := ⟨lamN_by (by decide +kernel), fun _ _ _ _ => rfl, fun cells f c' A outer s H' E hr => by
  exact (se_call ((ok_least_accepted h).mono (k := 8) (by decide)) hr (passes_call (takes_of rfl rfl rfl rfl) (fun _ _ _ _ h => h)) (sa_cons (se_var 0) (sa_cons (se_var 1) (sa_cons se_non sa_nil))))⟩
theorem lm_law_bids_12 {P : Program} {w : World} {K : PySem.W.Frag} {mg : Str → Option Value} {base : Heap} (h : Fx K mg) {q : Str} : LamM P w K mg base 8 q ["_law_house_here", "_law_no"] e_law_bids_12 (mCall (mDef m_least_leading 6) (mCons (mVar 0) (mCons (mVar 1) (mCons (mC .none) mNil)))) := ⟨lamN_by (by decide +kernel), fun _ _ _ _ => rfl, fun cells f c' A outer s H' E hr => by
  exact (se_call ((ok_least_leading h).mono (k := 8) (by decide)) hr (passes_call (takes_of rfl rfl rfl rfl) (fun _ _ _ _ h => h)) (sa_cons (se_var 0) (sa_cons (se_var 1) (sa_cons se_non sa_nil))))⟩
theorem lm_law_bids_13 {P : Program} {w : World} {K : PySem.W.Frag} {mg : Str → Option Value} {base : Heap} (h : Fx K mg) {q : Str} : LamM P w K mg base 8 q ["_law_house_here", "_law_no"] e_law_bids_13 (mCall (mDef m_price_with 3) (mCons (mVar 0) (mCons (mVar 1) (mCons (mC .none) mNil)))) := ⟨lamN_by (by decide +kernel), fun _ _ _ _ => rfl, fun cells f c' A outer s H' E hr => by
  exact (se_call ((ok_price_with h).mono (k := 8) (by decide)) hr (passes_call (takes_of rfl rfl rfl rfl) (fun _ _ _ _ h => h)) (sa_cons (se_var 0) (sa_cons (se_var 1) (sa_cons se_non sa_nil))))⟩
theorem lm_law_bids_14 {P : Program} {w : World} {K : PySem.W.Frag} {mg : Str → Option Value} {base : Heap} (h : Fx K mg) {q : Str} : LamM P w K mg base 8 q ["_law_house_here", "_law_no"] e_law_bids_14 (mCall (mDef m_greatest_price 5) (mCons (mVar 0) (mCons (mVar 1) mNil))) := ⟨lamN_by (by decide +kernel), fun _ _ _ _ => rfl, fun cells f c' A outer s H' E hr => by
  exact (se_call ((ok_greatest_price h).mono (k := 8) (by decide)) hr (passes_call (takes_of rfl rfl rfl rfl) (fun _ _ _ _ h => h)) (sa_cons (se_var 0) (sa_cons (se_var 1) sa_nil)))⟩
theorem lm_law_bids_15 {P : Program} {w : World} {K : PySem.W.Frag} {mg : Str → Option Value} {base : Heap} (h : Fx K mg) {q : Str} : LamM P w K mg base 8 q ["_law_house_here", "_law_no"] e_law_bids_15 (mCall (mDef m_without_bid 3) (mCons (mVar 0) (mCons (mVar 1) (mCons (mNeg (mC (.int 1))) mNil)))) := ⟨lamN_by (by decide +kernel), fun _ _ _ _ => rfl, fun cells f c' A outer s H' E hr => by
  exact (se_call ((ok_without_bid h).mono (k := 8) (by decide)) hr (passes_call (takes_of rfl rfl rfl rfl) (fun _ _ _ _ h => h)) (sa_cons (se_var 0) (sa_cons (se_var 1) (sa_cons (se_neg se_int) sa_nil))))⟩
theorem lm_law_bids_16 {P : Program} {w : World} {K : PySem.W.Frag} {mg : Str → Option Value} {base : Heap} (h : Fx K mg) {q : Str} : LamM P w K mg base 8 q ["_law_house_here", "_law_no"] e_law_bids_16 (mCall (mDef m_raisers 8) (mCons (mVar 0) (mCons (mVar 1) mNil))) := ⟨lamN_by (by decide +kernel), fun _ _ _ _ => rfl, fun cells f c' A outer s H' E hr => by
  exact (se_call ((ok_raisers h).mono (k := 8) (by decide)) hr (passes_call (takes_of rfl rfl rfl rfl) (fun _ _ _ _ h => h)) (sa_cons (se_var 0) (sa_cons (se_var 1) sa_nil)))⟩
theorem lm_law_bids_17 {P : Program} {w : World} {K : PySem.W.Frag} {mg : Str → Option Value} {base : Heap} (h : Fx K mg) {q : Str} : LamM P w K mg base 8 q ["_law_house_here", "_law_no"] e_law_bids_17 (mCall (mDef m_needless 4) (mCons (mVar 0) (mCons (mVar 1) mNil))) := ⟨lamN_by (by decide +kernel), fun _ _ _ _ => rfl, fun cells f c' A outer s H' E hr => by
  exact (se_call ((ok_needless h).mono (k := 8) (by decide)) hr (passes_call (takes_of rfl rfl rfl rfl) (fun _ _ _ _ h => h)) (sa_cons (se_var 0) (sa_cons (se_var 1) sa_nil)))⟩
theorem lm_law_bids_18 {P : Program} {w : World} {K : PySem.W.Frag} {mg : Str → Option Value} {base : Heap} (h : Fx K mg) {q : Str} : LamM P w K mg base 8 q ["_law_house_here", "_law_no"] e_law_bids_18 (mCall (mDef m_deciding 4) (mCons (mVar 0) (mCons (mVar 1) mNil))) := ⟨lamN_by (by decide +kernel), fun _ _ _ _ => rfl, fun cells f c' A outer s H' E hr => by
  exact (se_call ((ok_deciding h).mono (k := 8) (by decide)) hr (passes_call (takes_of rfl rfl rfl rfl) (fun _ _ _ _ h => h)) (sa_cons (se_var 0) (sa_cons (se_var 1) sa_nil)))⟩
theorem lm_law_bids_19 {P : Program} {w : World} {K : PySem.W.Frag} {mg : Str → Option Value} {base : Heap} (h : Fx K mg) {q : Str} : LamM P w K mg base 8 q ["_law_house_here", "_law_no"] e_law_bids_19 (mCall (mDef m_known_amount 2) (mCons (mVar 0) (mCons (mVar 1) mNil))) := ⟨lamN_by (by decide +kernel), fun _ _ _ _ => rfl, fun cells f c' A outer s H' E hr => by
  exact (se_call ((ok_known_amount h).mono (k := 8) (by decide)) hr (passes_call (takes_of rfl rfl rfl rfl) (fun _ _ _ _ h => h)) (sa_cons (se_var 0) (sa_cons (se_var 1) sa_nil)))⟩
theorem lm_law_bids_20 {P : Program} {w : World} {K : PySem.W.Frag} {mg : Str → Option Value} {base : Heap} (h : Fx K mg) {q : Str} : LamM P w K mg base 8 q ["_law_house_here", "_law_no"] e_law_bids_20 (mCall (mDef m_is_known 3) (mCons (mVar 0) (mCons (mVar 1) mNil))) := ⟨lamN_by (by decide +kernel), fun _ _ _ _ => rfl, fun cells f c' A outer s H' E hr => by
  exact (se_call ((ok_is_known h).mono (k := 8) (by decide)) hr (passes_call (takes_of rfl rfl rfl rfl) (fun _ _ _ _ h => h)) (sa_cons (se_var 0) (sa_cons (se_var 1) sa_nil)))⟩
theorem lm_law_bids_21 {P : Program} {w : World} {K : PySem.W.Frag} {mg : Str → Option Value} {base : Heap} (h : Fx K mg) {q : Str} : LamM P w K mg base 8 q ["_law_house_here", "_law_no"] e_law_bids_21 (mCall (mDef m_still_to_pay 5) (mCons (mVar 0) (mCons (mVar 1) mNil))) := ⟨lamN_by (by decide +kernel), fun _ _ _ _ => rfl, fun cells f c' A outer s H' E hr => by
  exact (se_call ((ok_still_to_pay h).mono (k := 8) (by decide)) hr (passes_call (takes_of rfl rfl rfl rfl) (fun _ _ _ _ h => h)) (sa_cons (se_var 0) (sa_cons (se_var 1) sa_nil)))⟩
theorem lm_law_6 {P : Program} {w : World} {K : PySem.W.Frag} {mg : Str → Option Value} {base : Heap} (h : Fx K mg) {q : Str} : LamM P w K mg base 8 q ["_law_house_here", "_law_offers_here", "_law_twice"] e_law_6 (mCall (mDef m_next_price 2) (mCons (mVar 0) (mCons (mNeg (mC (.int 1))) mNil))) := ⟨lamN_by (by decide +kernel), fun _ _ _ _ => rfl, fun cells f c' A outer s H' E hr => by
  exact (se_call ((ok_next_price h).mono (k := 8) (by decide)) hr (passes_call (takes_of rfl rfl rfl rfl) (fun _ _ _ _ h => h)) (sa_cons (se_var 0) (sa_cons (se_neg se_int) sa_nil)))⟩
theorem lm_law_7 {P : Program} {w : World} {K : PySem.W.Frag} {mg : Str → Option Value} {base : Heap} (h : Fx K mg) {q : Str} : LamM P w K mg base 8 q ["_law_house_here", "_law_offers_here", "_law_twice"] e_law_7 (mCall (mDef m_next_price 2) (mCons (mVar 0) (mCons (mC (.int 201)) mNil))) := ⟨lamN_by (by decide +kernel), fun _ _ _ _ => rfl, fun cells f c' A outer s H' E hr => by
  exact (se_call ((ok_next_price h).mono (k := 8) (by decide)) hr (passes_call (takes_of rfl rfl rfl rfl) (fun _ _ _ _ h => h)) (sa_cons (se_var 0) (sa_cons se_int sa_nil)))⟩
theorem lm_law_8 {P : Program} {w : World} {K : PySem.W.Frag} {mg : Str → Option Value} {base : Heap} (h : Fx K mg) {q : Str} : LamM P w K mg base 8 q ["_law_house_here", "_law_offers_here", "_law_twice"] e_law_8 (mCall (mDef m_climb 4) (mCons (mVar 0) (mCons (mC (.bool true)) (mCons (mNeg (mC (.int 1))) mNil)))) := ⟨lamN_by (by decide +kernel), fun _ _ _ _ => rfl, fun cells f c' A outer s H' E hr => by
  exact (se_call ((ok_climb h).mono (k := 8) (by decide)) hr (passes_call (takes_of rfl rfl rfl rfl) (fun _ _ _ _ h => h)) (sa_cons (se_var 0) (sa_cons se_bl (sa_cons (se_neg se_int) sa_nil))))⟩
theorem lm_law_9 {P : Program} {w : World} {K : PySem.W.Frag} {mg : Str → Option Value} {base : Heap} (h : Fx K mg) {q : Str} : LamM P w K mg base 8 q ["_law_house_here", "_law_offers_here", "_law_twice"] e_law_9 (mCall (mDef m_climb 4) (mCons (mVar 0) (mCons (mC (.int 5)) (mCons (mC (.int 201)) mNil)))) := ⟨lamN_by (by decide +kernel), fun _ _ _ _ => rfl, fun cells f c' A outer s H' E hr => by
  exact (se_call ((ok_climb h).mono (k := 8) (by decide)) hr (passes_call (takes_of rfl rfl rfl rfl) (fun _ _ _ _ h => h)) (sa_cons (se_var 0) (sa_cons se_int (sa_cons se_int sa_nil))))⟩
theorem lm_law_11 {P : Program} {w : World} {K : PySem.W.Frag} {mg : Str → Option Value} {base : Heap} (h : Fx K mg) {q : Str} : LamM P w K mg base 8 q ["_law_house_here", "_law_offers_here", "_law_twice"] e_law_11 (mCall (mDef m_possible_winners 6) (mCons (mVar 0) (mCons (mVar 2) mNil))) := ⟨lamN_by (by decide +kernel), fun _ _ _ _ => rfl, fun cells f c' A outer s H' E hr => by
  exact (se_call ((ok_possible_winners h).mono (k := 8) (by decide)) hr (passes_call (takes_of rfl rfl rfl rfl) (fun _ _ _ _ h => h)) (sa_cons (se_var 0) (sa_cons (se_var 2) sa_nil)))⟩
theorem lm_law_12 {P : Program} {w : World} {K : PySem.W.Frag} {mg : Str → Option Value} {base : Heap} (h : Fx K mg) {q : Str} : LamM P w K mg base 8 q ["_law_house_here", "_law_offers_here", "_law_twice"] e_law_12 (mCall (mDef m_possible_prices 4) (mCons (mVar 0) (mCons (mVar 2) mNil))) := ⟨lamN_by (by decide +kernel), fun _ _ _ _ => rfl, fun cells f c' A outer s H' E hr => by
  exact (se_call ((ok_possible_prices h).mono (k := 8) (by decide)) hr (passes_call (takes_of rfl rfl rfl rfl) (fun _ _ _ _ h => h)) (sa_cons (se_var 0) (sa_cons (se_var 2) sa_nil)))⟩
theorem lm_law_13 {P : Program} {w : World} {K : PySem.W.Frag} {mg : Str → Option Value} {base : Heap} (h : Fx K mg) {q : Str} : LamM P w K mg base 8 q ["_law_house_here", "_law_offers_here", "_law_twice"] e_law_13 (mCall (mDef m_does_order_matter 4) (mCons (mVar 0) (mCons (mVar 2) mNil))) := ⟨lamN_by (by decide +kernel), fun _ _ _ _ => rfl, fun cells f c' A outer s H' E hr => by
  exact (se_call ((ok_does_order_matter h).mono (k := 8) (by decide)) hr (passes_call (takes_of rfl rfl rfl rfl) (fun _ _ _ _ h => h)) (sa_cons (se_var 0) (sa_cons (se_var 2) sa_nil)))⟩
theorem lm_law_14 {P : Program} {w : World} {K : PySem.W.Frag} {mg : Str → Option Value} {base : Heap} (h : Fx K mg) {q : Str} : LamM P w K mg base 8 q ["_law_house_here", "_law_offers_here", "_law_twice"] e_law_14 (mCall (mDef m_dearest_order 4) (mCons (mVar 0) (mCons (mVar 2) mNil))) := ⟨lamN_by (by decide +kernel), fun _ _ _ _ => rfl, fun cells f c' A outer s H' E hr => by
  exact (se_call ((ok_dearest_order h).mono (k := 8) (by decide)) hr (passes_call (takes_of rfl rfl rfl rfl) (fun _ _ _ _ h => h)) (sa_cons (se_var 0) (sa_cons (se_var 2) sa_nil)))⟩
theorem lm_law_15 {P : Program} {w : World} {K : PySem.W.Frag} {mg : Str → Option Value} {base : Heap} (h : Fx K mg) {q : Str} : LamM P w K mg base 8 q ["_law_house_here", "_law_offers_here", "_law_twice"] e_law_15 (mCall (mDef m_cheapest_order 4) (mCons (mVar 0) (mCons (mVar 2) mNil))) := ⟨lamN_by (by decide +kernel), fun _ _ _ _ => rfl, fun cells f c' A outer s H' E hr => by
  exact (se_call ((ok_cheapest_order h).mono (k := 8) (by decide)) hr (passes_call (takes_of rfl rfl rfl rfl) (fun _ _ _ _ h => h)) (sa_cons (se_var 0) (sa_cons (se_var 2) sa_nil)))⟩
theorem lm_law_16 {P : Program} {w : World} {K : PySem.W.Frag} {mg : Str → Option Value} {base : Heap} (h : Fx K mg) {q : Str} : LamM P w K mg base 8 q ["_law_house_here", "_law_offers_here", "_law_twice"] e_law_16 (mCall (mDef m_least_accepted 6) (mCons (mVar 0) (mCons (mVar 1) (mCons (mC (.str (PySem.Str.ofString "g"))) mNil)))) := ⟨lamN_by (by decide +kernel), fun _ _ _ _ => rfl, fun cells f c' A outer s H' E hr => by
  exact (se_call ((ok_least_accepted h).mono (k := 8) (by decide)) hr (passes_call (takes_of rfl rfl rfl rfl) (fun _ _ _ _ h => h)) (sa_cons (se_var 0) (sa_cons (se_var 1) (sa_cons se_str sa_nil))))⟩
theorem lm_law_17 {P : Program} {w : World} {K : PySem.W.Frag} {mg : Str → Option Value} {base : Heap} (h : Fx K mg) {q : Str} : LamM P w K mg base 8 q ["_law_house_here", "_law_offers_here", "_law_twice"] e_law_17 (mCall (mDef m_least_leading 6) (mCons (mVar 0) (mCons (mVar 1) (mCons (mC .none) mNil)))) := ⟨lamN_by (by decide +kernel), fun _ _ _ _ => rfl, fun cells f c' A outer s H' E hr => by
  exact (se_call ((ok_least_leading h).mono (k := 8) (by decide)) hr (passes_call (takes_of rfl rfl rfl rfl) (fun _ _ _ _ h => h)) (sa_cons (se_var 0) (sa_cons (se_var 1) (sa_cons se_non sa_nil))))⟩
theorem lm_law_18 {P : Program} {w : World} {K : PySem.W.Frag} {mg : Str → Option Value} {base : Heap} (h : Fx K mg) {q : Str} : LamM P w K mg base 8 q ["_law_house_here", "_law_offers_here", "_law_twice"] e_law_18 (mCall (mDef m_least_leading 6) (mCons (mVar 0) (mCons (mVar 1) (mCons (mC (.str (PySem.Str.ofString "ab"))) mNil)))) := ⟨lamN_by (by decide +kernel), fun _ _ _ _ => rfl, fun cells f c' A outer s H' E hr => by
  exact (se_call ((ok_least_leading h).mono (k := 8) (by decide)) hr (passes_call (takes_of rfl rfl rfl rfl) (fun _ _ _ _ h => h)) (sa_cons (se_var 0) (sa_cons (se_var 1) (sa_cons se_str sa_nil))))⟩
theorem lm_law_19 {P : Program} {w : World} {K : PySem.W.Frag} {mg : Str → Option Value} {base : Heap} (h : Fx K mg) {q : Str} : LamM P w K mg base 8 q ["_law_house_here", "_law_offers_here", "_law_twice"] e_law_19 (mCall (mDef m_price_with 3) (mCons (mVar 0) (mCons (mVar 1) (mCons (mC .none) mNil)))) := ⟨lamN_by (by decide +kernel), fun _ _ _ _ => rfl, fun cells f c' A outer s H' E hr => by
  exact (se_call ((ok_price_with h).mono (k := 8) (by decide)) hr (passes_call (takes_of rfl rfl rfl rfl) (fun _ _ _ _ h => h)) (sa_cons (se_var 0) (sa_cons (se_var 1) (sa_cons se_non sa_nil))))⟩
theorem lm_law_20 {P : Program} {w : World} {K : PySem.W.Frag} {mg : Str → Option Value} {base : Heap} (h : Fx K mg) {q : Str} : LamM P w K mg base 8 q ["_law_house_here", "_law_offers_here", "_law_twice"] e_law_20 (mCall (mDef m_price_with 3) (mCons (mVar 0) (mCons (mVar 1) (mCons (mTup (mCons (mC (.str (PySem.Str.ofString "a"))) (mCons (mC (.int 0)) mNil))) mNil)))) := ⟨lamN_by (by decide +kernel), fun _ _ _ _ => rfl, fun cells f c' A outer s H' E hr => by
  exact (se_call ((ok_price_with h).mono (k := 8) (by decide)) hr (passes_call (takes_of rfl rfl rfl rfl) (fun _ _ _ _ h => h)) (sa_cons (se_var 0) (sa_cons (se_var 1) (sa_cons (se_tup (sa_cons se_str (sa_cons se_int sa_nil))) sa_nil))))⟩
theorem lm_law_21 {P : Program} {w : World} {K : PySem.W.Frag} {mg : Str → Option Value} {base : Heap} (h : Fx K mg) {q : Str} : LamM P w K mg base 8 q ["_law_house_here", "_law_offers_here", "_law_twice"] e_law_21 (mCall (mDef m_price_with 3) (mCons (mVar 0) (mCons (mVar 1) (mCons (mL (mCons (mC (.str (PySem.Str.ofString "a"))) (mCons (mC (.int 1)) mNil))) mNil)))) := ⟨lamN_by (by decide +kernel), fun _ _ _ _ => rfl, fun cells f c' A outer s H' E hr => by
  exact (se_call ((ok_price_with h).mono (k := 8) (by decide)) hr (passes_call (takes_of rfl rfl rfl rfl) (fun _ _ _ _ h => h)) (sa_cons (se_var 0) (sa_cons (se_var 1) (sa_cons (se_l (sl_lst (sa_cons se_str (sa_cons se_int sa_nil)))) sa_nil))))⟩
theorem lm_law_22 {P : Program} {w : World} {K : PySem.W.Frag} {mg : Str → Option Value} {base : Heap} (h : Fx K mg) {q : Str} : LamM P w K mg base 8 q ["_law_house_here", "_law_offers_here", "_law_twice"] e_law_22 (mCall (mDef m_without_bid 3) (mCons (mVar 0) (mCons (mVar 1) (mCons (mCall dLen (mCons (mVar 1) mNil)) mNil)))) := ⟨lamN_by (by decide +kernel), fun _ _ _ _ => rfl, fun cells f c' A outer s H' E hr => by
  exact (se_call ((ok_without_bid h).mono (k := 8) (by decide)) hr (passes_call (takes_of rfl rfl rfl rfl) (fun _ _ _ _ h => h)) (sa_cons (se_var 0) (sa_cons (se_var 1) (sa_cons (se_bi cd_len h.z_len (sa_cons (se_var 1) sa_nil)) sa_nil))))⟩
theorem lm_law_23 {P : Program} {w : World} {K : PySem.W.Frag} {mg : Str → Option Value} {base : Heap} (h : Fx K mg) {q : Str} : LamM P w K mg base 8 q ["_law_house_here", "_law_offers_here", "_law_twice"] e_law_23 (mCall (mDef m_without_bid 3) (mCons (mVar 0) (mCons (mVar 1) (mCons (mNeg (mC (.int 1))) mNil)))) := ⟨lamN_by (by decide +kernel), fun _ _ _ _ => rfl, fun cells f c' A outer s H' E hr => by
  exact (se_call ((ok_without_bid h).mono (k := 8) (by decide)) hr (passes_call (takes_of rfl rfl rfl rfl) (fun _ _ _ _ h => h)) (sa_cons (se_var 0) (sa_cons (se_var 1) (sa_cons (se_neg se_int) sa_nil))))⟩
theorem lm_law_24 {P : Program} {w : World} {K : PySem.W.Frag} {mg : Str → Option Value} {base : Heap} (h : Fx K mg) {q : Str} : LamM P w K mg base 8 q ["_law_house_here", "_law_offers_here", "_law_twice"] e_law_24 (mCall (mDef m_without_bid 3) (mCons (mVar 0) (mCons (mL (mCons (mTup (mCons (mC (.str (PySem.Str.ofString "a"))) (mCons (mC (.int 5)) mNil))) (mCons (mTup (mCons (mC (.str (PySem.Str.ofString "b"))) (mCons (mC (.int 9)) mNil))) mNil))) (mCons (mC (.bool true)) mNil)))) := ⟨lamN_by (by decide +kernel), fun _ _ _ _ => rfl, fun cells f c' A outer s H' E hr => by
  exact (se_call ((ok_without_bid h).mono (k := 8) (by decide)) hr (passes_call (takes_of rfl rfl rfl rfl) (fun _ _ _ _ h => h)) (sa_cons (se_var 0) (sa_cons (se_l (sl_lst (sa_cons (se_tup (sa_cons se_str (sa_cons se_int sa_nil))) (sa_cons (se_tup (sa_cons se_str (sa_cons se_int sa_nil))) sa_nil)))) (sa_cons se_bl sa_nil))))⟩
abbrev X_law_sales (P : Program) (w : World) (K : PySem.W.Frag) (mg : Str → Option Value) (base : Heap) (f : Addr) (A : Around) (outer : List Env) (s : Shared) (H : Hp) (E : XK) : Cx := cxOf (L2.CX P w) P w K mg base ["_law_no", "_law_calls"] "_law_sales" (defScope s_law_sales) f (.ref (He.codeOf K ("_law_sales", none))) A outer s H E
abbrev X_law_bids (P : Program) (w : World) (K : PySem.W.Frag) (mg : Str → Option Value) (base : Heap) (f : Addr) (A : Around) (outer : List Env) (s : Shared) (H : Hp) (E : XK) : Cx := cxOf (L2.CX P w) P w K mg base ["_law_house_here", "_law_no", "_law_calls"] "_law_bids" (defScope s_law_bids) f (.ref (He.codeOf K ("_law_bids", none))) A outer s H E
abbrev X_law (P : Program) (w : World) (K : PySem.W.Frag) (mg : Str → Option Value) (base : Heap) (f : Addr) (A : Around) (outer : List Env) (s : Shared) (H : Hp) (E : XK) : Cx := cxOf (L2.CX P w) P w K mg base ["_law_script", "_law_offers_here", "_law_one", "_law_no", "_law_bids_here", "_law_prices", "_law_twice", "_law_repeated", "_law_bidders", "_law_single", "_law_indexes", "_law_full", "_law_house_here", "_law_at"] "law" (defScope s_law) f (.ref (He.codeOf K ("law", none))) A outer s H E
theorem ps_law_sales_0 {P : Program} {w : World} {K : PySem.W.Frag} {mg : Str → Option Value} {base : Heap} (h : Fx K mg) (tb : TabsB base K mg tf26) {f : Addr} {A : Around} {outer : List Env} {s : Shared} {H : Hp} {E : XK} : PS (X_law_sales P w K mg base f A outer s H E) (stL s_law_sales 0) (fun D σ H2 => tMk1 (X_law_sales P w K mg base f A outer s H E) (tabL K qs26) 1 e_law_sales_0 D.nx σ H2) :=
  (ps_mk1 (e := e_law_sales_0) 1 (tb ("_law_sales", none) (by decide +kernel)) rfl (tabL_in (z := (("_law_sales", none), "_law_sales" ++ ".<locals>." ++ "<lambda>")) (by unfold qs26; simp)) (tabL_un h.dist (z := (("_law_sales", none), "_law_sales" ++ ".<locals>." ++ "<lambda>")) (by unfold qs26; simp)) rfl (LamX.lamS_by (sc := defScope s_law_sales) (scope := e_law_sales_0.scope) (by decide +kernel)) sc_law_sales.nd rfl (.inl rfl) rfl rfl (.inl rfl))
theorem ps_law_sales_1 {P : Program} {w : World} {K : PySem.W.Frag} {mg : Str → Option Value} {base : Heap} (h : Fx K mg) (tb : TabsB base K mg tf26) {f : Addr} {A : Around} {outer : List Env} {s : Shared} {H : Hp} {E : XK} : PS (X_law_sales P w K mg base f A outer s H E) (stL s_law_sales 1) (fun D σ H2 => tMkA (X_law_sales P w K mg base f A outer s H E) (tabL K qs26) 1 e_law_sales_1 D.nx σ H2) :=
  (ps_mkA (e := e_law_sales_1) 1 (tb ("_law_sales", none) (by decide +kernel)) rfl (tabL_in (z := (("_law_sales", none), "_law_sales" ++ ".<locals>." ++ "<lambda>")) (by unfold qs26; simp)) (tabL_un h.dist (z := (("_law_sales", none), "_law_sales" ++ ".<locals>." ++ "<lambda>")) (by unfold qs26; simp)) rfl (LamX.lamS_by (sc := defScope s_law_sales) (scope := e_law_sales_1.scope) (by decide +kernel)) rfl (.inl rfl) (by decide) (by decide) rfl rfl rfl rfl rfl rfl)
theorem ps_law_sales_2 {P : Program} {w : World} {K : PySem.W.Frag} {mg : Str → Option Value} {base : Heap} (h : Fx K mg) (tb : TabsB base K mg tf26) {f : Addr} {A : Around} {outer : List Env} {s : Shared} {H : Hp} {E : XK} : PS (X_law_sales P w K mg base f A outer s H E) (stL s_law_sales 2) (fun D σ H2 => tMkA (X_law_sales P w K mg base f A outer s H E) (tabL K qs26) 1 e_law_sales_2 D.nx σ H2) :=
  (ps_mkA (e := e_law_sales_2) 1 (tb ("_law_sales", none) (by decide +kernel)) rfl (tabL_in (z := (("_law_sales", none), "_law_sales" ++ ".<locals>." ++ "<lambda>")) (by unfold qs26; simp)) (tabL_un h.dist (z := (("_law_sales", none), "_law_sales" ++ ".<locals>." ++ "<lambda>")) (by unfold qs26; simp)) rfl (LamX.lamS_by (sc := defScope s_law_sales) (scope := e_law_sales_2.scope) (by decide +kernel)) rfl (.inl rfl) (by decide) (by decide) rfl rfl rfl rfl rfl rfl)
theorem ps_law_sales_3 {P : Program} {w : World} {K : PySem.W.Frag} {mg : Str → Option Value} {base : Heap} (h : Fx K mg) (tb : TabsB base K mg tf26) {f : Addr} {A : Around} {outer : List Env} {s : Shared} {H : Hp} {E : XK} : PS (X_law_sales P w K mg base f A outer s H E) (stL s_law_sales 3) (fun D σ H2 => tMkA (X_law_sales P w K mg base f A outer s H E) (tabL K qs26) 1 e_law_sales_3 D.nx σ H2) :=
  (ps_mkA (e := e_law_sales_3) 1 (tb ("_law_sales", none) (by decide +kernel)) rfl (tabL_in (z := (("_law_sales", none), "_law_sales" ++ ".<locals>." ++ "<lambda>")) (by unfold qs26; simp)) (tabL_un h.dist (z := (("_law_sales", none), "_law_sales" ++ ".<locals>." ++ "<lambda>")) (by unfold qs26; simp)) rfl (LamX.lamS_by (sc := defScope s_law_sales) (scope := e_law_sales_3.scope) (by decide +kernel)) rfl (.inl rfl) (by decide) (by decide) rfl rfl rfl rfl rfl rfl)
theorem ps_law_sales_4 {P : Program} {w : World} {K : PySem.W.Frag} {mg : Str → Option Value} {base : Heap} (h : Fx K mg) (tb : TabsB base K mg tf26) {f : Addr} {A : Around} {outer : List Env} {s : Shared} {H : Hp} {E : XK} : PS (X_law_sales P w K mg base f A outer s H E) (stL s_law_sales 4) (fun D σ H2 => tMkA (X_law_sales P w K mg base f A outer s H E) (tabL K qs26) 1 e_law_sales_4 D.nx σ H2) :=
  (ps_mkA (e := e_law_sales_4) 1 (tb ("_law_sales", none) (by decide +kernel)) rfl (tabL_in (z := (("_law_sales", none), "_law_sales" ++ ".<locals>." ++ "<lambda>")) (by unfold qs26; simp)) (tabL_un h.dist (z := (("_law_sales", none), "_law_sales" ++ ".<locals>." ++ "<lambda>")) (by unfold qs26; simp)) rfl (LamX.lamS_by (sc := defScope s_law_sales) (scope := e_law_sales_4.scope) (by decide +kernel)) rfl (.inl rfl) (by decide) (by decide) rfl rfl rfl rfl rfl rfl)
theorem ps_law_sales_5 {P : Program} {w : World} {K : PySem.W.Frag} {mg : Str → Option Value} {base : Heap} (h : Fx K mg) (tb : TabsB base K mg tf26) {f : Addr} {A : Around} {outer : List Env} {s : Shared} {H : Hp} {E : XK} : PS (X_law_sales P w K mg base f A outer s H E) (stL s_law_sales 5) (fun D σ H2 => tMkA (X_law_sales P w K mg base f A outer s H E) (tabL K qs26) 1 e_law_sales_5 D.nx σ H2) :=
  (ps_mkA (e := e_law_sales_5) 1 (tb ("_law_sales", none) (by decide +kernel)) rfl (tabL_in (z := (("_law_sales", none), "_law_sales" ++ ".<locals>." ++ "<lambda>")) (by unfold qs26; simp)) (tabL_un h.dist (z := (("_law_sales", none), "_law_sales" ++ ".<locals>." ++ "<lambda>")) (by unfold qs26; simp)) rfl (LamX.lamS_by (sc := defScope s_law_sales) (scope := e_law_sales_5.scope) (by decide +kernel)) rfl (.inl rfl) (by decide) (by decide) rfl rfl rfl rfl rfl rfl)
theorem ps_law_sales_6 {P : Program} {w : World} {K : PySem.W.Frag} {mg : Str → Option Value} {base : Heap} (h : Fx K mg) (tb : TabsB base K mg tf26) {f : Addr} {A : Around} {outer : List Env} {s : Shared} {H : Hp} {E : XK} : PS (X_law_sales P w K mg base f A outer s H E) (stL s_law_sales 6) (fun D σ H2 => tMkA (X_law_sales P w K mg base f A outer s H E) (tabL K qs26) 1 e_law_sales_6 D.nx σ H2) :=
  (ps_mkA (e := e_law_sales_6) 1 (tb ("_law_sales", none) (by decide +kernel)) rfl (tabL_in (z := (("_law_sales", none), "_law_sales" ++ ".<locals>." ++ "<lambda>")) (by unfold qs26; simp)) (tabL_un h.dist (z := (("_law_sales", none), "_law_sales" ++ ".<locals>." ++ "<lambda>")) (by unfold qs26; simp)) rfl (LamX.lamS_by (sc := defScope s_law_sales) (scope := e_law_sales_6.scope) (by decide +kernel)) rfl (.inl rfl) (by decide) (by decide) rfl rfl rfl rfl rfl rfl)
theorem ps_law_sales_7 {P : Program} {w : World} {K : PySem.W.Frag} {mg : Str → Option Value} {base : Heap} (h : Fx K mg) (tb : TabsB base K mg tf26) {f : Addr} {A : Around} {outer : List Env} {s : Shared} {H : Hp} {E : XK} : PS (X_law_sales P w K mg base f A outer s H E) (stL s_law_sales 7) (fun D σ H2 => tMkA (X_law_sales P w K mg base f A outer s H E) (tabL K qs26) 1 e_law_sales_7 D.nx σ H2) :=
  (ps_mkA (e := e_law_sales_7) 1 (tb ("_law_sales", none) (by decide +kernel)) rfl (tabL_in (z := (("_law_sales", none), "_law_sales" ++ ".<locals>." ++ "<lambda>")) (by unfold qs26; simp)) (tabL_un h.dist (z := (("_law_sales", none), "_law_sales" ++ ".<locals>." ++ "<lambda>")) (by unfold qs26; simp)) rfl (LamX.lamS_by (sc := defScope s_law_sales) (scope := e_law_sales_7.scope) (by decide +kernel)) rfl (.inl rfl) (by decide) (by decide) rfl rfl rfl rfl rfl rfl)
theorem ps_law_sales_8 {P : Program} {w : World} {K : PySem.W.Frag} {mg : Str → Option Value} {base : Heap} (h : Fx K mg) (tb : TabsB base K mg tf26) {f : Addr} {A : Around} {outer : List Env} {s : Shared} {H : Hp} {E : XK} : PS (X_law_sales P w K mg base f A outer s H E) (stL s_law_sales 8) (fun D σ H2 => tMkA (X_law_sales P w K mg base f A outer s H E) (tabL K qs26) 1 e_law_sales_8 D.nx σ H2) :=
  (ps_mkA (e := e_law_sales_8) 1 (tb ("_law_sales", none) (by decide +kernel)) rfl (tabL_in (z := (("_law_sales", none), "_law_sales" ++ ".<locals>." ++ "<lambda>")) (by unfold qs26; simp)) (tabL_un h.dist (z := (("_law_sales", none), "_law_sales" ++ ".<locals>." ++ "<lambda>")) (by unfold qs26; simp)) rfl (LamX.lamS_by (sc := defScope s_law_sales) (scope := e_law_sales_8.scope) (by decide +kernel)) rfl (.inl rfl) (by decide) (by decide) rfl rfl rfl rfl rfl rfl)
theorem ps_law_sales_9 {P : Program} {w : World} {K : PySem.W.Frag} {mg : Str → Option Value} {base : Heap} (h : Fx K mg) (tb : TabsB base K mg tf26) {f : Addr} {A : Around} {outer : List Env} {s : Shared} {H : Hp} {E : XK} : PS (X_law_sales P w K mg base f A outer s H E) (stL s_law_sales 9) (fun D σ H2 => tMkA (X_law_sales P w K mg base f A outer s H E) (tabL K qs26) 1 e_law_sales_9 D.nx σ H2) :=
  (ps_mkA (e := e_law_sales_9) 1 (tb ("_law_sales", none) (by decide +kernel)) rfl (tabL_in (z := (("_law_sales", none), "_law_sales" ++ ".<locals>." ++ "<lambda>")) (by unfold qs26; simp)) (tabL_un h.dist (z := (("_law_sales", none), "_law_sales" ++ ".<locals>." ++ "<lambda>")) (by unfold qs26; simp)) rfl (LamX.lamS_by (sc := defScope s_law_sales) (scope := e_law_sales_9.scope) (by decide +kernel)) rfl (.inl rfl) (by decide) (by decide) rfl rfl rfl rfl rfl rfl)
theorem ps_law_sales_10 {P : Program} {w : World} {K : PySem.W.Frag} {mg : Str → Option Value} {base : Heap} (h : Fx K mg) (tb : TabsB base K mg tf26) {f : Addr} {A : Around} {outer : List Env} {s : Shared} {H : Hp} {E : XK} : PS (X_law_sales P w K mg base f A outer s H E) (stL s_law_sales 10) (fun D σ H2 => tMkA (X_law_sales P w K mg base f A outer s H E) (tabL K qs26) 1 e_law_sales_10 D.nx σ H2) :=
  (ps_mkA (e := e_law_sales_10) 1 (tb ("_law_sales", none) (by decide +kernel)) rfl (tabL_in (z := (("_law_sales", none), "_law_sales" ++ ".<locals>." ++ "<lambda>")) (by unfold qs26; simp)) (tabL_un h.dist (z := (("_law_sales", none), "_law_sales" ++ ".<locals>." ++ "<lambda>")) (by unfold qs26; simp)) rfl (LamX.lamS_by (sc := defScope s_law_sales) (scope := e_law_sales_10.scope) (by decide +kernel)) rfl (.inl rfl) (by decide) (by decide) rfl rfl rfl rfl rfl rfl)
theorem ps_law_sales_11 {P : Program} {w : World} {K : PySem.W.Frag} {mg : Str → Option Value} {base : Heap} (h : Fx K mg) (tb : TabsB base K mg tf26) {f : Addr} {A : Around} {outer : List Env} {s : Shared} {H : Hp} {E : XK} : PS (X_law_sales P w K mg base f A outer s H E) (stL s_law_sales 11) (fun D σ H2 => tMkA (X_law_sales P w K mg base f A outer s H E) (tabL K qs26) 1 e_law_sales_11 D.nx σ H2) :=
  (ps_mkA (e := e_law_sales_11) 1 (tb ("_law_sales", none) (by decide +kernel)) rfl (tabL_in (z := (("_law_sales", none), "_law_sales" ++ ".<locals>." ++ "<lambda>")) (by unfold qs26; simp)) (tabL_un h.dist (z := (("_law_sales", none), "_law_sales" ++ ".<locals>." ++ "<lambda>")) (by unfold qs26; simp)) rfl (LamX.lamS_by (sc := defScope s_law_sales) (scope := e_law_sales_11.scope) (by decide +kernel)) rfl (.inl rfl) (by decide) (by decide) rfl rfl rfl rfl rfl rfl)
theorem ps_law_sales_12 {P : Program} {w : World} {K : PySem.W.Frag} {mg : Str → Option Value} {base : Heap} (h : Fx K mg) (tb : TabsB base K mg tf26) {f : Addr} {A : Around} {outer : List Env} {s : Shared} {H : Hp} {E : XK} : PS (X_law_sales P w K mg base f A outer s H E) (stL s_law_sales 12) (fun D σ H2 => tMkA (X_law_sales P w K mg base f A outer s H E) (tabL K qs26) 1 e_law_sales_12 D.nx σ H2) :=
  (ps_mkA (e := e_law_sales_12) 1 (tb ("_law_sales", none) (by decide +kernel)) rfl (tabL_in (z := (("_law_sales", none), "_law_sales" ++ ".<locals>." ++ "<lambda>")) (by unfold qs26; simp)) (tabL_un h.dist (z := (("_law_sales", none), "_law_sales" ++ ".<locals>." ++ "<lambda>")) (by unfold qs26; simp)) rfl (LamX.lamS_by (sc := defScope s_law_sales) (scope := e_law_sales_12.scope) (by decide +kernel)) rfl (.inl rfl) (by decide) (by decide) rfl rfl rfl rfl rfl rfl)
theorem ps_law_sales_13 {P : Program} {w : World} {K : PySem.W.Frag} {mg : Str → Option Value} {base : Heap} (h : Fx K mg) (tb : TabsB base K mg tf26) {f : Addr} {A : Around} {outer : List Env} {s : Shared} {H : Hp} {E : XK} : PS (X_law_sales P w K mg base f A outer s H E) (stL s_law_sales 13) (fun D σ H2 => tMkA (X_law_sales P w K mg base f A outer s H E) (tabL K qs26) 1 e_law_sales_13 D.nx σ H2) :=
  (ps_mkA (e := e_law_sales_13) 1 (tb ("_law_sales", none) (by decide +kernel)) rfl (tabL_in (z := (("_law_sales", none), "_law_sales" ++ ".<locals>." ++ "<lambda>")) (by unfold qs26; simp)) (tabL_un h.dist (z := (("_law_sales", none), "_law_sales" ++ ".<locals>." ++ "<lambda>")) (by unfold qs26; simp)) rfl (LamX.lamS_by (sc := defScope s_law_sales) (scope := e_law_sales_13.scope) (by decide +kernel)) rfl (.inl rfl) (by decide) (by decide) rfl rfl rfl rfl rfl rfl)
theorem ps_law_sales_14 {P : Program} {w : World} {K : PySem.W.Frag} {mg : Str → Option Value} {base : Heap} (h : Fx K mg) (tb : TabsB base K mg tf26) {f : Addr} {A : Around} {outer : List Env} {s : Shared} {H : Hp} {E : XK} : PS (X_law_sales P w K mg base f A outer s H E) (stL s_law_sales 14) (fun D σ H2 => tMkA (X_law_sales P w K mg base f A outer s H E) (tabL K qs26) 1 e_law_sales_14 D.nx σ H2) :=
  (ps_mkA (e := e_law_sales_14) 1 (tb ("_law_sales", none) (by decide +kernel)) rfl (tabL_in (z := (("_law_sales", none), "_law_sales" ++ ".<locals>." ++ "<lambda>")) (by unfold qs26; simp)) (tabL_un h.dist (z := (("_law_sales", none), "_law_sales" ++ ".<locals>." ++ "<lambda>")) (by unfold qs26; simp)) rfl (LamX.lamS_by (sc := defScope s_law_sales) (scope := e_law_sales_14.scope) (by decide +kernel)) rfl (.inl rfl) (by decide) (by decide) rfl rfl rfl rfl rfl rfl)
theorem ps_law_sales_15 {P : Program} {w : World} {K : PySem.W.Frag} {mg : Str → Option Value} {base : Heap} (h : Fx K mg) (tb : TabsB base K mg tf26) {f : Addr} {A : Around} {outer : List Env} {s : Shared} {H : Hp} {E : XK} : PS (X_law_sales P w K mg base f A outer s H E) (stL s_law_sales 15) (fun D σ H2 => tMkA (X_law_sales P w K mg base f A outer s H E) (tabL K qs26) 1 e_law_sales_15 D.nx σ H2) :=
  (ps_mkA (e := e_law_sales_15) 1 (tb ("_law_sales", none) (by decide +kernel)) rfl (tabL_in (z := (("_law_sales", none), "_law_sales" ++ ".<locals>." ++ "<lambda>")) (by unfold qs26; simp)) (tabL_un h.dist (z := (("_law_sales", none), "_law_sales" ++ ".<locals>." ++ "<lambda>")) (by unfold qs26; simp)) rfl (LamX.lamS_by (sc := defScope s_law_sales) (scope := e_law_sales_15.scope) (by decide +kernel)) rfl (.inl rfl) (by decide) (by decide) rfl rfl rfl rfl rfl rfl)
theorem ps_law_sales_16 {P : Program} {w : World} {K : PySem.W.Frag} {mg : Str → Option Value} {base : Heap} (h : Fx K mg) (tb : TabsB base K mg tf26) {f : Addr} {A : Around} {outer : List Env} {s : Shared} {H : Hp} {E : XK} : PS (X_law_sales P w K mg base f A outer s H E) (stL s_law_sales 16) (fun D σ H2 => tMkA (X_law_sales P w K mg base f A outer s H E) (tabL K qs26) 1 e_law_sales_16 D.nx σ H2) :=
  (ps_mkA (e := e_law_sales_16) 1 (tb ("_law_sales", none) (by decide +kernel)) rfl (tabL_in (z := (("_law_sales", none), "_law_sales" ++ ".<locals>." ++ "<lambda>")) (by unfold qs26; simp)) (tabL_un h.dist (z := (("_law_sales", none), "_law_sales" ++ ".<locals>." ++ "<lambda>")) (by unfold qs26; simp)) rfl (LamX.lamS_by (sc := defScope s_law_sales) (scope := e_law_sales_16.scope) (by decide +kernel)) rfl (.inl rfl) (by decide) (by decide) rfl rfl rfl rfl rfl rfl)
theorem ps_law_sales_17 {P : Program} {w : World} {K : PySem.W.Frag} {mg : Str → Option Value} {base : Heap} (h : Fx K mg) (tb : TabsB base K mg tf26) {f : Addr} {A : Around} {outer : List Env} {s : Shared} {H : Hp} {E : XK} : PS (X_law_sales P w K mg base f A outer s H E) (stL s_law_sales 17) (fun D σ H2 => tMkA (X_law_sales P w K mg base f A outer s H E) (tabL K qs26) 1 e_law_sales_17 D.nx σ H2) :=
  (ps_mkA (e := e_law_sales_17) 1 (tb ("_law_sales", none) (by decide +kernel)) rfl (tabL_in (z := (("_law_sales", none), "_law_sales" ++ ".<locals>." ++ "<lambda>")) (by unfold qs26; simp)) (tabL_un h.dist (z := (("_law_sales", none), "_law_sales" ++ ".<locals>." ++ "<lambda>")) (by unfold qs26; simp)) rfl (LamX.lamS_by (sc := defScope s_law_sales) (scope := e_law_sales_17.scope) (by decide +kernel)) rfl (.inl rfl) (by decide) (by decide) rfl rfl rfl rfl rfl rfl)
theorem ps_law_sales_18 {P : Program} {w : World} {K : PySem.W.Frag} {mg : Str → Option Value} {base : Heap} (h : Fx K mg) (tb : TabsB base K mg tf26) {f : Addr} {A : Around} {outer : List Env} {s : Shared} {H : Hp} {E : XK} : PS (X_law_sales P w K mg base f A outer s H E) (stL s_law_sales 18) (fun D σ H2 => tMkA (X_law_sales P w K mg base f A outer s H E) (tabL K qs26) 1 e_law_sales_18 D.nx σ H2) :=
  (ps_mkA (e := e_law_sales_18) 1 (tb ("_law_sales", none) (by decide +kernel)) rfl (tabL_in (z := (("_law_sales", none), "_law_sales" ++ ".<locals>." ++ "<lambda>")) (by unfold qs26; simp)) (tabL_un h.dist (z := (("_law_sales", none), "_law_sales" ++ ".<locals>." ++ "<lambda>")) (by unfold qs26; simp)) rfl (LamX.lamS_by (sc := defScope s_law_sales) (scope := e_law_sales_18.scope) (by decide +kernel)) rfl (.inl rfl) (by decide) (by decide) rfl rfl rfl rfl rfl rfl)
theorem ps_law_sales_19 {P : Program} {w : World} {K : PySem.W.Frag} {mg : Str → Option Value} {base : Heap} (h : Fx K mg) (tb : TabsB base K mg tf26) {f : Addr} {A : Around} {outer : List Env} {s : Shared} {H : Hp} {E : XK} : PS (X_law_sales P w K mg base f A outer s H E) (stL s_law_sales 19) (fun D σ H2 => tMkA (X_law_sales P w K mg base f A outer s H E) (tabL K qs26) 1 e_law_sales_19 D.nx σ H2) :=
  (ps_mkA (e := e_law_sales_19) 1 (tb ("_law_sales", none) (by decide +kernel)) rfl (tabL_in (z := (("_law_sales", none), "_law_sales" ++ ".<locals>." ++ "<lambda>")) (by unfold qs26; simp)) (tabL_un h.dist (z := (("_law_sales", none), "_law_sales" ++ ".<locals>." ++ "<lambda>")) (by unfold qs26; simp)) rfl (LamX.lamS_by (sc := defScope s_law_sales) (scope := e_law_sales_19.scope) (by decide +kernel)) rfl (.inl rfl) (by decide) (by decide) rfl rfl rfl rfl rfl rfl)
theorem ps_law_sales_20 {P : Program} {w : World} {K : PySem.W.Frag} {mg : Str → Option Value} {base : Heap} (h : Fx K mg) (tb : TabsB base K mg tf26) {f : Addr} {A : Around} {outer : List Env} {s : Shared} {H : Hp} {E : XK} : PS (X_law_sales P w K mg base f A outer s H E) (stL s_law_sales 20) (fun D σ H2 => tMkA (X_law_sales P w K mg base f A outer s H E) (tabL K qs26) 1 e_law_sales_20 D.nx σ H2) :=
  (ps_mkA (e := e_law_sales_20) 1 (tb ("_law_sales", none) (by decide +kernel)) rfl (tabL_in (z := (("_law_sales", none), "_law_sales" ++ ".<locals>." ++ "<lambda>")) (by unfold qs26; simp)) (tabL_un h.dist (z := (("_law_sales", none), "_law_sales" ++ ".<locals>." ++ "<lambda>")) (by unfold qs26; simp)) rfl (LamX.lamS_by (sc := defScope s_law_sales) (scope := e_law_sales_20.scope) (by decide +kernel)) rfl (.inl rfl) (by decide) (by decide) rfl rfl rfl rfl rfl rfl)
theorem ps_law_sales_21 {P : Program} {w : World} {K : PySem.W.Frag} {mg : Str → Option Value} {base : Heap} (h : Fx K mg) (tb : TabsB base K mg tf26) {f : Addr} {A : Around} {outer : List Env} {s : Shared} {H : Hp} {E : XK} : PS (X_law_sales P w K mg base f A outer s H E) (stL s_law_sales 21) (fun D σ H2 => tMkA (X_law_sales P w K mg base f A outer s H E) (tabL K qs26) 1 e_law_sales_21 D.nx σ H2) :=
  (ps_mkA (e := e_law_sales_21) 1 (tb ("_law_sales", none) (by decide +kernel)) rfl (tabL_in (z := (("_law_sales", none), "_law_sales" ++ ".<locals>." ++ "<lambda>")) (by unfold qs26; simp)) (tabL_un h.dist (z := (("_law_sales", none), "_law_sales" ++ ".<locals>." ++ "<lambda>")) (by unfold qs26; simp)) rfl (LamX.lamS_by (sc := defScope s_law_sales) (scope := e_law_sales_21.scope) (by decide +kernel)) rfl (.inl rfl) (by decide) (by decide) rfl rfl rfl rfl rfl rfl)
theorem ps_law_sales_22 {P : Program} {w : World} {K : PySem.W.Frag} {mg : Str → Option Value} {base : Heap} (h : Fx K mg) (tb : TabsB base K mg tf26) {f : Addr} {A : Around} {outer : List Env} {s : Shared} {H : Hp} {E : XK} : PS (X_law_sales P w K mg base f A outer s H E) (stL s_law_sales 22) (fun D σ H2 => tMkA (X_law_sales P w K mg base f A outer s H E) (tabL K qs26) 1 e_law_sales_22 D.nx σ H2) :=
  (ps_mkA (e := e_law_sales_22) 1 (tb ("_law_sales", none) (by decide +kernel)) rfl (tabL_in (z := (("_law_sales", none), "_law_sales" ++ ".<locals>." ++ "<lambda>")) (by unfold qs26; simp)) (tabL_un h.dist (z := (("_law_sales", none), "_law_sales" ++ ".<locals>." ++ "<lambda>")) (by unfold qs26; simp)) rfl (LamX.lamS_by (sc := defScope s_law_sales) (scope := e_law_sales_22.scope) (by decide +kernel)) rfl (.inl rfl) (by decide) (by decide) rfl rfl rfl rfl rfl rfl)
theorem pr_law_sales {P : Program} {w : World} {K : PySem.W.Frag} {mg : Str → Option Value} {base : Heap} (h : Fx K mg) (tb : TabsB base K mg tf26) {f : Addr} {A : Around} {outer : List Env} {s : Shared} {H : Hp} {E : XK} : RtB (X_law_sales P w K mg base f A outer s H E) [stL s_law_sales 23] (fun R σ H2 => ∃ v, σ[1]? = some (some v) ∧ R v σ H2) := rtb_ret 1 rfl (.inl rfl) (by decide) (by decide)
theorem bd_law_sales : defBody s_law_sales = stL s_law_sales 0 :: ([stL s_law_sales 1, stL s_law_sales 2, stL s_law_sales 3, stL s_law_sales 4, stL s_law_sales 5, stL s_law_sales 6, stL s_law_sales 7, stL s_law_sales 8, stL s_law_sales 9, stL s_law_sales 10, stL s_law_sales 11, stL s_law_sales 12, stL s_law_sales 13, stL s_law_sales 14, stL s_law_sales 15, stL s_law_sales 16, stL s_law_sales 17, stL s_law_sales 18, stL s_law_sales 19, stL s_law_sales 20, stL s_law_sales 21, stL s_law_sales 22] ++ [stL s_law_sales 23]) := by kernel_rfl
theorem ok_law_sales {P : Program} {w : World} {K : PySem.W.Frag} {mg : Str → Option Value} {base : Heap} (h : Fx K mg) (tb : TabsB base K mg tf26) : MkrD P w K mg base 11 9 "_law_sales" (tabL K qs26) 1 ml_law_sales := by
  obtain ⟨fd, F, hg⟩ := h.c_law_sales
  refine mkr_mk (k := 10) (i := 1) (e0 := e_law_sales_0) (es := [e_law_sales_1, e_law_sales_2, e_law_sales_3, e_law_sales_4, e_law_sales_5, e_law_sales_6, e_law_sales_7, e_law_sales_8, e_law_sales_9, e_law_sales_10, e_law_sales_11, e_law_sales_12, e_law_sales_13, e_law_sales_14, e_law_sales_15, e_law_sales_16, e_law_sales_17, e_law_sales_18, e_law_sales_19, e_law_sales_20, e_law_sales_21, e_law_sales_22]) F sc_law_sales hg (F.bindsN fun _ _ _ _ _ _ us hl => match us, hl with | [_], _ => rfl) (code_of F) (by decide) (by decide) (by decide +kernel) (fun A outer s H E hr => ?_) ?_
  · rw [bd_law_sales]
    exact rtb_maker (ps_law_sales_0 h tb) (.cons (ps_law_sales_1 h tb) (.cons (ps_law_sales_2 h tb) (.cons (ps_law_sales_3 h tb) (.cons (ps_law_sales_4 h tb) (.cons (ps_law_sales_5 h tb) (.cons (ps_law_sales_6 h tb) (.cons (ps_law_sales_7 h tb) (.cons (ps_law_sales_8 h tb) (.cons (ps_law_sales_9 h tb) (.cons (ps_law_sales_10 h tb) (.cons (ps_law_sales_11 h tb) (.cons (ps_law_sales_12 h tb) (.cons (ps_law_sales_13 h tb) (.cons (ps_law_sales_14 h tb) (.cons (ps_law_sales_15 h tb) (.cons (ps_law_sales_16 h tb) (.cons (ps_law_sales_17 h tb) (.cons (ps_law_sales_18 h tb) (.cons (ps_law_sales_19 h tb) (.cons (ps_law_sales_20 h tb) (.cons (ps_law_sales_21 h tb) (.cons (ps_law_sales_22 h tb) .nil)))))))))))))))))))))) (pr_law_sales h tb)
  · unfold ml_law_sales
    exact (lams_cons (lm_law_sales_0 h) (lams_cons (lm_law_sales_1 h) (lams_cons (lm_law_sales_2 h) (lams_cons (lm_law_sales_3 h) (lams_cons (lm_law_sales_4 h) (lams_cons (lm_law_sales_5 h) (lams_cons (lm_law_sales_6 h) (lams_cons (lm_law_sales_7 h) (lams_cons (lm_law_sales_8 h) (lams_cons (lm_law_sales_9 h) (lams_cons (lm_law_sales_10 h) (lams_cons (lm_law_sales_11 h) (lams_cons (lm_law_sales_12 h) (lams_cons (lm_law_sales_13 h) (lams_cons (lm_law_sales_14 h) (lams_cons (lm_law_sales_15 h) (lams_cons (lm_law_sales_16 h) (lams_cons (lm_law_sales_17 h) (lams_cons (lm_law_sales_18 h) (lams_cons (lm_law_sales_19 h) (lams_cons (lm_law_sales_20 h) (lams_cons (lm_law_sales_21 h) (lams_cons (lm_law_sales_22 h) lams_nil)))))))))))))))))))))))
theorem ps_law_bids_0 {P : Program} {w : World} {K : PySem.W.Frag} {mg : Str → Option Value} {base : Heap} (h : Fx K mg) (tb : TabsB base K mg tf26) {f : Addr} {A : Around} {outer : List Env} {s : Shared} {H : Hp} {E : XK} : PS (X_law_bids P w K mg base f A outer s H E) (stL s_law_bids 0) (fun D σ H2 => tMk1 (X_law_bids P w K mg base f A outer s H E) (tabL K qs26) 2 e_law_bids_0 D.nx σ H2) :=
  (ps_mk1 (e := e_law_bids_0) 2 (tb ("_law_bids", none) (by decide +kernel)) rfl (tabL_in (z := (("_law_bids", none), "_law_bids" ++ ".<locals>." ++ "<lambda>")) (by unfold qs26; simp)) (tabL_un h.dist (z := (("_law_bids", none), "_law_bids" ++ ".<locals>." ++ "<lambda>")) (by unfold qs26; simp)) rfl (LamX.lamS_by (sc := defScope s_law_bids) (scope := e_law_bids_0.scope) (by decide +kernel)) sc_law_bids.nd rfl (.inl rfl) rfl rfl (.inl rfl))
theorem ps_law_bids_1 {P : Program} {w : World} {K : PySem.W.Frag} {mg : Str → Option Value} {base : Heap} (h : Fx K mg) (tb : TabsB base K mg tf26) {f : Addr} {A : Around} {outer : List Env} {s : Shared} {H : Hp} {E : XK} : PS (X_law_bids P w K mg base f A outer s H E) (stL s_law_bids 1) (fun D σ H2 => tMkA (X_law_bids P w K mg base f A outer s H E) (tabL K qs26) 2 e_law_bids_1 D.nx σ H2) :=
  (ps_mkA (e := e_law_bids_1) 2 (tb ("_law_bids", none) (by decide +kernel)) rfl (tabL_in (z := (("_law_bids", none), "_law_bids" ++ ".<locals>." ++ "<lambda>")) (by unfold qs26; simp)) (tabL_un h.dist (z := (("_law_bids", none), "_law_bids" ++ ".<locals>." ++ "<lambda>")) (by unfold qs26; simp)) rfl (LamX.lamS_by (sc := defScope s_law_bids) (scope := e_law_bids_1.scope) (by decide +kernel)) rfl (.inl rfl) (by decide) (by decide) rfl rfl rfl rfl rfl rfl)
theorem ps_law_bids_2 {P : Program} {w : World} {K : PySem.W.Frag} {mg : Str → Option Value} {base : Heap} (h : Fx K mg) (tb : TabsB base K mg tf26) {f : Addr} {A : Around} {outer : List Env} {s : Shared} {H : Hp} {E : XK} : PS (X_law_bids P w K mg base f A outer s H E) (stL s_law_bids 2) (fun D σ H2 => tMkA (X_law_bids P w K mg base f A outer s H E) (tabL K qs26) 2 e_law_bids_2 D.nx σ H2) :=
  (ps_mkA (e := e_law_bids_2) 2 (tb ("_law_bids", none) (by decide +kernel)) rfl (tabL_in (z := (("_law_bids", none), "_law_bids" ++ ".<locals>." ++ "<lambda>")) (by unfold qs26; simp)) (tabL_un h.dist (z := (("_law_bids", none), "_law_bids" ++ ".<locals>." ++ "<lambda>")) (by unfold qs26; simp)) rfl (LamX.lamS_by (sc := defScope s_law_bids) (scope := e_law_bids_2.scope) (by decide +kernel)) rfl (.inl rfl) (by decide) (by decide) rfl rfl rfl rfl rfl rfl)
theorem ps_law_bids_3 {P : Program} {w : World} {K : PySem.W.Frag} {mg : Str → Option Value} {base : Heap} (h : Fx K mg) (tb : TabsB base K mg tf26) {f : Addr} {A : Around} {outer : List Env} {s : Shared} {H : Hp} {E : XK} : PS (X_law_bids P w K mg base f A outer s H E) (stL s_law_bids 3) (fun D σ H2 => tMkA (X_law_bids P w K mg base f A outer s H E) (tabL K qs26) 2 e_law_bids_3 D.nx σ H2) :=
  (ps_mkA (e := e_law_bids_3) 2 (tb ("_law_bids", none) (by decide +kernel)) rfl (tabL_in (z := (("_law_bids", none), "_law_bids" ++ ".<locals>." ++ "<lambda>")) (by unfold qs26; simp)) (tabL_un h.dist (z := (("_law_bids", none), "_law_bids" ++ ".<locals>." ++ "<lambda>")) (by unfold qs26; simp)) rfl (LamX.lamS_by (sc := defScope s_law_bids) (scope := e_law_bids_3.scope) (by decide +kernel)) rfl (.inl rfl) (by decide) (by decide) rfl rfl rfl rfl rfl rfl)
theorem ps_law_bids_4 {P : Program} {w : World} {K : PySem.W.Frag} {mg : Str → Option Value} {base : Heap} (h : Fx K mg) (tb : TabsB base K mg tf26) {f : Addr} {A : Around} {outer : List Env} {s : Shared} {H : Hp} {E : XK} : PS (X_law_bids P w K mg base f A outer s H E) (stL s_law_bids 4) (fun D σ H2 => tMkA (X_law_bids P w K mg base f A outer s H E) (tabL K qs26) 2 e_law_bids_4 D.nx σ H2) :=
  (ps_mkA (e := e_law_bids_4) 2 (tb ("_law_bids", none) (by decide +kernel)) rfl (tabL_in (z := (("_law_bids", none), "_law_bids" ++ ".<locals>." ++ "<lambda>")) (by unfold qs26; simp)) (tabL_un h.dist (z := (("_law_bids", none), "_law_bids" ++ ".<locals>." ++ "<lambda>")) (by unfold qs26; simp)) rfl (LamX.lamS_by (sc := defScope s_law_bids) (scope := e_law_bids_4.scope) (by decide +kernel)) rfl (.inl rfl) (by decide) (by decide) rfl rfl rfl rfl rfl rfl)
theorem ps_law_bids_5 {P : Program} {w : World} {K : PySem.W.Frag} {mg : Str → Option Value} {base : Heap} (h : Fx K mg) (tb : TabsB base K mg tf26) {f : Addr} {A : Around} {outer : List Env} {s : Shared} {H : Hp} {E : XK} : PS (X_law_bids P w K mg base f A outer s H E) (stL s_law_bids 5) (fun D σ H2 => tMkA (X_law_bids P w K mg base f A outer s H E) (tabL K qs26) 2 e_law_bids_5 D.nx σ H2) :=
  (ps_mkA (e := e_law_bids_5) 2 (tb ("_law_bids", none) (by decide +kernel)) rfl (tabL_in (z := (("_law_bids", none), "_law_bids" ++ ".<locals>." ++ "<lambda>")) (by unfold qs26; simp)) (tabL_un h.dist (z := (("_law_bids", none), "_law_bids" ++ ".<locals>." ++ "<lambda>")) (by unfold qs26; simp)) rfl (LamX.lamS_by (sc := defScope s_law_bids) (scope := e_law_bids_5.scope) (by decide +kernel)) rfl (.inl rfl) (by decide) (by decide) rfl rfl rfl rfl rfl rfl)
theorem ps_law_bids_6 {P : Program} {w : World} {K : PySem.W.Frag} {mg : Str → Option Value} {base : Heap} (h : Fx K mg) (tb : TabsB base K mg tf26) {f : Addr} {A : Around} {outer : List Env} {s : Shared} {H : Hp} {E : XK} : PS (X_law_bids P w K mg base f A outer s H E) (stL s_law_bids 6) (fun D σ H2 => tMkA (X_law_bids P w K mg base f A outer s H E) (tabL K qs26) 2 e_law_bids_6 D.nx σ H2) :=
  (ps_mkA (e := e_law_bids_6) 2 (tb ("_law_bids", none) (by decide +kernel)) rfl (tabL_in (z := (("_law_bids", none), "_law_bids" ++ ".<locals>." ++ "<lambda>")) (by unfold qs26; simp)) (tabL_un h.dist (z := (("_law_bids", none), "_law_bids" ++ ".<locals>." ++ "<lambda>")) (by unfold qs26; simp)) rfl (LamX.lamS_by (sc := defScope s_law_bids) (scope := e_law_bids_6.scope) (by decide +kernel)) rfl (.inl rfl) (by decide) (by decide) rfl rfl rfl rfl rfl rfl)
theorem ps_law_bids_7 {P : Program} {w : World} {K : PySem.W.Frag} {mg : Str → Option Value} {base : Heap} (h : Fx K mg) (tb : TabsB base K mg tf26) {f : Addr} {A : Around} {outer : List Env} {s : Shared} {H : Hp} {E : XK} : PS (X_law_bids P w K mg base f A outer s H E) (stL s_law_bids 7) (fun D σ H2 => tMkA (X_law_bids P w K mg base f A outer s H E) (tabL K qs26) 2 e_law_bids_7 D.nx σ H2) :=
  (ps_mkA (e := e_law_bids_7) 2 (tb ("_law_bids", none) (by decide +kernel)) rfl (tabL_in (z := (("_law_bids", none), "_law_bids" ++ ".<locals>." ++ "<lambda>")) (by unfold qs26; simp)) (tabL_un h.dist (z := (("_law_bids", none), "_law_bids" ++ ".<locals>." ++ "<lambda>")) (by unfold qs26; simp)) rfl (LamX.lamS_by (sc := defScope s_law_bids) (scope := e_law_bids_7.scope) (by decide +kernel)) rfl (.inl rfl) (by decide) (by decide) rfl rfl rfl rfl rfl rfl)
theorem ps_law_bids_8 {P : Program} {w : World} {K : PySem.W.Frag} {mg : Str → Option Value} {base : Heap} (h : Fx K mg) (tb : TabsB base K mg tf26) {f : Addr} {A : Around} {outer : List Env} {s : Shared} {H : Hp} {E : XK} : PS (X_law_bids P w K mg base f A outer s H E) (stL s_law_bids 8) (fun D σ H2 => tMkA (X_law_bids P w K mg base f A outer s H E) (tabL K qs26) 2 e_law_bids_8 D.nx σ H2) :=
  (ps_mkA (e := e_law_bids_8) 2 (tb ("_law_bids", none) (by decide +kernel)) rfl (tabL_in (z := (("_law_bids", none), "_law_bids" ++ ".<locals>." ++ "<lambda>")) (by unfold qs26; simp)) (tabL_un h.dist (z := (("_law_bids", none), "_law_bids" ++ ".<locals>." ++ "<lambda>")) (by unfold qs26; simp)) rfl (LamX.lamS_by (sc := defScope s_law_bids) (scope := e_law_bids_8.scope) (by decide +kernel)) rfl (.inl rfl) (by decide) (by decide) rfl rfl rfl rfl rfl rfl)
theorem ps_law_bids_9 {P : Program} {w : World} {K : PySem.W.Frag} {mg : Str → Option Value} {base : Heap} (h : Fx K mg) (tb : TabsB base K mg tf26) {f : Addr} {A : Around} {outer : List Env} {s : Shared} {H : Hp} {E : XK} : PS (X_law_bids P w K mg base f A outer s H E) (stL s_law_bids 9) (fun D σ H2 => tMkA (X_law_bids P w K mg base f A outer s H E) (tabL K qs26) 2 e_law_bids_9 D.nx σ H2) :=
  (ps_mkA (e := e_law_bids_9) 2 (tb ("_law_bids", none) (by decide +kernel)) rfl (tabL_in (z := (("_law_bids", none), "_law_bids" ++ ".<locals>." ++ "<lambda>")) (by unfold qs26; simp)) (tabL_un h.dist (z := (("_law_bids", none), "_law_bids" ++ ".<locals>." ++ "<lambda>")) (by unfold qs26; simp)) rfl (LamX.lamS_by (sc := defScope s_law_bids) (scope := e_law_bids_9.scope) (by decide +kernel)) rfl (.inl rfl) (by decide) (by decide) rfl rfl rfl rfl rfl rfl)
theorem ps_law_bids_10 {P : Program} {w : World} {K : PySem.W.Frag} {mg : Str → Option Value} {base : Heap} (h : Fx K mg) (tb : TabsB base K mg tf26) {f : Addr} {A : Around} {outer : List Env} {s : Shared} {H : Hp} {E : XK} : PS (X_law_bids P w K mg base f A outer s H E) (stL s_law_bids 10) (fun D σ H2 => tMkA (X_law_bids P w K mg base f A outer s H E) (tabL K qs26) 2 e_law_bids_10 D.nx σ H2) :=
  (ps_mkA (e := e_law_bids_10) 2 (tb ("_law_bids", none) (by decide +kernel)) rfl (tabL_in (z := (("_law_bids", none), "_law_bids" ++ ".<locals>." ++ "<lambda>")) (by unfold qs26; simp)) (tabL_un h.dist (z := (("_law_bids", none), "_law_bids" ++ ".<locals>." ++ "<lambda>")) (by unfold qs26; simp)) rfl (LamX.lamS_by (sc := defScope s_law_bids) (scope := e_law_bids_10.scope) (by decide +kernel)) rfl (.inl rfl) (by decide) (by decide) rfl rfl rfl rfl rfl rfl)
theorem ps_law_bids_11 {P : Program} {w : World} {K : PySem.W.Frag} {mg : Str → Option Value} {base : Heap} (h : Fx K mg) (tb : TabsB base K mg tf26) {f : Addr} {A : Around} {outer : List Env} {s : Shared} {H : Hp} {E : XK} : PS (X_law_bids P w K mg base f A outer s H E) (stL s_law_bids 11) (fun D σ H2 => tMkA (X_law_bids P w K mg base f A outer s H E) (tabL K qs26) 2 e_law_bids_11 D.nx σ H2) :=
  (ps_mkA (e := e_law_bids_11) 2 (tb ("_law_bids", none) (by decide +kernel)) rfl (tabL_in (z := (("_law_bids", none), "_law_bids" ++ ".<locals>." ++ "<lambda>")) (by unfold qs26; simp)) (tabL_un h.dist (z := (("_law_bids", none), "_law_bids" ++ ".<locals>." ++ "<lambda>")) (by unfold qs26; simp)) rfl (LamX.lamS_by (sc := defScope s_law_bids) (scope := e_law_bids_11.scope) (by decide +kernel)) rfl (.inl rfl) (by decide) (by decide) rfl rfl rfl rfl rfl rfl)
theorem ps_law_bids_12 {P : Program} {w : World} {K : PySem.W.Frag} {mg : Str → Option Value} {base : Heap} (h : Fx K mg) (tb : TabsB base K mg tf26) {f : Addr} {A : Around} {outer : List Env} {s : Shared} {H : Hp} {E : XK} : PS (X_law_bids P w K mg base f A outer s H E) (stL s_law_bids 12) (fun D σ H2 => tMkA (X_law_bids P w K mg base f A outer s H E) (tabL K qs26) 2 e_law_bids_12 D.nx σ H2) :=
  (ps_mkA (e := e_law_bids_12) 2 (tb ("_law_bids", none) (by decide +kernel)) rfl (tabL_in (z := (("_law_bids", none), "_law_bids" ++ ".<locals>." ++ "<lambda>")) (by unfold qs26; simp)) (tabL_un h.dist (z := (("_law_bids", none), "_law_bids" ++ ".<locals>." ++ "<lambda>")) (by unfold qs26; simp)) rfl (LamX.lamS_by (sc := defScope s_law_bids) (scope := e_law_bids_12.scope) (by decide +kernel)) rfl (.inl rfl) (by decide) (by decide) rfl rfl rfl rfl rfl rfl)
theorem ps_law_bids_13 {P : Program} {w : World} {K : PySem.W.Frag} {mg : Str → Option Value} {base : Heap} (h : Fx K mg) (tb : TabsB base K mg tf26) {f : Addr} {A : Around} {outer : List Env} {s : Shared} {H : Hp} {E : XK} : PS (X_law_bids P w K mg base f A outer s H E) (stL s_law_bids 13) (fun D σ H2 => tMkA (X_law_bids P w K mg base f A outer s H E) (tabL K qs26) 2 e_law_bids_13 D.nx σ H2) :=
  (ps_mkA (e := e_law_bids_13) 2 (tb ("_law_bids", none) (by decide +kernel)) rfl (tabL_in (z := (("_law_bids", none), "_law_bids" ++ ".<locals>." ++ "<lambda>")) (by unfold qs26; simp)) (tabL_un h.dist (z := (("_law_bids", none), "_law_bids" ++ ".<locals>." ++ "<lambda>")) (by unfold qs26; simp)) rfl (LamX.lamS_by (sc := defScope s_law_bids) (scope := e_law_bids_13.scope) (by decide +kernel)) rfl (.inl rfl) (by decide) (by decide) rfl rfl rfl rfl rfl rfl)
theorem ps_law_bids_14 {P : Program} {w : World} {K : PySem.W.Frag} {mg : Str → Option Value} {base : Heap} (h : Fx K mg) (tb : TabsB base K mg tf26) {f : Addr} {A : Around} {outer : List Env} {s : Shared} {H : Hp} {E : XK} : PS (X_law_bids P w K mg base f A outer s H E) (stL s_law_bids 14) (fun D σ H2 => tMkA (X_law_bids P w K mg base f A outer s H E) (tabL K qs26) 2 e_law_bids_14 D.nx σ H2) :=
  (ps_mkA (e := e_law_bids_14) 2 (tb ("_law_bids", none) (by decide +kernel)) rfl (tabL_in (z := (("_law_bids", none), "_law_bids" ++ ".<locals>." ++ "<lambda>")) (by unfold qs26; simp)) (tabL_un h.dist (z := (("_law_bids", none), "_law_bids" ++ ".<locals>." ++ "<lambda>")) (by unfold qs26; simp)) rfl (LamX.lamS_by (sc := defScope s_law_bids) (scope := e_law_bids_14.scope) (by decide +kernel)) rfl (.inl rfl) (by decide) (by decide) rfl rfl rfl rfl rfl rfl)
theorem ps_law_bids_15 {P : Program} {w : World} {K : PySem.W.Frag} {mg : Str → Option Value} {base : Heap} (h : Fx K mg) (tb : TabsB base K mg tf26) {f : Addr} {A : Around} {outer : List Env} {s : Shared} {H : Hp} {E : XK} : PS (X_law_bids P w K mg base f A outer s H E) (stL s_law_bids 15) (fun D σ H2 => tMkA (X_law_bids P w K mg base f A outer s H E) (tabL K qs26) 2 e_law_bids_15 D.nx σ H2) :=
  (ps_mkA (e := e_law_bids_15) 2 (tb ("_law_bids", none) (by decide +kernel)) rfl (tabL_in (z := (("_law_bids", none), "_law_bids" ++ ".<locals>." ++ "<lambda>")) (by unfold qs26; simp)) (tabL_un h.dist (z := (("_law_bids", none), "_law_bids" ++ ".<locals>." ++ "<lambda>")) (by unfold qs26; simp)) rfl (LamX.lamS_by (sc := defScope s_law_bids) (scope := e_law_bids_15.scope) (by decide +kernel)) rfl (.inl rfl) (by decide) (by decide) rfl rfl rfl rfl rfl rfl)
theorem ps_law_bids_16 {P : Program} {w : World} {K : PySem.W.Frag} {mg : Str → Option Value} {base : Heap} (h : Fx K mg) (tb : TabsB base K mg tf26) {f : Addr} {A : Around} {outer : List Env} {s : Shared} {H : Hp} {E : XK} : PS (X_law_bids P w K mg base f A outer s H E) (stL s_law_bids 16) (fun D σ H2 => tMkA (X_law_bids P w K mg base f A outer s H E) (tabL K qs26) 2 e_law_bids_16 D.nx σ H2) :=
  (ps_mkA (e := e_law_bids_16) 2 (tb ("_law_bids", none) (by decide +kernel)) rfl (tabL_in (z := (("_law_bids", none), "_law_bids" ++ ".<locals>." ++ "<lambda>")) (by unfold qs26; simp)) (tabL_un h.dist (z := (("_law_bids", none), "_law_bids" ++ ".<locals>." ++ "<lambda>")) (by unfold qs26; simp)) rfl (LamX.lamS_by (sc := defScope s_law_bids) (scope := e_law_bids_16.scope) (by decide +kernel)) rfl (.inl rfl) (by decide) (by decide) rfl rfl rfl rfl rfl rfl)
theorem ps_law_bids_17 {P : Program} {w : World} {K : PySem.W.Frag} {mg : Str → Option Value} {base : Heap} (h : Fx K mg) (tb : TabsB base K mg tf26) {f : Addr} {A : Around} {outer : List Env} {s : Shared} {H : Hp} {E : XK} : PS (X_law_bids P w K mg base f A outer s H E) (stL s_law_bids 17) (fun D σ H2 => tMkA (X_law_bids P w K mg base f A outer s H E) (tabL K qs26) 2 e_law_bids_17 D.nx σ H2) :=
  (ps_mkA (e := e_law_bids_17) 2 (tb ("_law_bids", none) (by decide +kernel)) rfl (tabL_in (z := (("_law_bids", none), "_law_bids" ++ ".<locals>." ++ "<lambda>")) (by unfold qs26; simp)) (tabL_un h.dist (z := (("_law_bids", none), "_law_bids" ++ ".<locals>." ++ "<lambda>")) (by unfold qs26; simp)) rfl (LamX.lamS_by (sc := defScope s_law_bids) (scope := e_law_bids_17.scope) (by decide +kernel)) rfl (.inl rfl) (by decide) (by decide) rfl rfl rfl rfl rfl rfl)
theorem ps_law_bids_18 {P : Program} {w : World} {K : PySem.W.Frag} {mg : Str → Option Value} {base : Heap} (h : Fx K mg) (tb : TabsB base K mg tf26) {f : Addr} {A : Around} {outer : List Env} {s : Shared} {H : Hp} {E : XK} : PS (X_law_bids P w K mg base f A outer s H E) (stL s_law_bids 18) (fun D σ H2 => tMkA (X_law_bids P w K mg base f A outer s H E) (tabL K qs26) 2 e_law_bids_18 D.nx σ H2) :=
  (ps_mkA (e := e_law_bids_18) 2 (tb ("_law_bids", none) (by decide +kernel)) rfl (tabL_in (z := (("_law_bids", none), "_law_bids" ++ ".<locals>." ++ "<lambda>")) (by unfold qs26; simp)) (tabL_un h.dist (z := (("_law_bids", none), "_law_bids" ++ ".<locals>." ++ "<lambda>")) (by unfold qs26; simp)) rfl (LamX.lamS_by (sc := defScope s_law_bids) (scope := e_law_bids_18.scope) (by decide +kernel)) rfl (.inl rfl) (by decide) (by decide) rfl rfl rfl rfl rfl rfl)
theorem ps_law_bids_19 {P : Program} {w : World} {K : PySem.W.Frag} {mg : Str → Option Value} {base : Heap} (h : Fx K mg) (tb : TabsB base K mg tf26) {f : Addr} {A : Around} {outer : List Env} {s : Shared} {H : Hp} {E : XK} : PS (X_law_bids P w K mg base f A outer s H E) (stL s_law_bids 19) (fun D σ H2 => tMkA (X_law_bids P w K mg base f A outer s H E) (tabL K qs26) 2 e_law_bids_19 D.nx σ H2) :=
  (ps_mkA (e := e_law_bids_19) 2 (tb ("_law_bids", none) (by decide +kernel)) rfl (tabL_in (z := (("_law_bids", none), "_law_bids" ++ ".<locals>." ++ "<lambda>")) (by unfold qs26; simp)) (tabL_un h.dist (z := (("_law_bids", none), "_law_bids" ++ ".<locals>." ++ "<lambda>")) (by unfold qs26; simp)) rfl (LamX.lamS_by (sc := defScope s_law_bids) (scope := e_law_bids_19.scope) (by decide +kernel)) rfl (.inl rfl) (by decide) (by decide) rfl rfl rfl rfl rfl rfl)
theorem ps_law_bids_20 {P : Program} {w : World} {K : PySem.W.Frag} {mg : Str → Option Value} {base : Heap} (h : Fx K mg) (tb : TabsB base K mg tf26) {f : Addr} {A : Around} {outer : List Env} {s : Shared} {H : Hp} {E : XK} : PS (X_law_bids P w K mg base f A outer s H E) (stL s_law_bids 20) (fun D σ H2 => tMkA (X_law_bids P w K mg base f A outer s H E) (tabL K qs26) 2 e_law_bids_20 D.nx σ H2) :=
  (ps_mkA (e := e_law_bids_20) 2 (tb ("_law_bids", none) (by decide +kernel)) rfl (tabL_in (z := (("_law_bids", none), "_law_bids" ++ ".<locals>." ++ "<lambda>")) (by unfold qs26; simp)) (tabL_un h.dist (z := (("_law_bids", none), "_law_bids" ++ ".<locals>." ++ "<lambda>")) (by unfold qs26; simp)) rfl (LamX.lamS_by (sc := defScope s_law_bids) (scope := e_law_bids_20.scope) (by decide +kernel)) rfl (.inl rfl) (by decide) (by decide) rfl rfl rfl rfl rfl rfl)
theorem ps_law_bids_21 {P : Program} {w : World} {K : PySem.W.Frag} {mg : Str → Option Value} {base : Heap} (h : Fx K mg) (tb : TabsB base K mg tf26) {f : Addr} {A : Around} {outer : List Env} {s : Shared} {H : Hp} {E : XK} : PS (X_law_bids P w K mg base f A outer s H E) (stL s_law_bids 21) (fun D σ H2 => tMkA (X_law_bids P w K mg base f A outer s H E) (tabL K qs26) 2 e_law_bids_21 D.nx σ H2) :=
  (ps_mkA (e := e_law_bids_21) 2 (tb ("_law_bids", none) (by decide +kernel)) rfl (tabL_in (z := (("_law_bids", none), "_law_bids" ++ ".<locals>." ++ "<lambda>")) (by unfold qs26; simp)) (tabL_un h.dist (z := (("_law_bids", none), "_law_bids" ++ ".<locals>." ++ "<lambda>")) (by unfold qs26; simp)) rfl (LamX.lamS_by (sc := defScope s_law_bids) (scope := e_law_bids_21.scope) (by decide +kernel)) rfl (.inl rfl) (by decide) (by decide) rfl rfl rfl rfl rfl rfl)
theorem pr_law_bids {P : Program} {w : World} {K : PySem.W.Frag} {mg : Str → Option Value} {base : Heap} (h : Fx K mg) (tb : TabsB base K mg tf26) {f : Addr} {A : Around} {outer : List Env} {s : Shared} {H : Hp} {E : XK} : RtB (X_law_bids P w K mg base f A outer s H E) [stL s_law_bids 22] (fun R σ H2 => ∃ v, σ[2]? = some (some v) ∧ R v σ H2) := rtb_ret 2 rfl (.inl rfl) (by decide) (by decide)
theorem bd_law_bids : defBody s_law_bids = stL s_law_bids 0 :: ([stL s_law_bids 1, stL s_law_bids 2, stL s_law_bids 3, stL s_law_bids 4, stL s_law_bids 5, stL s_law_bids 6, stL s_law_bids 7, stL s_law_bids 8, stL s_law_bids 9, stL s_law_bids 10, stL s_law_bids 11, stL s_law_bids 12, stL s_law_bids 13, stL s_law_bids 14, stL s_law_bids 15, stL s_law_bids 16, stL s_law_bids 17, stL s_law_bids 18, stL s_law_bids 19, stL s_law_bids 20, stL s_law_bids 21] ++ [stL s_law_bids 22]) := by kernel_rfl
theorem ok_law_bids {P : Program} {w : World} {K : PySem.W.Frag} {mg : Str → Option Value} {base : Heap} (h : Fx K mg) (tb : TabsB base K mg tf26) : MkrD P w K mg base 11 9 "_law_bids" (tabL K qs26) 2 ml_law_bids := by
  obtain ⟨fd, F, hg⟩ := h.c_law_bids
  refine mkr_mk (k := 10) (i := 2) (e0 := e_law_bids_0) (es := [e_law_bids_1, e_law_bids_2, e_law_bids_3, e_law_bids_4, e_law_bids_5, e_law_bids_6, e_law_bids_7, e_law_bids_8, e_law_bids_9, e_law_bids_10, e_law_bids_11, e_law_bids_12, e_law_bids_13, e_law_bids_14, e_law_bids_15, e_law_bids_16, e_law_bids_17, e_law_bids_18, e_law_bids_19, e_law_bids_20, e_law_bids_21]) F sc_law_bids hg (F.bindsN fun _ _ _ _ _ _ us hl => match us, hl with | [_, _], _ => rfl) (code_of F) (by decide) (by decide) (by decide +kernel) (fun A outer s H E hr => ?_) ?_
  · rw [bd_law_bids]
    exact rtb_maker (ps_law_bids_0 h tb) (.cons (ps_law_bids_1 h tb) (.cons (ps_law_bids_2 h tb) (.cons (ps_law_bids_3 h tb) (.cons (ps_law_bids_4 h tb) (.cons (ps_law_bids_5 h tb) (.cons (ps_law_bids_6 h tb) (.cons (ps_law_bids_7 h tb) (.cons (ps_law_bids_8 h tb) (.cons (ps_law_bids_9 h tb) (.cons (ps_law_bids_10 h tb) (.cons (ps_law_bids_11 h tb) (.cons (ps_law_bids_12 h tb) (.cons (ps_law_bids_13 h tb) (.cons (ps_law_bids_14 h tb) (.cons (ps_law_bids_15 h tb) (.cons (ps_law_bids_16 h tb) (.cons (ps_law_bids_17 h tb) (.cons (ps_law_bids_18 h tb) (.cons (ps_law_bids_19 h tb) (.cons (ps_law_bids_20 h tb) (.cons (ps_law_bids_21 h tb) .nil))))))))))))))))))))) (pr_law_bids h tb)
  · unfold ml_law_bids
    exact (lams_cons (lm_law_bids_0 h) (lams_cons (lm_law_bids_1 h) (lams_cons (lm_law_bids_2 h) (lams_cons (lm_law_bids_3 h) (lams_cons (lm_law_bids_4 h) (lams_cons (lm_law_bids_5 h) (lams_cons (lm_law_bids_6 h) (lams_cons (lm_law_bids_7 h) (lams_cons (lm_law_bids_8 h) (lams_cons (lm_law_bids_9 h) (lams_cons (lm_law_bids_10 h) (lams_cons (lm_law_bids_11 h) (lams_cons (lm_law_bids_12 h) (lams_cons (lm_law_bids_13 h) (lams_cons (lm_law_bids_14 h) (lams_cons (lm_law_bids_15 h) (lams_cons (lm_law_bids_16 h) (lams_cons (lm_law_bids_17 h) (lams_cons (lm_law_bids_18 h) (lams_cons (lm_law_bids_19 h) (lams_cons (lm_law_bids_20 h) (lams_cons (lm_law_bids_21 h) lams_nil))))))))))))))))))))))
theorem hks26 : ∀ (i : Nat) (y : Str), (["_law_house_here", "_law_offers_here", "_law_twice"] : List Str)[i]? = some y → ∃ k, ([12, 1, 6] : List Nat)[i]? = some k ∧ (["_law_script", "_law_offers_here", "_law_one", "_law_no", "_law_bids_here", "_law_prices", "_law_twice", "_law_repeated", "_law_bidders", "_law_single", "_law_indexes", "_law_full", "_law_house_here", "_law_at"] : List Str)[k]? = some y ∧ (defScope s_law).names.lookup y = some .cell := fun i y e => by
  match i, y, e with
  | 0, _, rfl => exact ⟨12, rfl, rfl, by decide +kernel⟩
  | 1, _, rfl => exact ⟨1, rfl, rfl, by decide +kernel⟩
  | 2, _, rfl => exact ⟨6, rfl, rfl, by decide +kernel⟩
theorem st_law_0 {P : Program} {w : World} {K : PySem.W.Frag} {mg : Str → Option Value} {base : Heap} (h : Fx K mg) (tb : TabsB base K mg tf26) {f : Addr} {A : Around} {outer : List Env} {s : Shared} {H : Hp} {E : XK} (hr : Room 11 (X_law P w K mg base f A outer s H E).A) {rest : List Stmt} {fr : Gam → Lls → Prop} (r : LB (X_law P w K mg base f A outer s H E) (tabL K qs26) 8 ["_law_house_here", "_law_offers_here", "_law_twice"] rest fr) : LB (X_law P w K mg base f A outer s H E) (tabL K qs26) 8 ["_law_house_here", "_law_offers_here", "_law_twice"] (stL s_law 0 :: rest) (kPl (mPar [12, 13] [] [.v (mCall (mDef m_law_house 7) (mCons (mVar 0) (mCons (mC (.int 0)) mNil))), .v (mCall (mDef m_law_pick 7) (mCons (mVar 0) (mCons (mC (.int 30)) (mCons (mC (.int 8)) mNil))))]) fr) := by
  have hN := sc_law.nd
  exact lb_plain (E := E) (ss_parT [] (is := [12, 13]) rfl (sns_cons 12 (sns_cons 13 sns_nil hN) hN) (sp_v (se_call ((ok_law_house h).mono (k := 11) (by decide)) hr (passes_call (takes_of rfl rfl rfl rfl) (fun _ _ _ _ h => h)) (sa_cons (se_var 0) (sa_cons se_int sa_nil))) (sp_v (se_call ((ok_law_pick h).mono (k := 11) (by decide)) hr (passes_call (takes_of rfl rfl rfl rfl) (fun _ _ _ _ h => h)) (sa_cons (se_var 0) (sa_cons se_int (sa_cons se_int sa_nil)))) sp_nil))) r
theorem st_law_1 {P : Program} {w : World} {K : PySem.W.Frag} {mg : Str → Option Value} {base : Heap} (h : Fx K mg) (tb : TabsB base K mg tf26) {f : Addr} {A : Around} {outer : List Env} {s : Shared} {H : Hp} {E : XK} (hr : Room 11 (X_law P w K mg base f A outer s H E).A) {rest : List Stmt} {fr : Gam → Lls → Prop} (r : LB (X_law P w K mg base f A outer s H E) (tabL K qs26) 8 ["_law_house_here", "_law_offers_here", "_law_twice"] rest fr) : LB (X_law P w K mg base f A outer s H E) (tabL K qs26) 8 ["_law_house_here", "_law_offers_here", "_law_twice"] (stL s_law 1 :: rest) (kPl (mSet 1 [] (mCall (mDef m_law_offers 8) (mCons (mVar 0) (mCons (mC (.int 11)) (mCons (mC (.int 6)) (mCons (mC (.bool false)) mNil)))))) fr) := by
  have hN := sc_law.nd
  exact lb_plain (E := E) (ss_set 1 [] (se_call ((ok_law_offers h).mono (k := 11) (by decide)) hr (passes_call (takes_of rfl rfl rfl rfl) (fun _ _ _ _ h => h)) (sa_cons (se_var 0) (sa_cons se_int (sa_cons se_int (sa_cons se_bl sa_nil))))) hN) r
theorem st_law_2 {P : Program} {w : World} {K : PySem.W.Frag} {mg : Str → Option Value} {base : Heap} (h : Fx K mg) (tb : TabsB base K mg tf26) {f : Addr} {A : Around} {outer : List Env} {s : Shared} {H : Hp} {E : XK} (hr : Room 11 (X_law P w K mg base f A outer s H E).A) {rest : List Stmt} {fr : Gam → Lls → Prop} (r : LB (X_law P w K mg base f A outer s H E) (tabL K qs26) 8 ["_law_house_here", "_law_offers_here", "_law_twice"] rest fr) : LB (X_law P w K mg base f A outer s H E) (tabL K qs26) 8 ["_law_house_here", "_law_offers_here", "_law_twice"] (stL s_law 2 :: rest) (kPl (mSet 2 [] (mTup (mCons (mTup (mCons (mC (.int 0)) (mCons (mC (.int 1)) mNil))) mNil))) fr) := by
  have hN := sc_law.nd
  exact lb_plain (E := E) (ss_set 2 [] (se_tup (sa_cons (se_tup (sa_cons se_int (sa_cons se_int sa_nil))) sa_nil)) hN) r
theorem st_law_3 {P : Program} {w : World} {K : PySem.W.Frag} {mg : Str → Option Value} {base : Heap} (h : Fx K mg) (tb : TabsB base K mg tf26) {f : Addr} {A : Around} {outer : List Env} {s : Shared} {H : Hp} {E : XK} (hr : Room 11 (X_law P w K mg base f A outer s H E).A) {rest : List Stmt} {fr : Gam → Lls → Prop} (r : LB (X_law P w K mg base f A outer s H E) (tabL K qs26) 8 ["_law_house_here", "_law_offers_here", "_law_twice"] rest fr) : LB (X_law P w K mg base f A outer s H E) (tabL K qs26) 8 ["_law_house_here", "_law_offers_here", "_law_twice"] (stL s_law 3 :: rest) (kPl (mSet 3 [] (mOp dIx (mTup (mCons (mC .none) (mCons (mC (.int 5)) (mCons (mTup (mCons (mVar 2) (mCons (mC (.int 0)) (mCons (mC (.int 1)) mNil)))) (mCons (mTup (mCons (mVar 2) (mCons (mC (.int 5)) (mCons (mC (.int 4)) mNil)))) (mCons (mTup (mCons (mTup mNil) (mCons (mC (.int 1)) (mCons (mC (.int 1)) mNil)))) (mCons (mTup (mCons (mTup (mCons (mTup (mCons (mC (.int 0)) (mCons (mC (.int 2)) mNil))) (mCons (mTup (mCons (mC (.int 9)) (mCons (mC (.int 2)) mNil))) mNil))) (mCons (mC (.int 1)) (mCons (mC (.int 1)) mNil)))) (mCons (mL (mCons (mVar 2) (mCons (mC (.int 1)) (mCons (mC (.int 1)) mNil)))) (mCons (mTup (mCons (mVar 2) (mCons (mC (.int 1)) mNil))) mNil))))))))) (mVar 13))) fr) := by
  have hN := sc_law.nd
  exact lb_plain (E := E) (ss_set 3 [] (se_ix id_ix (se_tup (sa_cons se_non (sa_cons se_int (sa_cons (se_tup (sa_cons (se_var 2) (sa_cons se_int (sa_cons se_int sa_nil)))) (sa_cons (se_tup (sa_cons (se_var 2) (sa_cons se_int (sa_cons se_int sa_nil)))) (sa_cons (se_tup (sa_cons (se_tup sa_nil) (sa_cons se_int (sa_cons se_int sa_nil)))) (sa_cons (se_tup (sa_cons (se_tup (sa_cons (se_tup (sa_cons se_int (sa_cons se_int sa_nil))) (sa_cons (se_tup (sa_cons se_int (sa_cons se_int sa_nil))) sa_nil))) (sa_cons se_int (sa_cons se_int sa_nil)))) (sa_cons (se_l (sl_lst (sa_cons (se_var 2) (sa_cons se_int (sa_cons se_int sa_nil))))) (sa_cons (se_tup (sa_cons (se_var 2) (sa_cons se_int sa_nil))) sa_nil))))))))) (se_var 13)) hN) r
theorem st_law_4 {P : Program} {w : World} {K : PySem.W.Frag} {mg : Str → Option Value} {base : Heap} (h : Fx K mg) (tb : TabsB base K mg tf26) {f : Addr} {A : Around} {outer : List Env} {s : Shared} {H : Hp} {E : XK} (hr : Room 11 (X_law P w K mg base f A outer s H E).A) {rest : List Stmt} {fr : Gam → Lls → Prop} (r : LB (X_law P w K mg base f A outer s H E) (tabL K qs26) 8 ["_law_house_here", "_law_offers_here", "_law_twice"] rest fr) : LB (X_law P w K mg base f A outer s H E) (tabL K qs26) 8 ["_law_house_here", "_law_offers_here", "_law_twice"] (stL s_law 4 :: rest) (kPl (mSet 4 [] (mOp dIx (mTup (mCons (mC .none) (mCons (mC (.int 5)) (mCons (mTup mNil) (mCons (mL (mCons (mTup (mCons (mC (.str (PySem.Str.ofString "g"))) (mCons (mC (.int 1)) mNil))) mNil)) (mCons (mL (mCons (mTup (mCons (mC (.str (PySem.Str.ofString "a"))) (mCons (mC (.int 0)) mNil))) mNil)) (mCons (mL (mCons (mTup (mCons (mC (.str (PySem.Str.ofString "a"))) (mCons (mC (.int 201)) mNil))) mNil)) (mCons (mOp dMul (mL (mCons (mTup (mCons (mC (.str (PySem.Str.ofString "a"))) (mCons (mC (.int 1)) mNil))) mNil)) (mC (.int 9))) (mCons (mL (mCons (mL (mCons (mC (.str (PySem.Str.ofString "a"))) (mCons (mC (.int 1)) mNil))) mNil)) mNil))))))))) (mVar 13))) fr) := by
  have hN := sc_law.nd
  exact lb_plain (E := E) (ss_set 4 [] (se_ix id_ix (se_tup (sa_cons se_non (sa_cons se_int (sa_cons (se_tup sa_nil) (sa_cons (se_l (sl_lst (sa_cons (se_tup (sa_cons se_str (sa_cons se_int sa_nil))) sa_nil))) (sa_cons (se_l (sl_lst (sa_cons (se_tup (sa_cons se_str (sa_cons se_int sa_nil))) sa_nil))) (sa_cons (se_l (sl_lst (sa_cons (se_tup (sa_cons se_str (sa_cons se_int sa_nil))) sa_nil))) (sa_cons (se_op od_mul (se_l (sl_lst (sa_cons (se_tup (sa_cons se_str (sa_cons se_int sa_nil))) sa_nil))) se_int) (sa_cons (se_l (sl_lst (sa_cons (se_l (sl_lst (sa_cons se_str (sa_cons se_int sa_nil)))) sa_nil))) sa_nil))))))))) (se_var 13)) hN) r
theorem st_law_5 {P : Program} {w : World} {K : PySem.W.Frag} {mg : Str → Option Value} {base : Heap} (h : Fx K mg) (tb : TabsB base K mg tf26) {f : Addr} {A : Around} {outer : List Env} {s : Shared} {H : Hp} {E : XK} (hr : Room 11 (X_law P w K mg base f A outer s H E).A) {rest : List Stmt} {fr : Gam → Lls → Prop} (r : LB (X_law P w K mg base f A outer s H E) (tabL K qs26) 8 ["_law_house_here", "_law_offers_here", "_law_twice"] rest fr) : LB (X_law P w K mg base f A outer s H E) (tabL K qs26) 8 ["_law_house_here", "_law_offers_here", "_law_twice"] (stL s_law 5 :: rest) (kIf (kMkC ml_law_sales (mCons (mVar 3) mNil) "InvalidSale") (kMkC ml_law_bids (mCons (mVar 12) (mCons (mVar 4) mNil)) "InvalidBids") fr) := by
  have hN := sc_law.nd
  exact lb_if (ct_mk ((ok_law_all h).mono (k := 11) (by decide)) (ok_law_sales h tb) hr (passes_call (takes_of rfl rfl rfl rfl) (fun _ _ _ _ h => h.elim)) (sa_cons (se_var 3) sa_nil) (by simp)) (ct_mk ((ok_law_all h).mono (k := 11) (by decide)) (ok_law_bids h tb) hr (passes_call (takes_of rfl rfl rfl rfl) (fun _ _ _ _ h => h.elim)) (sa_cons (se_var 12) (sa_cons (se_var 4) sa_nil)) (by simp)) r
theorem st_law_6 {P : Program} {w : World} {K : PySem.W.Frag} {mg : Str → Option Value} {base : Heap} (h : Fx K mg) (tb : TabsB base K mg tf26) {f : Addr} {A : Around} {outer : List Env} {s : Shared} {H : Hp} {E : XK} (hr : Room 11 (X_law P w K mg base f A outer s H E).A) {rest : List Stmt} {fr : Gam → Lls → Prop} (r : LB (X_law P w K mg base f A outer s H E) (tabL K qs26) 8 ["_law_house_here", "_law_offers_here", "_law_twice"] rest fr) : LB (X_law P w K mg base f A outer s H E) (tabL K qs26) 8 ["_law_house_here", "_law_offers_here", "_law_twice"] (stL s_law 6 :: rest) (kMk1 5 (mCall (mDef m_next_price 2) (mCons (mVar 0) (mCons (mNeg (mC (.int 1))) mNil))) fr) := by
  have hN := sc_law.nd
  exact lb_mk1 (ps_mk1 (e := e_law_6) 5 (tb ("law", none) (by decide +kernel)) rfl (tabL_in (z := (("law", none), "law" ++ ".<locals>." ++ "<lambda>")) (by unfold qs26; simp)) (tabL_un h.dist (z := (("law", none), "law" ++ ".<locals>." ++ "<lambda>")) (by unfold qs26; simp)) rfl (LamX.lamS_by (sc := defScope s_law) (scope := e_law_6.scope) (by decide +kernel)) sc_law.nd rfl (.inl rfl) rfl rfl (.inl rfl)) (lm_law_6 h) r
theorem st_law_7 {P : Program} {w : World} {K : PySem.W.Frag} {mg : Str → Option Value} {base : Heap} (h : Fx K mg) (tb : TabsB base K mg tf26) {f : Addr} {A : Around} {outer : List Env} {s : Shared} {H : Hp} {E : XK} (hr : Room 11 (X_law P w K mg base f A outer s H E).A) {rest : List Stmt} {fr : Gam → Lls → Prop} (r : LB (X_law P w K mg base f A outer s H E) (tabL K qs26) 8 ["_law_house_here", "_law_offers_here", "_law_twice"] rest fr) : LB (X_law P w K mg base f A outer s H E) (tabL K qs26) 8 ["_law_house_here", "_law_offers_here", "_law_twice"] (stL s_law 7 :: rest) (kMkA 5 (mCall (mDef m_next_price 2) (mCons (mVar 0) (mCons (mC (.int 201)) mNil))) fr) := by
  have hN := sc_law.nd
  exact lb_mkA (ps_mkA (e := e_law_7) 5 (tb ("law", none) (by decide +kernel)) rfl (tabL_in (z := (("law", none), "law" ++ ".<locals>." ++ "<lambda>")) (by unfold qs26; simp)) (tabL_un h.dist (z := (("law", none), "law" ++ ".<locals>." ++ "<lambda>")) (by unfold qs26; simp)) rfl (LamX.lamS_by (sc := defScope s_law) (scope := e_law_7.scope) (by decide +kernel)) rfl (.inl rfl) (by decide) (by decide) rfl rfl rfl rfl rfl rfl) (lm_law_7 h) r
theorem st_law_8 {P : Program} {w : World} {K : PySem.W.Frag} {mg : Str → Option Value} {base : Heap} (h : Fx K mg) (tb : TabsB base K mg tf26) {f : Addr} {A : Around} {outer : List Env} {s : Shared} {H : Hp} {E : XK} (hr : Room 11 (X_law P w K mg base f A outer s H E).A) {rest : List Stmt} {fr : Gam → Lls → Prop} (r : LB (X_law P w K mg base f A outer s H E) (tabL K qs26) 8 ["_law_house_here", "_law_offers_here", "_law_twice"] rest fr) : LB (X_law P w K mg base f A outer s H E) (tabL K qs26) 8 ["_law_house_here", "_law_offers_here", "_law_twice"] (stL s_law 8 :: rest) (kMkA 5 (mCall (mDef m_climb 4) (mCons (mVar 0) (mCons (mC (.bool true)) (mCons (mNeg (mC (.int 1))) mNil)))) fr) := by
  have hN := sc_law.nd
  exact lb_mkA (ps_mkA (e := e_law_8) 5 (tb ("law", none) (by decide +kernel)) rfl (tabL_in (z := (("law", none), "law" ++ ".<locals>." ++ "<lambda>")) (by unfold qs26; simp)) (tabL_un h.dist (z := (("law", none), "law" ++ ".<locals>." ++ "<lambda>")) (by unfold qs26; simp)) rfl (LamX.lamS_by (sc := defScope s_law) (scope := e_law_8.scope) (by decide +kernel)) rfl (.inl rfl) (by decide) (by decide) rfl rfl rfl rfl rfl rfl) (lm_law_8 h) r
theorem st_law_9 {P : Program} {w : World} {K : PySem.W.Frag} {mg : Str → Option Value} {base : Heap} (h : Fx K mg) (tb : TabsB base K mg tf26) {f : Addr} {A : Around} {outer : List Env} {s : Shared} {H : Hp} {E : XK} (hr : Room 11 (X_law P w K mg base f A outer s H E).A) {rest : List Stmt} {fr : Gam → Lls → Prop} (r : LB (X_law P w K mg base f A outer s H E) (tabL K qs26) 8 ["_law_house_here", "_law_offers_here", "_law_twice"] rest fr) : LB (X_law P w K mg base f A outer s H E) (tabL K qs26) 8 ["_law_house_here", "_law_offers_here", "_law_twice"] (stL s_law 9 :: rest) (kMkA 5 (mCall (mDef m_climb 4) (mCons (mVar 0) (mCons (mC (.int 5)) (mCons (mC (.int 201)) mNil)))) fr) := by
  have hN := sc_law.nd
  exact lb_mkA (ps_mkA (e := e_law_9) 5 (tb ("law", none) (by decide +kernel)) rfl (tabL_in (z := (("law", none), "law" ++ ".<locals>." ++ "<lambda>")) (by unfold qs26; simp)) (tabL_un h.dist (z := (("law", none), "law" ++ ".<locals>." ++ "<lambda>")) (by unfold qs26; simp)) rfl (LamX.lamS_by (sc := defScope s_law) (scope := e_law_9.scope) (by decide +kernel)) rfl (.inl rfl) (by decide) (by decide) rfl rfl rfl rfl rfl rfl) (lm_law_9 h) r
theorem st_law_10 {P : Program} {w : World} {K : PySem.W.Frag} {mg : Str → Option Value} {base : Heap} (h : Fx K mg) (tb : TabsB base K mg tf26) {f : Addr} {A : Around} {outer : List Env} {s : Shared} {H : Hp} {E : XK} (hr : Room 11 (X_law P w K mg base f A outer s H E).A) {rest : List Stmt} {fr : Gam → Lls → Prop} (r : LB (X_law P w K mg base f A outer s H E) (tabL K qs26) 8 ["_law_house_here", "_law_offers_here", "_law_twice"] rest fr) : LB (X_law P w K mg base f A outer s H E) (tabL K qs26) 8 ["_law_house_here", "_law_offers_here", "_law_twice"] (stL s_law 10 :: rest) (kPl (mSet 6 [] (mL (mCons (mTup (mCons (mC (.str (PySem.Str.ofString "a"))) (mCons (mC (.int 5)) mNil))) (mCons (mTup (mCons (mC (.str (PySem.Str.ofString "b"))) (mCons (mC (.int 6)) mNil))) (mCons (mTup (mCons (mC (.str (PySem.Str.ofString "a"))) (mCons (mC (.int 7)) mNil))) mNil))))) fr) := by
  have hN := sc_law.nd
  exact lb_plain (E := E) (ss_set 6 [] (se_l (sl_lst (sa_cons (se_tup (sa_cons se_str (sa_cons se_int sa_nil))) (sa_cons (se_tup (sa_cons se_str (sa_cons se_int sa_nil))) (sa_cons (se_tup (sa_cons se_str (sa_cons se_int sa_nil))) sa_nil))))) hN) r
theorem st_law_11 {P : Program} {w : World} {K : PySem.W.Frag} {mg : Str → Option Value} {base : Heap} (h : Fx K mg) (tb : TabsB base K mg tf26) {f : Addr} {A : Around} {outer : List Env} {s : Shared} {H : Hp} {E : XK} (hr : Room 11 (X_law P w K mg base f A outer s H E).A) {rest : List Stmt} {fr : Gam → Lls → Prop} (r : LB (X_law P w K mg base f A outer s H E) (tabL K qs26) 8 ["_law_house_here", "_law_offers_here", "_law_twice"] rest fr) : LB (X_law P w K mg base f A outer s H E) (tabL K qs26) 8 ["_law_house_here", "_law_offers_here", "_law_twice"] (stL s_law 11 :: rest) (kMk1 7 (mCall (mDef m_possible_winners 6) (mCons (mVar 0) (mCons (mVar 2) mNil))) fr) := by
  have hN := sc_law.nd
  exact lb_mk1 (ps_mk1 (e := e_law_11) 7 (tb ("law", none) (by decide +kernel)) rfl (tabL_in (z := (("law", none), "law" ++ ".<locals>." ++ "<lambda>")) (by unfold qs26; simp)) (tabL_un h.dist (z := (("law", none), "law" ++ ".<locals>." ++ "<lambda>")) (by unfold qs26; simp)) rfl (LamX.lamS_by (sc := defScope s_law) (scope := e_law_11.scope) (by decide +kernel)) sc_law.nd rfl (.inl rfl) rfl rfl (.inl rfl)) (lm_law_11 h) r
theorem st_law_12 {P : Program} {w : World} {K : PySem.W.Frag} {mg : Str → Option Value} {base : Heap} (h : Fx K mg) (tb : TabsB base K mg tf26) {f : Addr} {A : Around} {outer : List Env} {s : Shared} {H : Hp} {E : XK} (hr : Room 11 (X_law P w K mg base f A outer s H E).A) {rest : List Stmt} {fr : Gam → Lls → Prop} (r : LB (X_law P w K mg base f A outer s H E) (tabL K qs26) 8 ["_law_house_here", "_law_offers_here", "_law_twice"] rest fr) : LB (X_law P w K mg base f A outer s H E) (tabL K qs26) 8 ["_law_house_here", "_law_offers_here", "_law_twice"] (stL s_law 12 :: rest) (kMkA 7 (mCall (mDef m_possible_prices 4) (mCons (mVar 0) (mCons (mVar 2) mNil))) fr) := by
  have hN := sc_law.nd
  exact lb_mkA (ps_mkA (e := e_law_12) 7 (tb ("law", none) (by decide +kernel)) rfl (tabL_in (z := (("law", none), "law" ++ ".<locals>." ++ "<lambda>")) (by unfold qs26; simp)) (tabL_un h.dist (z := (("law", none), "law" ++ ".<locals>." ++ "<lambda>")) (by unfold qs26; simp)) rfl (LamX.lamS_by (sc := defScope s_law) (scope := e_law_12.scope) (by decide +kernel)) rfl (.inl rfl) (by decide) (by decide) rfl rfl rfl rfl rfl rfl) (lm_law_12 h) r
theorem st_law_13 {P : Program} {w : World} {K : PySem.W.Frag} {mg : Str → Option Value} {base : Heap} (h : Fx K mg) (tb : TabsB base K mg tf26) {f : Addr} {A : Around} {outer : List Env} {s : Shared} {H : Hp} {E : XK} (hr : Room 11 (X_law P w K mg base f A outer s H E).A) {rest : List Stmt} {fr : Gam → Lls → Prop} (r : LB (X_law P w K mg base f A outer s H E) (tabL K qs26) 8 ["_law_house_here", "_law_offers_here", "_law_twice"] rest fr) : LB (X_law P w K mg base f A outer s H E) (tabL K qs26) 8 ["_law_house_here", "_law_offers_here", "_law_twice"] (stL s_law 13 :: rest) (kMkA 7 (mCall (mDef m_does_order_matter 4) (mCons (mVar 0) (mCons (mVar 2) mNil))) fr) := by
  have hN := sc_law.nd
  exact lb_mkA (ps_mkA (e := e_law_13) 7 (tb ("law", none) (by decide +kernel)) rfl (tabL_in (z := (("law", none), "law" ++ ".<locals>." ++ "<lambda>")) (by unfold qs26; simp)) (tabL_un h.dist (z := (("law", none), "law" ++ ".<locals>." ++ "<lambda>")) (by unfold qs26; simp)) rfl (LamX.lamS_by (sc := defScope s_law) (scope := e_law_13.scope) (by decide +kernel)) rfl (.inl rfl) (by decide) (by decide) rfl rfl rfl rfl rfl rfl) (lm_law_13 h) r
theorem st_law_14 {P : Program} {w : World} {K : PySem.W.Frag} {mg : Str → Option Value} {base : Heap} (h : Fx K mg) (tb : TabsB base K mg tf26) {f : Addr} {A : Around} {outer : List Env} {s : Shared} {H : Hp} {E : XK} (hr : Room 11 (X_law P w K mg base f A outer s H E).A) {rest : List Stmt} {fr : Gam → Lls → Prop} (r : LB (X_law P w K mg base f A outer s H E) (tabL K qs26) 8 ["_law_house_here", "_law_offers_here", "_law_twice"] rest fr) : LB (X_law P w K mg base f A outer s H E) (tabL K qs26) 8 ["_law_house_here", "_law_offers_here", "_law_twice"] (stL s_law 14 :: rest) (kMkA 7 (mCall (mDef m_dearest_order 4) (mCons (mVar 0) (mCons (mVar 2) mNil))) fr) := by
  have hN := sc_law.nd
  exact lb_mkA (ps_mkA (e := e_law_14) 7 (tb ("law", none) (by decide +kernel)) rfl (tabL_in (z := (("law", none), "law" ++ ".<locals>." ++ "<lambda>")) (by unfold qs26; simp)) (tabL_un h.dist (z := (("law", none), "law" ++ ".<locals>." ++ "<lambda>")) (by unfold qs26; simp)) rfl (LamX.lamS_by (sc := defScope s_law) (scope := e_law_14.scope) (by decide +kernel)) rfl (.inl rfl) (by decide) (by decide) rfl rfl rfl rfl rfl rfl) (lm_law_14 h) r
theorem st_law_15 {P : Program} {w : World} {K : PySem.W.Frag} {mg : Str → Option Value} {base : Heap} (h : Fx K mg) (tb : TabsB base K mg tf26) {f : Addr} {A : Around} {outer : List Env} {s : Shared} {H : Hp} {E : XK} (hr : Room 11 (X_law P w K mg base f A outer s H E).A) {rest : List Stmt} {fr : Gam → Lls → Prop} (r : LB (X_law P w K mg base f A outer s H E) (tabL K qs26) 8 ["_law_house_here", "_law_offers_here", "_law_twice"] rest fr) : LB (X_law P w K mg base f A outer s H E) (tabL K qs26) 8 ["_law_house_here", "_law_offers_here", "_law_twice"] (stL s_law 15 :: rest) (kMkA 7 (mCall (mDef m_cheapest_order 4) (mCons (mVar 0) (mCons (mVar 2) mNil))) fr) := by
  have hN := sc_law.nd
  exact lb_mkA (ps_mkA (e := e_law_15) 7 (tb ("law", none) (by decide +kernel)) rfl (tabL_in (z := (("law", none), "law" ++ ".<locals>." ++ "<lambda>")) (by unfold qs26; simp)) (tabL_un h.dist (z := (("law", none), "law" ++ ".<locals>." ++ "<lambda>")) (by unfold qs26; simp)) rfl (LamX.lamS_by (sc := defScope s_law) (scope := e_law_15.scope) (by decide +kernel)) rfl (.inl rfl) (by decide) (by decide) rfl rfl rfl rfl rfl rfl) (lm_law_15 h) r
theorem st_law_16 {P : Program} {w : World} {K : PySem.W.Frag} {mg : Str → Option Value} {base : Heap} (h : Fx K mg) (tb : TabsB base K mg tf26) {f : Addr} {A : Around} {outer : List Env} {s : Shared} {H : Hp} {E : XK} (hr : Room 11 (X_law P w K mg base f A outer s H E).A) {rest : List Stmt} {fr : Gam → Lls → Prop} (r : LB (X_law P w K mg base f A outer s H E) (tabL K qs26) 8 ["_law_house_here", "_law_offers_here", "_law_twice"] rest fr) : LB (X_law P w K mg base f A outer s H E) (tabL K qs26) 8 ["_law_house_here", "_law_offers_here", "_law_twice"] (stL s_law 16 :: rest) (kMk1 8 (mCall (mDef m_least_accepted 6) (mCons (mVar 0) (mCons (mVar 1) (mCons (mC (.str (PySem.Str.ofString "g"))) mNil)))) fr) := by
  have hN := sc_law.nd
  exact lb_mk1 (ps_mk1 (e := e_law_16) 8 (tb ("law", none) (by decide +kernel)) rfl (tabL_in (z := (("law", none), "law" ++ ".<locals>." ++ "<lambda>")) (by unfold qs26; simp)) (tabL_un h.dist (z := (("law", none), "law" ++ ".<locals>." ++ "<lambda>")) (by unfold qs26; simp)) rfl (LamX.lamS_by (sc := defScope s_law) (scope := e_law_16.scope) (by decide +kernel)) sc_law.nd rfl (.inl rfl) rfl rfl (.inl rfl)) (lm_law_16 h) r
theorem st_law_17 {P : Program} {w : World} {K : PySem.W.Frag} {mg : Str → Option Value} {base : Heap} (h : Fx K mg) (tb : TabsB base K mg tf26) {f : Addr} {A : Around} {outer : List Env} {s : Shared} {H : Hp} {E : XK} (hr : Room 11 (X_law P w K mg base f A outer s H E).A) {rest : List Stmt} {fr : Gam → Lls → Prop} (r : LB (X_law P w K mg base f A outer s H E) (tabL K qs26) 8 ["_law_house_here", "_law_offers_here", "_law_twice"] rest fr) : LB (X_law P w K mg base f A outer s H E) (tabL K qs26) 8 ["_law_house_here", "_law_offers_here", "_law_twice"] (stL s_law 17 :: rest) (kMkA 8 (mCall (mDef m_least_leading 6) (mCons (mVar 0) (mCons (mVar 1) (mCons (mC .none) mNil)))) fr) := by
  have hN := sc_law.nd
  exact lb_mkA (ps_mkA (e := e_law_17) 8 (tb ("law", none) (by decide +kernel)) rfl (tabL_in (z := (("law", none), "law" ++ ".<locals>." ++ "<lambda>")) (by unfold qs26; simp)) (tabL_un h.dist (z := (("law", none), "law" ++ ".<locals>." ++ "<lambda>")) (by unfold qs26; simp)) rfl (LamX.lamS_by (sc := defScope s_law) (scope := e_law_17.scope) (by decide +kernel)) rfl (.inl rfl) (by decide) (by decide) rfl rfl rfl rfl rfl rfl) (lm_law_17 h) r
theorem st_law_18 {P : Program} {w : World} {K : PySem.W.Frag} {mg : Str → Option Value} {base : Heap} (h : Fx K mg) (tb : TabsB base K mg tf26) {f : Addr} {A : Around} {outer : List Env} {s : Shared} {H : Hp} {E : XK} (hr : Room 11 (X_law P w K mg base f A outer s H E).A) {rest : List Stmt} {fr : Gam → Lls → Prop} (r : LB (X_law P w K mg base f A outer s H E) (tabL K qs26) 8 ["_law_house_here", "_law_offers_here", "_law_twice"] rest fr) : LB (X_law P w K mg base f A outer s H E) (tabL K qs26) 8 ["_law_house_here", "_law_offers_here", "_law_twice"] (stL s_law 18 :: rest) (kMkA 8 (mCall (mDef m_least_leading 6) (mCons (mVar 0) (mCons (mVar 1) (mCons (mC (.str (PySem.Str.ofString "ab"))) mNil)))) fr) := by
  have hN := sc_law.nd
  exact lb_mkA (ps_mkA (e := e_law_18) 8 (tb ("law", none) (by decide +kernel)) rfl (tabL_in (z := (("law", none), "law" ++ ".<locals>." ++ "<lambda>")) (by unfold qs26; simp)) (tabL_un h.dist (z := (("law", none), "law" ++ ".<locals>." ++ "<lambda>")) (by unfold qs26; simp)) rfl (LamX.lamS_by (sc := defScope s_law) (scope := e_law_18.scope) (by decide +kernel)) rfl (.inl rfl) (by decide) (by decide) rfl rfl rfl rfl rfl rfl) (lm_law_18 h) r
theorem st_law_19 {P : Program} {w : World} {K : PySem.W.Frag} {mg : Str → Option Value} {base : Heap} (h : Fx K mg) (tb : TabsB base K mg tf26) {f : Addr} {A : Around} {outer : List Env} {s : Shared} {H : Hp} {E : XK} (hr : Room 11 (X_law P w K mg base f A outer s H E).A) {rest : List Stmt} {fr : Gam → Lls → Prop} (r : LB (X_law P w K mg base f A outer s H E) (tabL K qs26) 8 ["_law_house_here", "_law_offers_here", "_law_twice"] rest fr) : LB (X_law P w K mg base f A outer s H E) (tabL K qs26) 8 ["_law_house_here", "_law_offers_here", "_law_twice"] (stL s_law 19 :: rest) (kMk1 9 (mCall (mDef m_price_with 3) (mCons (mVar 0) (mCons (mVar 1) (mCons (mC .none) mNil)))) fr) := by
  have hN := sc_law.nd
  exact lb_mk1 (ps_mk1 (e := e_law_19) 9 (tb ("law", none) (by decide +kernel)) rfl (tabL_in (z := (("law", none), "law" ++ ".<locals>." ++ "<lambda>")) (by unfold qs26; simp)) (tabL_un h.dist (z := (("law", none), "law" ++ ".<locals>." ++ "<lambda>")) (by unfold qs26; simp)) rfl (LamX.lamS_by (sc := defScope s_law) (scope := e_law_19.scope) (by decide +kernel)) sc_law.nd rfl (.inl rfl) rfl rfl (.inl rfl)) (lm_law_19 h) r
theorem st_law_20 {P : Program} {w : World} {K : PySem.W.Frag} {mg : Str → Option Value} {base : Heap} (h : Fx K mg) (tb : TabsB base K mg tf26) {f : Addr} {A : Around} {outer : List Env} {s : Shared} {H : Hp} {E : XK} (hr : Room 11 (X_law P w K mg base f A outer s H E).A) {rest : List Stmt} {fr : Gam → Lls → Prop} (r : LB (X_law P w K mg base f A outer s H E) (tabL K qs26) 8 ["_law_house_here", "_law_offers_here", "_law_twice"] rest fr) : LB (X_law P w K mg base f A outer s H E) (tabL K qs26) 8 ["_law_house_here", "_law_offers_here", "_law_twice"] (stL s_law 20 :: rest) (kMkA 9 (mCall (mDef m_price_with 3) (mCons (mVar 0) (mCons (mVar 1) (mCons (mTup (mCons (mC (.str (PySem.Str.ofString "a"))) (mCons (mC (.int 0)) mNil))) mNil)))) fr) := by
  have hN := sc_law.nd
  exact lb_mkA (ps_mkA (e := e_law_20) 9 (tb ("law", none) (by decide +kernel)) rfl (tabL_in (z := (("law", none), "law" ++ ".<locals>." ++ "<lambda>")) (by unfold qs26; simp)) (tabL_un h.dist (z := (("law", none), "law" ++ ".<locals>." ++ "<lambda>")) (by unfold qs26; simp)) rfl (LamX.lamS_by (sc := defScope s_law) (scope := e_law_20.scope) (by decide +kernel)) rfl (.inl rfl) (by decide) (by decide) rfl rfl rfl rfl rfl rfl) (lm_law_20 h) r
theorem st_law_21 {P : Program} {w : World} {K : PySem.W.Frag} {mg : Str → Option Value} {base : Heap} (h : Fx K mg) (tb : TabsB base K mg tf26) {f : Addr} {A : Around} {outer : List Env} {s : Shared} {H : Hp} {E : XK} (hr : Room 11 (X_law P w K mg base f A outer s H E).A) {rest : List Stmt} {fr : Gam → Lls → Prop} (r : LB (X_law P w K mg base f A outer s H E) (tabL K qs26) 8 ["_law_house_here", "_law_offers_here", "_law_twice"] rest fr) : LB (X_law P w K mg base f A outer s H E) (tabL K qs26) 8 ["_law_house_here", "_law_offers_here", "_law_twice"] (stL s_law 21 :: rest) (kMkA 9 (mCall (mDef m_price_with 3) (mCons (mVar 0) (mCons (mVar 1) (mCons (mL (mCons (mC (.str (PySem.Str.ofString "a"))) (mCons (mC (.int 1)) mNil))) mNil)))) fr) := by
  have hN := sc_law.nd
  exact lb_mkA (ps_mkA (e := e_law_21) 9 (tb ("law", none) (by decide +kernel)) rfl (tabL_in (z := (("law", none), "law" ++ ".<locals>." ++ "<lambda>")) (by unfold qs26; simp)) (tabL_un h.dist (z := (("law", none), "law" ++ ".<locals>." ++ "<lambda>")) (by unfold qs26; simp)) rfl (LamX.lamS_by (sc := defScope s_law) (scope := e_law_21.scope) (by decide +kernel)) rfl (.inl rfl) (by decide) (by decide) rfl rfl rfl rfl rfl rfl) (lm_law_21 h) r
theorem st_law_22 {P : Program} {w : World} {K : PySem.W.Frag} {mg : Str → Option Value} {base : Heap} (h : Fx K mg) (tb : TabsB base K mg tf26) {f : Addr} {A : Around} {outer : List Env} {s : Shared} {H : Hp} {E : XK} (hr : Room 11 (X_law P w K mg base f A outer s H E).A) {rest : List Stmt} {fr : Gam → Lls → Prop} (r : LB (X_law P w K mg base f A outer s H E) (tabL K qs26) 8 ["_law_house_here", "_law_offers_here", "_law_twice"] rest fr) : LB (X_law P w K mg base f A outer s H E) (tabL K qs26) 8 ["_law_house_here", "_law_offers_here", "_law_twice"] (stL s_law 22 :: rest) (kMk1 10 (mCall (mDef m_without_bid 3) (mCons (mVar 0) (mCons (mVar 1) (mCons (mCall dLen (mCons (mVar 1) mNil)) mNil)))) fr) := by
  have hN := sc_law.nd
  exact lb_mk1 (ps_mk1 (e := e_law_22) 10 (tb ("law", none) (by decide +kernel)) rfl (tabL_in (z := (("law", none), "law" ++ ".<locals>." ++ "<lambda>")) (by unfold qs26; simp)) (tabL_un h.dist (z := (("law", none), "law" ++ ".<locals>." ++ "<lambda>")) (by unfold qs26; simp)) rfl (LamX.lamS_by (sc := defScope s_law) (scope := e_law_22.scope) (by decide +kernel)) sc_law.nd rfl (.inl rfl) rfl rfl (.inl rfl)) (lm_law_22 h) r
theorem st_law_23 {P : Program} {w : World} {K : PySem.W.Frag} {mg : Str → Option Value} {base : Heap} (h : Fx K mg) (tb : TabsB base K mg tf26) {f : Addr} {A : Around} {outer : List Env} {s : Shared} {H : Hp} {E : XK} (hr : Room 11 (X_law P w K mg base f A outer s H E).A) {rest : List Stmt} {fr : Gam → Lls → Prop} (r : LB (X_law P w K mg base f A outer s H E) (tabL K qs26) 8 ["_law_house_here", "_law_offers_here", "_law_twice"] rest fr) : LB (X_law P w K mg base f A outer s H E) (tabL K qs26) 8 ["_law_house_here", "_law_offers_here", "_law_twice"] (stL s_law 23 :: rest) (kMkA 10 (mCall (mDef m_without_bid 3) (mCons (mVar 0) (mCons (mVar 1) (mCons (mNeg (mC (.int 1))) mNil)))) fr) := by
  have hN := sc_law.nd
  exact lb_mkA (ps_mkA (e := e_law_23) 10 (tb ("law", none) (by decide +kernel)) rfl (tabL_in (z := (("law", none), "law" ++ ".<locals>." ++ "<lambda>")) (by unfold qs26; simp)) (tabL_un h.dist (z := (("law", none), "law" ++ ".<locals>." ++ "<lambda>")) (by unfold qs26; simp)) rfl (LamX.lamS_by (sc := defScope s_law) (scope := e_law_23.scope) (by decide +kernel)) rfl (.inl rfl) (by decide) (by decide) rfl rfl rfl rfl rfl rfl) (lm_law_23 h) r
theorem st_law_24 {P : Program} {w : World} {K : PySem.W.Frag} {mg : Str → Option Value} {base : Heap} (h : Fx K mg) (tb : TabsB base K mg tf26) {f : Addr} {A : Around} {outer : List Env} {s : Shared} {H : Hp} {E : XK} (hr : Room 11 (X_law P w K mg base f A outer s H E).A) {rest : List Stmt} {fr : Gam → Lls → Prop} (r : LB (X_law P w K mg base f A outer s H E) (tabL K qs26) 8 ["_law_house_here", "_law_offers_here", "_law_twice"] rest fr) : LB (X_law P w K mg base f A outer s H E) (tabL K qs26) 8 ["_law_house_here", "_law_offers_here", "_law_twice"] (stL s_law 24 :: rest) (kMkA 10 (mCall (mDef m_without_bid 3) (mCons (mVar 0) (mCons (mL (mCons (mTup (mCons (mC (.str (PySem.Str.ofString "a"))) (mCons (mC (.int 5)) mNil))) (mCons (mTup (mCons (mC (.str (PySem.Str.ofString "b"))) (mCons (mC (.int 9)) mNil))) mNil))) (mCons (mC (.bool true)) mNil)))) fr) := by
  have hN := sc_law.nd
  exact lb_mkA (ps_mkA (e := e_law_24) 10 (tb ("law", none) (by decide +kernel)) rfl (tabL_in (z := (("law", none), "law" ++ ".<locals>." ++ "<lambda>")) (by unfold qs26; simp)) (tabL_un h.dist (z := (("law", none), "law" ++ ".<locals>." ++ "<lambda>")) (by unfold qs26; simp)) rfl (LamX.lamS_by (sc := defScope s_law) (scope := e_law_24.scope) (by decide +kernel)) rfl (.inl rfl) (by decide) (by decide) rfl rfl rfl rfl rfl rfl) (lm_law_24 h) r
theorem st_law_25 {P : Program} {w : World} {K : PySem.W.Frag} {mg : Str → Option Value} {base : Heap} (h : Fx K mg) (tb : TabsB base K mg tf26) {f : Addr} {A : Around} {outer : List Env} {s : Shared} {H : Hp} {E : XK} (hr : Room 11 (X_law P w K mg base f A outer s H E).A) {rest : List Stmt} {fr : Gam → Lls → Prop} (r : LB (X_law P w K mg base f A outer s H E) (tabL K qs26) 8 ["_law_house_here", "_law_offers_here", "_law_twice"] rest fr) : LB (X_law P w K mg base f A outer s H E) (tabL K qs26) 8 ["_law_house_here", "_law_offers_here", "_law_twice"] (stL s_law 25 :: rest) (kIf (kLiv 5 [12, 1, 6] "InvalidPrice") (kLiv 7 [12, 1, 6] "Repeated") fr) := by
  have hN := sc_law.nd
  exact lb_if (ct_live (ks := [12, 1, 6]) ((ok_law_all h).mono (k := 11) (by decide)) hr (by simp) hks26 rfl (fun _ => rfl) hN) (ct_live (ks := [12, 1, 6]) ((ok_law_all h).mono (k := 11) (by decide)) hr (by simp) hks26 rfl (fun _ => rfl) hN) r
theorem st_law_26 {P : Program} {w : World} {K : PySem.W.Frag} {mg : Str → Option Value} {base : Heap} (h : Fx K mg) (tb : TabsB base K mg tf26) {f : Addr} {A : Around} {outer : List Env} {s : Shared} {H : Hp} {E : XK} (hr : Room 11 (X_law P w K mg base f A outer s H E).A) {rest : List Stmt} {fr : Gam → Lls → Prop} (r : LB (X_law P w K mg base f A outer s H E) (tabL K qs26) 8 ["_law_house_here", "_law_offers_here", "_law_twice"] rest fr) : LB (X_law P w K mg base f A outer s H E) (tabL K qs26) 8 ["_law_house_here", "_law_offers_here", "_law_twice"] (stL s_law 26 :: rest) (kIf (kLiv 8 [12, 1, 6] "InvalidBidder") (kLiv 9 [12, 1, 6] "InvalidBid") fr) := by
  have hN := sc_law.nd
  exact lb_if (ct_live (ks := [12, 1, 6]) ((ok_law_all h).mono (k := 11) (by decide)) hr (by simp) hks26 rfl (fun _ => rfl) hN) (ct_live (ks := [12, 1, 6]) ((ok_law_all h).mono (k := 11) (by decide)) hr (by simp) hks26 rfl (fun _ => rfl) hN) r
theorem st_law_27 {P : Program} {w : World} {K : PySem.W.Frag} {mg : Str → Option Value} {base : Heap} (h : Fx K mg) (tb : TabsB base K mg tf26) {f : Addr} {A : Around} {outer : List Env} {s : Shared} {H : Hp} {E : XK} (hr : Room 11 (X_law P w K mg base f A outer s H E).A) {rest : List Stmt} {fr : Gam → Lls → Prop} (r : LB (X_law P w K mg base f A outer s H E) (tabL K qs26) 8 ["_law_house_here", "_law_offers_here", "_law_twice"] rest fr) : LB (X_law P w K mg base f A outer s H E) (tabL K qs26) 8 ["_law_house_here", "_law_offers_here", "_law_twice"] (stL s_law 27 :: rest) (kPl (mSet 11 [] (mOp dAdd (mVar 1) (mOp dMul (mL (mCons (mTup (mCons (mC (.str (PySem.Str.ofString "a"))) (mCons (mC (.int 1)) mNil))) mNil)) (mOp dSub (mC (.int 8)) (mCall dLen (mCons (mVar 1) mNil)))))) fr) := by
  have hN := sc_law.nd
  exact lb_plain (E := E) (ss_set 11 [] (se_op od_add (se_var 1) (se_op od_mul (se_l (sl_lst (sa_cons (se_tup (sa_cons se_str (sa_cons se_int sa_nil))) sa_nil))) (se_op od_sub se_int (se_bi cd_len h.z_len (sa_cons (se_var 1) sa_nil))))) hN) r
theorem st_law_28 {P : Program} {w : World} {K : PySem.W.Frag} {mg : Str → Option Value} {base : Heap} (h : Fx K mg) (tb : TabsB base K mg tf26) {f : Addr} {A : Around} {outer : List Env} {s : Shared} {H : Hp} {E : XK} (hr : Room 11 (X_law P w K mg base f A outer s H E).A) : LB (X_law P w K mg base f A outer s H E) (tabL K qs26) 8 ["_law_house_here", "_law_offers_here", "_law_twice"] [stL s_law 28] (kRet (kLiv 10 [12, 1, 6] "InvalidIndex") (mOp dEq (mCall (mDef m_price_with 3) (mCons (mVar 12) (mCons (mVar 11) (mCons (mTup (mCons (mC (.str (PySem.Str.ofString "b"))) (mCons (mC (.int 1)) mNil))) mNil)))) (mOp dIx (mCall (mDef m_result 2) (mCons (mVar 12) (mCons (mVar 11) mNil))) (mC (.int 1))))) := by
  have hN := sc_law.nd
  exact lb_ret (ct_live (ks := [12, 1, 6]) ((ok_law_all h).mono (k := 11) (by decide)) hr (by simp) hks26 rfl (fun _ => rfl) hN) (E := E) (se_cmp (od_eq hr) (se_call ((ok_price_with h).mono (k := 11) (by decide)) hr (passes_call (takes_of rfl rfl rfl rfl) (fun _ _ _ _ h => h)) (sa_cons (se_var 12) (sa_cons (se_var 11) (sa_cons (se_tup (sa_cons se_str (sa_cons se_int sa_nil))) sa_nil)))) (se_ix id_ix (se_call ((ok_result h).mono (k := 11) (by decide)) hr (passes_call (takes_of rfl rfl rfl rfl) (fun _ _ _ _ h => h)) (sa_cons (se_var 12) (sa_cons (se_var 11) sa_nil))) se_int))
theorem bd_law : defBody s_law = [stL s_law 0, stL s_law 1, stL s_law 2, stL s_law 3, stL s_law 4, stL s_law 5, stL s_law 6, stL s_law 7, stL s_law 8, stL s_law 9, stL s_law 10, stL s_law 11, stL s_law 12, stL s_law 13, stL s_law 14, stL s_law 15, stL s_law 16, stL s_law 17, stL s_law 18, stL s_law 19, stL s_law 20, stL s_law 21, stL s_law 22, stL s_law 23, stL s_law 24, stL s_law 25, stL s_law 26, stL s_law 27, stL s_law 28] := by kernel_rfl
theorem ok_law {P : Program} {w : World} {K : PySem.W.Frag} {mg : Str → Option Value} {base : Heap} (h : Fx K mg) (tb : TabsB base K mg tf26) {fd : FuncData} (F : FnP K "law" s_law (He.fAd K ("law", none)) fd) : FnOk P w K mg base (L2.CX P w) 12 (He.fAd K ("law", none)) fd ["_law_script"] (spK K (tabL K qs26) 14 fl_k26) := by
  refine fnK_mk (Nc := ["_law_house_here", "_law_offers_here", "_law_twice"]) (kl := 8) F sc_law (by decide) (code_of F) fun A outer s H E hr => ?_
  rw [bd_law]
  unfold fl_k26
  exact (st_law_0 h tb hr (st_law_1 h tb hr (st_law_2 h tb hr (st_law_3 h tb hr (st_law_4 h tb hr (st_law_5 h tb hr (st_law_6 h tb hr (st_law_7 h tb hr (st_law_8 h tb hr (st_law_9 h tb hr (st_law_10 h tb hr (st_law_11 h tb hr (st_law_12 h tb hr (st_law_13 h tb hr (st_law_14 h tb hr (st_law_15 h tb hr (st_law_16 h tb hr (st_law_17 h tb hr (st_law_18 h tb hr (st_law_19 h tb hr (st_law_20 h tb hr (st_law_21 h tb hr (st_law_22 h tb hr (st_law_23 h tb hr (st_law_24 h tb hr (st_law_25 h tb hr (st_law_26 h tb hr (st_law_27 h tb hr (st_law_28 h tb hr)))))))))))))))))))))))))))))
set_option maxHeartbeats 0
def d_is_int : He.DefD := ⟨("is_int", none), "is_int", "is_int", defArgs s_is_int, defBody s_is_int, defScope s_is_int, [], []⟩
def d_is_bidder : He.DefD := ⟨("is_bidder", none), "is_bidder", "is_bidder", defArgs s_is_bidder, defBody s_is_bidder, defScope s_is_bidder, [], []⟩
def d_step_up : He.DefD := ⟨("step_up", none), "step_up", "step_up", defArgs s_step_up, defBody s_step_up, defScope s_step_up, [], []⟩
def d_with_reserve : He.DefD := ⟨("with_reserve", none), "with_reserve", "with_reserve", defArgs s_with_reserve, defBody s_with_reserve, defScope s_with_reserve, [], []⟩
def d_find_winner : He.DefD := ⟨("find_winner", none), "find_winner", "find_winner", defArgs s_find_winner, defBody s_find_winner, defScope s_find_winner, [], []⟩
def d_least_one : He.DefD := ⟨("least_one", none), "least_one", "least_one", defArgs s_least_one, defBody s_least_one, defScope s_least_one, [], []⟩
def d_have_single : He.DefD := ⟨("have_single", none), "have_single", "have_single", defArgs s_have_single, defBody s_have_single, defScope s_have_single, [], []⟩
def d_all_orders : He.DefD := ⟨("all_orders", none), "all_orders", "all_orders", defArgs s_all_orders, defBody s_all_orders, defScope s_all_orders, [], []⟩
def d_law_pick : He.DefD := ⟨("_law_pick", none), "_law_pick", "_law_pick", defArgs s_law_pick, defBody s_law_pick, defScope s_law_pick, [], []⟩
def d_is_step : He.DefD := ⟨("is_step", none), "is_step", "is_step", defArgs s_is_step, defBody s_is_step, defScope s_is_step, [], []⟩
def d_is_bid : He.DefD := ⟨("is_bid", none), "is_bid", "is_bid", defArgs s_is_bid, defBody s_is_bid, defScope s_is_bid, [], []⟩
def d_check_price : He.DefD := ⟨("check_price", none), "check_price", "check_price", defArgs s_check_price, defBody s_check_price, defScope s_check_price, [], []⟩
def d_is_refused : He.DefD := ⟨("is_refused", none), "is_refused", "is_refused", defArgs s_is_refused, defBody s_is_refused, defScope s_is_refused, [], []⟩
def d_law_house : He.DefD := ⟨("_law_house", none), "_law_house", "_law_house", defArgs s_law_house, defBody s_law_house, defScope s_law_house, [], []⟩
def d_law_offers : He.DefD := ⟨("_law_offers", none), "_law_offers", "_law_offers", defArgs s_law_offers, defBody s_law_offers, defScope s_law_offers, [], []⟩
def d_are_steps : He.DefD := ⟨("are_steps", none), "are_steps", "are_steps", defArgs s_are_steps, defBody s_are_steps, defScope s_are_steps, [], []⟩
def d_are_bids : He.DefD := ⟨("are_bids", none), "are_bids", "are_bids", defArgs s_are_bids, defBody s_are_bids, defScope s_are_bids, [], []⟩
def d_advance : He.DefD := ⟨("advance", none), "advance", "advance", defArgs s_advance, defBody s_advance, defScope s_advance, [], []⟩
def d_is_sale : He.DefD := ⟨("is_sale", none), "is_sale", "is_sale", defArgs s_is_sale, defBody s_is_sale, defScope s_is_sale, [], []⟩
def d_find_states : He.DefD := ⟨("find_states", none), "find_states", "find_states", defArgs s_find_states, defBody s_find_states, defScope s_find_states, [], []⟩
def d_are_single : He.DefD := ⟨("are_single", none), "are_single", "are_single", defArgs s_are_single, defBody s_are_single, defScope s_are_single, [], []⟩
def d_check_sale : He.DefD := ⟨("check_sale", none), "check_sale", "check_sale", defArgs s_check_sale, defBody s_check_sale, defScope s_check_sale, [], []⟩
def d_find_result : He.DefD := ⟨("find_result", none), "find_result", "find_result", defArgs s_find_result, defBody s_find_result, defScope s_find_result, [], []⟩
def d_find_refused : He.DefD := ⟨("find_refused", none), "find_refused", "find_refused", defArgs s_find_refused, defBody s_find_refused, defScope s_find_refused, [], []⟩
def d_check_bids : He.DefD := ⟨("check_bids", none), "check_bids", "check_bids", defArgs s_check_bids, defBody s_check_bids, defScope s_check_bids, [], []⟩
def d_next_price : He.DefD := ⟨("next_price", none), "next_price", "next_price", defArgs s_next_price, defBody s_next_price, defScope s_next_price, [], []⟩
def d_climb : He.DefD := ⟨("climb", none), "climb", "climb", defArgs s_climb, defBody s_climb, defScope s_climb, [], []⟩
def d_result_without : He.DefD := ⟨("result_without", none), "result_without", "result_without", defArgs s_result_without, defBody s_result_without, defScope s_result_without, [], []⟩
def d_seen : He.DefD := ⟨("seen", none), "seen", "seen", defArgs s_seen, defBody s_seen, defScope s_seen, [], []⟩
def d_last_bid : He.DefD := ⟨("last_bid", none), "last_bid", "last_bid", defArgs s_last_bid, defBody s_last_bid, defScope s_last_bid, [], []⟩
def d_result : He.DefD := ⟨("result", none), "result", "result", defArgs s_result, defBody s_result, defScope s_result, [], []⟩
def d_states : He.DefD := ⟨("states", none), "states", "states", defArgs s_states, defBody s_states, defScope s_states, [], []⟩
def d_refused : He.DefD := ⟨("refused", none), "refused", "refused", defArgs s_refused, defBody s_refused, defScope s_refused, [], []⟩
def d_winner : He.DefD := ⟨("winner", none), "winner", "winner", defArgs s_winner, defBody s_winner, defScope s_winner, [], []⟩
def d_leads : He.DefD := ⟨("leads", none), "leads", "leads", defArgs s_leads, defBody s_leads, defScope s_leads, [], []⟩
def d_without_bid : He.DefD := ⟨("without_bid", none), "without_bid", "without_bid", defArgs s_without_bid, defBody s_without_bid, defScope s_without_bid, [], []⟩
def d_raisers : He.DefD := ⟨("raisers", none), "raisers", "raisers", defArgs s_raisers, defBody s_raisers, defScope s_raisers, [], []⟩
def d_needless : He.DefD := ⟨("needless", none), "needless", "needless", defArgs s_needless, defBody s_needless, defScope s_needless, [], []⟩
def d_deciding : He.DefD := ⟨("deciding", none), "deciding", "deciding", defArgs s_deciding, defBody s_deciding, defScope s_deciding, [], []⟩
def d_check_bidder : He.DefD := ⟨("check_bidder", none), "check_bidder", "check_bidder", defArgs s_check_bidder, defBody s_check_bidder, defScope s_check_bidder, [], []⟩
def d_price_with : He.DefD := ⟨("price_with", none), "price_with", "price_with", defArgs s_price_with, defBody s_price_with, defScope s_price_with, [], []⟩
def d_greatest_price : He.DefD := ⟨("greatest_price", none), "greatest_price", "greatest_price", defArgs s_greatest_price, defBody s_greatest_price, defScope s_greatest_price, [], []⟩
def d_find_known : He.DefD := ⟨("find_known", none), "find_known", "find_known", defArgs s_find_known, defBody s_find_known, defScope s_find_known, [], []⟩
def d_still_to_pay : He.DefD := ⟨("still_to_pay", none), "still_to_pay", "still_to_pay", defArgs s_still_to_pay, defBody s_still_to_pay, defScope s_still_to_pay, [], []⟩
def d_all_ends : He.DefD := ⟨("all_ends", none), "all_ends", "all_ends", defArgs s_all_ends, defBody s_all_ends, defScope s_all_ends, [], []⟩
def d_least_accepted : He.DefD := ⟨("least_accepted", none), "least_accepted", "least_accepted", defArgs s_least_accepted, defBody s_least_accepted, defScope s_least_accepted, [], []⟩
def d_least_leading : He.DefD := ⟨("least_leading", none), "least_leading", "least_leading", defArgs s_least_leading, defBody s_least_leading, defScope s_least_leading, [], []⟩
def d_known_amount : He.DefD := ⟨("known_amount", none), "known_amount", "known_amount", defArgs s_known_amount, defBody s_known_amount, defScope s_known_amount, [], []⟩
def d_is_known : He.DefD := ⟨("is_known", none), "is_known", "is_known", defArgs s_is_known, defBody s_is_known, defScope s_is_known, [], []⟩
def d_possible_winners : He.DefD := ⟨("possible_winners", none), "possible_winners", "possible_winners", defArgs s_possible_winners, defBody s_possible_winners, defScope s_possible_winners, [], []⟩
def d_possible_prices : He.DefD := ⟨("possible_prices", none), "possible_prices", "possible_prices", defArgs s_possible_prices, defBody s_possible_prices, defScope s_possible_prices, [], []⟩
def d_does_order_matter : He.DefD := ⟨("does_order_matter", none), "does_order_matter", "does_order_matter", defArgs s_does_order_matter, defBody s_does_order_matter, defScope s_does_order_matter, [], []⟩
def d_dearest_order : He.DefD := ⟨("dearest_order", none), "dearest_order", "dearest_order", defArgs s_dearest_order, defBody s_dearest_order, defScope s_dearest_order, [], []⟩
def d_cheapest_order : He.DefD := ⟨("cheapest_order", none), "cheapest_order", "cheapest_order", defArgs s_cheapest_order, defBody s_cheapest_order, defScope s_cheapest_order, [], []⟩
def d_law_class : He.DefD := ⟨("_law_class", none), "_law_class", "_law_class", defArgs s_law_class, defBody s_law_class, defScope s_law_class, [], []⟩
def d_law_result : He.DefD := ⟨("_law_result", none), "_law_result", "_law_result", defArgs s_law_result, defBody s_law_result, defScope s_law_result, [], []⟩
def d_law_all : He.DefD := ⟨("_law_all", none), "_law_all", "_law_all", defArgs s_law_all, defBody s_law_all, defScope s_law_all, [], []⟩
def d_law_sales : He.DefD := ⟨("_law_sales", none), "_law_sales", "_law_sales", defArgs s_law_sales, defBody s_law_sales, defScope s_law_sales, [], []⟩
def d_law_bids : He.DefD := ⟨("_law_bids", none), "_law_bids", "_law_bids", defArgs s_law_bids, defBody s_law_bids, defScope s_law_bids, [], []⟩
def d_law : He.DefD := ⟨("law", none), "law", "law", defArgs s_law, defBody s_law, defScope s_law, [], []⟩
def fns : List He.DefD := [d_is_int, d_is_bidder, d_step_up, d_with_reserve, d_find_winner, d_least_one, d_have_single, d_all_orders, d_law_pick, d_is_step, d_is_bid, d_check_price, d_is_refused, d_law_house, d_law_offers, d_are_steps, d_are_bids, d_advance, d_is_sale, d_find_states, d_are_single, d_check_sale, d_find_result, d_find_refused, d_check_bids, d_next_price, d_climb, d_result_without, d_seen, d_last_bid, d_result, d_states, d_refused, d_winner, d_leads, d_without_bid, d_raisers, d_needless, d_deciding, d_check_bidder, d_price_with, d_greatest_price, d_find_known, d_still_to_pay, d_all_ends, d_least_accepted, d_least_leading, d_known_amount, d_is_known, d_possible_winners, d_possible_prices, d_does_order_matter, d_dearest_order, d_cheapest_order, d_law_class, d_law_result, d_law_all, d_law_sales, d_law_bids, d_law]
def fas : List He.Fa := [.free "ValueError", .free "all", .free "bool", .free "enumerate", .free "int", .free "isinstance", .free "len", .free "list", .free "max", .free "min", .free "range", .free "set", .free "sorted", .free "str", .free "tuple", .free "zip", .glo "InvalidBid", .exc "InvalidBid", .glo "InvalidBidder", .exc "InvalidBidder", .glo "InvalidBids", .exc "InvalidBids", .glo "InvalidIndex", .exc "InvalidIndex", .glo "InvalidPrice", .exc "InvalidPrice", .glo "InvalidSale", .exc "InvalidSale", .glo "Repeated", .exc "Repeated", .str "LETTERS" "abcdef", .int "MAX_AMOUNT" 200, .int "MAX_BIDS" 8, .int "MAX_START" 100, .int "MAX_STEP" 50, .int "MAX_STEPS" 4, .glo "NOBODY", .glo "BidError", .glo "is_int", .glo "is_bidder", .glo "step_up", .glo "with_reserve", .glo "find_winner", .glo "least_one", .glo "have_single", .glo "all_orders", .glo "_law_pick", .glo "is_step", .glo "is_bid", .glo "check_price", .glo "is_refused", .glo "_law_house", .glo "_law_offers", .glo "are_steps", .glo "are_bids", .glo "advance", .glo "is_sale", .glo "find_states", .glo "are_single", .glo "check_sale", .glo "find_result", .glo "find_refused", .glo "check_bids", .glo "next_price", .glo "climb", .glo "result_without", .glo "seen", .glo "last_bid", .glo "result", .glo "states", .glo "refused", .glo "winner", .glo "leads", .glo "without_bid", .glo "raisers", .glo "needless", .glo "deciding", .glo "check_bidder", .glo "price_with", .glo "greatest_price", .glo "find_known", .glo "still_to_pay", .glo "all_ends", .glo "least_accepted", .glo "least_leading", .glo "known_amount", .glo "is_known", .glo "possible_winners", .glo "possible_prices", .glo "does_order_matter", .glo "dearest_order", .glo "cheapest_order", .glo "_law_class", .glo "_law_result", .glo "_law_all", .glo "_law_sales", .glo "_law_bids", .glo "law"]
def exs (K : PySem.W.Frag) : Bool := He.tupB K "NOBODY" [.str "", .int 0, .int 0] && exsB K (PySem.Str.ofString "BidError") [(PySem.Str.ofString "InvalidSale"), (PySem.Str.ofString "InvalidPrice"), (PySem.Str.ofString "InvalidBids"), (PySem.Str.ofString "Repeated"), (PySem.Str.ofString "InvalidBidder"), (PySem.Str.ofString "InvalidBid"), (PySem.Str.ofString "InvalidIndex")] && ((["InvalidSale", "InvalidPrice", "InvalidBids", "Repeated", "InvalidBidder", "InvalidBid", "InvalidIndex"] : List Str).all fun c => PySem.W.kitOne K (.ref (He.ga K c)) (.type "ValueError") == some true) && distB K qs26
theorem ex_part0 {K : PySem.W.Frag} (h : exs K = true) : He.tupB K "NOBODY" [.str "", .int 0, .int 0] = true := by
  unfold exs at h
  simp only [Bool.and_eq_true] at h
  simp only [h]
theorem ex_part1 {K : PySem.W.Frag} (h : exs K = true) : exsB K (PySem.Str.ofString "BidError") [(PySem.Str.ofString "InvalidSale"), (PySem.Str.ofString "InvalidPrice"), (PySem.Str.ofString "InvalidBids"), (PySem.Str.ofString "Repeated"), (PySem.Str.ofString "InvalidBidder"), (PySem.Str.ofString "InvalidBid"), (PySem.Str.ofString "InvalidIndex")] = true := by
  unfold exs at h
  simp only [Bool.and_eq_true] at h
  simp only [h]
theorem ex_part2 {K : PySem.W.Frag} (h : exs K = true) : ((["InvalidSale", "InvalidPrice", "InvalidBids", "Repeated", "InvalidBidder", "InvalidBid", "InvalidIndex"] : List Str).all fun c => PySem.W.kitOne K (.ref (He.ga K c)) (.type "ValueError") == some true) = true := by
  unfold exs at h
  simp only [Bool.and_eq_true] at h
  simp only [h]
theorem ex_part3 {K : PySem.W.Frag} (h : exs K = true) : distB K qs26 = true := by
  unfold exs at h
  simp only [Bool.and_eq_true] at h
  simp only [h]
abbrev RR : PySem.W.OpenRow := PySem.W.OpenLaw.row PySem.Challenge.rw_proxybids_k26_errors
abbrev hk : PySem.W.Hook := He.hookX 4 fas fns [] tf26 exs
def ob (s : PySem.W.SharedT) : He.AlX := He.obsX 4 fas fns [] tf26 exs (HandSHeadRun.getT s)
theorem ob_eq (s : PySem.W.SharedT) : ob s = hk.obs s.abs := He.obsX_eq (HandSHeadRun.getT_eq s)
def loose : List PySem.Str := (["BidError", "InvalidSale", "InvalidPrice", "InvalidBids", "Repeated", "InvalidBidder", "InvalidBid", "InvalidIndex", "MAX_STEPS", "MAX_AMOUNT", "MAX_STEP", "MAX_START", "MAX_BIDS", "LETTERS", "is_int", "is_step", "are_steps", "is_sale", "is_bidder", "is_bid", "are_bids", "check_sale", "check_bids", "check_price", "step_up", "next_price", "climb", "NOBODY", "with_reserve", "is_refused"] : List PySem.Str) ++ (["advance", "find_states", "find_result", "result", "states", "find_refused", "refused", "find_winner", "winner", "leads", "result_without", "without_bid", "raisers", "needless", "deciding", "check_bidder", "least_one", "least_accepted", "least_leading", "price_with", "greatest_price", "seen", "last_bid", "find_known", "known_amount", "is_known", "still_to_pay", "have_single", "are_single", "all_orders"] : List PySem.Str) ++ (["all_ends", "possible_winners", "possible_prices", "does_order_matter", "dearest_order", "cheapest_order", "_law_pick", "_law_house", "_law_offers", "_law_class", "_law_result", "_law_all", "_law_sales", "_law_bids"] : List PySem.Str)
theorem run_eq (w : World) : HandSHeadRun.RunEq RR (PySem.W.view RR.prog [82]) hk ob 100000 loose w := by
  intro os
  kernel_rfl
theorem fx_of {w : World} {K : PySem.W.Frag} {h : Heap} {mg : Str → Option Value} (X : K.In h) (G : h.Ns mainGlobals mg) (c : He.SaysX fas fns [] tf26 exs w h K) : Fx K mg :=
  { z_ValueError := He.free_ok X G (c.t.d.fact 0 (f := .free "ValueError") rfl)
    z_all := He.free_ok X G (c.t.d.fact 1 (f := .free "all") rfl)
    z_bool := He.free_ok X G (c.t.d.fact 2 (f := .free "bool") rfl)
    z_enumerate := He.free_ok X G (c.t.d.fact 3 (f := .free "enumerate") rfl)
    z_int := He.free_ok X G (c.t.d.fact 4 (f := .free "int") rfl)
    z_isinstance := He.free_ok X G (c.t.d.fact 5 (f := .free "isinstance") rfl)
    z_len := He.free_ok X G (c.t.d.fact 6 (f := .free "len") rfl)
    z_list := He.free_ok X G (c.t.d.fact 7 (f := .free "list") rfl)
    z_max := He.free_ok X G (c.t.d.fact 8 (f := .free "max") rfl)
    z_min := He.free_ok X G (c.t.d.fact 9 (f := .free "min") rfl)
    z_range := He.free_ok X G (c.t.d.fact 10 (f := .free "range") rfl)
    z_set := He.free_ok X G (c.t.d.fact 11 (f := .free "set") rfl)
    z_sorted := He.free_ok X G (c.t.d.fact 12 (f := .free "sorted") rfl)
    z_str := He.free_ok X G (c.t.d.fact 13 (f := .free "str") rfl)
    z_tuple := He.free_ok X G (c.t.d.fact 14 (f := .free "tuple") rfl)
    z_zip := He.free_ok X G (c.t.d.fact 15 (f := .free "zip") rfl)
    e_InvalidBid := ⟨_, He.glo_ok X G (c.t.d.fact 16 (f := .glo "InvalidBid") rfl), He.exc_ok (c.t.d.fact 17 (f := .exc "InvalidBid") rfl)⟩
    e_InvalidBidder := ⟨_, He.glo_ok X G (c.t.d.fact 18 (f := .glo "InvalidBidder") rfl), He.exc_ok (c.t.d.fact 19 (f := .exc "InvalidBidder") rfl)⟩
    e_InvalidBids := ⟨_, He.glo_ok X G (c.t.d.fact 20 (f := .glo "InvalidBids") rfl), He.exc_ok (c.t.d.fact 21 (f := .exc "InvalidBids") rfl)⟩
    e_InvalidIndex := ⟨_, He.glo_ok X G (c.t.d.fact 22 (f := .glo "InvalidIndex") rfl), He.exc_ok (c.t.d.fact 23 (f := .exc "InvalidIndex") rfl)⟩
    e_InvalidPrice := ⟨_, He.glo_ok X G (c.t.d.fact 24 (f := .glo "InvalidPrice") rfl), He.exc_ok (c.t.d.fact 25 (f := .exc "InvalidPrice") rfl)⟩
    e_InvalidSale := ⟨_, He.glo_ok X G (c.t.d.fact 26 (f := .glo "InvalidSale") rfl), He.exc_ok (c.t.d.fact 27 (f := .exc "InvalidSale") rfl)⟩
    e_Repeated := ⟨_, He.glo_ok X G (c.t.d.fact 28 (f := .glo "Repeated") rfl), He.exc_ok (c.t.d.fact 29 (f := .exc "Repeated") rfl)⟩
    g_LETTERS := by
      obtain ⟨t, e⟩ := He.str_ok X G (c.t.d.fact 30 (f := .str "LETTERS" "abcdef") rfl)
      exact ⟨_, .str "abcdef", e, ⟨_, rfl⟩, fun _ => .str _⟩
    g_MAX_AMOUNT := by
      obtain ⟨t, e⟩ := He.int_ok X G (c.t.d.fact 31 (f := .int "MAX_AMOUNT" 200) rfl)
      exact ⟨_, .int 200, e, ⟨_, rfl⟩, fun _ => .int _⟩
    g_MAX_BIDS := by
      obtain ⟨t, e⟩ := He.int_ok X G (c.t.d.fact 32 (f := .int "MAX_BIDS" 8) rfl)
      exact ⟨_, .int 8, e, ⟨_, rfl⟩, fun _ => .int _⟩
    g_MAX_START := by
      obtain ⟨t, e⟩ := He.int_ok X G (c.t.d.fact 33 (f := .int "MAX_START" 100) rfl)
      exact ⟨_, .int 100, e, ⟨_, rfl⟩, fun _ => .int _⟩
    g_MAX_STEP := by
      obtain ⟨t, e⟩ := He.int_ok X G (c.t.d.fact 34 (f := .int "MAX_STEP" 50) rfl)
      exact ⟨_, .int 50, e, ⟨_, rfl⟩, fun _ => .int _⟩
    g_MAX_STEPS := by
      obtain ⟨t, e⟩ := He.int_ok X G (c.t.d.fact 35 (f := .int "MAX_STEPS" 4) rfl)
      exact ⟨_, .int 4, e, ⟨_, rfl⟩, fun _ => .int _⟩
    g_NOBODY := ⟨_, .ref (He.ga K "NOBODY"), He.glo_ok X G (c.t.d.fact 36 (f := .glo "NOBODY") rfl), rfl, fun _ => .tup (He.tupB_ok (vs := [.str "", .int 0, .int 0]) (ex_part0 c.more) _) (.cons (.str _) (.cons (.int _) (.cons (.int _) .nil)))⟩
    xv := exsV_of (exs_of (He.glo_ok X G (c.t.d.fact 37 (f := .glo "BidError") rfl)) (all_cons (He.glo_ok X G (c.t.d.fact 26 (f := .glo "InvalidSale") rfl)) (all_cons (He.glo_ok X G (c.t.d.fact 24 (f := .glo "InvalidPrice") rfl)) (all_cons (He.glo_ok X G (c.t.d.fact 20 (f := .glo "InvalidBids") rfl)) (all_cons (He.glo_ok X G (c.t.d.fact 28 (f := .glo "Repeated") rfl)) (all_cons (He.glo_ok X G (c.t.d.fact 18 (f := .glo "InvalidBidder") rfl)) (all_cons (He.glo_ok X G (c.t.d.fact 16 (f := .glo "InvalidBid") rfl)) (all_cons (He.glo_ok X G (c.t.d.fact 22 (f := .glo "InvalidIndex") rfl)) all_nil))))))) (ex_part1 c.more)) (all_cons (He.glo_ok X G (c.t.d.fact 26 (f := .glo "InvalidSale") rfl)) (all_cons (He.glo_ok X G (c.t.d.fact 24 (f := .glo "InvalidPrice") rfl)) (all_cons (He.glo_ok X G (c.t.d.fact 20 (f := .glo "InvalidBids") rfl)) (all_cons (He.glo_ok X G (c.t.d.fact 28 (f := .glo "Repeated") rfl)) (all_cons (He.glo_ok X G (c.t.d.fact 18 (f := .glo "InvalidBidder") rfl)) (all_cons (He.glo_ok X G (c.t.d.fact 16 (f := .glo "InvalidBid") rfl)) (all_cons (He.glo_ok X G (c.t.d.fact 22 (f := .glo "InvalidIndex") rfl)) all_nil))))))) (ex_part2 c.more)
    dist := ex_part3 c.more
    f_is_int := by
      obtain ⟨fd, F⟩ := c.t.d.def_ 0 (d := d_is_int) rfl
      exact ⟨_, fd, F, He.glo_ok X G (c.t.d.fact 38 (f := .glo "is_int") rfl)⟩
    f_is_bidder := by
      obtain ⟨fd, F⟩ := c.t.d.def_ 1 (d := d_is_bidder) rfl
      exact ⟨_, fd, F, He.glo_ok X G (c.t.d.fact 39 (f := .glo "is_bidder") rfl)⟩
    f_step_up := by
      obtain ⟨fd, F⟩ := c.t.d.def_ 2 (d := d_step_up) rfl
      exact ⟨_, fd, F, He.glo_ok X G (c.t.d.fact 40 (f := .glo "step_up") rfl)⟩
    f_with_reserve := by
      obtain ⟨fd, F⟩ := c.t.d.def_ 3 (d := d_with_reserve) rfl
      exact ⟨_, fd, F, He.glo_ok X G (c.t.d.fact 41 (f := .glo "with_reserve") rfl)⟩
    f_find_winner := by
      obtain ⟨fd, F⟩ := c.t.d.def_ 4 (d := d_find_winner) rfl
      exact ⟨_, fd, F, He.glo_ok X G (c.t.d.fact 42 (f := .glo "find_winner") rfl)⟩
    f_least_one := by
      obtain ⟨fd, F⟩ := c.t.d.def_ 5 (d := d_least_one) rfl
      exact ⟨_, fd, F, He.glo_ok X G (c.t.d.fact 43 (f := .glo "least_one") rfl)⟩
    f_have_single := by
      obtain ⟨fd, F⟩ := c.t.d.def_ 6 (d := d_have_single) rfl
      exact ⟨_, fd, F, He.glo_ok X G (c.t.d.fact 44 (f := .glo "have_single") rfl)⟩
    f_all_orders := by
      obtain ⟨fd, F⟩ := c.t.d.def_ 7 (d := d_all_orders) rfl
      exact ⟨_, fd, F, He.glo_ok X G (c.t.d.fact 45 (f := .glo "all_orders") rfl)⟩
    f_law_pick := by
      obtain ⟨fd, F⟩ := c.t.d.def_ 8 (d := d_law_pick) rfl
      exact ⟨_, fd, F, He.glo_ok X G (c.t.d.fact 46 (f := .glo "_law_pick") rfl)⟩
    f_is_step := by
      obtain ⟨fd, F⟩ := c.t.d.def_ 9 (d := d_is_step) rfl
      exact ⟨_, fd, F, He.glo_ok X G (c.t.d.fact 47 (f := .glo "is_step") rfl)⟩
    f_is_bid := by
      obtain ⟨fd, F⟩ := c.t.d.def_ 10 (d := d_is_bid) rfl
      exact ⟨_, fd, F, He.glo_ok X G (c.t.d.fact 48 (f := .glo "is_bid") rfl)⟩
    f_check_price := by
      obtain ⟨fd, F⟩ := c.t.d.def_ 11 (d := d_check_price) rfl
      exact ⟨_, fd, F, He.glo_ok X G (c.t.d.fact 49 (f := .glo "check_price") rfl)⟩
    f_is_refused := by
      obtain ⟨fd, F⟩ := c.t.d.def_ 12 (d := d_is_refused) rfl
      exact ⟨_, fd, F, He.glo_ok X G (c.t.d.fact 50 (f := .glo "is_refused") rfl)⟩
    f_law_house := by
      obtain ⟨fd, F⟩ := c.t.d.def_ 13 (d := d_law_house) rfl
      exact ⟨_, fd, F, He.glo_ok X G (c.t.d.fact 51 (f := .glo "_law_house") rfl)⟩
    f_law_offers := by
      obtain ⟨fd, F⟩ := c.t.d.def_ 14 (d := d_law_offers) rfl
      exact ⟨_, fd, F, He.glo_ok X G (c.t.d.fact 52 (f := .glo "_law_offers") rfl)⟩
    f_are_steps := by
      obtain ⟨fd, F⟩ := c.t.d.def_ 15 (d := d_are_steps) rfl
      exact ⟨_, fd, F, He.glo_ok X G (c.t.d.fact 53 (f := .glo "are_steps") rfl)⟩
    f_are_bids := by
      obtain ⟨fd, F⟩ := c.t.d.def_ 16 (d := d_are_bids) rfl
      exact ⟨_, fd, F, He.glo_ok X G (c.t.d.fact 54 (f := .glo "are_bids") rfl)⟩
    f_advance := by
      obtain ⟨fd, F⟩ := c.t.d.def_ 17 (d := d_advance) rfl
      exact ⟨_, fd, F, He.glo_ok X G (c.t.d.fact 55 (f := .glo "advance") rfl)⟩
    f_is_sale := by
      obtain ⟨fd, F⟩ := c.t.d.def_ 18 (d := d_is_sale) rfl
      exact ⟨_, fd, F, He.glo_ok X G (c.t.d.fact 56 (f := .glo "is_sale") rfl)⟩
    f_find_states := by
      obtain ⟨fd, F⟩ := c.t.d.def_ 19 (d := d_find_states) rfl
      exact ⟨_, fd, F, He.glo_ok X G (c.t.d.fact 57 (f := .glo "find_states") rfl)⟩
    f_are_single := by
      obtain ⟨fd, F⟩ := c.t.d.def_ 20 (d := d_are_single) rfl
      exact ⟨_, fd, F, He.glo_ok X G (c.t.d.fact 58 (f := .glo "are_single") rfl)⟩
    f_check_sale := by
      obtain ⟨fd, F⟩ := c.t.d.def_ 21 (d := d_check_sale) rfl
      exact ⟨_, fd, F, He.glo_ok X G (c.t.d.fact 59 (f := .glo "check_sale") rfl)⟩
    f_find_result := by
      obtain ⟨fd, F⟩ := c.t.d.def_ 22 (d := d_find_result) rfl
      exact ⟨_, fd, F, He.glo_ok X G (c.t.d.fact 60 (f := .glo "find_result") rfl)⟩
    f_find_refused := by
      obtain ⟨fd, F⟩ := c.t.d.def_ 23 (d := d_find_refused) rfl
      exact ⟨_, fd, F, He.glo_ok X G (c.t.d.fact 61 (f := .glo "find_refused") rfl)⟩
    f_check_bids := by
      obtain ⟨fd, F⟩ := c.t.d.def_ 24 (d := d_check_bids) rfl
      exact ⟨_, fd, F, He.glo_ok X G (c.t.d.fact 62 (f := .glo "check_bids") rfl)⟩
    f_next_price := by
      obtain ⟨fd, F⟩ := c.t.d.def_ 25 (d := d_next_price) rfl
      exact ⟨_, fd, F, He.glo_ok X G (c.t.d.fact 63 (f := .glo "next_price") rfl)⟩
    f_climb := by
      obtain ⟨fd, F⟩ := c.t.d.def_ 26 (d := d_climb) rfl
      exact ⟨_, fd, F, He.glo_ok X G (c.t.d.fact 64 (f := .glo "climb") rfl)⟩
    f_result_without := by
      obtain ⟨fd, F⟩ := c.t.d.def_ 27 (d := d_result_without) rfl
      exact ⟨_, fd, F, He.glo_ok X G (c.t.d.fact 65 (f := .glo "result_without") rfl)⟩
    f_seen := by
      obtain ⟨fd, F⟩ := c.t.d.def_ 28 (d := d_seen) rfl
      exact ⟨_, fd, F, He.glo_ok X G (c.t.d.fact 66 (f := .glo "seen") rfl)⟩
    f_last_bid := by
      obtain ⟨fd, F⟩ := c.t.d.def_ 29 (d := d_last_bid) rfl
      exact ⟨_, fd, F, He.glo_ok X G (c.t.d.fact 67 (f := .glo "last_bid") rfl)⟩
    f_result := by
      obtain ⟨fd, F⟩ := c.t.d.def_ 30 (d := d_result) rfl
      exact ⟨_, fd, F, He.glo_ok X G (c.t.d.fact 68 (f := .glo "result") rfl)⟩
    f_states := by
      obtain ⟨fd, F⟩ := c.t.d.def_ 31 (d := d_states) rfl
      exact ⟨_, fd, F, He.glo_ok X G (c.t.d.fact 69 (f := .glo "states") rfl)⟩
    f_refused := by
      obtain ⟨fd, F⟩ := c.t.d.def_ 32 (d := d_refused) rfl
      exact ⟨_, fd, F, He.glo_ok X G (c.t.d.fact 70 (f := .glo "refused") rfl)⟩
    f_winner := by
      obtain ⟨fd, F⟩ := c.t.d.def_ 33 (d := d_winner) rfl
      exact ⟨_, fd, F, He.glo_ok X G (c.t.d.fact 71 (f := .glo "winner") rfl)⟩
    f_leads := by
      obtain ⟨fd, F⟩ := c.t.d.def_ 34 (d := d_leads) rfl
      exact ⟨_, fd, F, He.glo_ok X G (c.t.d.fact 72 (f := .glo "leads") rfl)⟩
    f_without_bid := by
      obtain ⟨fd, F⟩ := c.t.d.def_ 35 (d := d_without_bid) rfl
      exact ⟨_, fd, F, He.glo_ok X G (c.t.d.fact 73 (f := .glo "without_bid") rfl)⟩
    f_raisers := by
      obtain ⟨fd, F⟩ := c.t.d.def_ 36 (d := d_raisers) rfl
      exact ⟨_, fd, F, He.glo_ok X G (c.t.d.fact 74 (f := .glo "raisers") rfl)⟩
    f_needless := by
      obtain ⟨fd, F⟩ := c.t.d.def_ 37 (d := d_needless) rfl
      exact ⟨_, fd, F, He.glo_ok X G (c.t.d.fact 75 (f := .glo "needless") rfl)⟩
    f_deciding := by
      obtain ⟨fd, F⟩ := c.t.d.def_ 38 (d := d_deciding) rfl
      exact ⟨_, fd, F, He.glo_ok X G (c.t.d.fact 76 (f := .glo "deciding") rfl)⟩
    f_check_bidder := by
      obtain ⟨fd, F⟩ := c.t.d.def_ 39 (d := d_check_bidder) rfl
      exact ⟨_, fd, F, He.glo_ok X G (c.t.d.fact 77 (f := .glo "check_bidder") rfl)⟩
    f_price_with := by
      obtain ⟨fd, F⟩ := c.t.d.def_ 40 (d := d_price_with) rfl
      exact ⟨_, fd, F, He.glo_ok X G (c.t.d.fact 78 (f := .glo "price_with") rfl)⟩
    f_greatest_price := by
      obtain ⟨fd, F⟩ := c.t.d.def_ 41 (d := d_greatest_price) rfl
      exact ⟨_, fd, F, He.glo_ok X G (c.t.d.fact 79 (f := .glo "greatest_price") rfl)⟩
    f_find_known := by
      obtain ⟨fd, F⟩ := c.t.d.def_ 42 (d := d_find_known) rfl
      exact ⟨_, fd, F, He.glo_ok X G (c.t.d.fact 80 (f := .glo "find_known") rfl)⟩
    f_still_to_pay := by
      obtain ⟨fd, F⟩ := c.t.d.def_ 43 (d := d_still_to_pay) rfl
      exact ⟨_, fd, F, He.glo_ok X G (c.t.d.fact 81 (f := .glo "still_to_pay") rfl)⟩
    f_all_ends := by
      obtain ⟨fd, F⟩ := c.t.d.def_ 44 (d := d_all_ends) rfl
      exact ⟨_, fd, F, He.glo_ok X G (c.t.d.fact 82 (f := .glo "all_ends") rfl)⟩
    f_least_accepted := by
      obtain ⟨fd, F⟩ := c.t.d.def_ 45 (d := d_least_accepted) rfl
      exact ⟨_, fd, F, He.glo_ok X G (c.t.d.fact 83 (f := .glo "least_accepted") rfl)⟩
    f_least_leading := by
      obtain ⟨fd, F⟩ := c.t.d.def_ 46 (d := d_least_leading) rfl
      exact ⟨_, fd, F, He.glo_ok X G (c.t.d.fact 84 (f := .glo "least_leading") rfl)⟩
    f_known_amount := by
      obtain ⟨fd, F⟩ := c.t.d.def_ 47 (d := d_known_amount) rfl
      exact ⟨_, fd, F, He.glo_ok X G (c.t.d.fact 85 (f := .glo "known_amount") rfl)⟩
    f_is_known := by
      obtain ⟨fd, F⟩ := c.t.d.def_ 48 (d := d_is_known) rfl
      exact ⟨_, fd, F, He.glo_ok X G (c.t.d.fact 86 (f := .glo "is_known") rfl)⟩
    f_possible_winners := by
      obtain ⟨fd, F⟩ := c.t.d.def_ 49 (d := d_possible_winners) rfl
      exact ⟨_, fd, F, He.glo_ok X G (c.t.d.fact 87 (f := .glo "possible_winners") rfl)⟩
    f_possible_prices := by
      obtain ⟨fd, F⟩ := c.t.d.def_ 50 (d := d_possible_prices) rfl
      exact ⟨_, fd, F, He.glo_ok X G (c.t.d.fact 88 (f := .glo "possible_prices") rfl)⟩
    f_does_order_matter := by
      obtain ⟨fd, F⟩ := c.t.d.def_ 51 (d := d_does_order_matter) rfl
      exact ⟨_, fd, F, He.glo_ok X G (c.t.d.fact 89 (f := .glo "does_order_matter") rfl)⟩
    f_dearest_order := by
      obtain ⟨fd, F⟩ := c.t.d.def_ 52 (d := d_dearest_order) rfl
      exact ⟨_, fd, F, He.glo_ok X G (c.t.d.fact 90 (f := .glo "dearest_order") rfl)⟩
    f_cheapest_order := by
      obtain ⟨fd, F⟩ := c.t.d.def_ 53 (d := d_cheapest_order) rfl
      exact ⟨_, fd, F, He.glo_ok X G (c.t.d.fact 91 (f := .glo "cheapest_order") rfl)⟩
    f_law_class := by
      obtain ⟨fd, F⟩ := c.t.d.def_ 54 (d := d_law_class) rfl
      exact ⟨_, fd, F, He.glo_ok X G (c.t.d.fact 92 (f := .glo "_law_class") rfl)⟩
    f_law_result := by
      obtain ⟨fd, F⟩ := c.t.d.def_ 55 (d := d_law_result) rfl
      exact ⟨_, fd, F, He.glo_ok X G (c.t.d.fact 93 (f := .glo "_law_result") rfl)⟩
    f_law_all := by
      obtain ⟨fd, F⟩ := c.t.d.def_ 56 (d := d_law_all) rfl
      exact ⟨_, fd, F, He.glo_ok X G (c.t.d.fact 94 (f := .glo "_law_all") rfl)⟩
    f_law_sales := by
      obtain ⟨fd, F⟩ := c.t.d.def_ 57 (d := d_law_sales) rfl
      exact ⟨_, fd, F, He.glo_ok X G (c.t.d.fact 95 (f := .glo "_law_sales") rfl)⟩
    c_law_sales := by
      obtain ⟨fd, F⟩ := c.t.d.def_ 57 (d := d_law_sales) rfl
      exact ⟨fd, F, He.glo_ok X G (c.t.d.fact 95 (f := .glo "_law_sales") rfl)⟩
    f_law_bids := by
      obtain ⟨fd, F⟩ := c.t.d.def_ 58 (d := d_law_bids) rfl
      exact ⟨_, fd, F, He.glo_ok X G (c.t.d.fact 96 (f := .glo "_law_bids") rfl)⟩
    c_law_bids := by
      obtain ⟨fd, F⟩ := c.t.d.def_ 58 (d := d_law_bids) rfl
      exact ⟨fd, F, He.glo_ok X G (c.t.d.fact 96 (f := .glo "_law_bids") rfl)⟩
    f_law := by
      obtain ⟨fd, F⟩ := c.t.d.def_ 59 (d := d_law) rfl
      exact ⟨_, fd, F, He.glo_ok X G (c.t.d.fact 97 (f := .glo "law") rfl)⟩
    c_law := by
      obtain ⟨fd, F⟩ := c.t.d.def_ 59 (d := d_law) rfl
      exact ⟨fd, F, He.glo_ok X G (c.t.d.fact 97 (f := .glo "law") rfl)⟩ }
theorem cxw_no {P : Program} : ∀ (w : World) (H : Hp) (s : Shared) (e : Value) (s' : Shared), L2.CX P w [] H s (fun _ _ _ => False) e s' → False := fun _ _ _ _ _ ⟨_, _, _, _, _, _, _, _, _, _, _, _, z⟩ => z
theorem tabs_empty {K : PySem.W.Frag} {h : Heap} (c : ∀ p ∈ tf26, h.get? (He.cT K p).2 = some { cls := .none, data := .fields #[] }) : ∀ p ∈ tf26.map (He.cT K), h.get? p.2 = some { cls := .none, data := .fields #[] } := fun p hp => by
  obtain ⟨y, hy, rfl⟩ := List.mem_map.mp hp
  exact c y hy
theorem tabs_out {K : PySem.W.Frag} (c : ∀ p ∈ tf26, K.lookup (He.cT K p).2 = none) : ∀ p ∈ tf26.map (He.cT K), K.lookup p.2 = none := fun p hp => by
  obtain ⟨y, hy, rfl⟩ := List.mem_map.mp hp
  exact c y hy
theorem tabs_hd {K : PySem.W.Frag} {h : Heap} (X : K.In h) (c : ∀ p ∈ tf26, PySem.W.codeHdIn K (He.cT K p).1 (He.cT K p).2 = true) : ∀ p ∈ tf26.map (He.cT K), PySem.W.CodeHd h p.1 p.2 := fun p hp => by
  obtain ⟨y, hy, rfl⟩ := List.mem_map.mp hp
  exact PySem.W.codeHd_of_K X (c y hy)
theorem qs_tf : ∀ z ∈ qs26, z.1 ∈ tf26 := by decide +kernel
theorem tabs_start {K : PySem.W.Frag} {H : Hp} (h : ∀ p ∈ tf26.map (He.cT K), H p.2 = some (.tbl #[])) : LamX.Tabs (tabL K qs26) H := tabL_start fun z hz => h _ (List.mem_map.mpr ⟨z.1, qs_tf z hz, rfl⟩)
theorem tabs_B {K : PySem.W.Frag} {base : Heap} {mg : Str → Option Value} (h : ∀ p ∈ tf26.map (He.cT K), LamX.TabB base mg p.1 p.2) : TabsB base K mg tf26 := fun p hp => h _ (List.mem_map.mpr ⟨p, hp, rfl⟩)
end PD

open PySem PySem.W PySem.Calls PyProof.Rows
theorem PySem.Challenge.cw_proxybids_k26_errors_holds : PySem.Challenge.rw_proxybids_k26_errors.Holds := by
  w_on; o_law
  refine HandSHeadRun.head_any (r := OpenLaw.row PySem.Challenge.rw_proxybids_k26_errors) (q := view (OpenLaw.row PySem.Challenge.rw_proxybids_k26_errors).prog [82]) (H := PD.hk) (ob := PD.ob) (M := 100000) (loose := PD.loose) (d := HandSHeadRun.topDef (OpenLaw.row PySem.Challenge.rw_proxybids_k26_errors).prog 82) (kwd := []) PD.ob_eq
    (by kernel_rfl) (fun s => by kernel_rfl) PD.run_eq (by kernel_rfl) (by kernel_rfl) (by kernel_rfl) (by rfl) (by first | assumption | decide +kernel) (by decide +kernel) ⟨rfl, rfl, rfl, rfl, rfl, by decide +kernel⟩ ?hw ?hc
  case hw => w_witness2
  case hc =>
    refine LamX.walk_ofTsE (l := PySem.Challenge.rw_proxybids_k26_errors) (n := 63) (k := 12) (x := "_law_script") (CX := fun w => L2.CX (PySem.Challenge.rw_proxybids_k26_errors).prog w) rfl (by decide) (by kernel_rfl) ⟨rfl, by decide, by decide⟩ ?F PD.cxw_no
    intro w mg fa h Y G hmg0
    obtain ⟨K, KX, c⟩ := Y
    have hmg : mg ("law" : PySem.Str) = some (.ref fa) := by
      have e : (HandSHeadRun.topDef (OpenLaw.row PySem.Challenge.rw_proxybids_k26_errors).prog 82).name = ("law" : PySem.Str) := by kernel_rfl
      rw [← e]
      exact hmg0
    have hx := PD.fx_of (w := w) KX G c
    obtain ⟨fd, F, hg⟩ := hx.c_law
    rw [hmg] at hg
    cases hg
    exact ⟨K, KX, fd, PD.tf26.map (He.cT K), _, PD.tabs_empty c.empty, PD.tabs_out c.out, PD.tabs_hd KX c.hd, fun s v => L2.FunD.bindsA (ps := ["_law_script"]) F (fun _ _ _ _ _ _ us hl => match us, hl with | [_], _ => rfl) s [v] rfl,
      fun H a ns hl _ hT hS => PD.sp_lawK H a ns (PD.tabs_start hT) hS (PD.law_true ns hl), fun base _ _ hB => PD.ok_law (P := (PySem.Challenge.rw_proxybids_k26_errors).prog) (w := w) (base := base) hx (PD.tabs_B hB) F⟩
