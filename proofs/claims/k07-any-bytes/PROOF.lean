import PyProof.Rows.All
import Wide.All
import OpenK.AllK
import Wide.FinOn
import PySem.Challenge.RW_plainglass_k07_whole_any_bytes
import HandS.Style
import HandS.Flow
import HandS.ForMost
import HandS.ForExc
import HandS.IsInst
import HandS.TupAny
import HandS.Walk
import HandS.More
import HandS.ExcIs
import HandS.TryMany
import HandS.WrittenGet
import HandS.ExcField
import HandS.Deep
import HandS.Strs
import HandS.TupSets
import HandS.SetKeys
import HandS.Dict
import HandS.ExcInit
import HandS.ExcValue
import HandS.Iter
import HandS.List
import HandS.Rev
import HandS.Text
import HandS.TupMul
set_option Elab.async false
set_option linter.all false
set_option maxRecDepth 100000
set_option maxHeartbeats 4000000

namespace DL
open PySem PySem.Spec PyProof.Rows L2
abbrev D := PyData
abbrev Sg := L2.St
abbrev Frg := PySem.W.Frag
/-! ### heaps -/
def Ex (H H' : Hp) : Prop := ∀ a o, H a = some o → H' a = some o
theorem Ex.refl (H : Hp) : Ex H H := fun _ _ h => h
theorem Ex.trans {H H1 H2 : Hp} (a : Ex H H1) (b : Ex H1 H2) : Ex H H2 := fun x o h => b x o (a x o h)
theorem Ex.new {H : Hp} {p : Addr} {o : HO} (h : H p = none) : Ex H (upd H p o) := fun a u e => by
  rw [upd_ne (ne_of_none e h)]; exact e
theorem Ex.mut {H H' : Hp} {p : Addr} {o : HO} (e : Ex H H') (h : H p = none) : Ex H (upd H' p o) := fun a u ha => by
  rw [upd_ne (ne_of_none ha h)]; exact e a u ha
theorem Ex.add {H H' : Hp} {p : Addr} {o : HO} (e : Ex H H') (h : H' p = some o) : Ex (upd H p o) H' := fun a u ha => by
  by_cases z : a = p
  · subst z; rw [upd_same] at ha; cases ha; exact h
  · rw [upd_ne z] at ha; exact e a u ha
theorem Ex.both {H H' : Hp} {p : Addr} {o : HO} (e : Ex H H') : Ex (upd H p o) (upd H' p o) := fun a u ha => by
  by_cases z : a = p
  · subst z; rw [upd_same] at ha ⊢; exact ha
  · rw [upd_ne z] at ha ⊢; exact e a u ha
theorem Ex.back {H H' : Hp} {p : Addr} (e : Ex H H') (h : H' p = none) : H p = none := by
  cases h1 : H p with
  | none => rfl
  | some o => rw [e p o h1] at h; cases h
theorem ex_rd {H H' : Hp} {a : Addr} {u : HO} (e : Ex H H') (h : Rd H a u) : Rd H' a u := by
  rcases h with h | ⟨o, h⟩
  · exact Or.inl (e a _ h)
  · exact Or.inr ⟨o, e a _ h⟩
theorem ex_l {K : Frg} {H H' : Hp} {a : Addr} {xs : List V} (e : Ex H H') (h : SqL K H a xs) : SqL K H' a xs := by
  rcases h with h | h
  · exact Or.inl (ex_rd e h)
  · exact Or.inr h
theorem ex_t {K : Frg} {H H' : Hp} {a : Addr} {xs : List V} (e : Ex H H') (h : SqT K H a xs) : SqT K H' a xs := by
  rcases h with h | h
  · exact Or.inl (ex_rd e h)
  · exact Or.inr h
/-! ### data in a heap -/
/-- the script: a locked list of ints -/
def scr (ns : List Int) : D := .dict (ns.map fun n => (.int n, .none))
mutual
def Rp (K : Frg) (H : Hp) : D → V → Prop
  | .none, v => v = .non
  | .bool b, v => v = .bl b
  | .int i, v => v = .int i
  | .str x, v => v = .str x
  | .list ds, v => ∃ a xs, v = .ref a ∧ H a = some (.lst xs) ∧ RpAll K H ds xs
  | .tuple ds, v => ∃ a xs, v = .ref a ∧ SqT K H a xs ∧ RpAll K H ds xs
  | .dict kvs, v => ∃ (a : Addr) (ns : List Int), v = .ref a ∧ SqL K H a (ns.map V.int) ∧ kvs = ns.map fun n => (.int n, .none)
def RpAll (K : Frg) (H : Hp) : List D → List V → Prop
  | [], xs => xs = []
  | d :: ds, xs => ∃ v vs, xs = v :: vs ∧ Rp K H d v ∧ RpAll K H ds vs
end
section
variable {K : Frg} {H H' : Hp}
theorem rp_non {v : V} (h : Rp K H .none v) : v = .non := by unfold Rp at h; exact h
theorem rp_bl {v : V} {b : Bool} (h : Rp K H (.bool b) v) : v = .bl b := by unfold Rp at h; exact h
theorem rp_int {v : V} {i : Int} (h : Rp K H (.int i) v) : v = .int i := by unfold Rp at h; exact h
theorem rp_str {v : V} {x : Str} (h : Rp K H (.str x) v) : v = .str x := by unfold Rp at h; exact h
theorem rp_lst {v : V} {ds : List D} (h : Rp K H (.list ds) v) : ∃ a xs, v = .ref a ∧ H a = some (.lst xs) ∧ RpAll K H ds xs := by unfold Rp at h; exact h
theorem rp_tup {v : V} {ds : List D} (h : Rp K H (.tuple ds) v) : ∃ a xs, v = .ref a ∧ SqT K H a xs ∧ RpAll K H ds xs := by unfold Rp at h; exact h
theorem mk_non : Rp K H .none .non := by unfold Rp; rfl
theorem mk_bl {b : Bool} : Rp K H (.bool b) (.bl b) := by unfold Rp; rfl
theorem mk_int {i : Int} : Rp K H (.int i) (.int i) := by unfold Rp; rfl
theorem mk_str {x : Str} : Rp K H (.str x) (.str x) := by unfold Rp; rfl
theorem mk_lst {a : Addr} {xs : List V} {ds : List D} (h : H a = some (.lst xs)) (r : RpAll K H ds xs) : Rp K H (.list ds) (.ref a) := by unfold Rp; exact ⟨a, xs, rfl, h, r⟩
theorem mk_tup {a : Addr} {xs : List V} {ds : List D} (h : SqT K H a xs) (r : RpAll K H ds xs) : Rp K H (.tuple ds) (.ref a) := by unfold Rp; exact ⟨a, xs, rfl, h, r⟩
theorem mk_scr {a : Addr} {ns : List Int} (h : SqL K H a (ns.map V.int)) : Rp K H (scr ns) (.ref a) := by unfold scr Rp; exact ⟨a, ns, rfl, h, rfl⟩
theorem rp_scr {v : V} {ns : List Int} (h : Rp K H (scr ns) v) : ∃ a, v = .ref a ∧ SqL K H a (ns.map V.int) := by
  unfold scr Rp at h
  obtain ⟨a, ms, e, q, z⟩ := h
  have : ns = ms := by
    have := congrArg (List.map fun p : D × D => match p.1 with | .int i => i | _ => 0) z
    simpa [Function.comp_def] using this
  subst this
  exact ⟨a, e, q⟩
theorem all_nil {xs : List V} (h : RpAll K H [] xs) : xs = [] := by unfold RpAll at h; exact h
theorem all_cons {d : D} {ds : List D} {xs : List V} (h : RpAll K H (d :: ds) xs) : ∃ v vs, xs = v :: vs ∧ Rp K H d v ∧ RpAll K H ds vs := by unfold RpAll at h; exact h
theorem mk_nil : RpAll K H [] [] := by unfold RpAll; rfl
theorem mk_cons {d : D} {ds : List D} {v : V} {vs : List V} (a : Rp K H d v) (b : RpAll K H ds vs) : RpAll K H (d :: ds) (v :: vs) := by unfold RpAll; exact ⟨v, vs, rfl, a, b⟩
theorem all_len : ∀ {ds : List D} {xs : List V}, RpAll K H ds xs → ds.length = xs.length
  | [], _, h => by rw [all_nil h]; rfl
  | d :: ds, _, h => by
    obtain ⟨v, vs, rfl, _, h⟩ := all_cons h
    rw [List.length_cons, List.length_cons, all_len h]
theorem all_app : ∀ {ds es : List D} {xs ys : List V}, RpAll K H ds xs → RpAll K H es ys → RpAll K H (ds ++ es) (xs ++ ys)
  | [], _, _, _, h, g => by rw [all_nil h]; exact g
  | d :: ds, _, _, _, h, g => by
    obtain ⟨v, vs, rfl, a, h⟩ := all_cons h
    exact mk_cons a (all_app h g)
theorem all_get : ∀ {ds : List D} {xs : List V} {i : Nat} {d : D}, RpAll K H ds xs → ds[i]? = some d → ∃ v, xs[i]? = some v ∧ Rp K H d v
  | [], _, _, _, _, e => by simp at e
  | d :: ds, _, 0, _, h, e => by
    obtain ⟨v, vs, rfl, a, h⟩ := all_cons h
    simp at e; subst e
    exact ⟨v, rfl, a⟩
  | d :: ds, _, i + 1, _, h, e => by
    obtain ⟨v, vs, rfl, a, h⟩ := all_cons h
    obtain ⟨u, q, r⟩ := all_get (i := i) h (by simpa using e)
    exact ⟨u, by simpa using q, r⟩
theorem all_got : ∀ {ds : List D} {xs : List V} {i : Nat} {v : V}, RpAll K H ds xs → xs[i]? = some v → ∃ d, ds[i]? = some d ∧ Rp K H d v := fun {ds xs i v} h e => by
  have hl := all_len h
  have hi : i < ds.length := by rw [hl]; exact (List.getElem?_eq_some_iff.mp e).1
  obtain ⟨u, q, r⟩ := all_get h (List.getElem?_eq_getElem hi)
  rw [e] at q; cases q
  exact ⟨_, List.getElem?_eq_getElem hi, r⟩
theorem all_take : ∀ {ds : List D} {xs : List V} (n : Nat), RpAll K H ds xs → RpAll K H (ds.take n) (xs.take n)
  | _, _, 0, _ => by simpa using mk_nil
  | [], _, _ + 1, h => by rw [all_nil h]; simpa using mk_nil
  | d :: ds, _, n + 1, h => by
    obtain ⟨v, vs, rfl, a, h⟩ := all_cons h
    exact mk_cons a (all_take n h)
theorem all_drop : ∀ {ds : List D} {xs : List V} (n : Nat), RpAll K H ds xs → RpAll K H (ds.drop n) (xs.drop n)
  | _, _, 0, h => by simpa using h
  | [], _, _ + 1, h => by rw [all_nil h]; simpa using mk_nil
  | d :: ds, _, n + 1, h => by
    obtain ⟨v, vs, rfl, a, h⟩ := all_cons h
    simpa using all_drop n h
theorem all_set : ∀ {ds : List D} {xs : List V} (i : Nat) {d : D} {v : V}, RpAll K H ds xs → Rp K H d v → RpAll K H (ds.set i d) (xs.set i v)
  | [], _, _, _, _, h, _ => by rw [all_nil h]; simpa using mk_nil
  | d :: ds, _, 0, _, _, h, g => by
    obtain ⟨v, vs, rfl, a, h⟩ := all_cons h
    exact mk_cons g h
  | d :: ds, _, i + 1, _, _, h, g => by
    obtain ⟨v, vs, rfl, a, h⟩ := all_cons h
    exact mk_cons a (all_set i h g)
theorem all_ints : ∀ {ns : List Int} {xs : List V}, RpAll K H (ns.map PyData.int) xs → xs = ns.map V.int
  | [], _, h => all_nil h
  | n :: ns, _, h => by
    obtain ⟨v, vs, rfl, a, h⟩ := all_cons (show RpAll K H (.int n :: ns.map PyData.int) _ from h)
    rw [rp_int a, all_ints h]; rfl
theorem mk_ints : ∀ {ns : List Int}, RpAll K H (ns.map PyData.int) (ns.map V.int)
  | [] => mk_nil
  | _ :: _ => mk_cons mk_int mk_ints
theorem all_bls : ∀ {ns : List Bool} {xs : List V}, RpAll K H (ns.map PyData.bool) xs → xs = ns.map V.bl
  | [], _, h => all_nil h
  | n :: ns, _, h => by
    obtain ⟨v, vs, rfl, a, h⟩ := all_cons (show RpAll K H (.bool n :: ns.map PyData.bool) _ from h)
    rw [rp_bl a, all_bls h]; rfl
theorem mk_bls : ∀ {ns : List Bool}, RpAll K H (ns.map PyData.bool) (ns.map V.bl)
  | [] => mk_nil
  | _ :: _ => mk_cons mk_bl mk_bls
mutual
theorem Rp.mono (e : Ex H H') : ∀ {d : D} {v : V}, Rp K H d v → Rp K H' d v
  | .none, _, h => by rw [rp_non h]; exact mk_non
  | .bool _, _, h => by rw [rp_bl h]; exact mk_bl
  | .int _, _, h => by rw [rp_int h]; exact mk_int
  | .str _, _, h => by rw [rp_str h]; exact mk_str
  | .list ds, _, h => by
    obtain ⟨a, xs, rfl, q, r⟩ := rp_lst h
    exact mk_lst (e _ _ q) (RpAll.mono e r)
  | .tuple ds, _, h => by
    obtain ⟨a, xs, rfl, q, r⟩ := rp_tup h
    exact mk_tup (ex_t e q) (RpAll.mono e r)
  | .dict kvs, _, h => by
    unfold Rp at h ⊢
    obtain ⟨a, ns, rfl, q, r⟩ := h
    exact ⟨a, ns, rfl, ex_l e q, r⟩
theorem RpAll.mono (e : Ex H H') : ∀ {ds : List D} {xs : List V}, RpAll K H ds xs → RpAll K H' ds xs
  | [], _, h => by rw [all_nil h]; exact mk_nil
  | d :: ds, _, h => by
    obtain ⟨v, vs, rfl, a, h⟩ := all_cons h
    exact mk_cons (Rp.mono e a) (RpAll.mono e h)
end
end
/-- data that lean on no heap -/
def flat : D → Bool
  | .none | .bool _ | .int _ | .str _ => true
  | _ => false
theorem rp_flat {K : Frg} {H H' : Hp} {d : D} {v : V} (f : flat d = true) (h : Rp K H d v) : Rp K H' d v := by
  cases d with
  | none => rw [rp_non h]; exact mk_non
  | bool => rw [rp_bl h]; exact mk_bl
  | int => rw [rp_int h]; exact mk_int
  | str => rw [rp_str h]; exact mk_str
  | _ => cases f

/-! ### the slots -/
/-- what stands in an own object: data that stay, or a value as it is (an own object's place) -/
inductive Itm where
  | dat (d : D)
  | adr (v : V)
inductive Cell where
  | lst (its : List Itm)
  /-- an object of the class C: its fields' names, and what stands in them -/
  | ins (C dx : Addr) (ks : List Str) (its : List Itm)
  /-- a dict of whole numbers, all of them True -/
  | dct (ks : List Int)
abbrev Sto := List (Addr × Cell)
def ItOk (K : Frg) (F : Hp) : Itm → V → Prop
  | .dat d, v => Rp K F d v
  | .adr u, v => v = u
def ItAll (K : Frg) (F : Hp) : List Itm → List V → Prop
  | [], xs => xs = []
  | it :: r, xs => ∃ v vs, xs = v :: vs ∧ ItOk K F it v ∧ ItAll K F r vs
def CellOk (K : Frg) (F H : Hp) (q : Addr) : Cell → Prop
  | .lst its => ∃ xs, H q = some (.lst xs) ∧ ItAll K F its xs
  | .ins C dx ks its => ks.Nodup ∧ ks.length = its.length ∧ ∃ xs, H q = some (.ins C dx (ks.zip xs)) ∧ ItAll K F its xs
  | .dct ks => H q = some (.dK (ks.map fun k => (Sum.inl k, V.bl true)))
theorem ItOk.mono {K : Frg} {F F' : Hp} (e : Ex F F') : ∀ {it : Itm} {v : V}, ItOk K F it v → ItOk K F' it v
  | .dat d, _, h => Rp.mono e h
  | .adr u, _, h => h
theorem ItAll.mono {K : Frg} {F F' : Hp} (e : Ex F F') : ∀ {its : List Itm} {xs : List V}, ItAll K F its xs → ItAll K F' its xs
  | [], _, h => h
  | it :: r, _, ⟨v, vs, z, a, h⟩ => ⟨v, vs, z, a.mono e, ItAll.mono e h⟩
theorem ItAll.len {K : Frg} {F : Hp} : ∀ {its : List Itm} {xs : List V}, ItAll K F its xs → its.length = xs.length
  | [], _, h => by rw [show _ = [] from h]; rfl
  | it :: r, _, ⟨v, vs, z, a, h⟩ => by rw [z, List.length_cons, List.length_cons, ItAll.len h]
theorem CellOk.has {K : Frg} {F H : Hp} {q : Addr} {c : Cell} (h : CellOk K F H q c) : ∃ o, H q = some o := by
  cases c with
  | lst its => exact ⟨_, h.choose_spec.1⟩
  | ins C dx ks its => obtain ⟨_, _, xs, e, _⟩ := h; exact ⟨_, e⟩
  | dct ks => exact ⟨_, h⟩
theorem CellOk.mv {K : Frg} {F F' H H' : Hp} {q : Addr} {c : Cell} (h : CellOk K F H q c) (e : Ex F F') (hH : ∀ o, H q = some o → H' q = some o) : CellOk K F' H' q c := by
  cases c with
  | lst its => obtain ⟨xs, a, b⟩ := h; exact ⟨xs, hH _ a, b.mono e⟩
  | ins C dx ks its => obtain ⟨n, l, xs, a, b⟩ := h; exact ⟨n, l, xs, hH _ a, b.mono e⟩
  | dct ks => exact hH _ h
inductive Sl where
  | no
  /-- data that stay -/
  | va (d : D)
  /-- a list of its own at p -/
  | ow (p : Addr) (ds : List D)
  /-- a value as it is, and what stays true of it -/
  | rw (v : V) (φ : Hp → Prop)
  /-- a value as it is, and own objects -/
  | st (v : V) (μ : Sto)
/-- a value as it is -/
abbrev Sl.pt (v : V) : Sl := .rw v fun _ => True
def owns : Sl → List Addr
  | .ow p _ => [p]
  | .st _ μ => μ.map Prod.fst
  | _ => []
def SlOk (K : Frg) (O F H : Hp) (x : Option (Option V)) : Sl → Prop
  | .no => True
  | .va d => ∃ v, x = some (some v) ∧ Rp K F d v
  | .ow p ds => x = some (some (.ref p)) ∧ F p = none ∧ O p = none ∧ ∃ xs, H p = some (.lst xs) ∧ RpAll K F ds xs
  | .rw v φ => x = some (some v) ∧ ∀ F', Ex F F' → φ F'
  | .st v μ => x = some (some v) ∧ (μ.map Prod.fst).Nodup ∧ ∀ q c, (q, c) ∈ μ → F q = none ∧ O q = none ∧ CellOk K F H q c
/-- what a word owns is there, and nobody else's -/
theorem SlOk.has {K : Frg} {O F H : Hp} {x : Option (Option V)} {s : Sl} {q : Addr} (h : SlOk K O F H x s) (hq : q ∈ owns s) : F q = none ∧ O q = none ∧ ∃ o, H q = some o := by
  cases s with
  | ow p ds =>
    obtain ⟨_, f, o, xs, e, _⟩ := h
    rw [List.mem_singleton.mp (show q ∈ [p] from hq)]
    exact ⟨f, o, _, e⟩
  | st v μ =>
    obtain ⟨⟨q', c⟩, hm, rfl⟩ := List.mem_map.mp (show q ∈ μ.map Prod.fst from hq)
    obtain ⟨f, o, cc⟩ := h.2.2 _ _ hm
    exact ⟨f, o, cc.has⟩
  | no => exact absurd hq List.not_mem_nil
  | va d => exact absurd hq List.not_mem_nil
  | rw v φ => exact absurd hq List.not_mem_nil
theorem SlOk.mv {K : Frg} {O O' F F' H H' : Hp} {x : Option (Option V)} {s : Sl} (h : SlOk K O F H x s) (e : Ex F F') (hH : ∀ q ∈ owns s, ∀ o, H q = some o → H' q = some o) (hF : ∀ q ∈ owns s, F' q = none) (hO : ∀ q ∈ owns s, O' q = none) : SlOk K O' F' H' x s := by
  cases s with
  | no => trivial
  | va d => obtain ⟨v, a, r⟩ := h; exact ⟨v, a, r.mono e⟩
  | rw v φ => exact ⟨h.1, fun F2 e2 => h.2 F2 (e.trans e2)⟩
  | ow p ds =>
    obtain ⟨a, f, o, xs, e1, r⟩ := h
    exact ⟨a, hF p (List.mem_singleton.mpr rfl), hO p (List.mem_singleton.mpr rfl), xs, hH p (List.mem_singleton.mpr rfl) _ e1, RpAll.mono e r⟩
  | st v μ =>
    refine ⟨h.1, h.2.1, fun q c hm => ?_⟩
    have hq : q ∈ owns (.st v μ) := List.mem_map.mpr ⟨_, hm, rfl⟩
    exact ⟨hF q hq, hO q hq, (h.2.2 q c hm).2.2.mv e (hH q hq)⟩
/-- F: what stays; O: what is the callers' -/
structure Rel (K : Frg) (O F : Hp) (ρ : List Sl) (σ : L2.St) (H : Hp) : Prop where
  len : σ.length = ρ.length
  fh : Ex F H
  oh : Ex O H
  dis : ∀ a o, O a = some o → F a = none
  sl : ∀ (i : Nat) s, ρ[i]? = some s → SlOk K O F H σ[i]? s
  ap : ∀ (i j : Nat) s t q, i ≠ j → ρ[i]? = some s → ρ[j]? = some t → q ∈ owns s → q ∈ owns t → False
/-- p is nobody's -/
def Apart (ρ : List Sl) (p : Addr) : Prop := ∀ (j : Nat) s, ρ[j]? = some s → p ∉ owns s
section
variable {K : Frg} {O F F' H H' : Hp} {ρ : List Sl} {σ : L2.St} {i : Nat} {d : D} {ds es : List D} {p : Addr} {v : V}
theorem Rel.va (R : Rel K O F ρ σ H) (h : ρ[i]? = some (.va d)) : ∃ v, σ[i]? = some (some v) ∧ Rp K F d v := R.sl i _ h
theorem Rel.ow (R : Rel K O F ρ σ H) (h : ρ[i]? = some (.ow p ds)) : σ[i]? = some (some (.ref p)) ∧ F p = none ∧ O p = none ∧ ∃ xs, H p = some (.lst xs) ∧ RpAll K F ds xs := R.sl i _ h
theorem Rel.st {μ : Sto} (R : Rel K O F ρ σ H) (h : ρ[i]? = some (.st v μ)) : σ[i]? = some (some v) ∧ (μ.map Prod.fst).Nodup ∧ ∀ q c, (q, c) ∈ μ → F q = none ∧ O q = none ∧ CellOk K F H q c := R.sl i _ h
theorem sets_get {α : Type} {l : List α} {i j : Nat} {a b : α} (h : (l.set i a)[j]? = some b) : (j = i ∧ b = a) ∨ (j ≠ i ∧ l[j]? = some b) := by
  by_cases e : j = i
  · subst e
    left
    have hl : j < (l.set j a).length := (List.getElem?_eq_some_iff.mp h).1
    rw [List.getElem?_set_self (by simpa using hl)] at h
    exact ⟨rfl, (Option.some.inj h).symm⟩
  · right
    rw [List.getElem?_set_ne (Ne.symm e)] at h
    exact ⟨e, h⟩
theorem Rel.lt (R : Rel K O F ρ σ H) (h : i < ρ.length) : i < σ.length := by rw [R.len]; exact h
/-- other heaps, where what is owned stands as it stood -/
theorem Rel.mv {O' : Hp} (R : Rel K O F ρ σ H) (e : Ex F F') (fh : Ex F' H') (oh : Ex O' H') (dis : ∀ a o, O' a = some o → F' a = none)
    (hH : ∀ (j : Nat) s q, ρ[j]? = some s → q ∈ owns s → ∀ o, H q = some o → H' q = some o) (hF : ∀ (j : Nat) s q, ρ[j]? = some s → q ∈ owns s → F' q = none) (hO : ∀ (j : Nat) s q, ρ[j]? = some s → q ∈ owns s → O' q = none) : Rel K O' F' ρ σ H' :=
  ⟨R.len, fh, oh, dis, fun j s z => (R.sl j s z).mv e (hH j s · z) (hF j s · z) (hO j s · z), R.ap⟩
theorem Rel.has (R : Rel K O F ρ σ H) {s : Sl} {q : Addr} {j : Nat} (h : ρ[j]? = some s) (hq : q ∈ owns s) : F q = none ∧ O q = none ∧ ∃ o, H q = some o := (R.sl j s h).has hq
/-- a new object at p, tracked, and nobody's yet -/
theorem Rel.newH {o : HO} (R : Rel K O F ρ σ H) (h : H p = none) : Rel K O F ρ σ (upd H p o) :=
  R.mv (Ex.refl F) (R.fh.trans (Ex.new h)) (R.oh.trans (Ex.new h)) R.dis (fun j s q z hq u e => by rw [upd_ne (ne_of_none e h)]; exact e) (fun j s q z hq => (R.has z hq).1) fun j s q z hq => (R.has z hq).2.1
/-- an object of the heap that nobody has is taken into F -/
theorem Rel.frz {o : HO} (R : Rel K O F ρ σ H) (h : H p = some o) (hO : O p = none) (ha : Apart ρ p) (hF : F p = none) : Rel K O (upd F p o) ρ σ H :=
  R.mv (Ex.new hF) (R.fh.add h) R.oh (fun a u e => by rw [upd_ne (ne_of_none e hO)]; exact R.dis a u e) (fun j s q z hq u e => e) (fun j s q z hq => by
    rw [upd_ne (show q ≠ p from fun x => ha j s z (x ▸ hq))]; exact (R.has z hq).1) fun j s q z hq => (R.has z hq).2.1
theorem Rel.fresh_apart (R : Rel K O F ρ σ H) (h : H p = none) : Apart ρ p := fun j s e hq => by
  obtain ⟨_, _, o, e1⟩ := R.has e hq
  rw [h] at e1; cases e1
/-- both at once -/
theorem Rel.new {o : HO} (R : Rel K O F ρ σ H) (h : H p = none) : Rel K O (upd F p o) ρ σ (upd H p o) :=
  (R.newH h).frz upd_same (R.oh.back h) (R.fresh_apart h) (R.fh.back h)
/-- one slot is set: the word's fact, what it owns nobody else's -/
theorem Rel.set1 {s : Sl} {σ' : L2.St} (R : Rel K O F ρ σ H) (hl : σ'.length = σ.length) (hσ : ∀ j : Nat, j ≠ i → σ'[j]? = σ[j]?) (hs : i < ρ.length → SlOk K O F H σ'[i]? s) (ha : ∀ (j : Nat) t q, j ≠ i → ρ[j]? = some t → q ∈ owns s → q ∈ owns t → False) : Rel K O F (ρ.set i s) σ' H where
  len := by rw [List.length_set, hl]; exact R.len
  fh := R.fh
  oh := R.oh
  dis := R.dis
  sl := fun j t e => by
    have hl : j < ρ.length := by have := (List.getElem?_eq_some_iff.mp e).1; simpa using this
    rcases sets_get e with ⟨rfl, rfl⟩ | ⟨hj, e⟩
    · exact hs hl
    · rw [hσ j hj]; exact R.sl j t e
  ap := fun j k s1 s2 q hn e1 e2 h1 h2 => by
    rcases sets_get e1 with ⟨a1, z⟩ | ⟨n1, e1⟩
    · rcases sets_get e2 with ⟨a2, _⟩ | ⟨n2, e2⟩
      · exact hn (a1.trans a2.symm)
      · rw [z] at h1; exact ha k s2 q n2 e2 h1 h2
    · rcases sets_get e2 with ⟨_, z⟩ | ⟨_, e2⟩
      · rw [z] at h2; exact ha j s1 q n1 e1 h2 h1
      · exact R.ap j k s1 s2 q hn e1 e2 h1 h2
theorem set_ne? {α : Type} {l : List α} {i j : Nat} {a : α} (h : j ≠ i) : (l.set i a)[j]? = l[j]? := List.getElem?_set_ne (Ne.symm h)
/-- a slot takes data -/
theorem Rel.setVa (R : Rel K O F ρ σ H) (r : Rp K F d v) : Rel K O F (ρ.set i (.va d)) (σ.set i (some v)) H :=
  R.set1 List.length_set (fun j h => set_ne? h) (fun hl => ⟨v, List.getElem?_set_self (R.lt hl), r⟩) fun _ _ _ _ _ h => absurd h List.not_mem_nil
theorem Rel.setRw {φ : Hp → Prop} (R : Rel K O F ρ σ H) (hφ : ∀ F', Ex F F' → φ F') : Rel K O F (ρ.set i (.rw v φ)) (σ.set i (some v)) H :=
  R.set1 List.length_set (fun j h => set_ne? h) (fun hl => ⟨List.getElem?_set_self (R.lt hl), hφ⟩) fun _ _ _ _ _ h => absurd h List.not_mem_nil
/-- a slot takes a list of its own -/
theorem Rel.setOw {xs : List V} (R : Rel K O F ρ σ H) (hH : H p = some (.lst xs)) (r : RpAll K F ds xs) (hF : F p = none) (hO : O p = none) (ha : Apart ρ p) : Rel K O F (ρ.set i (.ow p ds)) (σ.set i (some (.ref p))) H :=
  R.set1 List.length_set (fun j h => set_ne? h) (fun hl => ⟨List.getElem?_set_self (R.lt hl), hF, hO, xs, hH, r⟩) fun j t q _ e h1 h2 => by
    rw [List.mem_singleton.mp (show q ∈ [p] from h1)] at h2; exact ha j t e h2
/-- the list of a slot is rewritten -/
theorem Rel.mutOw {xs : List V} (R : Rel K O F ρ σ H) (h : ρ[i]? = some (.ow p ds)) (r : RpAll K F es xs) : Rel K O F (ρ.set i (.ow p es)) σ (upd H p (.lst xs)) := by
  obtain ⟨a, f, g, _⟩ := R.ow h
  have hp : p ∈ owns (.ow p ds) := List.mem_singleton.mpr rfl
  have R1 : Rel K O F (ρ.set i .no) σ H := R.set1 rfl (fun _ _ => rfl) (fun _ => trivial) fun _ _ _ _ _ h => absurd h List.not_mem_nil
  have nq : ∀ (j : Nat) s q, (ρ.set i .no)[j]? = some s → q ∈ owns s → q ≠ p := fun j s q e hq x => by
    subst x
    rcases sets_get e with ⟨_, z⟩ | ⟨hj, e⟩
    · subst z; exact absurd hq List.not_mem_nil
    · exact R.ap j i s _ q hj e h hq hp
  have R2 : Rel K O F (ρ.set i .no) σ (upd H p (.lst xs)) := R1.mv (Ex.refl F) (R.fh.mut f) (R.oh.mut g) R.dis (fun j s q e hq o z => by rw [upd_ne (nq j s q e hq)]; exact z) (fun j s q e hq => (R1.has e hq).1) fun j s q e hq => (R1.has e hq).2.1
  have R3 : Rel K O F ((ρ.set i .no).set i (.ow p es)) σ (upd H p (.lst xs)) := R2.set1 rfl (fun _ _ => rfl) (fun _ => ⟨a, f, g, xs, upd_same, r⟩) fun j t q hj e h1 h2 => nq j t q e h2 (List.mem_singleton.mp (show q ∈ [p] from h1))
  rw [List.set_set] at R3
  exact R3
/-- a slot is forgotten -/
theorem Rel.drop (R : Rel K O F ρ σ H) : Rel K O F (ρ.set i .no) σ H := R.set1 rfl (fun _ _ => rfl) (fun _ => trivial) fun _ _ _ _ _ h => absurd h List.not_mem_nil
/-- a slot's own list becomes data that stay -/
theorem Rel.keepOw (R : Rel K O F ρ σ H) (h : ρ[i]? = some (.ow p ds)) : ∃ F', Ex F F' ∧ Rel K O F' (ρ.set i (.va (.list ds))) σ H ∧ Rp K F' (.list ds) (.ref p) := by
  obtain ⟨a, f, g, xs, e, r⟩ := R.ow h
  have rp : Rp K (upd F p (.lst xs)) (.list ds) (.ref p) := mk_lst upd_same (RpAll.mono (Ex.new f) r)
  have R1 : Rel K O (upd F p (.lst xs)) (ρ.set i .no) σ H := R.drop.frz e g (fun j s z hq => by
    rcases sets_get z with ⟨_, y⟩ | ⟨hj, z⟩
    · subst y; exact absurd hq List.not_mem_nil
    · exact R.ap j i s _ p hj z h hq (List.mem_singleton.mpr rfl)) f
  refine ⟨upd F p (.lst xs), Ex.new f, ?_, rp⟩
  have R3 := R1.set1 (i := i) (s := .va (.list ds)) rfl (fun _ _ => rfl) (fun _ => ⟨_, a, rp⟩) fun _ _ _ _ _ h => absurd h List.not_mem_nil
  rw [List.set_set] at R3
  exact R3
end
end DL

namespace DL
open PySem PySem.Spec PyProof.Rows L2
/-! ### readings in data -/
/-- an expression: the slots' words turn from ρ to ρ', the value is as P says -/
def tX (K : Frg) (O : Hp) (ρ ρ' : List Sl) (P : Sg → Hp → Hp → V → Prop) : TE := fun σ H Q => ∃ F, Rel K O F ρ σ H ∧ ∀ F' H' v, Ex F F' → Rel K O F' ρ' σ H' → P σ F' H' v → Q v H'
abbrev PD (K : Frg) (d : D) : Sg → Hp → Hp → V → Prop := fun _ F _ v => Rp K F d v
/-- it may lean on lists of the slots' own -/
def Bor (K : Frg) (O : Hp) (ρ : List Sl) (σ : Sg) (F : Hp) (v : V) (d : D) : Prop := ∀ F' H', Ex F F' → Rel K O F' ρ σ H' → ∃ G, Ex F' G ∧ Ex G H' ∧ Rp K G d v
abbrev PB (K : Frg) (O : Hp) (ρ : List Sl) (d : D) : Sg → Hp → Hp → V → Prop := fun σ F _ v => Bor K O ρ σ F v d
/-- a new list, nobody's yet -/
def NewL (K : Frg) (O : Hp) (ρ : List Sl) (F H : Hp) (v : V) (ds : List D) : Prop := ∃ p xs, v = .ref p ∧ F p = none ∧ O p = none ∧ Apart ρ p ∧ H p = some (.lst xs) ∧ RpAll K F ds xs
abbrev PN (K : Frg) (O : Hp) (ρ : List Sl) (ds : List D) : Sg → Hp → Hp → V → Prop := fun _ F H v => NewL K O ρ F H v ds
abbrev PV (u : V) : Sg → Hp → Hp → V → Prop := fun _ _ _ v => v = u
def DE (X : Cx) (O : Hp) (ρ : List Sl) (e : Expr) (d : D) : Prop := PE X e (tX X.K O ρ ρ (PD X.K d))
def BE (X : Cx) (O : Hp) (ρ : List Sl) (e : Expr) (d : D) : Prop := PE X e (tX X.K O ρ ρ (PB X.K O ρ d))
def NE (X : Cx) (O : Hp) (ρ : List Sl) (e : Expr) (ds : List D) : Prop := PE X e (tX X.K O ρ ρ (PN X.K O ρ ds))
/-- .. whose evaluation changes a slot's own list -/
def CE (X : Cx) (O : Hp) (ρ ρ' : List Sl) (e : Expr) (d : D) : Prop := PE X e (tX X.K O ρ ρ' (PD X.K d))
def RE (X : Cx) (O : Hp) (ρ : List Sl) (e : Expr) (u : V) : Prop := PE X e (tX X.K O ρ ρ (PV u))
def tTT (K : Frg) (O : Hp) (ρ : List Sl) (b : Bool) : TT := fun σ H Q => ∃ F, Rel K O F ρ σ H ∧ ∀ F' H', Ex F F' → Rel K O F' ρ σ H' → Q b H'
def DT (X : Cx) (O : Hp) (ρ : List Sl) (e : Expr) (b : Bool) : Prop := PT X e (tTT X.K O ρ b)
inductive Ag where
  /-- data | a list of a slot's own, handed over by its place -/
  | da (d : D) | ad (v : V)
def AgAll (K : Frg) (O : Hp) (ρ : List Sl) (σ : Sg) (F : Hp) : List D → List V → Prop
  | [], vs => vs = []
  | d :: ds, vs => ∃ v us, vs = v :: us ∧ Bor K O ρ σ F v d ∧ AgAll K O ρ σ F ds us
def tAA (K : Frg) (O : Hp) (ρ : List Sl) (P : Sg → Hp → List V → Prop) : TA := fun σ H Q => ∃ F, Rel K O F ρ σ H ∧ ∀ F' H' vs, Ex F F' → Rel K O F' ρ σ H' → P σ F' vs → Q vs H'
/-- arguments: data that stay | data that may lean on own lists -/
def AD (X : Cx) (O : Hp) (ρ : List Sl) (es : List Expr) (ds : List D) : Prop := PA X es (tAA X.K O ρ fun _ F vs => RpAll X.K F ds vs)
def AB (X : Cx) (O : Hp) (ρ : List Sl) (es : List Expr) (ds : List D) : Prop := PA X es (tAA X.K O ρ fun σ F vs => AgAll X.K O ρ σ F ds vs)
def AgVs (K : Frg) (F : Hp) : List Ag → List V → Prop
  | [], vs => vs = []
  | .da d :: r, vs => ∃ v us, vs = v :: us ∧ Rp K F d v ∧ AgVs K F r us
  | .ad u :: r, vs => ∃ us, vs = u :: us ∧ AgVs K F r us
def AO (X : Cx) (O : Hp) (ρ : List Sl) (es : List Expr) (as : List Ag) : Prop := PA X es (tAA X.K O ρ fun _ F vs => AgVs X.K F as vs)
section
variable {X : Cx} {O : Hp} {ρ ρ' : List Sl} {e : Expr} {es : List Expr} {d : D} {ds : List D} {pos : Pos}
theorem pe_mono {t t' : TE} (h : PE X e t) (m : ∀ σ H Q, t' σ H Q → t σ H Q) : PE X e t' := ⟨fun pins s σ H Q I hq => h.run pins s σ H Q I (m σ H Q hq)⟩
theorem pt_mono {t t' : TT} (h : PT X e t) (m : ∀ σ H Q, t' σ H Q → t σ H Q) : PT X e t' := ⟨fun pins s σ H Q I hq => h.run pins s σ H Q I (m σ H Q hq)⟩
theorem pw_mono {t t' : TT} (h : PW X e t) (m : ∀ σ H Q, t' σ H Q → t σ H Q) : PW X e t' := ⟨fun wh pins s σ H Q I hq => h.run wh pins s σ H Q I (m σ H Q hq)⟩
theorem pa_mono {t t' : TA} (h : PA X es t) (m : ∀ σ H Q, t' σ H Q → t σ H Q) : PA X es t' := ⟨fun pos pins s σ H Q I hq => h.run pos pins s σ H Q I (m σ H Q hq)⟩
theorem Bor.of {K : Frg} {σ : Sg} {F : Hp} {v : V} (h : Rp K F d v) : Bor K O ρ σ F v d := fun F' H' e R => ⟨F', Ex.refl _, R.fh, h.mono e⟩
theorem Bor.up {K : Frg} {σ : Sg} {F F' : Hp} {v : V} (h : Bor K O ρ σ F v d) (e : Ex F F') : Bor K O ρ σ F' v d := fun F2 H2 e2 R => h F2 H2 (e.trans e2) R
theorem Bor.flat {K : Frg} {σ : Sg} {F G H : Hp} {v : V} (h : Bor K O ρ σ F v d) (R : Rel K O F ρ σ H) (f : flat d = true) : Rp K G d v := by
  obtain ⟨G', _, _, r⟩ := h F H (Ex.refl _) R
  exact rp_flat f r
/-! what is stronger -/
theorem DE.b (h : DE X O ρ e d) : BE X O ρ e d := pe_mono h fun σ H Q ⟨F, R, k⟩ => ⟨F, R, fun F' H' v e R' r => k F' H' v e R' (Bor.of r)⟩
theorem NE.de (h : NE X O ρ e ds) : DE X O ρ e (.list ds) := pe_mono h fun σ H Q ⟨F, R, k⟩ => ⟨F, R, fun F' H' v e R' ⟨p, xs, ev, f, o, a, hp, r⟩ => by
  subst ev
  exact k (upd F' p (.lst xs)) H' _ (e.trans (Ex.new f)) (R'.frz hp o a f) (mk_lst upd_same (RpAll.mono (Ex.new f) r))⟩
theorem NE.b (h : NE X O ρ e ds) : BE X O ρ e (.list ds) := h.de.b
theorem BE.fl (h : BE X O ρ e d) (f : flat d = true) : DE X O ρ e d := pe_mono h fun σ H Q ⟨F, R, k⟩ => ⟨F, R, fun F' H' v e R' r => k F' H' v e R' (r.flat R' f)⟩
theorem DE.is {d' : D} (h : DE X O ρ e d) (z : d = d') : DE X O ρ e d' := z ▸ h
theorem BE.is {d' : D} (h : BE X O ρ e d) (z : d = d') : BE X O ρ e d' := z ▸ h
theorem NE.is {ds' : List D} (h : NE X O ρ e ds) (z : ds = ds') : NE X O ρ e ds' := z ▸ h
theorem DT.is {b b' : Bool} (h : DT X O ρ e b) (z : b = b') : DT X O ρ e b' := z ▸ h
/-! ### names, constants -/
theorem de_va {i : Nat} {x : Str} (hr : ρ[i]? = some (.va d)) (hN : X.N[i]? = some x := by rfl) (hv : Vis X.env.scope x := by first | exact Or.inl rfl | exact Or.inr (Or.inl rfl) | exact Or.inr (Or.inr rfl)) (hd : (x == ("__debug__" : Str)) = false := by decide)
    (hcd : (x == ("__classdict__" : Str)) = false := by decide) : DE X O ρ (.Name x pos) d := pe_mono (pe_var hN hv hd hcd) fun σ H Q ⟨F, R, k⟩ => by
  obtain ⟨v, e, r⟩ := R.va hr
  exact ⟨v, e, k F H v (Ex.refl _) R r⟩
theorem be_ow {i : Nat} {x : Str} {p : Addr} (hr : ρ[i]? = some (.ow p ds)) (hN : X.N[i]? = some x := by rfl) (hv : Vis X.env.scope x := by first | exact Or.inl rfl | exact Or.inr (Or.inl rfl) | exact Or.inr (Or.inr rfl)) (hd : (x == ("__debug__" : Str)) = false := by decide)
    (hcd : (x == ("__classdict__" : Str)) = false := by decide) : BE X O ρ (.Name x pos) (.list ds) := pe_mono (pe_var hN hv hd hcd) fun σ H Q ⟨F, R, k⟩ => by
  obtain ⟨e, _, _, _⟩ := R.ow hr
  refine ⟨.ref p, e, k F H _ (Ex.refl _) R fun F' H' e' R' => ?_⟩
  obtain ⟨_, f, _, xs, h, r⟩ := R'.ow hr
  exact ⟨upd F' p (.lst xs), Ex.new f, R'.fh.add h, mk_lst upd_same (RpAll.mono (Ex.new f) r)⟩
theorem re_ow {i : Nat} {x : Str} {p : Addr} (hr : ρ[i]? = some (.ow p ds)) (hN : X.N[i]? = some x := by rfl) (hv : Vis X.env.scope x := by first | exact Or.inl rfl | exact Or.inr (Or.inl rfl) | exact Or.inr (Or.inr rfl)) (hd : (x == ("__debug__" : Str)) = false := by decide)
    (hcd : (x == ("__classdict__" : Str)) = false := by decide) : RE X O ρ (.Name x pos) (.ref p) := pe_mono (pe_var hN hv hd hcd) fun σ H Q ⟨F, R, k⟩ => by
  obtain ⟨e, _, _, _⟩ := R.ow hr
  exact ⟨.ref p, e, k F H _ (Ex.refl _) R rfl⟩
theorem re_rw {i : Nat} {x : Str} {u : V} {φ : Hp → Prop} (hr : ρ[i]? = some (.rw u φ)) (hN : X.N[i]? = some x := by rfl) (hv : Vis X.env.scope x := by first | exact Or.inl rfl | exact Or.inr (Or.inl rfl) | exact Or.inr (Or.inr rfl)) (hd : (x == ("__debug__" : Str)) = false := by decide)
    (hcd : (x == ("__classdict__" : Str)) = false := by decide) : RE X O ρ (.Name x pos) u := pe_mono (pe_var hN hv hd hcd) fun σ H Q ⟨F, R, k⟩ => by
  have e : σ[i]? = some (some u) ∧ _ := R.sl i _ hr
  exact ⟨u, e.1, k F H _ (Ex.refl _) R rfl⟩
theorem de_c {v : V} (h : PE X e (tC v)) (r : ∀ F, Rp X.K F d v) : DE X O ρ e d := pe_mono h fun σ H Q ⟨F, R, k⟩ => k F H v (Ex.refl _) R (r F)
theorem de_int {i : Int} {j : Nat} : DE X O ρ (.Constant (.int i) j pos) (.int i) := de_c pe_int fun _ => mk_int
theorem de_bl {b : Bool} {j : Nat} : DE X O ρ (.Constant (.bool b) j pos) (.bool b) := de_c pe_bl fun _ => mk_bl
theorem de_non {j : Nat} : DE X O ρ (.Constant .none j pos) .none := de_c pe_non fun _ => mk_non
theorem de_str {x : Str} {j : Nat} : DE X O ρ (.Constant (.str x) j pos) (.str x) := de_c pe_str fun _ => mk_str
/-- a module's constant: v its value, r what it stands for -/
theorem de_gl {x : Str} {v : V} {u : Value} (hm : X.mg x = some u) (r : RelV v u) (rp : ∀ F, Rp X.K F d v) (hg : Gl X x := by rfl) (hd : (x == ("__debug__" : Str)) = false := by decide) : DE X O ρ (.Name x pos) d := de_c (pe_glob hg hm r hd) rp
/-! ### two operands -/
/-- what an operator's rule must give -/
def OpD (K : Frg) (O : Hp) (ρ : List Sl) (r : R2) (a b : D) (P : Sg → Hp → Hp → V → Prop) : Prop :=
  ∀ (σ : Sg) (F H : Hp) (x y : V) (G G' : Hp) (Q : VK), Rel K O F ρ σ H → Ex F G → Ex G H → Rp K G a x → Ex F G' → Ex G' H → Rp K G' b y → (∀ F' H' v, Ex F F' → Rel K O F' ρ σ H' → P σ F' H' v → Q v H') → r x y H Q
theorem tOp_of {a b : Expr} {da db : D} {r : R2} {P : Sg → Hp → Hp → V → Prop} (h : OpD X.K O ρ r da db P) (σ : Sg) (H : Hp) (Q : VK) (k : tX X.K O ρ ρ P σ H Q) :
    tX X.K O ρ ρ (PB X.K O ρ da) σ H fun x H1 => tX X.K O ρ ρ (PB X.K O ρ db) σ H1 fun y H2 => r x y H2 Q := by
  obtain ⟨F, R, k⟩ := k
  refine ⟨F, R, fun F1 H1 x e1 R1 bx => ⟨F1, R1, fun F2 H2 y e2 R2 by' => ?_⟩⟩
  obtain ⟨G, g1, g2, rx⟩ := bx F2 H2 e2 R2
  obtain ⟨G', g3, g4, ry⟩ := by' F2 H2 (Ex.refl _) R2
  exact h σ F2 H2 x y G G' Q R2 g1 g2 rx g3 g4 ry fun F' H' v e' R' p => k F' H' v ((e1.trans e2).trans e') R' p
theorem x_op {op : Operator} {a b : Expr} {da db : D} {r : R2} {P : Sg → Hp → Hp → V → Prop} (ho : OpR X (binaryOp op) r) (h : OpD X.K O ρ r da db P) (ha : BE X O ρ a da) (hb : BE X O ρ b db) : PE X (.BinOp a op b pos) (tX X.K O ρ ρ P) :=
  pe_mono (pe_op ho ha hb) fun σ H Q k => tOp_of (a := a) (b := b) h σ H Q k
theorem x_cmp {op : CmpOp} {a b : Expr} {da db : D} {r : R2} {P : Sg → Hp → Hp → V → Prop} (ho : OpR X (compareOp op) r) (h : OpD X.K O ρ r da db P) (hm : behindInMarks op b = false) (ha : BE X O ρ a da) (hb : BE X O ρ b db) : PE X (.Compare a [op] [b] pos) (tX X.K O ρ ρ P) :=
  pe_mono (pe_cmpR ho ha hb hm) fun σ H Q k => tOp_of (a := a) (b := b) h σ H Q k
theorem x_cmpT {op : CmpOp} {a b : Expr} {da db : D} {r : R2} {k : Bool} (ho : OpR X (compareOp op) r) (h : OpD X.K O ρ r da db (PD X.K (.bool k))) (hm : behindInMarks op b = false) (ha : BE X O ρ a da) (hb : BE X O ρ b db) : DT X O ρ (.Compare a [op] [b] pos) k :=
  pt_mono (pt_cmpR ho ha hb hm) fun σ H Q ⟨F, R, kk⟩ => tOp_of (a := a) (b := b) h σ H (fun z H' => ∃ c, z = .bl c ∧ Q c H') ⟨F, R, fun F' H' v e R' r => ⟨k, rp_bl r, kk F' H' e R'⟩⟩
theorem opd_I0 {g : Int → Int → V} {i j : Int} (h : ∀ F, Rp X.K F d (g i j)) : OpD X.K O ρ (rI0 g) (.int i) (.int j) (PD X.K d) := fun σ F H x y G G' Q R _ _ rx _ _ ry k => ⟨i, j, rp_int rx, rp_int ry, k F H _ (Ex.refl _) R (h F)⟩
theorem opd_I {C : Int → Int → Prop} {g : Int → Int → V} {i j : Int} (c : C i j) (h : ∀ F, Rp X.K F d (g i j)) : OpD X.K O ρ (rI C g) (.int i) (.int j) (PD X.K d) := fun σ F H x y G G' Q R _ _ rx _ _ ry k => ⟨i, j, rp_int rx, rp_int ry, c, k F H _ (Ex.refl _) R (h F)⟩
variable {a b c : Expr} {i j : Int}
theorem de_add (ha : BE X O ρ a (.int i)) (hb : BE X O ρ b (.int j)) : DE X O ρ (.BinOp a .Add b pos) (.int (i + j)) := x_op op_add (opd_I0 fun _ => mk_int) ha hb
theorem de_sub (ha : BE X O ρ a (.int i)) (hb : BE X O ρ b (.int j)) : DE X O ρ (.BinOp a .Sub b pos) (.int (i - j)) := x_op op_sub (opd_I0 fun _ => mk_int) ha hb
theorem de_mul (ha : BE X O ρ a (.int i)) (hb : BE X O ρ b (.int j)) (h : (-(2 ^ 64) < i ∧ i < 2 ^ 64) ∨ (-(2 ^ 64) < j ∧ j < 2 ^ 64)) : DE X O ρ (.BinOp a .Mult b pos) (.int (i * j)) := x_op op_mul (opd_I h fun _ => mk_int) ha hb
theorem de_div (ha : BE X O ρ a (.int i)) (hb : BE X O ρ b (.int j)) (h : 0 < j ∧ j < 1073741824) : DE X O ρ (.BinOp a .FloorDiv b pos) (.int (i / j)) := x_op op_fdiv (opd_I h fun _ => mk_int) ha hb
theorem de_mod (ha : BE X O ρ a (.int i)) (hb : BE X O ρ b (.int j)) (h : 0 < j) : DE X O ρ (.BinOp a .Mod b pos) (.int (i % j)) := x_op op_mod (opd_I h fun _ => mk_int) ha hb
theorem de_pow (ha : BE X O ρ a (.int i)) (hb : BE X O ρ b (.int j)) (h : 0 ≤ j ∧ j ≤ 1000000 ∧ i.natAbs < 2 ^ 64) : DE X O ρ (.BinOp a .Pow b pos) (.int (i ^ j.toNat)) := x_op op_pow (opd_I h fun _ => mk_int) ha hb
theorem nmk {op : CmpOp} {b : Expr} (h : op ≠ .In) (h2 : op ≠ .NotIn) : behindInMarks op b = false := nobehind b h h2
theorem de_lt (ha : BE X O ρ a (.int i)) (hb : BE X O ρ b (.int j)) : DE X O ρ (.Compare a [.Lt] [b] pos) (.bool (decide (i < j))) := x_cmp op_lt (opd_I0 fun _ => mk_bl) (nmk nofun nofun) ha hb
theorem de_le (ha : BE X O ρ a (.int i)) (hb : BE X O ρ b (.int j)) : DE X O ρ (.Compare a [.LtE] [b] pos) (.bool (decide (i ≤ j))) := x_cmp op_le (opd_I0 fun _ => mk_bl) (nmk nofun nofun) ha hb
theorem de_gt (ha : BE X O ρ a (.int i)) (hb : BE X O ρ b (.int j)) : DE X O ρ (.Compare a [.Gt] [b] pos) (.bool (decide (j < i))) := x_cmp op_gt (opd_I0 fun _ => mk_bl) (nmk nofun nofun) ha hb
theorem de_ge (ha : BE X O ρ a (.int i)) (hb : BE X O ρ b (.int j)) : DE X O ρ (.Compare a [.GtE] [b] pos) (.bool (decide (j ≤ i))) := x_cmp op_ge (opd_I0 fun _ => mk_bl) (nmk nofun nofun) ha hb
theorem dt_lt (ha : BE X O ρ a (.int i)) (hb : BE X O ρ b (.int j)) : DT X O ρ (.Compare a [.Lt] [b] pos) (decide (i < j)) := x_cmpT op_lt (opd_I0 fun _ => mk_bl) (nmk nofun nofun) ha hb
theorem dt_le (ha : BE X O ρ a (.int i)) (hb : BE X O ρ b (.int j)) : DT X O ρ (.Compare a [.LtE] [b] pos) (decide (i ≤ j)) := x_cmpT op_le (opd_I0 fun _ => mk_bl) (nmk nofun nofun) ha hb
theorem dt_gt (ha : BE X O ρ a (.int i)) (hb : BE X O ρ b (.int j)) : DT X O ρ (.Compare a [.Gt] [b] pos) (decide (j < i)) := x_cmpT op_gt (opd_I0 fun _ => mk_bl) (nmk nofun nofun) ha hb
theorem dt_ge (ha : BE X O ρ a (.int i)) (hb : BE X O ρ b (.int j)) : DT X O ρ (.Compare a [.GtE] [b] pos) (decide (j ≤ i)) := x_cmpT op_ge (opd_I0 fun _ => mk_bl) (nmk nofun nofun) ha hb
/-! == and != of flat data; `is` -/
def vOf : D → V
  | .bool b => .bl b
  | .int i => .int i
  | .str x => .str x
  | _ => .non
theorem vOf_of {K : Frg} {F : Hp} {v : V} (f : flat d = true) (h : Rp K F d v) : v = vOf d := by
  cases d with
  | none => exact rp_non h
  | bool => exact rp_bl h
  | int => exact rp_int h
  | str => exact rp_str h
  | _ => cases f
theorem opd_eq {da db : D} (fa : flat da = true) (fb : flat db = true) (s : scal (vOf da) (vOf db) = true) : OpD X.K O ρ rEq da db (PD X.K (.bool (decide (vOf da = vOf db)))) := fun σ F H x y G G' Q R _ _ rx _ _ ry k => by
  rw [vOf_of fa rx, vOf_of fb ry]
  exact ⟨s, k F H _ (Ex.refl _) R mk_bl⟩
theorem opd_ne {da db : D} (fa : flat da = true) (fb : flat db = true) (s : scal (vOf da) (vOf db) = true) : OpD X.K O ρ rNe da db (PD X.K (.bool (!decide (vOf da = vOf db)))) := fun σ F H x y G G' Q R _ _ rx _ _ ry k => by
  rw [vOf_of fa rx, vOf_of fb ry]
  exact ⟨s, k F H _ (Ex.refl _) R mk_bl⟩
theorem dec_vint : decide (V.int i = V.int j) = decide (i = j) := by
  by_cases e : i = j
  · subst e; simp
  · have : ¬ V.int i = V.int j := fun q => e (V.int.inj q)
    simp [e, this]
theorem dec_vstr {x y : Str} : decide (V.str x = V.str y) = decide (x = y) := by
  by_cases e : x = y
  · subst e; simp
  · have : ¬ V.str x = V.str y := fun q => e (V.str.inj q)
    simp [e, this]
theorem dec_vbl {x y : Bool} : decide (V.bl x = V.bl y) = (x == y) := by cases x <;> cases y <;> rfl
theorem opd_eqI : OpD X.K O ρ rEq (.int i) (.int j) (PD X.K (.bool (decide (i = j)))) := by
  have h := opd_eq (X := X) (O := O) (ρ := ρ) (da := .int i) (db := .int j) rfl rfl rfl
  rw [show vOf (.int i) = .int i from rfl, show vOf (.int j) = .int j from rfl, dec_vint] at h
  exact h
theorem opd_neI : OpD X.K O ρ rNe (.int i) (.int j) (PD X.K (.bool (!decide (i = j)))) := by
  have h := opd_ne (X := X) (O := O) (ρ := ρ) (da := .int i) (db := .int j) rfl rfl rfl
  rw [show vOf (.int i) = .int i from rfl, show vOf (.int j) = .int j from rfl, dec_vint] at h
  exact h
theorem opd_eqS {x y : Str} : OpD X.K O ρ rEq (.str x) (.str y) (PD X.K (.bool (decide (x = y)))) := by
  have h := opd_eq (X := X) (O := O) (ρ := ρ) (da := .str x) (db := .str y) rfl rfl rfl
  rw [show vOf (.str x) = .str x from rfl, show vOf (.str y) = .str y from rfl, dec_vstr] at h
  exact h
theorem opd_neS {x y : Str} : OpD X.K O ρ rNe (.str x) (.str y) (PD X.K (.bool (!decide (x = y)))) := by
  have h := opd_ne (X := X) (O := O) (ρ := ρ) (da := .str x) (db := .str y) rfl rfl rfl
  rw [show vOf (.str x) = .str x from rfl, show vOf (.str y) = .str y from rfl, dec_vstr] at h
  exact h
theorem opd_eqB {x y : Bool} : OpD X.K O ρ rEq (.bool x) (.bool y) (PD X.K (.bool (x == y))) := by
  have h := opd_eq (X := X) (O := O) (ρ := ρ) (da := .bool x) (db := .bool y) rfl rfl rfl
  rw [show vOf (.bool x) = .bl x from rfl, show vOf (.bool y) = .bl y from rfl, dec_vbl] at h
  exact h
theorem opd_neB {x y : Bool} : OpD X.K O ρ rNe (.bool x) (.bool y) (PD X.K (.bool (!(x == y)))) := by
  have h := opd_ne (X := X) (O := O) (ρ := ρ) (da := .bool x) (db := .bool y) rfl rfl rfl
  rw [show vOf (.bool x) = .bl x from rfl, show vOf (.bool y) = .bl y from rfl, dec_vbl] at h
  exact h
theorem de_eqI (ha : BE X O ρ a (.int i)) (hb : BE X O ρ b (.int j)) : DE X O ρ (.Compare a [.Eq] [b] pos) (.bool (decide (i = j))) := x_cmp op_eq opd_eqI (nmk nofun nofun) ha hb
theorem de_neI (ha : BE X O ρ a (.int i)) (hb : BE X O ρ b (.int j)) : DE X O ρ (.Compare a [.NotEq] [b] pos) (.bool (!decide (i = j))) := x_cmp op_ne opd_neI (nmk nofun nofun) ha hb
theorem dt_eqI (ha : BE X O ρ a (.int i)) (hb : BE X O ρ b (.int j)) : DT X O ρ (.Compare a [.Eq] [b] pos) (decide (i = j)) := x_cmpT op_eq opd_eqI (nmk nofun nofun) ha hb
theorem dt_neI (ha : BE X O ρ a (.int i)) (hb : BE X O ρ b (.int j)) : DT X O ρ (.Compare a [.NotEq] [b] pos) (!decide (i = j)) := x_cmpT op_ne opd_neI (nmk nofun nofun) ha hb
theorem de_eqS {x y : Str} (ha : BE X O ρ a (.str x)) (hb : BE X O ρ b (.str y)) : DE X O ρ (.Compare a [.Eq] [b] pos) (.bool (decide (x = y))) := x_cmp op_eq opd_eqS (nmk nofun nofun) ha hb
theorem de_neS {x y : Str} (ha : BE X O ρ a (.str x)) (hb : BE X O ρ b (.str y)) : DE X O ρ (.Compare a [.NotEq] [b] pos) (.bool (!decide (x = y))) := x_cmp op_ne opd_neS (nmk nofun nofun) ha hb
theorem dt_eqS {x y : Str} (ha : BE X O ρ a (.str x)) (hb : BE X O ρ b (.str y)) : DT X O ρ (.Compare a [.Eq] [b] pos) (decide (x = y)) := x_cmpT op_eq opd_eqS (nmk nofun nofun) ha hb
theorem dt_neS {x y : Str} (ha : BE X O ρ a (.str x)) (hb : BE X O ρ b (.str y)) : DT X O ρ (.Compare a [.NotEq] [b] pos) (!decide (x = y)) := x_cmpT op_ne opd_neS (nmk nofun nofun) ha hb
theorem de_eqB {x y : Bool} (ha : BE X O ρ a (.bool x)) (hb : BE X O ρ b (.bool y)) : DE X O ρ (.Compare a [.Eq] [b] pos) (.bool (x == y)) := x_cmp op_eq opd_eqB (nmk nofun nofun) ha hb
theorem de_neB {x y : Bool} (ha : BE X O ρ a (.bool x)) (hb : BE X O ρ b (.bool y)) : DE X O ρ (.Compare a [.NotEq] [b] pos) (.bool (!(x == y))) := x_cmp op_ne opd_neB (nmk nofun nofun) ha hb
theorem dt_eqB {x y : Bool} (ha : BE X O ρ a (.bool x)) (hb : BE X O ρ b (.bool y)) : DT X O ρ (.Compare a [.Eq] [b] pos) (x == y) := x_cmpT op_eq opd_eqB (nmk nofun nofun) ha hb
theorem dt_neB {x y : Bool} (ha : BE X O ρ a (.bool x)) (hb : BE X O ρ b (.bool y)) : DT X O ρ (.Compare a [.NotEq] [b] pos) (!(x == y)) := x_cmpT op_ne opd_neB (nmk nofun nofun) ha hb
/-! is None -/
def isNone : D → Bool
  | .none => true
  | _ => false
theorem non_iff {K : Frg} {F : Hp} {v : V} (h : Rp K F d v) : decide (v = .non) = isNone d := by
  cases d with
  | none => rw [rp_non h]; rfl
  | bool => rw [rp_bl h]; rfl
  | int => rw [rp_int h]; rfl
  | str => rw [rp_str h]; rfl
  | list => obtain ⟨a, xs, rfl, _⟩ := rp_lst h; rfl
  | tuple => obtain ⟨a, xs, rfl, _⟩ := rp_tup h; rfl
  | dict => unfold Rp at h; obtain ⟨a, ns, rfl, _⟩ := h; rfl
theorem opd_isN : OpD X.K O ρ (fun x y H Q => y = .non ∧ Q (.bl (decide (x = .non))) H) d .none (PD X.K (.bool (isNone d))) := fun σ F H x y G G' Q R _ _ rx _ _ ry k => ⟨rp_non ry, by rw [non_iff rx]; exact k F H _ (Ex.refl _) R mk_bl⟩
theorem opd_notN : OpD X.K O ρ (fun x y H Q => y = .non ∧ Q (.bl (!decide (x = .non))) H) d .none (PD X.K (.bool (!isNone d))) := fun σ F H x y G G' Q R _ _ rx _ _ ry k => ⟨rp_non ry, by rw [non_iff rx]; exact k F H _ (Ex.refl _) R mk_bl⟩
theorem de_isN {j : Nat} {p2 : Pos} (ha : BE X O ρ a d) : DE X O ρ (.Compare a [.Is] [.Constant .none j p2] pos) (.bool (isNone d)) := x_cmp op_isN opd_isN (nmk nofun nofun) ha de_non.b
theorem de_notN {j : Nat} {p2 : Pos} (ha : BE X O ρ a d) : DE X O ρ (.Compare a [.IsNot] [.Constant .none j p2] pos) (.bool (!isNone d)) := x_cmp op_notN opd_notN (nmk nofun nofun) ha de_non.b
theorem dt_isN {j : Nat} {p2 : Pos} (ha : BE X O ρ a d) : DT X O ρ (.Compare a [.Is] [.Constant .none j p2] pos) (isNone d) := x_cmpT op_isN opd_isN (nmk nofun nofun) ha de_non.b
theorem dt_notN {j : Nat} {p2 : Pos} (ha : BE X O ρ a d) : DT X O ρ (.Compare a [.IsNot] [.Constant .none j p2] pos) (!isNone d) := x_cmpT op_notN opd_notN (nmk nofun nofun) ha de_non.b
/-! ### chains a < b < c -/
theorem chain_of {da db dc : D} {r r' : R2} {k k' : Bool} (h : OpD X.K O ρ r da db (PD X.K (.bool k))) (h' : OpD X.K O ρ r' db dc (PD X.K (.bool k'))) (σ : Sg) (H : Hp) (Q : VK) (kk : tX X.K O ρ ρ (PD X.K (.bool (k && k'))) σ H Q) :
    tChain r r' (tX X.K O ρ ρ (PB X.K O ρ da)) (tX X.K O ρ ρ (PB X.K O ρ db)) (tX X.K O ρ ρ (PB X.K O ρ dc)) σ H Q := by
  obtain ⟨F, R, kk⟩ := kk
  refine ⟨F, R, fun F1 H1 x e1 R1 bx => ⟨F1, R1, fun F2 H2 y e2 R2 by' => ?_⟩⟩
  obtain ⟨G, g1, g2, rx⟩ := bx F2 H2 e2 R2
  obtain ⟨G', g3, g4, ry⟩ := by' F2 H2 (Ex.refl _) R2
  refine h σ F2 H2 x y G G' _ R2 g1 g2 rx g3 g4 ry fun F3 H3 v e3 R3 rv => ⟨k, rp_bl rv, ?_⟩
  cases k with
  | false =>
    show Q (.bl false) H3
    exact kk F3 H3 _ ((e1.trans e2).trans e3) R3 mk_bl
  | true =>
    refine ⟨F3, R3, fun F4 H4 z e4 R4 bz => ?_⟩
    obtain ⟨G5, g5, g6, ry5⟩ := by' F4 H4 (e3.trans e4) R4
    obtain ⟨G6, g7, g8, rz⟩ := bz F4 H4 (Ex.refl _) R4
    exact h' σ F4 H4 y z G5 G6 Q R4 g5 g6 ry5 g7 g8 rz fun F' H' v e' R' p => kk F' H' v ((((e1.trans e2).trans e3).trans e4).trans e') R' p
theorem de_chain {op op' : CmpOp} {da db dc : D} {r r' : R2} {k k' : Bool} (ho : OpR X (compareOp op) r) (ho' : OpR X (compareOp op') r') (h : OpD X.K O ρ r da db (PD X.K (.bool k))) (h' : OpD X.K O ρ r' db dc (PD X.K (.bool k')))
    (ha : BE X O ρ a da) (hb : BE X O ρ b db) (hc : BE X O ρ c dc) (hm : lastMarks [op, op'] [b, c] = false := by with_unfolding_all rfl) : DE X O ρ (.Compare a [op, op'] [b, c] pos) (.bool (k && k')) :=
  pe_mono (pe_chain ho ho' ha hb hc hm) fun σ H Q kk => chain_of h h' σ H Q kk
theorem dt_chain {op op' : CmpOp} {da db dc : D} {r r' : R2} {k k' : Bool} (ho : OpR X (compareOp op) r) (ho' : OpR X (compareOp op') r') (h : OpD X.K O ρ r da db (PD X.K (.bool k))) (h' : OpD X.K O ρ r' db dc (PD X.K (.bool k')))
    (ha : BE X O ρ a da) (hb : BE X O ρ b db) (hc : BE X O ρ c dc) (hm : lastMarks [op, op'] [b, c] = false := by with_unfolding_all rfl) : DT X O ρ (.Compare a [op, op'] [b, c] pos) (k && k') :=
  pt_mono (pt_chain ho ho' ha hb hc hm) fun σ H Q ⟨F, R, kk⟩ => chain_of h h' σ H (fun z H' => ∃ c, z = .bl c ∧ Q c H') ⟨F, R, fun F' H' v e R' r => ⟨_, rp_bl r, kk F' H' e R'⟩⟩
theorem de_lele {k : Int} (ha : BE X O ρ a (.int i)) (hb : BE X O ρ b (.int j)) (hc : BE X O ρ c (.int k)) (hm : lastMarks [.LtE, .LtE] [b, c] = false := by with_unfolding_all rfl) : DE X O ρ (.Compare a [.LtE, .LtE] [b, c] pos) (.bool (decide (i ≤ j) && decide (j ≤ k))) :=
  de_chain op_le op_le (opd_I0 fun _ => mk_bl) (opd_I0 fun _ => mk_bl) ha hb hc hm
theorem dt_lele {k : Int} (ha : BE X O ρ a (.int i)) (hb : BE X O ρ b (.int j)) (hc : BE X O ρ c (.int k)) (hm : lastMarks [.LtE, .LtE] [b, c] = false := by with_unfolding_all rfl) : DT X O ρ (.Compare a [.LtE, .LtE] [b, c] pos) (decide (i ≤ j) && decide (j ≤ k)) :=
  dt_chain op_le op_le (opd_I0 fun _ => mk_bl) (opd_I0 fun _ => mk_bl) ha hb hc hm
theorem de_lelt {k : Int} (ha : BE X O ρ a (.int i)) (hb : BE X O ρ b (.int j)) (hc : BE X O ρ c (.int k)) (hm : lastMarks [.LtE, .Lt] [b, c] = false := by with_unfolding_all rfl) : DE X O ρ (.Compare a [.LtE, .Lt] [b, c] pos) (.bool (decide (i ≤ j) && decide (j < k))) :=
  de_chain op_le op_lt (opd_I0 fun _ => mk_bl) (opd_I0 fun _ => mk_bl) ha hb hc hm
theorem dt_lelt {k : Int} (ha : BE X O ρ a (.int i)) (hb : BE X O ρ b (.int j)) (hc : BE X O ρ c (.int k)) (hm : lastMarks [.LtE, .Lt] [b, c] = false := by with_unfolding_all rfl) : DT X O ρ (.Compare a [.LtE, .Lt] [b, c] pos) (decide (i ≤ j) && decide (j < k)) :=
  dt_chain op_le op_lt (opd_I0 fun _ => mk_bl) (opd_I0 fun _ => mk_bl) ha hb hc hm
/-! ### and, or, not, if-else -/
theorem de_neg (ha : BE X O ρ a (.int i)) : DE X O ρ (.UnaryOp .USub a pos) (.int (-i)) := pe_mono (pe_un un_neg ha) fun σ H Q ⟨F, R, k⟩ => ⟨F, R, fun F' H' v e R' b => ⟨i, rp_int (b.flat R' rfl : Rp X.K F' (.int i) v), k F' H' _ e R' mk_int⟩⟩
theorem dt_not {k : Bool} (ha : DT X O ρ a k) : DT X O ρ (.UnaryOp .Not a pos) (!k) := pt_mono (pt_not ha) fun σ H Q ⟨F, R, kk⟩ => ⟨F, R, fun F' H' e R' => kk F' H' e R'⟩
def WT (X : Cx) (O : Hp) (ρ : List Sl) (e : Expr) (b : Bool) : Prop := PW X e (tTT X.K O ρ b)
theorem wt_and1 {k : Bool} (ha : DT X O ρ a k) : WT X O ρ (.BoolOp .And [a] pos) k := pw_and1 ha
theorem wt_or1 {k : Bool} (ha : DT X O ρ a k) : WT X O ρ (.BoolOp .Or [a] pos) k := pw_or1 ha
theorem wt_and {k k' : Bool} {r : List Expr} (ha : DT X O ρ a k) (hb : k = true → WT X O ρ (.BoolOp .And (b :: r) pos) k') : WT X O ρ (.BoolOp .And (a :: b :: r) pos) (k && k') := by
  cases k with
  | true => exact pw_mono (pw_and ha (hb rfl)) fun σ H Q ⟨F, R, kk⟩ => ⟨F, R, fun F1 H1 e1 R1 => ⟨F1, R1, fun F2 H2 e2 R2 => kk F2 H2 (e1.trans e2) R2⟩⟩
  | false =>
    refine ⟨fun wh pins s σ H Q I ⟨F, R, kk⟩ => ?_⟩
    refine isTrue_and (thn (ha.run pins s σ H (fun c H1 => c = false ∧ Q false H1) I ⟨F, R, fun F1 H1 e1 R1 => ⟨rfl, kk F1 H1 e1 R1⟩⟩) fun c s1 e => ?_)
    obtain ⟨H1, I1, rfl, q⟩ := e
    exact ⟨H1, I1, q⟩
theorem wt_or {k k' : Bool} {r : List Expr} (ha : DT X O ρ a k) (hb : k = false → WT X O ρ (.BoolOp .Or (b :: r) pos) k') : WT X O ρ (.BoolOp .Or (a :: b :: r) pos) (k || k') := by
  cases k with
  | false => exact pw_mono (pw_or ha (hb rfl)) fun σ H Q ⟨F, R, kk⟩ => ⟨F, R, fun F1 H1 e1 R1 => ⟨F1, R1, fun F2 H2 e2 R2 => kk F2 H2 (e1.trans e2) R2⟩⟩
  | true =>
    refine ⟨fun wh pins s σ H Q I ⟨F, R, kk⟩ => ?_⟩
    refine isTrue_or (thn (ha.run pins s σ H (fun c H1 => c = true ∧ Q true H1) I ⟨F, R, fun F1 H1 e1 R1 => ⟨rfl, kk F1 H1 e1 R1⟩⟩) fun c s1 e => ?_)
    obtain ⟨H1, I1, rfl, q⟩ := e
    exact ⟨H1, I1, q⟩
theorem WT.t {k : Bool} (h : WT X O ρ e k) : DT X O ρ e k := PW.pt h
theorem dt_and2 {k k' : Bool} (ha : DT X O ρ a k) (hb : k = true → DT X O ρ b k') : DT X O ρ (.BoolOp .And [a, b] pos) (k && k') := (wt_and ha fun z => wt_and1 (hb z)).t
theorem dt_or2 {k k' : Bool} (ha : DT X O ρ a k) (hb : k = false → DT X O ρ b k') : DT X O ρ (.BoolOp .Or [a, b] pos) (k || k') := (wt_or ha fun z => wt_or1 (hb z)).t
theorem dt_and3 {k k' k2 : Bool} (ha : DT X O ρ a k) (hb : k = true → DT X O ρ b k') (hc : k = true → k' = true → DT X O ρ c k2) : DT X O ρ (.BoolOp .And [a, b, c] pos) (k && (k' && k2)) := (wt_and ha fun z => wt_and (hb z) fun y => wt_and1 (hc z y)).t
theorem dt_or3 {k k' k2 : Bool} (ha : DT X O ρ a k) (hb : k = false → DT X O ρ b k') (hc : k = false → k' = false → DT X O ρ c k2) : DT X O ρ (.BoolOp .Or [a, b, c] pos) (k || (k' || k2)) := (wt_or ha fun z => wt_or (hb z) fun y => wt_or1 (hc z y)).t
/-- .. of truths, as values -/
theorem de_one {op : BoolOp} (h : DE X O ρ a d) : DE X O ρ (.BoolOp op [a] pos) d := pe_one h
theorem de_and {k : Bool} {r : List Expr} (ha : DE X O ρ a (.bool k)) (hb : k = true → DE X O ρ (.BoolOp .And (b :: r) pos) d) (hf : k = false → d = .bool false) : DE X O ρ (.BoolOp .And (a :: b :: r) pos) d := by
  cases k with
  | true => exact pe_mono (pe_and ha (hb rfl)) fun σ H Q ⟨F, R, kk⟩ => ⟨F, R, fun F1 H1 v e1 R1 r => ⟨true, rp_bl r, F1, R1, fun F2 H2 v e2 R2 r => kk F2 H2 v (e1.trans e2) R2 r⟩⟩
  | false =>
    rw [hf rfl]
    refine ⟨fun pins s σ H Q I ⟨F, R, kk⟩ => ?_⟩
    refine BoolOp_and (thn (ha.run pins s σ H (fun v H1 => v = .bl false ∧ Q (.bl false) H1) I ⟨F, R, fun F1 H1 v e1 R1 r => ⟨rp_bl r, kk F1 H1 _ e1 R1 mk_bl⟩⟩) fun v s1 ⟨x, H1, I1, r1, q1⟩ => ?_)
    obtain ⟨rfl, q1⟩ := q1
    cases r1
    exact wpAny_truthy_bool ⟨.bl false, H1, I1, rfl, q1⟩
theorem de_or {k : Bool} {r : List Expr} (ha : DE X O ρ a (.bool k)) (hb : k = false → DE X O ρ (.BoolOp .Or (b :: r) pos) d) (hf : k = true → d = .bool true) : DE X O ρ (.BoolOp .Or (a :: b :: r) pos) d := by
  cases k with
  | false => exact pe_mono (pe_or ha (hb rfl)) fun σ H Q ⟨F, R, kk⟩ => ⟨F, R, fun F1 H1 v e1 R1 r => ⟨false, rp_bl r, F1, R1, fun F2 H2 v e2 R2 r => kk F2 H2 v (e1.trans e2) R2 r⟩⟩
  | true =>
    rw [hf rfl]
    refine ⟨fun pins s σ H Q I ⟨F, R, kk⟩ => ?_⟩
    refine BoolOp_or (thn (ha.run pins s σ H (fun v H1 => v = .bl true ∧ Q (.bl true) H1) I ⟨F, R, fun F1 H1 v e1 R1 r => ⟨rp_bl r, kk F1 H1 _ e1 R1 mk_bl⟩⟩) fun v s1 ⟨x, H1, I1, r1, q1⟩ => ?_)
    obtain ⟨rfl, q1⟩ := q1
    cases r1
    exact wpAny_truthy_bool ⟨.bl true, H1, I1, rfl, q1⟩
theorem de_and2 {k k' : Bool} (ha : DE X O ρ a (.bool k)) (hb : k = true → DE X O ρ b (.bool k')) : DE X O ρ (.BoolOp .And [a, b] pos) (.bool (k && k')) := by
  cases k with
  | true => exact de_and ha (fun z => de_one (hb z)) nofun
  | false => exact de_and ha (fun z => nomatch z) fun _ => rfl
theorem de_or2 {k k' : Bool} (ha : DE X O ρ a (.bool k)) (hb : k = false → DE X O ρ b (.bool k')) : DE X O ρ (.BoolOp .Or [a, b] pos) (.bool (k || k')) := by
  cases k with
  | false => exact de_or ha (fun z => de_one (hb z)) nofun
  | true => exact de_or ha (fun z => nomatch z) fun _ => rfl
theorem de_and3 {k k' k2 : Bool} (ha : DE X O ρ a (.bool k)) (hb : k = true → DE X O ρ b (.bool k')) (hc : k = true → k' = true → DE X O ρ c (.bool k2)) : DE X O ρ (.BoolOp .And [a, b, c] pos) (.bool (k && (k' && k2))) := by
  cases k with
  | true =>
    refine de_and ha (fun _ => ?_) nofun
    cases k' with
    | true => exact de_and (hb rfl) (fun z => de_one (hc rfl z)) nofun
    | false => exact de_and (hb rfl) (fun z => nomatch z) fun _ => rfl
  | false => exact de_and ha (fun z => nomatch z) fun _ => rfl
theorem de_and4 {k k' k2 k3 : Bool} {c' : Expr} (ha : DE X O ρ a (.bool k)) (hb : k = true → DE X O ρ b (.bool k')) (hc : k = true → k' = true → DE X O ρ c (.bool k2)) (hd : k = true → k' = true → k2 = true → DE X O ρ c' (.bool k3)) : DE X O ρ (.BoolOp .And [a, b, c, c'] pos) (.bool (k && (k' && (k2 && k3)))) := by
  cases k with
  | true =>
    refine de_and ha (fun _ => ?_) nofun
    cases k' with
    | true =>
      refine de_and (hb rfl) (fun _ => ?_) nofun
      cases k2 with
      | true => exact de_and (hc rfl rfl) (fun z => de_one (hd rfl rfl rfl)) nofun
      | false => exact de_and (hc rfl rfl) (fun z => nomatch z) fun _ => rfl
    | false => exact de_and (hb rfl) (fun z => nomatch z) fun _ => rfl
  | false => exact de_and ha (fun z => nomatch z) fun _ => rfl
theorem de_notV {k : Bool} (ha : DE X O ρ a (.bool k)) : DE X O ρ (.UnaryOp .Not a pos) (.bool (!k)) := pe_mono (pe_not ha) fun σ H Q ⟨F, R, kk⟩ => ⟨F, R, fun F1 H1 v e1 R1 r => ⟨k, rp_bl r, kk F1 H1 _ e1 R1 mk_bl⟩⟩
theorem x_if {k : Bool} {P : Sg → Hp → Hp → V → Prop} (hc : DT X O ρ c k) (ha : k = true → PE X a (tX X.K O ρ ρ P)) (hb : k = false → PE X b (tX X.K O ρ ρ P)) : PE X (.IfExp c a b pos) (tX X.K O ρ ρ P) := by
  refine ⟨fun pins s σ H Q I ⟨F, R, kk⟩ => ?_⟩
  refine wpAny_IfExp (thn (hc.run pins s σ H (fun b H1 => b = k ∧ tX X.K O ρ ρ P σ H1 Q) I ⟨F, R, fun F1 H1 e1 R1 => ⟨rfl, F1, R1, fun F2 H2 v e2 R2 r => kk F2 H2 v (e1.trans e2) R2 r⟩⟩) fun d s1 ⟨H1, I1, e, q1⟩ => ?_)
  subst e
  cases d with
  | true => exact (ha rfl).run pins s1 σ H1 Q I1 q1
  | false => exact (hb rfl).run pins s1 σ H1 Q I1 q1
theorem de_if {k : Bool} (hc : DT X O ρ c k) (ha : k = true → DE X O ρ a d) (hb : k = false → DE X O ρ b d) : DE X O ρ (.IfExp c a b pos) d := x_if hc ha hb
theorem ne_if {k : Bool} (hc : DT X O ρ c k) (ha : k = true → NE X O ρ a ds) (hb : k = false → NE X O ρ b ds) : NE X O ρ (.IfExp c a b pos) ds := x_if hc ha hb
theorem be_if {k : Bool} (hc : DT X O ρ c k) (ha : k = true → BE X O ρ a d) (hb : k = false → BE X O ρ b d) : BE X O ρ (.IfExp c a b pos) d := x_if hc ha hb
theorem de_if2 {k : Bool} {d' : D} (hc : DT X O ρ c k) (ha : DE X O ρ a d) (hb : DE X O ρ b d') : DE X O ρ (.IfExp c a b pos) (if k then d else d') := by
  cases k with
  | true => exact de_if hc (fun _ => ha) nofun
  | false => exact de_if hc nofun fun _ => hb
theorem de_ifI {k : Bool} (hc : DT X O ρ c k) (ha : DE X O ρ a (.int i)) (hb : DE X O ρ b (.int j)) : DE X O ρ (.IfExp c a b pos) (.int (if k then i else j)) := by
  cases k with
  | true => exact de_if hc (fun _ => ha) nofun
  | false => exact de_if hc nofun fun _ => hb
/-! ### truth -/
def truth : D → Bool
  | .none => false
  | .bool b => b
  | .int i => i != 0
  | .str x => x.length != 0
  | .list ds => !ds.isEmpty
  | .tuple ds => !ds.isEmpty
  | .dict ds => !ds.isEmpty
theorem isEmpty_all {K : Frg} {F : Hp} {xs : List V} (h : RpAll K F ds xs) : xs.isEmpty = ds.isEmpty := by
  cases ds with
  | nil => rw [all_nil h]; rfl
  | cons d ds => obtain ⟨v, vs, rfl, _⟩ := all_cons h; rfl
theorem tru_of {K : Frg} {G H : Hp} {v : V} (hs : ∀ x, d = .str x → x.length ≤ sizeLine) (r : Rp K G d v) (e : Ex G H) : TruV K v H (truth d) := by
  cases d with
  | none => rw [rp_non r]; rfl
  | bool => rw [rp_bl r]; rfl
  | int => rw [rp_int r]; rfl
  | str x =>
    rw [rp_str r]
    refine ⟨hs x rfl, ?_⟩
    show (x.length != 0) = _
    cases h : x.length with
    | zero => rfl
    | succ n => rfl
  | list ds =>
    obtain ⟨a, xs, rfl, q, r⟩ := rp_lst r
    exact Or.inl ⟨xs, ex_l e (SqL.of q), by show (!ds.isEmpty) = _; rw [isEmpty_all r]⟩
  | tuple ds =>
    obtain ⟨a, xs, rfl, q, r⟩ := rp_tup r
    exact Or.inr (Or.inl ⟨xs, ex_t e q, by show (!ds.isEmpty) = _; rw [isEmpty_all r]⟩)
  | dict kvs =>
    unfold Rp at r
    obtain ⟨a, ns, rfl, q, rfl⟩ := r
    exact Or.inl ⟨_, ex_l e q, by show (!(List.map _ ns).isEmpty) = _; cases ns <;> rfl⟩
theorem dt_tru (ha : BE X O ρ a d) (hs : ∀ x, d = .str x → x.length ≤ sizeLine) (he : ∀ whole, isTrue a X.env whole = (do let v ← whole; standAt a.pos; holding [v] (truthy v)) := by exact fun _ => rfl) : DT X O ρ a (truth d) :=
  pt_mono (pt_truth ha he) fun σ H Q ⟨F, R, k⟩ => ⟨F, R, fun F' H' v e R' bv => by
    obtain ⟨G, g1, g2, r⟩ := bv F' H' (Ex.refl _) R'
    exact ⟨truth d, tru_of hs r g2, k F' H' e R'⟩⟩
theorem dt_bl {k : Bool} (ha : BE X O ρ a (.bool k)) (he : ∀ whole, isTrue a X.env whole = (do let v ← whole; standAt a.pos; holding [v] (truthy v)) := by exact fun _ => rfl) : DT X O ρ a k := dt_tru (d := .bool k) ha nofun he
theorem dt_lst (ha : BE X O ρ a (.list ds)) (he : ∀ whole, isTrue a X.env whole = (do let v ← whole; standAt a.pos; holding [v] (truthy v)) := by exact fun _ => rfl) : DT X O ρ a (!ds.isEmpty) := dt_tru (d := .list ds) ha nofun he
theorem dt_tup (ha : BE X O ρ a (.tuple ds)) (he : ∀ whole, isTrue a X.env whole = (do let v ← whole; standAt a.pos; holding [v] (truthy v)) := by exact fun _ => rfl) : DT X O ρ a (!ds.isEmpty) := dt_tru (d := .tuple ds) ha nofun he
theorem dt_scr {ns : List Int} (ha : BE X O ρ a (scr ns)) (he : ∀ whole, isTrue a X.env whole = (do let v ← whole; standAt a.pos; holding [v] (truthy v)) := by exact fun _ => rfl) : DT X O ρ a (!ns.isEmpty) := by
  have h := dt_tru (d := scr ns) ha nofun he
  have e : truth (scr ns) = !ns.isEmpty := by cases ns <;> rfl
  rw [e] at h
  exact h
end
end DL

namespace DL
open PySem PySem.Spec PyProof.Rows L2
/-- a list whose items stay: at its place now and later -/
def ElB (K : Frg) (O : Hp) (ρ : List Sl) (σ : Sg) (F : Hp) (v : V) (ds : List D) : Prop := ∀ F' H', Ex F F' → Rel K O F' ρ σ H' → ∃ a xs, v = .ref a ∧ H' a = some (.lst xs) ∧ RpAll K F' ds xs
def LE (X : Cx) (O : Hp) (ρ : List Sl) (e : Expr) (ds : List D) : Prop := PE X e (tX X.K O ρ ρ fun σ F _ v => ElB X.K O ρ σ F v ds)
/-- what a for or a comprehension walks: ds, one after the other -/
def tI (K : Frg) (O : Hp) (ρ : List Sl) (ds : List D) : TI := fun σ H R => ∃ F, Rel K O F ρ σ H ∧ ∀ F' H' J (G : Hp → Prop), Ex F F' → Rel K O F' ρ σ H' →
  Walk J ds.length G (fun i H x H' => H' = H ∧ ∃ d, ds[i]? = some d ∧ Rp K F' d x) → (∀ H2, Ex F' H2 → G H2) → R J H'
def IE (X : Cx) (O : Hp) (ρ : List Sl) (tg iter : Expr) (ds : List D) : Prop := PI X tg iter (tI X.K O ρ ds)
section
variable {X : Cx} {O : Hp} {ρ ρ' : List Sl} {e a b c tg : Expr} {es : List Expr} {d : D} {ds ds' : List D} {pos : Pos} {i j : Int} {k : Bool}
theorem sz_le {n : Nat} (h : n ≤ 16777216) : n ≤ sizeLine := by rw [sizeLine_eq]; exact h
theorem sz_lt {n : Nat} (h : n < 16777216) : n < sizeLine := by rw [sizeLine_eq]; exact h
theorem pi_mono {t t' : TI} {iter : Expr} (h : PI X tg iter t) (m : ∀ σ H Q, t' σ H Q → t σ H Q) : PI X tg iter t' := ⟨fun pins s σ H Q I hq => h.run pins s σ H Q I (m σ H Q hq)⟩
theorem ElB.of {K : Frg} {σ : Sg} {F : Hp} {v : V} (h : Rp K F (.list ds) v) : ElB K O ρ σ F v ds := fun F' H' e R => by
  obtain ⟨a, xs, ev, q, r⟩ := rp_lst h
  exact ⟨a, xs, ev, R.fh _ _ (e _ _ q), RpAll.mono e r⟩
theorem LE.of (h : DE X O ρ e (.list ds)) : LE X O ρ e ds := pe_mono h fun σ H Q ⟨F, R, k⟩ => ⟨F, R, fun F' H' v e R' r => k F' H' v e R' (ElB.of r)⟩
theorem LE.ow {n : Nat} {x : Str} {p : Addr} (hr : ρ[n]? = some (.ow p ds)) (hN : X.N[n]? = some x := by rfl) (hv : Vis X.env.scope x := by first | exact Or.inl rfl | exact Or.inr (Or.inl rfl) | exact Or.inr (Or.inr rfl)) (hd : (x == ("__debug__" : Str)) = false := by decide)
    (hcd : (x == ("__classdict__" : Str)) = false := by decide) : LE X O ρ (.Name x pos) ds := pe_mono (pe_var hN hv hd hcd) fun σ H Q ⟨F, R, k⟩ => by
  obtain ⟨e, _, _, _⟩ := R.ow hr
  refine ⟨.ref p, e, k F H _ (Ex.refl _) R fun F' H' e' R' => ?_⟩
  obtain ⟨_, f, _, xs, h, r⟩ := R'.ow hr
  exact ⟨p, xs, rfl, h, r⟩
theorem LE.is (h : LE X O ρ e ds) (z : ds = ds') : LE X O ρ e ds' := z ▸ h
/-! ### displays -/
theorem ad_nil : AD X O ρ [] [] := pa_mono pa_nil fun σ H Q ⟨F, R, k⟩ => k F H _ (Ex.refl _) R mk_nil
theorem ad_cons (h : DE X O ρ e d) (hr : AD X O ρ es ds) (hs : starEach (e :: es) X.env = (false, eval e X.env) :: starEach es X.env := by rfl) : AD X O ρ (e :: es) (d :: ds) :=
  pa_mono (pa_cons h hr hs) fun σ H Q ⟨F, R, k⟩ => ⟨F, R, fun F1 H1 v e1 R1 r => ⟨F1, R1, fun F2 H2 vs e2 R2 rs => k F2 H2 _ (e1.trans e2) R2 (mk_cons (r.mono e2) rs)⟩⟩
theorem ab_nil : AB X O ρ [] [] := pa_mono pa_nil fun σ H Q ⟨F, R, k⟩ => k F H _ (Ex.refl _) R rfl
theorem AgAll.up {K : Frg} {σ : Sg} {F F' : Hp} (e : Ex F F') : ∀ {ds : List D} {vs : List V}, AgAll K O ρ σ F ds vs → AgAll K O ρ σ F' ds vs
  | [], _, h => h
  | _ :: _, _, ⟨v, us, z, b, r⟩ => ⟨v, us, z, b.up e, AgAll.up e r⟩
theorem ab_cons (h : BE X O ρ e d) (hr : AB X O ρ es ds) (hs : starEach (e :: es) X.env = (false, eval e X.env) :: starEach es X.env := by rfl) : AB X O ρ (e :: es) (d :: ds) :=
  pa_mono (pa_cons h hr hs) fun σ H Q ⟨F, R, k⟩ => ⟨F, R, fun F1 H1 v e1 R1 r => ⟨F1, R1, fun F2 H2 vs e2 R2 rs => k F2 H2 _ (e1.trans e2) R2 ⟨v, vs, rfl, r.up e2, rs⟩⟩⟩
theorem AgAll.got {K : Frg} {σ : Sg} {F H : Hp} (R : Rel K O F ρ σ H) : ∀ {ds : List D} {vs : List V}, AgAll K O ρ σ F ds vs → RpAll K H ds vs
  | [], _, h => by cases (show _ = [] from h); exact mk_nil
  | _ :: _, _, ⟨v, us, z, b, r⟩ => by
    subst z
    obtain ⟨G, _, g, q⟩ := b F H (Ex.refl _) R
    exact mk_cons (q.mono g) (AgAll.got R r)
theorem de_tup {x1 : Nat} (h : AD X O ρ es ds) (hl : ds.length ≤ 16777216) : DE X O ρ (.Tuple es x1 pos) (.tuple ds) := pe_mono (pe_tup h) fun σ H Q ⟨F, R, k⟩ => ⟨F, R, fun F1 H1 vs e1 R1 rs => ⟨by rw [← all_len rs]; exact sz_le hl, fun p hp =>
  k _ _ _ (e1.trans (Ex.new (R1.fh.back hp))) (R1.new hp) (mk_tup (SqT.of upd_same) (RpAll.mono (Ex.new (R1.fh.back hp)) rs))⟩⟩
theorem NewL.of {K : Frg} {F H : Hp} {σ : Sg} {p : Addr} {xs : List V} (R : Rel K O F ρ σ H) (hp : H p = none) (r : RpAll K F ds xs) : NewL K O ρ F (upd H p (.lst xs)) (.ref p) ds :=
  ⟨p, xs, rfl, R.fh.back hp, R.oh.back hp, R.fresh_apart hp, upd_same, r⟩
theorem ne_lst (h : AD X O ρ es ds) (hl : ds.length ≤ 16777216) : NE X O ρ (.List es pos) ds := pe_mono (pe_lst h) fun σ H Q ⟨F, R, k⟩ => ⟨F, R, fun F1 H1 vs e1 R1 rs => ⟨by rw [← all_len rs]; exact sz_le hl, fun p hp =>
  k F1 _ _ e1 (R1.newH hp) (NewL.of R1 hp rs)⟩⟩
/-! ### operators on lists and tuples -/
theorem ne_cat (ha : LE X O ρ a ds) (hb : LE X O ρ b ds') (hl : ds.length + ds'.length ≤ 16777216) : NE X O ρ (.BinOp a .Add b pos) (ds ++ ds') := pe_mono (pe_op op_cat ha hb) fun σ H Q ⟨F, R, k⟩ => ⟨F, R, fun F1 H1 x e1 R1 bx => ⟨F1, R1, fun F2 H2 y e2 R2 by' => by
  obtain ⟨l, xs, rfl, hx, rx⟩ := bx F2 H2 e2 R2
  obtain ⟨m, ys, rfl, hy, ry⟩ := by' F2 H2 (Ex.refl _) R2
  exact ⟨l, m, xs, ys, rfl, rfl, hx, hy, by rw [← all_len rx, ← all_len ry]; exact sz_le hl, fun p hp => k F2 _ _ (e1.trans e2) (R2.newH hp) (NewL.of R2 hp (all_app rx ry))⟩⟩⟩
theorem all_rep {K : Frg} {F : Hp} {xs : List V} (h : RpAll K F ds xs) : ∀ n : Nat, RpAll K F (List.replicate n ds).flatten (List.replicate n xs).flatten
  | 0 => mk_nil
  | n + 1 => by rw [List.replicate_succ, List.replicate_succ, List.flatten_cons, List.flatten_cons]; exact all_app h (all_rep h n)
theorem ne_rep (ha : LE X O ρ a ds) (hb : BE X O ρ b (.int i)) (h1 : -(2 ^ 63) ≤ i) (h2 : i < 2 ^ 63) (hl : ds.length * i.toNat ≤ 16777216) : NE X O ρ (.BinOp a .Mult b pos) (List.replicate i.toNat ds).flatten := pe_mono (pe_op op_rep ha hb) fun σ H Q ⟨F, R, k⟩ => ⟨F, R, fun F1 H1 x e1 R1 bx => ⟨F1, R1, fun F2 H2 y e2 R2 by' => by
  obtain ⟨l, xs, rfl, hx, rx⟩ := bx F2 H2 e2 R2
  exact ⟨l, i, xs, rfl, rp_int (by'.flat R2 rfl : Rp X.K F2 (.int i) y), hx, h1, h2, by rw [← all_len rx]; exact sz_le hl, fun p hp => k F2 _ _ (e1.trans e2) (R2.newH hp) (NewL.of R2 hp (all_rep rx _))⟩⟩⟩
theorem de_catT (ha : DE X O ρ a (.tuple ds)) (hb : DE X O ρ b (.tuple ds')) (hl : ds.length + ds'.length ≤ 16777216) : DE X O ρ (.BinOp a .Add b pos) (.tuple (ds ++ ds')) := pe_mono (pe_op op_catA ha hb) fun σ H Q ⟨F, R, k⟩ => ⟨F, R, fun F1 H1 x e1 R1 bx => ⟨F1, R1, fun F2 H2 y e2 R2 by' => by
  obtain ⟨l, xs, rfl, hx, rx⟩ := rp_tup (bx.mono e2)
  obtain ⟨m, ys, rfl, hy, ry⟩ := rp_tup by'
  refine ⟨l, m, xs, ys, rfl, rfl, ex_t R2.fh hx, ex_t R2.fh hy, by rw [← all_len rx, ← all_len ry]; exact sz_le hl, fun z => ?_, fun _ z => ?_, fun _ _ p hp => ?_⟩
  · subst z
    exact k F2 H2 _ (e1.trans e2) R2 (mk_tup hy (by simpa using all_app rx ry))
  · subst z
    exact k F2 H2 _ (e1.trans e2) R2 (mk_tup hx (by simpa using all_app rx ry))
  · exact k _ _ _ ((e1.trans e2).trans (Ex.new (R2.fh.back hp))) (R2.new hp) (mk_tup (SqT.of upd_same) (RpAll.mono (Ex.new (R2.fh.back hp)) (all_app rx ry)))⟩⟩
/-! ### subscripts -/
theorem atI_all {K : Frg} {F : Hp} {xs : List V} (h : RpAll K F ds xs) (e : atI ds i = some d) : ∃ v, atI xs i = some v ∧ Rp K F d v := by
  unfold atI at e ⊢
  rw [← all_len h]
  cases q : ixN ds.length i with
  | none => rw [q] at e; cases e
  | some n =>
    rw [q] at e
    exact all_get h e
theorem de_ixL (ha : LE X O ρ a ds) (hb : BE X O ρ b (.int i)) (h : atI ds i = some d) (hs : PlainIx b := by exact fun _ _ => rfl) : DE X O ρ (.Subscript a b pos) d := pe_mono (pe_ix ix_list ha hb hs) fun σ H Q ⟨F, R, k⟩ => ⟨F, R, fun F1 H1 x e1 R1 bx => ⟨F1, R1, fun F2 H2 y e2 R2 by' => by
  obtain ⟨l, xs, rfl, hx, rx⟩ := bx F2 H2 e2 R2
  obtain ⟨v, hv, rv⟩ := atI_all rx h
  exact ⟨l, xs, i, v, rfl, rp_int (by'.flat R2 rfl : Rp X.K F2 (.int i) y), SqL.of hx, hv, k F2 H2 v (e1.trans e2) R2 rv⟩⟩⟩
theorem de_ixT (ha : DE X O ρ a (.tuple ds)) (hb : BE X O ρ b (.int i)) (h : atI ds i = some d) (hs : PlainIx b := by exact fun _ _ => rfl) : DE X O ρ (.Subscript a b pos) d := pe_mono (pe_ix ix_tup ha hb hs) fun σ H Q ⟨F, R, k⟩ => ⟨F, R, fun F1 H1 x e1 R1 bx => ⟨F1, R1, fun F2 H2 y e2 R2 by' => by
  obtain ⟨l, xs, rfl, hx, rx⟩ := rp_tup (bx.mono e2)
  obtain ⟨v, hv, rv⟩ := atI_all rx h
  exact ⟨l, xs, i, v, rfl, rp_int (by'.flat R2 rfl : Rp X.K F2 (.int i) y), ex_t R2.fh hx, hv, k F2 H2 v (e1.trans e2) R2 rv⟩⟩⟩
theorem de_ixS {ns : List Int} {n : Int} (ha : BE X O ρ a (scr ns)) (hb : BE X O ρ b (.int i)) (h : atI ns i = some n) (hs : PlainIx b := by exact fun _ _ => rfl) : DE X O ρ (.Subscript a b pos) (.int n) := pe_mono (pe_ix ix_list ha hb hs) fun σ H Q ⟨F, R, k⟩ => ⟨F, R, fun F1 H1 x e1 R1 bx => ⟨F1, R1, fun F2 H2 y e2 R2 by' => by
  obtain ⟨G, _, g, q⟩ := bx F2 H2 e2 R2
  obtain ⟨l, rfl, hx⟩ := rp_scr q
  have hv : atI (ns.map V.int) i = some (.int n) := by
    unfold atI at h ⊢
    rw [List.length_map]
    cases z : ixN ns.length i with
    | none => rw [z] at h; cases h
    | some m =>
      rw [z] at h
      show (ns.map V.int)[m]? = _
      rw [List.getElem?_map, show ns[m]? = some n from h]; rfl
  exact ⟨l, _, i, _, rfl, rp_int (by'.flat R2 rfl : Rp X.K F2 (.int i) y), ex_l g hx, hv, k F2 H2 _ (e1.trans e2) R2 mk_int⟩⟩⟩
/-! slices -/
def PODt (K : Frg) (O : Hp) (ρ : List Sl) (o : Option Int) : TO := fun σ H Q => ∃ F, Rel K O F ρ σ H ∧ ∀ F' H', Ex F F' → Rel K O F' ρ σ H' → Q o H'
def PD_ (X : Cx) (O : Hp) (ρ : List Sl) (e : Option Expr) (o : Option Int) : Prop := PO X e (PODt X.K O ρ o)
theorem po_mono {t t' : TO} {e : Option Expr} (h : PO X e t) (m : ∀ σ H Q, t' σ H Q → t σ H Q) : PO X e t' := ⟨fun pins s σ H Q I hq => h.run pins s σ H Q I (m σ H Q hq)⟩
theorem pd_none : PD_ X O ρ none none := po_mono po_none fun σ H Q ⟨F, R, k⟩ => k F H (Ex.refl _) R
theorem pd_some (h : BE X O ρ e (.int i)) : PD_ X O ρ (some e) (some i) := po_mono (po_some h) fun σ H Q ⟨F, R, k⟩ => ⟨F, R, fun F1 H1 v e1 R1 b => ⟨i, rp_int (b.flat R1 rfl : Rp X.K F1 (.int i) v), k F1 H1 e1 R1⟩⟩
/-- the items of xs[lo:hi] -/
def cutD {α : Type} (xs : List α) (lo hi : Option Int) : List α := (xs.drop (HT.sIx xs.length 0 lo)).take (HT.sIx xs.length xs.length hi - HT.sIx xs.length 0 lo)
theorem all_cut {K : Frg} {F : Hp} {xs : List V} (h : RpAll K F ds xs) (lo hi : Option Int) : RpAll K F (cutD ds lo hi) (cutV xs lo hi) := by
  unfold cutD cutV
  rw [← all_len h]
  exact all_take _ (all_drop _ h)
theorem ne_cut {lo hi : Option Expr} {l h : Option Int} {p2 : Pos} (ha : LE X O ρ a ds) (hl : PD_ X O ρ lo l) (hh : PD_ X O ρ hi h) : NE X O ρ (.Subscript a (.Slice lo hi none p2) pos) (cutD ds l h) := pe_mono (pe_slice sl_list ha hl hh) fun σ H Q ⟨F, R, k⟩ =>
  ⟨F, R, fun F1 H1 x e1 R1 bx => ⟨F1, R1, fun F2 H2 e2 R2 => ⟨F2, R2, fun F3 H3 e3 R3 => by
    obtain ⟨m, xs, rfl, hx, rx⟩ := bx F3 H3 (e2.trans e3) R3
    exact ⟨m, xs, rfl, SqL.of hx, fun p hp => k F3 _ _ ((e1.trans e2).trans e3) (R3.newH hp) (NewL.of R3 hp (all_cut rx l h))⟩⟩⟩⟩
theorem cutD_whole {α : Type} (xs : List α) (lo hi : Option Int) (h : HT.sIx xs.length 0 lo = 0 ∧ HT.sIx xs.length xs.length hi = xs.length) : cutD xs lo hi = xs := by
  unfold cutD
  rw [h.1, h.2]
  simp
theorem de_cutT {lo hi : Option Expr} {l h : Option Int} {p2 : Pos} (ha : DE X O ρ a (.tuple ds)) (hl : PD_ X O ρ lo l) (hh : PD_ X O ρ hi h) : DE X O ρ (.Subscript a (.Slice lo hi none p2) pos) (.tuple (cutD ds l h)) := pe_mono (pe_slice sl_tupA ha hl hh) fun σ H Q ⟨F, R, k⟩ =>
  ⟨F, R, fun F1 H1 x e1 R1 bx => ⟨F1, R1, fun F2 H2 e2 R2 => ⟨F2, R2, fun F3 H3 e3 R3 => by
    obtain ⟨m, xs, rfl, hx, rx⟩ := rp_tup (bx.mono (e2.trans e3))
    refine ⟨m, xs, rfl, ex_t R3.fh hx, fun z => ?_, fun z p hp => ?_⟩
    · rw [← all_len rx] at z
      exact k F3 H3 _ ((e1.trans e2).trans e3) R3 (by rw [cutD_whole _ _ _ z]; exact mk_tup hx rx)
    · exact k _ _ _ (((e1.trans e2).trans e3).trans (Ex.new (R3.fh.back hp))) (R3.new hp) (mk_tup (SqT.of upd_same) (RpAll.mono (Ex.new (R3.fh.back hp)) (all_cut rx l h)))⟩⟩⟩
/-! ### in -/
theorem in_ints {i : Int} : ∀ {ns : List Int}, inV (.int i) (ns.map V.int) = decide (i ∈ ns)
  | [] => rfl
  | n :: ns => by
    unfold inV
    rw [List.map_cons, List.any_cons]
    have h := in_ints (i := i) (ns := ns)
    unfold inV at h
    rw [h]
    show (n == i || _) = _
    by_cases e : n = i
    · subst e; simp
    · have e2 : i ≠ n := fun z => e z.symm
      simp [e, e2]
theorem in_strs {x : Str} : ∀ {ns : List Str}, inV (.str x) (ns.map V.str) = decide (x ∈ ns)
  | [] => rfl
  | n :: ns => by
    unfold inV
    rw [List.map_cons, List.any_cons]
    have h := in_strs (x := x) (ns := ns)
    unfold inV at h
    rw [h]
    show (n == x || _) = _
    by_cases e : n = x
    · subst e; simp
    · have e2 : x ≠ n := fun z => e z.symm
      simp [e, e2]
theorem all_strs {K : Frg} {H : Hp} : ∀ {ns : List Str} {xs : List V}, RpAll K H (ns.map PyData.str) xs → xs = ns.map V.str
  | [], _, h => all_nil h
  | n :: ns, _, h => by
    obtain ⟨v, vs, rfl, a, h⟩ := all_cons (show RpAll K H (.str n :: ns.map PyData.str) _ from h)
    rw [rp_str a, all_strs h]; rfl
theorem flat_ints (ns : List Int) : (ns.map V.int).all flatV = true := by rw [List.all_eq_true]; intro x h; obtain ⟨y, _, rfl⟩ := List.mem_map.mp h; rfl
theorem flat_strs (ns : List Str) : (ns.map V.str).all flatV = true := by rw [List.all_eq_true]; intro x h; obtain ⟨y, _, rfl⟩ := List.mem_map.mp h; rfl
theorem opd_inI {neg : Bool} {ns : List Int} : OpD X.K O ρ (rIn X.K neg) (.int i) (.tuple (ns.map .int)) (PD X.K (.bool (if neg then !decide (i ∈ ns) else decide (i ∈ ns)))) := fun σ F H x y G G' Q R _ _ rx _ g' ry k => by
  obtain ⟨p, xs, rfl, hq, r⟩ := rp_tup ry
  cases all_ints r
  cases rp_int rx
  exact ⟨p, _, rfl, Or.inr (ex_t g' hq), rfl, flat_ints ns, by rw [in_ints]; exact k F H _ (Ex.refl _) R mk_bl⟩
theorem opd_inIL {neg : Bool} {ns : List Int} : OpD X.K O ρ (rIn X.K neg) (.int i) (.list (ns.map .int)) (PD X.K (.bool (if neg then !decide (i ∈ ns) else decide (i ∈ ns)))) := fun σ F H x y G G' Q R _ _ rx _ g' ry k => by
  obtain ⟨p, xs, rfl, hq, r⟩ := rp_lst ry
  cases all_ints r
  cases rp_int rx
  exact ⟨p, _, rfl, Or.inl (ex_l g' (SqL.of hq)), rfl, flat_ints ns, by rw [in_ints]; exact k F H _ (Ex.refl _) R mk_bl⟩
theorem opd_inS {neg : Bool} {x : Str} {ns : List Str} : OpD X.K O ρ (rIn X.K neg) (.str x) (.tuple (ns.map .str)) (PD X.K (.bool (if neg then !decide (x ∈ ns) else decide (x ∈ ns)))) := fun σ F H x y G G' Q R _ _ rx _ g' ry k => by
  obtain ⟨p, xs, rfl, hq, r⟩ := rp_tup ry
  cases all_strs r
  cases rp_str rx
  exact ⟨p, _, rfl, Or.inr (ex_t g' hq), rfl, flat_strs ns, by rw [in_strs]; exact k F H _ (Ex.refl _) R mk_bl⟩
theorem de_inI {ns : List Int} (ha : BE X O ρ a (.int i)) (hb : BE X O ρ b (.tuple (ns.map .int))) (hm : behindInMarks .In b = false := by with_unfolding_all rfl) : DE X O ρ (.Compare a [.In] [b] pos) (.bool (decide (i ∈ ns))) := x_cmp op_in_seq (opd_inI (neg := false)) hm ha hb
theorem dt_inI {ns : List Int} (ha : BE X O ρ a (.int i)) (hb : BE X O ρ b (.tuple (ns.map .int))) (hm : behindInMarks .In b = false := by with_unfolding_all rfl) : DT X O ρ (.Compare a [.In] [b] pos) (decide (i ∈ ns)) := x_cmpT op_in_seq (opd_inI (neg := false)) hm ha hb
theorem de_niI {ns : List Int} (ha : BE X O ρ a (.int i)) (hb : BE X O ρ b (.tuple (ns.map .int))) (hm : behindInMarks .NotIn b = false := by with_unfolding_all rfl) : DE X O ρ (.Compare a [.NotIn] [b] pos) (.bool (!decide (i ∈ ns))) := x_cmp op_notIn_seq (opd_inI (neg := true)) hm ha hb
theorem dt_niI {ns : List Int} (ha : BE X O ρ a (.int i)) (hb : BE X O ρ b (.tuple (ns.map .int))) (hm : behindInMarks .NotIn b = false := by with_unfolding_all rfl) : DT X O ρ (.Compare a [.NotIn] [b] pos) (!decide (i ∈ ns)) := x_cmpT op_notIn_seq (opd_inI (neg := true)) hm ha hb
theorem dt_inIL {ns : List Int} (ha : BE X O ρ a (.int i)) (hb : BE X O ρ b (.list (ns.map .int))) (hm : behindInMarks .In b = false := by with_unfolding_all rfl) : DT X O ρ (.Compare a [.In] [b] pos) (decide (i ∈ ns)) := x_cmpT op_in_seq (opd_inIL (neg := false)) hm ha hb
theorem de_inS {x : Str} {ns : List Str} (ha : BE X O ρ a (.str x)) (hb : BE X O ρ b (.tuple (ns.map .str))) (hm : behindInMarks .In b = false := by with_unfolding_all rfl) : DE X O ρ (.Compare a [.In] [b] pos) (.bool (decide (x ∈ ns))) := x_cmp op_in_seq (opd_inS (neg := false)) hm ha hb
theorem dt_inS {x : Str} {ns : List Str} (ha : BE X O ρ a (.str x)) (hb : BE X O ρ b (.tuple (ns.map .str))) (hm : behindInMarks .In b = false := by with_unfolding_all rfl) : DT X O ρ (.Compare a [.In] [b] pos) (decide (x ∈ ns)) := x_cmpT op_in_seq (opd_inS (neg := false)) hm ha hb
theorem de_niS {x : Str} {ns : List Str} (ha : BE X O ρ a (.str x)) (hb : BE X O ρ b (.tuple (ns.map .str))) (hm : behindInMarks .NotIn b = false := by with_unfolding_all rfl) : DE X O ρ (.Compare a [.NotIn] [b] pos) (.bool (!decide (x ∈ ns))) := x_cmp op_notIn_seq (opd_inS (neg := true)) hm ha hb
theorem dt_niS {x : Str} {ns : List Str} (ha : BE X O ρ a (.str x)) (hb : BE X O ρ b (.tuple (ns.map .str))) (hm : behindInMarks .NotIn b = false := by with_unfolding_all rfl) : DT X O ρ (.Compare a [.NotIn] [b] pos) (!decide (x ∈ ns)) := x_cmpT op_notIn_seq (opd_inS (neg := true)) hm ha hb
/-! ### built-ins of one argument, by their rules -/
theorem x_b1 {id : String} {x : Str} {p : Pos} {r : List V → Hp → VK → Prop} {P : Sg → Hp → Hp → V → Prop} {P0 : Sg → Hp → Hp → V → Prop} (hc : CallR X (.builtin id) r) (hg : Gl X x) (hm : X.mg x = none) (hv : bootBuiltins x = some (.builtin id)) (ha : PE X a (tX X.K O ρ ρ P0))
    (h : ∀ σ F H v Q, Rel X.K O F ρ σ H → P0 σ F H v → (∀ F' H' u, Ex F F' → Rel X.K O F' ρ σ H' → P σ F' H' u → Q u H') → r [v] H Q)
    (hn : x ≠ "__name__" := by decide) (hdb : (x == ("__debug__" : Str)) = false := by decide) (he : starEach [a] X.env = (false, eval a X.env) :: starEach [] X.env := by rfl) : PE X (.Call (.Name x p) [a] [] pos) (tX X.K O ρ ρ P) :=
  pe_mono (pe_callB hc hg hm hv (pa_cons ha pa_nil he) hn hdb he) fun σ H Q ⟨F, R, k⟩ => ⟨F, R, fun F1 H1 v e1 R1 p0 => h σ F1 H1 v Q R1 p0 fun F' H' u e' R' pu => k F' H' u (e1.trans e') R' pu⟩
theorem x_t1 {T : String} {x : Str} {p : Pos} {r : List V → Hp → VK → Prop} {P : Sg → Hp → Hp → V → Prop} {P0 : Sg → Hp → Hp → V → Prop} (hc : CallR X (.type T) r) (hg : Gl X x) (hm : X.mg x = none) (hv : bootBuiltins x = some (.type T)) (ha : PE X a (tX X.K O ρ ρ P0))
    (h : ∀ σ F H v Q, Rel X.K O F ρ σ H → P0 σ F H v → (∀ F' H' u, Ex F F' → Rel X.K O F' ρ σ H' → P σ F' H' u → Q u H') → r [v] H Q)
    (hn : x ≠ "__name__" := by decide) (hdb : (x == ("__debug__" : Str)) = false := by decide) (he : starEach [a] X.env = (false, eval a X.env) :: starEach [] X.env := by rfl) : PE X (.Call (.Name x p) [a] [] pos) (tX X.K O ρ ρ P) :=
  pe_mono (pe_callTy hc hg hm hv (pa_cons ha pa_nil he) hn hdb he) fun σ H Q ⟨F, R, k⟩ => ⟨F, R, fun F1 H1 v e1 R1 p0 => h σ F1 H1 v Q R1 p0 fun F' H' u e' R' pu => k F' H' u (e1.trans e') R' pu⟩
section
variable {p : Pos}
theorem de_lenL (hm : X.mg "len" = none) (ha : LE X O ρ a ds) (hg : Gl X "len" := by rfl) (he : starEach [a] X.env = (false, eval a X.env) :: starEach [] X.env := by rfl) : DE X O ρ (.Call (.Name "len" p) [a] [] pos) (.int (ds.length : Nat)) :=
  x_b1 call_len_seq hg hm PySem.boot_len ha (fun σ F H v Q R b k => by
    obtain ⟨l, xs, rfl, hx, rx⟩ := b F H (Ex.refl _) R
    exact ⟨l, xs, rfl, Or.inl (SqL.of hx), by rw [← all_len rx]; exact k F H _ (Ex.refl _) R mk_int⟩) (by decide) (by decide) he
theorem de_lenT (hm : X.mg "len" = none) (ha : DE X O ρ a (.tuple ds)) (hg : Gl X "len" := by rfl) (he : starEach [a] X.env = (false, eval a X.env) :: starEach [] X.env := by rfl) : DE X O ρ (.Call (.Name "len" p) [a] [] pos) (.int (ds.length : Nat)) :=
  x_b1 call_len_seq hg hm PySem.boot_len ha (fun σ F H v Q R b k => by
    obtain ⟨l, xs, rfl, hx, rx⟩ := rp_tup b
    exact ⟨l, xs, rfl, Or.inr (ex_t R.fh hx), by rw [← all_len rx]; exact k F H _ (Ex.refl _) R mk_int⟩) (by decide) (by decide) he
theorem de_lenS {ns : List Int} (hm : X.mg "len" = none) (ha : BE X O ρ a (scr ns)) (hg : Gl X "len" := by rfl) (he : starEach [a] X.env = (false, eval a X.env) :: starEach [] X.env := by rfl) : DE X O ρ (.Call (.Name "len" p) [a] [] pos) (.int (ns.length : Nat)) :=
  x_b1 call_len_seq hg hm PySem.boot_len ha (fun σ F H v Q R b k => by
    obtain ⟨G, _, g, q⟩ := b F H (Ex.refl _) R
    obtain ⟨l, rfl, hx⟩ := rp_scr q
    exact ⟨l, _, rfl, Or.inl (ex_l g hx), by rw [List.length_map]; exact k F H _ (Ex.refl _) R mk_int⟩) (by decide) (by decide) he
theorem ne_listL (hm : X.mg "list" = none) (ha : LE X O ρ a ds) (hg : Gl X "list" := by rfl) (he : starEach [a] X.env = (false, eval a X.env) :: starEach [] X.env := by rfl) : NE X O ρ (.Call (.Name "list" p) [a] [] pos) ds :=
  x_t1 call_list_of hg hm (by decide +kernel) ha (fun σ F H v Q R b k => by
    obtain ⟨l, xs, rfl, hx, rx⟩ := b F H (Ex.refl _) R
    exact ⟨l, xs, rfl, Or.inl (SqL.of hx), fun q hq => k F _ _ (Ex.refl _) (R.newH hq) (NewL.of R hq rx)⟩) (by decide) (by decide) he
theorem ne_listT (hm : X.mg "list" = none) (ha : DE X O ρ a (.tuple ds)) (hg : Gl X "list" := by rfl) (he : starEach [a] X.env = (false, eval a X.env) :: starEach [] X.env := by rfl) : NE X O ρ (.Call (.Name "list" p) [a] [] pos) ds :=
  x_t1 call_list_of hg hm (by decide +kernel) ha (fun σ F H v Q R b k => by
    obtain ⟨l, xs, rfl, hx, rx⟩ := rp_tup b
    exact ⟨l, xs, rfl, Or.inr (ex_t R.fh hx), fun q hq => k F _ _ (Ex.refl _) (R.newH hq) (NewL.of R hq rx)⟩) (by decide) (by decide) he
theorem de_tupL (hm : X.mg "tuple" = none) (ha : LE X O ρ a ds) (hg : Gl X "tuple" := by rfl) (he : starEach [a] X.env = (false, eval a X.env) :: starEach [] X.env := by rfl) : DE X O ρ (.Call (.Name "tuple" p) [a] [] pos) (.tuple ds) :=
  x_t1 call_tuple_of hg hm (by decide +kernel) ha (fun σ F H v Q R b k => by
    obtain ⟨l, xs, rfl, hx, rx⟩ := b F H (Ex.refl _) R
    exact ⟨l, xs, rfl, Or.inl ⟨SqL.of hx, fun q hq => k _ _ _ (Ex.new (R.fh.back hq)) (R.new hq) (mk_tup (SqT.of upd_same) (RpAll.mono (Ex.new (R.fh.back hq)) rx))⟩⟩) (by decide) (by decide) he
theorem de_tupT (hm : X.mg "tuple" = none) (ha : DE X O ρ a (.tuple ds)) (hg : Gl X "tuple" := by rfl) (he : starEach [a] X.env = (false, eval a X.env) :: starEach [] X.env := by rfl) : DE X O ρ (.Call (.Name "tuple" p) [a] [] pos) (.tuple ds) :=
  x_t1 call_tuple_of hg hm (by decide +kernel) ha (fun σ F H v Q R b k => by
    obtain ⟨l, xs, rfl, hx, rx⟩ := rp_tup b
    exact ⟨l, xs, rfl, Or.inr ⟨ex_t R.fh hx, k F H _ (Ex.refl _) R (mk_tup hx rx)⟩⟩) (by decide) (by decide) he
theorem de_intB (hm : X.mg "int" = none) (ha : BE X O ρ a (.bool k)) (hg : Gl X "int" := by rfl) (he : starEach [a] X.env = (false, eval a X.env) :: starEach [] X.env := by rfl) : DE X O ρ (.Call (.Name "int" p) [a] [] pos) (.int (if k then 1 else 0)) :=
  x_t1 call_int1 hg hm boot_int ha (fun σ F H v Q R b kk => Or.inr ⟨k, by rw [rp_bl (b.flat R rfl : Rp X.K F (.bool k) v)], kk F H _ (Ex.refl _) R mk_int⟩) (by decide) (by decide) he
theorem de_all {bs : List Bool} (hc : X.calm = true) (hm : X.mg "all" = none) (ha : BE X O ρ a (.list (bs.map .bool))) (hg : Gl X "all" := by rfl) (he : starEach [a] X.env = (false, eval a X.env) :: starEach [] X.env := by rfl) : DE X O ρ (.Call (.Name "all" p) [a] [] pos) (.bool (bs.all id)) :=
  x_b1 (cr_all hc) hg hm (by decide +kernel) ha (fun σ F H v Q R b k => by
    obtain ⟨G, _, g, q⟩ := b F H (Ex.refl _) R
    obtain ⟨l, xs, rfl, hx, rx⟩ := rp_lst q
    cases all_bls rx
    exact ⟨l, bs, rfl, SqL.of (g _ _ hx), k F H _ (Ex.refl _) R mk_bl⟩) (by decide) (by decide) he
theorem de_sum {ns : List Int} (hc : X.calm = true) (hm : X.mg "sum" = none) (ha : BE X O ρ a (.list (ns.map .int))) (hg : Gl X "sum" := by rfl) (he : starEach [a] X.env = (false, eval a X.env) :: starEach [] X.env := by rfl) : DE X O ρ (.Call (.Name "sum" p) [a] [] pos) (.int ns.sum) :=
  x_b1 (cr_sum hc) hg hm (by decide +kernel) ha (fun σ F H v Q R b k => by
    obtain ⟨G, _, g, q⟩ := b F H (Ex.refl _) R
    obtain ⟨l, xs, rfl, hx, rx⟩ := rp_lst q
    cases all_ints rx
    exact ⟨l, ns, rfl, SqL.of (g _ _ hx), k F H _ (Ex.refl _) R mk_int⟩) (by decide) (by decide) he
theorem de_strI (hm : X.mg "str" = none) (ha : BE X O ρ a (.int i)) (hl : i.natAbs.log2 < 1920) (hg : Gl X "str" := by rfl) (he : starEach [a] X.env = (false, eval a X.env) :: starEach [] X.env := by rfl) : DE X O ρ (.Call (.Name "str" p) [a] [] pos) (.str (toString i)) :=
  x_t1 call_str_int hg hm boot_str ha (fun σ F H v Q R b kk => ⟨i, by rw [rp_int (b.flat R rfl : Rp X.K F (.int i) v)], hl, kk F H _ (Ex.refl _) R mk_str⟩) (by decide) (by decide) he
theorem de_ord {z : Str} (hm : X.mg "ord" = none) (ha : BE X O ρ a (.str z)) (hl : z.length = 1) (hg : Gl X "ord" := by rfl) (he : starEach [a] X.env = (false, eval a X.env) :: starEach [] X.env := by rfl) : DE X O ρ (.Call (.Name "ord" p) [a] [] pos) (.int (z.cps.getD 0 0 : Nat)) :=
  x_b1 call_ord hg hm (by decide +kernel) ha (fun σ F H v Q R b kk => ⟨z, by rw [rp_str (b.flat R rfl : Rp X.K F (.str z) v)], hl, kk F H _ (Ex.refl _) R mk_int⟩) (by decide) (by decide) he
/-! isinstance with a built-in class -/
def tyN : D → String
  | .none => "NoneType"
  | .bool _ => "bool"
  | .int _ => "int"
  | .str _ => "str"
  | .list _ => "list"
  | .tuple _ => "tuple"
  | .dict _ => "list"
theorem tyx_of {K : Frg} {G H : Hp} {v : V} (r : Rp K G d v) (g : Ex G H) : TyX K H v (.type (tyN d)) := by
  cases d with
  | none => rw [rp_non r]; exact .base .non
  | bool => rw [rp_bl r]; exact .base (.bl _)
  | int => rw [rp_int r]; exact .base (.int _)
  | str => rw [rp_str r]; exact .base (.str _)
  | list => obtain ⟨a, xs, rfl, h, _⟩ := rp_lst r; exact .base (.lst (g _ _ h))
  | tuple =>
    obtain ⟨a, xs, rfl, h, _⟩ := rp_tup r
    rcases ex_t g h with (h | ⟨o, h⟩) | ⟨o, its, n, hk, hc, _⟩
    · exact .base (.tup h)
    · exact .fTuple h
    · exact .kTuple hk hc
  | dict =>
    unfold Rp at r
    obtain ⟨a, ns, rfl, h, _⟩ := r
    rcases ex_l g h with (h | ⟨o, h⟩) | ⟨o, its, n, hk, hc, _⟩
    · exact .base (.lst h)
    · exact .base (.frz h)
    · exact .kList hk hc
theorem de_isi {x : Str} {n : String} {p2 : Pos} (hm : X.mg "isinstance" = none) (hm2 : X.mg x = none) (hv : bootBuiltins x = some (.type n)) (ha : BE X O ρ a d) (hk : kitB (tyN d) n = some k) (hg : Gl X "isinstance" := by rfl) (hg2 : Gl X x := by rfl)
    (hn : x ≠ "__name__" := by decide) (hd : (x == ("__debug__" : Str)) = false := by decide)
    (he : starEach [a, .Name x p2] X.env = (false, eval a X.env) :: starEach [.Name x p2] X.env := by rfl) (he2 : starEach [.Name x p2] X.env = (false, eval (.Name x p2) X.env) :: starEach [] X.env := by rfl) (hpl : (backTo pos (starEach [.Name x p2] X.env)).any (·.1) = false := by rfl) :
    DE X O ρ (.Call (.Name "isinstance" p) [a, .Name x p2] [] pos) (.bool k) :=
  pe_mono (pe_callB (call_isi) hg hm (by decide +kernel) (pa_cons ha (pa_cons (pe_bltn (v := .ty n) hg2 hm2 hv rfl hn hd) pa_nil he2) he) (by decide) (by decide) he hpl) fun σ H Q ⟨F, R, kk⟩ => ⟨F, R, fun F1 H1 v e1 R1 b => by
    obtain ⟨G, _, g, q⟩ := b F1 H1 (Ex.refl _) R1
    exact ⟨v, .ty n, _, _, k, rfl, .ty n, tyx_of q g, kit_ty hk, kk F1 H1 _ e1 R1 mk_bl⟩⟩
/-! two arguments: min, max -/
theorem de_min2 (hc : X.calm = true) (hm : X.mg "min" = none) (ha : BE X O ρ a (.int i)) (hb : BE X O ρ b (.int j)) (hg : Gl X "min" := by rfl) (he : starEach [a, b] X.env = (false, eval a X.env) :: starEach [b] X.env := by rfl) (he2 : starEach [b] X.env = (false, eval b X.env) :: starEach [] X.env := by rfl) (hpl : (backTo pos (starEach [b] X.env)).any (·.1) = false := by rfl) :
    DE X O ρ (.Call (.Name "min" p) [a, b] [] pos) (.int (if j < i then j else i)) :=
  pe_mono (pe_callB (call_min2 hc) hg hm (by decide +kernel) (pa_cons ha (pa_cons hb pa_nil he2) he) (by decide) (by decide) he hpl) fun σ H Q ⟨F, R, kk⟩ => ⟨F, R, fun F1 H1 v e1 R1 b1 => ⟨F1, R1, fun F2 H2 u e2 R2 b2 => by
    cases rp_int ((b1.up e2).flat R2 rfl : Rp X.K F2 (.int i) v)
    cases rp_int (b2.flat R2 rfl : Rp X.K F2 (.int j) u)
    exact ⟨i, j, rfl, kk F2 H2 _ (e1.trans e2) R2 mk_int⟩⟩⟩
theorem de_max2 (hc : X.calm = true) (hm : X.mg "max" = none) (ha : BE X O ρ a (.int i)) (hb : BE X O ρ b (.int j)) (hg : Gl X "max" := by rfl) (he : starEach [a, b] X.env = (false, eval a X.env) :: starEach [b] X.env := by rfl) (he2 : starEach [b] X.env = (false, eval b X.env) :: starEach [] X.env := by rfl) (hpl : (backTo pos (starEach [b] X.env)).any (·.1) = false := by rfl) :
    DE X O ρ (.Call (.Name "max" p) [a, b] [] pos) (.int (if j > i then j else i)) :=
  pe_mono (pe_callB (call_max2 hc) hg hm (by decide +kernel) (pa_cons ha (pa_cons hb pa_nil he2) he) (by decide) (by decide) he hpl) fun σ H Q ⟨F, R, kk⟩ => ⟨F, R, fun F1 H1 v e1 R1 b1 => ⟨F1, R1, fun F2 H2 u e2 R2 b2 => by
    cases rp_int ((b1.up e2).flat R2 rfl : Rp X.K F2 (.int i) v)
    cases rp_int (b2.flat R2 rfl : Rp X.K F2 (.int j) u)
    exact ⟨i, j, rfl, kk F2 H2 _ (e1.trans e2) R2 mk_int⟩⟩⟩
/-! ### walks -/
theorem Walk.data {K : Frg} {F : Hp} {J : It} {G : Hp → Prop} {xs : List V} (w : Walk J xs.length G (YAt xs)) (r : RpAll K F ds xs) : Walk J ds.length G (fun i H x H' => H' = H ∧ ∃ d, ds[i]? = some d ∧ Rp K F d x) := by
  rw [all_len r]
  exact w.mono (fun _ h => h) fun i H x H' _ _ y => ⟨y.1, all_got r y.2⟩
theorem ie_lst (h : DE X O ρ a (.list ds)) : IE X O ρ tg a ds := pi_mono (pi_list h) fun σ H Q ⟨F, R, k⟩ => ⟨F, R, fun F1 H1 v e1 R1 r => by
  obtain ⟨l, xs, rfl, hx, rx⟩ := rp_lst r
  exact ⟨l, rfl, ⟨xs, SqL.of (R1.fh _ _ hx)⟩, k F1 H1 _ _ e1 R1 (Walk.data walk_list rx) fun H2 e => SqL.of (e _ _ hx)⟩⟩
theorem ie_tup (h : DE X O ρ a (.tuple ds)) : IE X O ρ tg a ds := pi_mono (pi_tup h) fun σ H Q ⟨F, R, k⟩ => ⟨F, R, fun F1 H1 v e1 R1 r => by
  obtain ⟨l, xs, rfl, hx, rx⟩ := rp_tup r
  exact ⟨l, rfl, ⟨xs, ex_t R1.fh hx⟩, k F1 H1 _ _ e1 R1 (Walk.data walk_tup rx) fun H2 e => ex_t e hx⟩⟩
theorem ie_scr {ns : List Int} (h : BE X O ρ a (scr ns)) (hD : ∀ F H σ v, Rel X.K O F ρ σ H → Bor X.K O ρ σ F v (scr ns) → Rp X.K F (scr ns) v) : IE X O ρ tg a (ns.map .int) := pi_mono (pi_list h) fun σ H Q ⟨F, R, k⟩ => ⟨F, R, fun F1 H1 v e1 R1 b => by
  obtain ⟨l, rfl, hx⟩ := rp_scr (hD _ _ _ _ R1 b)
  exact ⟨l, rfl, ⟨_, ex_l R1.fh hx⟩, k F1 H1 _ _ e1 R1 (Walk.data walk_list mk_ints) fun H2 e => ex_l e hx⟩⟩
/-- 0, 1, .. below n -/
def upTo (n : Nat) : List D := (List.range n).map fun k => .int (k : Nat)
def fromTo (lo : Int) (n : Nat) : List D := (List.range n).map fun k => .int (lo + (k : Nat))
theorem upTo_len (n : Nat) : (upTo n).length = n := by unfold upTo; rw [List.length_map, List.length_range]
theorem fromTo_len (lo : Int) (n : Nat) : (fromTo lo n).length = n := by unfold fromTo; rw [List.length_map, List.length_range]
theorem upTo_get {n k : Nat} (h : k < n) : (upTo n)[k]? = some (.int (k : Nat)) := by unfold upTo; rw [List.getElem?_map, List.getElem?_range h]; rfl
theorem fromTo_get {lo : Int} {n k : Nat} (h : k < n) : (fromTo lo n)[k]? = some (.int (lo + (k : Nat))) := by unfold fromTo; rw [List.getElem?_map, List.getElem?_range h]; rfl
theorem ie_rng (hm : X.mg "range" = none) (ha : BE X O ρ a (.int i)) (h : -(2 ^ 62) ≤ i ∧ i < 2 ^ 62) (hg : Gl X "range" := by rfl) (he : starEach [a] X.env = (false, eval a X.env) :: starEach [] X.env := by rfl) (hs : starEach [a] X.env = [(false, eval a X.env)] := by rfl) : IE X O ρ tg (.Call (.Name "range" p) [a] [] pos) (upTo i.toNat) :=
  pi_mono (pi_range1 hg hm (pa_cons ha pa_nil he) hs) fun σ H Q ⟨F, R, k⟩ => ⟨F, R, fun F1 H1 v e1 R1 b => by
    cases rp_int (b.flat R1 rfl : Rp X.K F1 (.int i) v)
    refine ⟨i, rfl, h.1, h.2, k F1 H1 _ (fun _ => True) e1 R1 ?_ fun _ _ => trivial⟩
    rw [upTo_len]
    exact walk_range.mono (fun _ h => h) fun n H x H' hn _ y => ⟨y.1, _, upTo_get hn, by rw [y.2]; show Rp X.K F1 _ (V.int (0 + (n : Int))); rw [Int.zero_add]; exact mk_int⟩⟩
theorem ie_rng2 (hm : X.mg "range" = none) (ha : BE X O ρ a (.int i)) (hb : BE X O ρ b (.int j)) (h : -(2 ^ 62) ≤ i ∧ i < 2 ^ 62 ∧ -(2 ^ 62) ≤ j ∧ j < 2 ^ 62) (hg : Gl X "range" := by rfl) (he : starEach [a, b] X.env = (false, eval a X.env) :: starEach [b] X.env := by rfl) (he2 : starEach [b] X.env = (false, eval b X.env) :: starEach [] X.env := by rfl)
    (hs : starEach [a, b] X.env = [(false, eval a X.env), (false, eval b X.env)] := by rfl) (hs2 : starEach [b] X.env = [(false, eval b X.env)] := by rfl) : IE X O ρ tg (.Call (.Name "range" p) [a, b] [] pos) (fromTo i (j - i).toNat) :=
  pi_mono (pi_range2 hg hm (pa_cons ha (pa_cons hb pa_nil he2) he) hs hs2) fun σ H Q ⟨F, R, k⟩ => ⟨F, R, fun F1 H1 v e1 R1 b1 => ⟨F1, R1, fun F2 H2 u e2 R2 b2 => by
    cases rp_int ((b1.up e2).flat R2 rfl : Rp X.K F2 (.int i) v)
    cases rp_int (b2.flat R2 rfl : Rp X.K F2 (.int j) u)
    refine ⟨i, j, rfl, h, k F2 H2 _ (fun _ => True) (e1.trans e2) R2 ?_ fun _ _ => trivial⟩
    rw [fromTo_len]
    exact walk_range.mono (fun _ h => h) fun n H x H' hn _ y => ⟨y.1, _, fromTo_get hn, by rw [y.2]; exact mk_int⟩⟩⟩
/-- the signs of a text, each a text -/
def signs (z : Str) : List D := z.cps.toList.map fun c => .str ⟨#[c]⟩
theorem ie_str {z : Str} (h : BE X O ρ a (.str z)) : IE X O ρ tg a (signs z) := pi_mono (pi_str h) fun σ H Q ⟨F, R, k⟩ => ⟨F, R, fun F1 H1 v e1 R1 b => by
  cases rp_str (b.flat R1 rfl : Rp X.K F1 (.str z) v)
  refine ⟨z, rfl, k F1 H1 _ (fun _ => True) e1 R1 ?_ fun _ _ => trivial⟩
  have hl : (signs z).length = z.cps.size := by unfold signs; rw [List.length_map, Array.length_toList]
  rw [hl]
  refine walk_str.mono (fun _ h => h) fun n H x H' hn _ y => ?_
  obtain ⟨y1, c, y2, y3⟩ := y
  refine ⟨y1, .str ⟨#[c]⟩, ?_, by rw [y3]; exact mk_str⟩
  unfold signs
  rw [List.getElem?_map, Array.getElem?_toList, y2]; rfl⟩
end
/-! ### comprehensions -/
theorem Rel.wipe {K : Frg} {O F H : Hp} {ρ : List Sl} {σ : Sg} {n : Nat} (R : Rel K O F ρ σ H) : Rel K O F (ρ.set n .no) (wipe σ [n]) H :=
  R.set1 (wipe_length _ _) (fun j h => by show (σ.set n none)[j]? = _; exact set_ne? h) (fun _ => trivial) fun _ _ _ _ _ h => absurd h List.not_mem_nil
theorem Rel.oMut {K : Frg} {O F H : Hp} {ρ : List Sl} {σ : Sg} {Dl : Addr} {o o' : HO} (R : Rel K (upd O Dl o) F ρ σ H) : Rel K (upd O Dl o') F ρ σ (upd H Dl o') :=
  have nb : ∀ (j : Nat) s q, ρ[j]? = some s → q ∈ owns s → q ≠ Dl := fun j s q z hq x => by
    have h := (R.has z hq).2.1
    rw [x, upd_same] at h; cases h
  R.mv (Ex.refl F) (R.fh.mut (R.dis Dl o upd_same)) (fun b u e => by
    by_cases z : b = Dl
    · subst z; rw [upd_same] at e ⊢; exact e
    · rw [upd_ne z] at e ⊢; exact R.oh b u (by rw [upd_ne z]; exact e)) (fun b u e => by
    by_cases z : b = Dl
    · subst z; exact R.dis b o upd_same
    · rw [upd_ne z] at e; exact R.dis b u (by rw [upd_ne z]; exact e)) (fun j s q z hq u e => by rw [upd_ne (nb j s q z hq)]; exact e) (fun j s q z hq => (R.has z hq).1) fun j s q z hq => by
    have h := (R.has z hq).2.1
    rw [upd_ne (nb j s q z hq)] at h ⊢; exact h
theorem Rel.addO {K : Frg} {O F H : Hp} {ρ : List Sl} {σ : Sg} {Dl : Addr} {o : HO} (R : Rel K O F ρ σ H) (h : H Dl = none) : Rel K (upd O Dl o) F ρ σ (upd H Dl o) :=
  have nb : ∀ (j : Nat) s q, ρ[j]? = some s → q ∈ owns s → q ≠ Dl := fun j s q z hq x => by
    obtain ⟨_, _, u, e⟩ := R.has z hq
    rw [x, h] at e; cases e
  R.mv (Ex.refl F) (R.fh.trans (Ex.new h)) R.oh.both (fun b u e => by
    by_cases z : b = Dl
    · subst z; exact R.fh.back h
    · rw [upd_ne z] at e; exact R.dis b u e) (fun j s q z hq u e => by rw [upd_ne (nb j s q z hq)]; exact e) (fun j s q z hq => (R.has z hq).1) fun j s q z hq => by
    rw [upd_ne (nb j s q z hq)]; exact (R.has z hq).2.1
theorem Rel.subO {K : Frg} {O F H : Hp} {ρ : List Sl} {σ : Sg} {Dl : Addr} {o : HO} (R : Rel K (upd O Dl o) F ρ σ H) (h : O Dl = none) : Rel K O F ρ σ H :=
  R.mv (Ex.refl F) R.fh (fun b u e => R.oh b u (by rw [upd_ne (ne_of_none e h)]; exact e)) (fun b u e => R.dis b u (by rw [upd_ne (ne_of_none e h)]; exact e)) (fun j s q z hq u e => e) (fun j s q z hq => (R.has z hq).1) fun j s q z hq => by
    have g := (R.has z hq).2.1
    by_cases x : q = Dl
    · rw [x, upd_same] at g; cases g
    · rw [upd_ne x] at g; exact g
/-- q is a slot's -/
def Own (ρ : List Sl) (q : Addr) : Prop := ∃ (m : Nat) (s : Sl), ρ[m]? = some s ∧ q ∈ owns s
/-- the slots' own lists, joined to the callers' -/
noncomputable def allO (ρ : List Sl) (O H : Hp) : Hp := open Classical in fun b => if Own ρ b then H b else O b
theorem allO_ow {ρ : List Sl} {O H : Hp} {b : Addr} (h : Own ρ b) : allO ρ O H b = H b := if_pos h
theorem allO_no {ρ : List Sl} {O H : Hp} {b : Addr} (h : ¬ Own ρ b) : allO ρ O H b = O b := if_neg h
/-- the words of the slots without their own lists -/
def pureS : Sl → Sl
  | .ow _ _ => .no
  | .st _ _ => .no
  | s => s
def pure' : List Sl → List Sl := List.map fun s => match s with
  | .ow _ _ => .no
  | .st _ _ => .no
  | s => s
theorem pure_get {ρ : List Sl} {m : Nat} {s : Sl} (h : (pure' ρ)[m]? = some s) : ∃ s', ρ[m]? = some s' ∧ s = pureS s' := by
  unfold pure' at h
  rw [List.getElem?_map] at h
  cases e : ρ[m]? with
  | none => rw [e] at h; cases h
  | some s' => rw [e] at h; exact ⟨s', rfl, by cases s' <;> exact (Option.some.inj h).symm⟩
theorem pure_own {ρ : List Sl} {m : Nat} {s : Sl} {q : Addr} (h : (pure' ρ)[m]? = some s) (hq : q ∈ owns s) : False := by
  obtain ⟨s', _, rfl⟩ := pure_get h
  cases s' <;> exact absurd hq List.not_mem_nil
theorem Rel.toAll {K : Frg} {O F H : Hp} {ρ : List Sl} {σ : Sg} (R : Rel K O F ρ σ H) : Rel K (allO ρ O H) F (pure' ρ) σ H where
  len := by unfold pure'; rw [List.length_map]; exact R.len
  fh := R.fh
  oh := fun b u e => by
    by_cases z : Own ρ b
    · rw [allO_ow z] at e; exact e
    · rw [allO_no z] at e; exact R.oh b u e
  dis := fun b u e => by
    by_cases z : Own ρ b
    · obtain ⟨m, s, z, hq⟩ := z; exact (R.has z hq).1
    · rw [allO_no z] at e; exact R.dis b u e
  sl := fun m s e => by
    obtain ⟨s', e', rfl⟩ := pure_get e
    have q := R.sl m s' e'
    cases s' with
    | no => trivial
    | va d => exact q
    | rw v φ => exact q
    | ow b ds => trivial
    | st v μ => trivial
  ap := fun m n s t q _ e1 _ h1 _ => pure_own e1 h1
/-- back from there, at a later heap -/
theorem Rel.ofAll {K : Frg} {O F F' H H' : Hp} {ρ ρ' : List Sl} {σ σ' : Sg} (R0 : Rel K O F ρ σ H) (R : Rel K (allO ρ O H) F' ρ' σ' H') (e : Ex F F') : Rel K O F' ρ σ H' :=
  have no : ∀ b u, O b = some u → ¬ Own ρ b := fun b u z ⟨m, s, h, hq⟩ => by rw [(R0.has h hq).2.1] at z; cases z
  have st : ∀ (j : Nat) s q, ρ[j]? = some s → q ∈ owns s → ∃ o, H q = some o ∧ allO ρ O H q = some o := fun j s q z hq => by
    obtain ⟨_, _, o, h⟩ := R0.has z hq
    exact ⟨o, h, by rw [allO_ow ⟨j, s, z, hq⟩]; exact h⟩
  R0.mv e R.fh (fun b u z => R.oh b u (by rw [allO_no (no b u z)]; exact z)) (fun b u z => R.dis b u (by rw [allO_no (no b u z)]; exact z))
    (fun j s q z hq u h => by
      obtain ⟨o, h1, h2⟩ := st j s q z hq
      rw [h1] at h; cases h
      exact R.oh q _ h2) (fun j s q z hq => by
      obtain ⟨o, h1, h2⟩ := st j s q z hq
      exact R.dis q _ h2) fun j s q z hq => (R0.has z hq).2.1
theorem NewL.ofAll {K : Frg} {O F F' H H' : Hp} {ρ ρ' : List Sl} {σ : Sg} {v : V} (R0 : Rel K O F ρ σ H) (h : NewL K (allO ρ O H) ρ' F' H' v ds) : NewL K O ρ F' H' v ds := by
  obtain ⟨p, xs, rfl, f, o, _, hp, r⟩ := h
  have na : ¬ Own ρ p := fun z => by
    rw [allO_ow z] at o
    obtain ⟨m, s, z, hq⟩ := z
    obtain ⟨_, _, u, e⟩ := R0.has z hq
    rw [e] at o; cases o
  exact ⟨p, xs, rfl, f, by rw [allO_no na] at o; exact o, fun j s e hq => na ⟨j, s, e, hq⟩, hp, r⟩
end
end DL

namespace DL
open PySem PySem.Spec PyProof.Rows L2
section
variable {X : Cx} {O : Hp} {ρ ρ' : List Sl} {e a b c tg : Expr} {es : List Expr} {d : D} {ds ds' : List D} {pos : Pos} {i j : Int} {k : Bool}
theorem Rel.swap {K : Frg} {O0 F0 H0 O F H : Hp} {ρ' : List Sl} {σ σ' : Sg} (R0 : Rel K O0 F0 (pure' ρ) σ H0) (R : Rel K O F ρ' σ' H) (e : Ex F0 F) : Rel K O F (pure' ρ) σ H :=
  R0.mv e R.fh R.oh R.dis (fun j s q z hq => (pure_own z hq).elim) (fun j s q z hq => (pure_own z hq).elim) fun j s q z hq => (pure_own z hq).elim
theorem fm_succ {α : Type} (n : Nat) (f : Nat → Option α) : (List.range (n + 1)).filterMap f = (List.range n).filterMap f ++ (f n).toList := by
  rw [List.range_succ, List.filterMap_append]
  cases h : f n with
  | none => simp [h]
  | some x => simp [h]
theorem fm_len {α : Type} (f : Nat → Option α) : ∀ n, ((List.range n).filterMap f).length ≤ n
  | 0 => Nat.le_refl _
  | n + 1 => by
    rw [fm_succ, List.length_append]
    have h := fm_len f n
    cases f n with
    | none => show _ + 0 ≤ _; omega
    | some x => show _ + 1 ≤ _; omega
theorem fm_get {α : Type} (l : List α) : (List.range l.length).filterMap (fun k => l[k]?) = l := by
  have h : ∀ n, n ≤ l.length → (List.range n).filterMap (fun k => l[k]?) = l.take n := fun n => by
    induction n with
    | zero => intro _; rfl
    | succ n ih =>
      intro hn
      rw [fm_succ, ih (by omega), List.take_add_one]
  rw [h _ (Nat.le_refl _), List.take_length]
def lcT (K : Frg) (ρ : List Sl) (n : Nat) (ds : List D) (sel : Nat → Option D) : TT := fun σ H Q => ∃ (k : Nat) (d : D) (O' : Hp), ds[k]? = some d ∧ tTT K O' ((pure' ρ).set n (.va d)) (sel k).isSome σ H Q
def lcE (K : Frg) (ρ : List Sl) (n : Nat) (ds : List D) (sel : Nat → Option D) : TE := fun σ H Q => ∃ (k : Nat) (d e : D) (O' : Hp), ds[k]? = some d ∧ sel k = some e ∧ tX K O' ((pure' ρ).set n (.va d)) ((pure' ρ).set n (.va d)) (PD K e) σ H Q
theorem lc_read {K : Frg} {n : Nat} {sel : Nat → Option D} (hz : ds.length ≤ 16777215) : ∀ σ H Q, tX K O ρ ρ (PN K O ρ ((List.range ds.length).filterMap sel)) σ H Q → tLc (tI K O ρ ds) (gName n) (lcT K ρ n ds sel) (lcE K ρ n ds sel) [n] σ H Q := by
  intro σ H Q ⟨F, R, kk⟩
  refine ⟨F, R, fun F1 H1 J G e1 R1 w hG Dl hD => ?_⟩
  have RA := R1.toAll
  have oD : allO ρ O H1 Dl = none := RA.oh.back hD
  refine lc_it (g := gName n) (tt := lcT K ρ n ds sel) (te := lcE K ρ n ds sel) (vs := [n]) (σ := σ) (Qd := fun H => Q (.ref Dl) H) w (fun i H' => ∃ F' acc, Ex F1 F' ∧ Rel K (upd (allO ρ O H1) Dl (.lst acc)) F' (pure' ρ) σ H' ∧ RpAll K F' ((List.range i).filterMap sel) acc) ⟨F1, [], Ex.refl _, RA.addO hD, mk_nil⟩ (fun i H' _ h => ?_) (fun i x' H' H'' hi h y => ?_) fun H' h => ?_
  · obtain ⟨F', acc, e', R', _⟩ := h
    exact hG H' (e'.trans R'.fh)
  · obtain ⟨F', acc, e', R', ra⟩ := h
    obtain ⟨eH, d, hd, rd⟩ := y
    subst eH
    have Rw : Rel K (upd (allO ρ O H1) Dl (.lst acc)) F' ((pure' ρ).set n (.va d)) ((wipe σ [n]).set n (some x')) H'' := by
      have q := (R'.wipe (n := n)).setVa (i := n) (rd.mono e')
      rw [List.set_set] at q
      exact q
    refine ⟨?_, i, d, _, hd, F', Rw, fun F2 H2 e2 R2 => ?_⟩
    · show (((σ.set n none).set n (some x')).set n none) = σ.set n none
      rw [List.set_set, List.set_set]
    · cases hsel : sel i with
      | none =>
        show ∃ F' acc, _
        exact ⟨F2, acc, e'.trans e2, RA.swap R2 (e'.trans e2), by rw [fm_succ, hsel]; simpa using RpAll.mono e2 ra⟩
      | some e0 =>
        refine ⟨i, d, e0, _, hd, hsel, F2, R2, fun F3 H3 y e3 R3 ry => ⟨acc, R3.oh Dl _ upd_same, ?_, F3, acc ++ [y], (e'.trans e2).trans e3, RA.swap R3.oMut ((e'.trans e2).trans e3), ?_⟩⟩
        · rw [← all_len ra]
          have := fm_len sel i
          exact sz_lt (by omega)
        · rw [fm_succ, hsel]
          exact all_app (RpAll.mono (e2.trans e3) ra) (mk_cons ry mk_nil)
  · obtain ⟨F', acc, e', R', ra⟩ := h
    have R2 := R1.ofAll (R'.subO oD) e'
    exact kk F' H' _ (e1.trans e') R2 ⟨Dl, acc, rfl, R'.dis Dl _ upd_same, R1.oh.back hD, R1.fresh_apart hD, R'.oh Dl _ upd_same, ra⟩
/-- a comprehension of one clause, the target a name -/
theorem ne_lcF {n : Nat} {x : Str} {px : Pos} {iter elt : Expr} {ifs : List Expr} {scope : Scope} (hc : X.calm = true) (hN : X.N.Nodup) (hi : IE X O ρ (.Name x px) iter ds) (ok : BlkOk X.N X.env.scope scope [(x, n)]) (sel : Nat → Option D)
    (hg : ∀ (s : Shared) (H : Hp) (C : Addr) (cl : List (Str × Addr)) (fp : List Addr), PG (X.blk s H scope (compEnvC scope cl C X.env) fp) (.Name x px) (gName n))
    (ht : ∀ (k : Nat) d, ds[k]? = some d → ∀ (s : Shared) (H : Hp) (C : Addr) (cl : List (Str × Addr)) (fp : List Addr) (O' : Hp), PTs (X.blk s H scope (compEnvC scope cl C X.env) fp) ifs (tTT X.K O' ((pure' ρ).set n (.va d)) (sel k).isSome))
    (he : ∀ (k : Nat) d e, ds[k]? = some d → sel k = some e → ∀ (s : Shared) (H : Hp) (C : Addr) (cl : List (Str × Addr)) (fp : List Addr) (O' : Hp), DE (X.blk s H scope (compEnvC scope cl C X.env) fp) O' ((pure' ρ).set n (.va d)) elt e)
    (hz : ds.length ≤ 16777215) (hs : ∀ y, foldedSetIterable iter X.env y = pure y := by intro _; rfl) : NE X O ρ (.ListComp elt [⟨.Name x px, iter, ifs, 0⟩] scope pos) ((List.range ds.length).filterMap sel) := by
  exact pe_mono (pe_lc (own := [(x, n)]) (g := gName n) (tt := lcT X.K ρ n ds sel) (te := lcE X.K ρ n ds sel)
    hc hN hi ok hg (fun s H C cl fp => ⟨fun pins s' σ H' Q I ⟨k, d, O', h1, h2⟩ => (ht k d h1 s H C cl fp O').run pins s' σ H' Q I h2⟩)
    (fun s H C cl fp => ⟨fun pins s' σ H' Q I ⟨k, d, e, O', h1, h2, h3⟩ => (he k d e h1 h2 s H C cl fp O').run pins s' σ H' Q I h3⟩) hs) (lc_read hz)
/-- .. without a test -/
theorem ne_lc {n : Nat} {x : Str} {px : Pos} {iter elt : Expr} {scope : Scope} {rs : List D} (hc : X.calm = true) (hN : X.N.Nodup) (hi : IE X O ρ (.Name x px) iter ds) (ok : BlkOk X.N X.env.scope scope [(x, n)])
    (hg : ∀ (s : Shared) (H : Hp) (C : Addr) (cl : List (Str × Addr)) (fp : List Addr), PG (X.blk s H scope (compEnvC scope cl C X.env) fp) (.Name x px) (gName n))
    (hl : rs.length = ds.length) (he : ∀ (k : Nat) d e, ds[k]? = some d → rs[k]? = some e → ∀ (s : Shared) (H : Hp) (C : Addr) (cl : List (Str × Addr)) (fp : List Addr) (O' : Hp), DE (X.blk s H scope (compEnvC scope cl C X.env) fp) O' ((pure' ρ).set n (.va d)) elt e)
    (hz : ds.length ≤ 16777215) (hs : ∀ y, foldedSetIterable iter X.env y = pure y := by intro _; rfl) : NE X O ρ (.ListComp elt [⟨.Name x px, iter, [], 0⟩] scope pos) rs := by
  have h := ne_lcF (ifs := []) (pos := pos) hc hN hi ok (fun k => rs[k]?) hg (fun k d hd s H C cl fp O' => ?_) he hz hs
  · rw [← hl, fm_get] at h
    exact h
  · have hk : k < rs.length := by rw [hl]; exact (List.getElem?_eq_some_iff.mp hd).1
    rw [show (rs[k]?).isSome = true by rw [List.getElem?_eq_getElem hk]; rfl]
    exact ⟨fun pins s' σ H' Q I ⟨F, R, q⟩ => pts_nil.run pins s' σ H' Q I (q F H' (Ex.refl _) R)⟩
/-- .. over xs, by f -/
theorem ne_lcM {α : Type} {xs : List α} {f g : α → D} {n : Nat} {x : Str} {px : Pos} {iter elt : Expr} {scope : Scope} (hc : X.calm = true) (hN : X.N.Nodup) (hi : IE X O ρ (.Name x px) iter (xs.map f)) (ok : BlkOk X.N X.env.scope scope [(x, n)])
    (hg : ∀ (s : Shared) (H : Hp) (C : Addr) (cl : List (Str × Addr)) (fp : List Addr), PG (X.blk s H scope (compEnvC scope cl C X.env) fp) (.Name x px) (gName n))
    (he : ∀ z ∈ xs, ∀ (s : Shared) (H : Hp) (C : Addr) (cl : List (Str × Addr)) (fp : List Addr) (O' : Hp), DE (X.blk s H scope (compEnvC scope cl C X.env) fp) O' ((pure' ρ).set n (.va (f z))) elt (g z))
    (hz : xs.length ≤ 16777215) (hs : ∀ y, foldedSetIterable iter X.env y = pure y := by intro _; rfl) : NE X O ρ (.ListComp elt [⟨.Name x px, iter, [], 0⟩] scope pos) (xs.map g) :=
  ne_lc hc hN hi ok hg (by rw [List.length_map, List.length_map]) (fun k d e h1 h2 => by
    rw [List.getElem?_map] at h1 h2
    cases q : xs[k]? with
    | none => rw [q] at h1; cases h1
    | some z =>
      rw [q] at h1 h2
      cases h1; cases h2
      exact he z (List.mem_of_getElem? q)) (by rw [List.length_map]; exact hz) hs
end
/-! ### what a def promises, in data -/
inductive Er where
  /-- an error of the class at C | with the value f, a whole number -/
  | pl (C : Addr) | fl (C : Addr) (f : Str) (k : Int)
inductive Out where
  | ok (d : D) | nw (ds : List D) | er (e : Er)
  /-- a tuple of a new list and data -/
  | tn (d0 ds : List D)
def ErOk (F : Hp) : Er → Value → Option Addr → Prop
  | .pl C, cls, od => cls = .ref C ∧ od = none
  | .fl C f k, cls, od => cls = .ref C ∧ ∃ a, od = some a ∧ F a = some (.xd [(f, .int k)])
def RvOk (K : Frg) (O : Hp) (ρ : List Sl) (F H : Hp) (v : V) : Out → Prop
  | .ok d => Rp K F d v
  | .nw ds => NewL K O ρ F H v ds
  | .er _ => False
  | .tn d0 ds => ∃ q, NewL K O ρ F H (.ref q) d0 ∧ ∃ a us, v = .ref a ∧ SqT K F a (.ref q :: us) ∧ RpAll K F ds us
/-- S: the arguments' words ahead of it, behind it, and how it ends -/
def spF (K : Frg) (S : List Sl → List Sl → Out → Prop) : Sp := fun vs H Q E => ∃ O F ρa ρb out, Rel K O F ρa (vs.map some) H ∧ S ρa ρb out ∧
  (∀ F' H' v, Ex F F' → Rel K O F' ρb (vs.map some) H' → RvOk K O ρb F' H' v out → Q v H') ∧
  (∀ e, out = .er e → ∀ F' H' cls od, Ex F F' → Rel K O F' ρb (vs.map some) H' → ErOk F' e cls od → E cls od H')
/-- a def that changes nothing -/
def Pu (f : List D → Out → Prop) : List Sl → List Sl → Out → Prop := fun ρa ρb o => ∃ ds : List D, ρa = ds.map .va ∧ ρb = ds.map .va ∧ f ds o
structure HasS (P : Program) (w : World) (K : Frg) (mg : Str → Option Value) (base : Heap) (x : Str) (k : Nat) (S : List Sl → List Sl → Out → Prop) : Prop where
  ex : ∃ (fa : Addr) (fd : FuncData) (ps : List Str), mg x = some (.ref fa) ∧ PySem.W.keepIn K (.ref fa) = true ∧ Binds K fd ps [] ∧ FnOk P w K mg base (L2.CX P w) k fa fd ps (spF K S)
abbrev Has (P : Program) (w : World) (K : Frg) (mg : Str → Option Value) (base : Heap) (x : Str) (k : Nat) (f : List D → Out → Prop) : Prop := HasS P w K mg base x k (Pu f)
theorem HasS.mono {P : Program} {w : World} {K : Frg} {mg : Str → Option Value} {base : Heap} {x : Str} {k k' : Nat} {S : List Sl → List Sl → Out → Prop} (h : HasS P w K mg base x k S) (l : k ≤ k') : HasS P w K mg base x k' S :=
  let ⟨fa, fd, ps, a, b, c, F⟩ := h.ex
  ⟨fa, fd, ps, a, b, c, F.mono l⟩
/-- an error comes of it -/
def tR (K : Frg) (O : Hp) (W : WX) (ρ : List Sl) (er : Er) : Sg → Hp → Prop := fun σ H => ∃ F, Rel K O F ρ σ H ∧ ∀ F' H' cls od, Ex F F' → Rel K O F' ρ σ H' → ErOk F' er cls od → W cls od σ H'
def DR (X : Cx) (O : Hp) (W : WX) (ρ : List Sl) (e : Expr) (er : Er) : Prop := PE X e (fun σ H _ => tR X.K O W ρ er σ H)
def AR (X : Cx) (O : Hp) (W : WX) (ρ : List Sl) (es : List Expr) (er : Er) : Prop := PA X es (fun σ H _ => tR X.K O W ρ er σ H)
section
variable {X : Cx} {O : Hp} {W : WX} {ρ ρ' : List Sl} {e a b c tg : Expr} {es : List Expr} {d : D} {ds ds' : List D} {pos : Pos} {i j : Int} {k : Bool} {er : Er}
theorem rel_args {K : Frg} {O F H : Hp} : ∀ {ds : List D} {vs : List V}, RpAll K F ds vs → Ex F H → Ex O H → (∀ a o, O a = some o → F a = none) → Rel K O F (ds.map .va) (vs.map some) H := fun {ds vs} r e eo di =>
  ⟨by rw [List.length_map, List.length_map, all_len r], e, eo, di, fun m s h => by
    rw [List.getElem?_map] at h
    cases q : ds[m]? with
    | none => rw [q] at h; cases h
    | some d =>
      rw [q] at h
      obtain rfl : s = Sl.va d := (Option.some.inj h).symm
      obtain ⟨v, h1, h2⟩ := all_get r q
      exact ⟨v, by rw [List.getElem?_map, h1]; rfl, h2⟩, fun m n s t q _ h _ h1 _ => by
    rw [List.getElem?_map] at h
    cases z : ds[m]? with
    | none => rw [z] at h; cases h
    | some d =>
      rw [z] at h
      obtain rfl : s = Sl.va d := (Option.some.inj h).symm
      exact absurd h1 List.not_mem_nil⟩
theorem passL' {X : Cx} : Passes (L2.CX X.prog X.w) X E0 := passL
/-- a call: what comes back, from what the callee says of out -/
theorem x_call {x : Str} {p : Pos} {n : Nat} {S : List D → Out → Prop} {out : Out} {P : Sg → Hp → Hp → V → Prop} (G : Has X.prog X.w X.K X.mg X.base x n S) (hr : Room n X.A) (ha : AD X O ρ (a :: es) ds) (hS : S ds out) (ne : ∀ e, out ≠ .er e)
    (hP2 : ∀ σ F H F' H' v, Rel X.K O F ρ σ H → Rel X.K O F' ρ σ H' → RvOk X.K (allO ρ O H) (ds.map .va) F' H' v out → P σ F' H' v) (hg : Gl X x := by rfl) (hdb : (x == ("__debug__" : Str)) = false := by decide)
    (he : starEach (a :: es) X.env = (false, eval a X.env) :: starEach es X.env := by rfl) (hpl : (backTo pos (starEach es X.env)).any (·.1) = false := by rfl) : PE X (.Call (.Name x p) (a :: es) [] pos) (tX X.K O ρ ρ P) := by
  obtain ⟨fa, fd, ps, hm, hk, hb, F⟩ := G.ex
  refine pe_mono (pe_call F hr hg hm hk hb .nil (E := E0) passL' ha hdb he hpl) fun σ H Q ⟨F0, R, kk⟩ => ⟨F0, R, fun F1 H1 vs e1 R1 rs => ?_⟩
  show spF X.K (Pu S) (vs ++ []) H1 Q E0
  rw [List.append_nil]
  refine ⟨allO ρ O H1, F1, ds.map .va, ds.map .va, out, rel_args rs R1.fh R1.toAll.oh R1.toAll.dis, ⟨ds, rfl, rfl, hS⟩, fun F2 H2 v e2 R2 rv => ?_, fun e z => absurd z (ne e)⟩
  have R3 := R1.ofAll R2 e2
  exact kk F2 H2 v (e1.trans e2) R3 (hP2 σ F1 H1 F2 H2 v R1 R3 rv)
theorem de_call {x : Str} {p : Pos} {n : Nat} {S : List D → Out → Prop} (G : Has X.prog X.w X.K X.mg X.base x n S) (hr : Room n X.A) (ha : AD X O ρ (a :: es) ds) (hS : S ds (.ok d)) (hg : Gl X x := by rfl) (hdb : (x == ("__debug__" : Str)) = false := by decide)
    (he : starEach (a :: es) X.env = (false, eval a X.env) :: starEach es X.env := by rfl) (hpl : (backTo pos (starEach es X.env)).any (·.1) = false := by rfl) : DE X O ρ (.Call (.Name x p) (a :: es) [] pos) d :=
  x_call G hr ha hS nofun (fun σ F H F' H' v _ _ rv => rv) hg hdb he hpl
theorem ne_call {x : Str} {p : Pos} {n : Nat} {S : List D → Out → Prop} (G : Has X.prog X.w X.K X.mg X.base x n S) (hr : Room n X.A) (ha : AD X O ρ (a :: es) ds) (hS : S ds (.nw ds')) (hg : Gl X x := by rfl) (hdb : (x == ("__debug__" : Str)) = false := by decide)
    (he : starEach (a :: es) X.env = (false, eval a X.env) :: starEach es X.env := by rfl) (hpl : (backTo pos (starEach es X.env)).any (·.1) = false := by rfl) : NE X O ρ (.Call (.Name x p) (a :: es) [] pos) ds' :=
  x_call G hr ha hS nofun (fun σ F H F' H' v R _ rv => NewL.ofAll R rv) hg hdb he hpl
/-- .. its arguments may be own lists, where what comes back leans on none -/
theorem x_callB {x : Str} {p : Pos} {n : Nat} {S : List D → Out → Prop} {out : Out} {P : Sg → Hp → Hp → V → Prop} (G : Has X.prog X.w X.K X.mg X.base x n S) (hr : Room n X.A) (ha : AB X O ρ (a :: es) ds) (hS : S ds out) (ne : ∀ e, out ≠ .er e)
    (hP2 : ∀ σ F H F' H' v, Rel X.K O F ρ σ H → Rel X.K O F ρ σ H' → Ex H F' → Ex F' H' → RvOk X.K (fun _ => none) (ds.map .va) F' H' v out → P σ F H' v) (hg : Gl X x := by rfl) (hdb : (x == ("__debug__" : Str)) = false := by decide)
    (he : starEach (a :: es) X.env = (false, eval a X.env) :: starEach es X.env := by rfl) (hpl : (backTo pos (starEach es X.env)).any (·.1) = false := by rfl) : PE X (.Call (.Name x p) (a :: es) [] pos) (tX X.K O ρ ρ P) := by
  obtain ⟨fa, fd, ps, hm, hk, hb, F⟩ := G.ex
  refine pe_mono (pe_call F hr hg hm hk hb .nil (E := E0) passL' ha hdb he hpl) fun σ H Q ⟨F0, R, kk⟩ => ⟨F0, R, fun F1 H1 vs e1 R1 rs => ?_⟩
  show spF X.K (Pu S) (vs ++ []) H1 Q E0
  rw [List.append_nil]
  refine ⟨fun _ => none, H1, ds.map .va, ds.map .va, out, rel_args (rs.got R1) (Ex.refl _) (fun _ _ z => by cases z) (fun _ _ z => by cases z), ⟨ds, rfl, rfl, hS⟩, fun F2 H2 v e2 R2 rv => ?_, fun e z => absurd z (ne e)⟩
  have eH : Ex H1 H2 := e2.trans R2.fh
  have R3 : Rel X.K O F1 ρ σ H2 := R1.mv (Ex.refl _) (R1.fh.trans eH) (R1.oh.trans eH) R1.dis (fun j s q z hq u h => eH _ _ h) (fun j s q z hq => (R1.has z hq).1) fun j s q z hq => (R1.has z hq).2.1
  exact kk F1 H2 v e1 R3 (hP2 σ F1 H1 F2 H2 v R1 R3 e2 R2.fh rv)
theorem de_callB {x : Str} {p : Pos} {n : Nat} {S : List D → Out → Prop} (G : Has X.prog X.w X.K X.mg X.base x n S) (hr : Room n X.A) (ha : AB X O ρ (a :: es) ds) (hS : S ds (.ok d)) (hf : flat d = true := by rfl) (hg : Gl X x := by rfl) (hdb : (x == ("__debug__" : Str)) = false := by decide)
    (he : starEach (a :: es) X.env = (false, eval a X.env) :: starEach es X.env := by rfl) (hpl : (backTo pos (starEach es X.env)).any (·.1) = false := by rfl) : DE X O ρ (.Call (.Name x p) (a :: es) [] pos) d :=
  x_callB G hr ha hS nofun (fun σ F H F' H' v _ _ _ _ rv => rp_flat hf rv) hg hdb he hpl
theorem flat_all {K : Frg} {F F' : Hp} : ∀ {ds : List D} {xs : List V}, ds.all flat = true → RpAll K F ds xs → RpAll K F' ds xs
  | [], _, _, h => by rw [all_nil h]; exact mk_nil
  | d :: ds, _, f, h => by
    obtain ⟨v, vs, rfl, a, h⟩ := all_cons h
    rw [List.all_cons, Bool.and_eq_true] at f
    exact mk_cons (rp_flat f.1 a) (flat_all f.2 h)
theorem ne_callB {x : Str} {p : Pos} {n : Nat} {S : List D → Out → Prop} (G : Has X.prog X.w X.K X.mg X.base x n S) (hr : Room n X.A) (ha : AB X O ρ (a :: es) ds) (hS : S ds (.nw ds')) (hf : ds'.all flat = true) (hg : Gl X x := by rfl) (hdb : (x == ("__debug__" : Str)) = false := by decide)
    (he : starEach (a :: es) X.env = (false, eval a X.env) :: starEach es X.env := by rfl) (hpl : (backTo pos (starEach es X.env)).any (·.1) = false := by rfl) : NE X O ρ (.Call (.Name x p) (a :: es) [] pos) ds' :=
  x_callB G hr ha hS nofun (fun σ F H F' H' v R _ e1 e2 ⟨q, xs, ev, f, _, _, hq, r⟩ => by
    have hH : H q = none := e1.back f
    exact ⟨q, xs, ev, R.fh.back hH, R.oh.back hH, R.fresh_apart hH, hq, flat_all hf r⟩) hg hdb he hpl
/-! errors -/
theorem dr_call {x : Str} {p : Pos} {n : Nat} {S : List D → Out → Prop} (tk : Takes X W) (G : Has X.prog X.w X.K X.mg X.base x n S) (hr : Room n X.A) (ha : AD X O ρ (a :: es) ds) (hS : S ds (.er er)) (hg : Gl X x := by rfl) (hdb : (x == ("__debug__" : Str)) = false := by decide)
    (he : starEach (a :: es) X.env = (false, eval a X.env) :: starEach es X.env := by rfl) (hpl : (backTo pos (starEach es X.env)).any (·.1) = false := by rfl) : DR X O W ρ (.Call (.Name x p) (a :: es) [] pos) er := by
  obtain ⟨fa, fd, ps, hm, hk, hb, F⟩ := G.ex
  refine pe_mono (pe_callS F hr hg hm hk hb (fun σ => passAt tk σ) ha hdb he hpl) fun σ H Q ⟨F0, R, kk⟩ => ⟨F0, R, fun F1 H1 vs e1 R1 rs => ?_⟩
  refine ⟨allO ρ O H1, F1, ds.map .va, ds.map .va, .er er, rel_args rs R1.fh R1.toAll.oh R1.toAll.dis, ⟨ds, rfl, rfl, hS⟩, fun F2 H2 v e2 R2 rv => rv.elim, fun e z F2 H2 cls od e2 R2 ok => ?_⟩
  cases z
  exact kk F2 H2 cls od (e1.trans e2) (R1.ofAll R2 e2) ok
theorem ar_hd (h : DR X O W ρ e er) (hs : starEach (e :: es) X.env = (false, eval e X.env) :: starEach es X.env := by rfl) : AR X O W ρ (e :: es) er := by
  refine ⟨fun pos pins s σ H Q I h0 => ?_⟩
  rw [hs]
  show wpAny _ _ (spliced ((false, eval e X.env) :: backTo pos (starEach es X.env))) _ _ s
  exact Calls.spliced_cons (thn (h.run pins s σ H (fun _ _ => False) I h0) fun u s1 ⟨x, H1, I1, r1, q1⟩ => q1.elim)
theorem ar_tl (h : DE X O ρ e d) (hr : AR X O W ρ es er) (hs : starEach (e :: es) X.env = (false, eval e X.env) :: starEach es X.env := by rfl) : AR X O W ρ (e :: es) er :=
  pa_mono (pa_cons h hr hs) fun σ H Q ⟨F, R, k⟩ => ⟨F, R, fun F1 H1 v e1 R1 r => ⟨F1, R1, fun F2 H2 cls od e2 R2 ok => k F2 H2 cls od (e1.trans e2) R2 ok⟩⟩
theorem dr_args {x : Str} {p : Pos} {n : Nat} {S : List Sl → List Sl → Out → Prop} (G : HasS X.prog X.w X.K X.mg X.base x n S) (hr : Room n X.A) (ha : AR X O W ρ (a :: es) er) (hg : Gl X x := by rfl) (hdb : (x == ("__debug__" : Str)) = false := by decide)
    (he : starEach (a :: es) X.env = (false, eval a X.env) :: starEach es X.env := by rfl) (hpl : (backTo pos (starEach es X.env)).any (·.1) = false := by rfl) : DR X O W ρ (.Call (.Name x p) (a :: es) [] pos) er := by
  obtain ⟨fa, fd, ps, hm, hk, hb, F⟩ := G.ex
  exact pe_mono (pe_call F hr hg hm hk hb .nil (E := E0) passL' ha hdb he hpl) fun σ H Q t => t
end
end DL

namespace DL
open PySem PySem.Spec PyProof.Rows L2
/-! ### statements -/
/-- what is wanted behind a statement: going on, handing back, leaving the loop, its next turn, an error -/
structure Dk where
  nx : List Sl → Prop
  rt : List Sl → Out → Prop
  bk : List Sl → Prop := fun _ => False
  ct : List Sl → Prop := fun _ => False
  ex : List Sl → Er → Prop := fun _ _ => False
structure EndsOk (K : Frg) (O : Hp) (W : WX) (F : Hp) (D : Dk) (E : Ends) : Prop where
  nx : ∀ F' ρ' σ' H', Ex F F' → Rel K O F' ρ' σ' H' → D.nx ρ' → E.nx σ' H'
  rt : ∀ F' ρ' σ' H' o v, Ex F F' → Rel K O F' ρ' σ' H' → RvOk K O ρ' F' H' v o → D.rt ρ' o → E.rt v H'
  bk : ∀ F' ρ' σ' H', Ex F F' → Rel K O F' ρ' σ' H' → D.bk ρ' → E.bk σ' H'
  ct : ∀ F' ρ' σ' H', Ex F F' → Rel K O F' ρ' σ' H' → D.ct ρ' → E.ct σ' H'
  ex : ∀ F' ρ' σ' H' e cls od, Ex F F' → Rel K O F' ρ' σ' H' → ErOk F' e cls od → D.ex ρ' e → W cls od σ' H'
def tS (K : Frg) (O : Hp) (W : WX) (ρ : List Sl) (D : Dk) : TS := fun E σ H => ∃ F, Rel K O F ρ σ H ∧ EndsOk K O W F D E
def DS (X : Cx) (O : Hp) (W : WX) (ρ : List Sl) (st : Stmt) (D : Dk) : Prop := PS X st (tS X.K O W ρ D)
def DSs (X : Cx) (O : Hp) (W : WX) (ρ : List Sl) (sts : List Stmt) (D : Dk) : Prop := PSs X sts (tS X.K O W ρ D)
/-- first a statement, then these -/
def Dk.sq (D : Dk) (X : Cx) (O : Hp) (W : WX) (rest : List Stmt) : Dk := { D with nx := fun ρ' => DSs X O W ρ' rest D }
/-- a loop's turn -/
def Dk.lp (D : Dk) (nx bk : List Sl → Prop) : Dk := { D with nx := nx, ct := nx, bk := bk }
section
variable {X : Cx} {O : Hp} {W : WX} {ρ ρ' : List Sl} {e a b c tg : Expr} {es : List Expr} {d : PyData} {ds ds' : List PyData} {pos p' p2 : Pos} {i j : Int} {k : Bool} {st : Stmt} {rest body els : List Stmt} {D : Dk} {er : Er} {o : Out}
theorem ps_mono {t t' : TS} (h : PS X st t) (m : ∀ D σ H, t' D σ H → t D σ H) : PS X st t' := ⟨fun pins s σ H D I hq => h.run pins s σ H D I (m D σ H hq)⟩
theorem pss_mono {t t' : TS} {sts : List Stmt} (h : PSs X sts t) (m : ∀ D σ H, t' D σ H → t D σ H) : PSs X sts t' := ⟨fun pins s σ H D I hq => h.run pins s σ H D I (m D σ H hq)⟩
theorem EndsOk.up {K : Frg} {F F' : Hp} {E : Ends} (h : EndsOk K O W F D E) (e : Ex F F') : EndsOk K O W F' D E :=
  ⟨fun F2 ρ2 σ2 H2 e2 => h.nx F2 ρ2 σ2 H2 (e.trans e2), fun F2 ρ2 σ2 H2 o v e2 => h.rt F2 ρ2 σ2 H2 o v (e.trans e2), fun F2 ρ2 σ2 H2 e2 => h.bk F2 ρ2 σ2 H2 (e.trans e2), fun F2 ρ2 σ2 H2 e2 => h.ct F2 ρ2 σ2 H2 (e.trans e2), fun F2 ρ2 σ2 H2 er cls od e2 => h.ex F2 ρ2 σ2 H2 er cls od (e.trans e2)⟩
theorem ds_nil (h : D.nx ρ) : DSs X O W ρ [] D := pss_mono pss_nil fun E σ H ⟨F, R, q⟩ => q.nx F ρ σ H (Ex.refl _) R h
theorem ds_cons (h : DS X O W ρ st (D.sq X O W rest)) : DSs X O W ρ (st :: rest) D := by
  have hr : PSs X rest (fun E σ H => ∃ ρ', DSs X O W ρ' rest D ∧ tS X.K O W ρ' D E σ H) := ⟨fun pins s σ H E I ⟨ρ', h1, h2⟩ => h1.run pins s σ H E I h2⟩
  exact pss_mono (pss_cons h hr) fun E σ H ⟨F, R, q⟩ => ⟨F, R, fun F' ρ' σ' H' e R' n => ⟨ρ', n, F', R', q.up e⟩, q.rt, q.bk, q.ct, q.ex⟩
/-- the words may say less, or be said otherwise -/
theorem ds_re (h : DSs X O W ρ' rest D) (m : ∀ F σ H, Rel X.K O F ρ σ H → ∃ F', Ex F F' ∧ Rel X.K O F' ρ' σ H) : DSs X O W ρ rest D := pss_mono h fun E σ H ⟨F, R, q⟩ => let ⟨F', e, R'⟩ := m F σ H R; ⟨F', R', q.up e⟩
/-- a slot's own list is from now on only read -/
theorem ds_keep {n : Nat} {p : Addr} (hr : ρ[n]? = some (.ow p ds)) (h : DSs X O W (ρ.set n (.va (.list ds))) rest D) : DSs X O W ρ rest D := ds_re h fun F σ H R => let ⟨F', e, R', _⟩ := R.keepOw hr; ⟨F', e, R'⟩
theorem ds_drop (n : Nat) (h : DSs X O W (ρ.set n .no) rest D) : DSs X O W ρ rest D := ds_re h fun F σ H R => ⟨F, Ex.refl _, R.drop⟩
/-! name = e -/
theorem ds_asg {n : Nat} {x : Str} (hN : X.N.Nodup) (he : DE X O ρ e d) (hk : D.nx (ρ.set n (.va d))) (hi : X.N[n]? = some x := by rfl) (hx : Loc X.env.scope x := by first | exact Or.inl rfl | exact Or.inr rfl) (hs : swapsWith e (some (.Name x p')) pos.line X.env = pure false := by rfl) (hf : X.fn x = true := by rfl) :
    DS X O W ρ (.Assign [.Name x p'] e pos) D := ps_mono (ps_set hN hi hx he hs (.inl hf)) fun E σ H ⟨F, R, q⟩ => ⟨F, R, fun F' H' v e' R' r => q.nx _ _ _ _ e' (R'.setVa r) hk⟩
theorem ds_asgN {n : Nat} {x : Str} (hN : X.N.Nodup) (he : NE X O ρ e ds) (hk : ∀ p, Apart ρ p → D.nx (ρ.set n (.ow p ds))) (hi : X.N[n]? = some x := by rfl) (hx : Loc X.env.scope x := by first | exact Or.inl rfl | exact Or.inr rfl) (hs : swapsWith e (some (.Name x p')) pos.line X.env = pure false := by rfl) (hf : X.fn x = true := by rfl) :
    DS X O W ρ (.Assign [.Name x p'] e pos) D := ps_mono (ps_set hN hi hx he hs (.inl hf)) fun E σ H ⟨F, R, q⟩ => ⟨F, R, fun F' H' v e' R' ⟨p, xs, ev, f, o, ap, hp, r⟩ => by
  subst ev
  exact q.nx _ _ _ _ e' (R'.setOw hp r f o ap) (hk p ap)⟩
theorem ds_asgC {n : Nat} {x : Str} (hN : X.N.Nodup) (he : CE X O ρ ρ' e d) (hk : D.nx (ρ'.set n (.va d))) (hi : X.N[n]? = some x := by rfl) (hx : Loc X.env.scope x := by first | exact Or.inl rfl | exact Or.inr rfl) (hs : swapsWith e (some (.Name x p')) pos.line X.env = pure false := by rfl) (hf : X.fn x = true := by rfl) :
    DS X O W ρ (.Assign [.Name x p'] e pos) D := ps_mono (ps_set hN hi hx he hs (.inl hf)) fun E σ H ⟨F, R, q⟩ => ⟨F, R, fun F' H' v e' R' r => q.nx _ _ _ _ e' (R'.setVa r) hk⟩
theorem ds_asgR {n : Nat} {x : Str} (hN : X.N.Nodup) (he : DR X O W ρ e er) (hk : D.ex ρ er) (hi : X.N[n]? = some x := by rfl) (hx : Loc X.env.scope x := by first | exact Or.inl rfl | exact Or.inr rfl) (hs : swapsWith e (some (.Name x p')) pos.line X.env = pure false := by rfl) (hf : X.fn x = true := by rfl) :
    DS X O W ρ (.Assign [.Name x p'] e pos) D := ps_mono (ps_set hN hi hx he hs (.inl hf)) fun E σ H ⟨F, R, q⟩ => ⟨F, R, fun F' H' cls od e' R' ok => q.ex _ _ _ _ _ _ _ e' R' ok hk⟩
/-- return -/
theorem ds_ret (he : DE X O ρ e d) (h : D.rt ρ (.ok d)) : DS X O W ρ (.Return (some e) pos) D := ps_mono (ps_ret he) fun E σ H ⟨F, R, q⟩ => ⟨F, R, fun F' H' v e' R' r => q.rt _ _ _ _ (.ok d) _ e' R' r h⟩
theorem ds_retN (he : NE X O ρ e ds) (h : D.rt ρ (.nw ds)) : DS X O W ρ (.Return (some e) pos) D := ps_mono (ps_ret he) fun E σ H ⟨F, R, q⟩ => ⟨F, R, fun F' H' v e' R' r => q.rt _ _ _ _ (.nw ds) _ e' R' r h⟩
theorem ds_retC (he : CE X O ρ ρ' e d) (h : D.rt ρ' (.ok d)) : DS X O W ρ (.Return (some e) pos) D := ps_mono (ps_ret he) fun E σ H ⟨F, R, q⟩ => ⟨F, R, fun F' H' v e' R' r => q.rt _ _ _ _ (.ok d) _ e' R' r h⟩
theorem ds_retR (he : DR X O W ρ e er) (h : D.ex ρ er) : DS X O W ρ (.Return (some e) pos) D := ps_mono (ps_ret he) fun E σ H ⟨F, R, q⟩ => ⟨F, R, fun F' H' cls od e' R' ok => q.ex _ _ _ _ _ _ _ e' R' ok h⟩
/-- return name, the name's own list -/
theorem ds_retO {n : Nat} {x : Str} {p : Addr} (hr : ρ[n]? = some (.ow p ds)) (h : D.rt (ρ.set n .no) (.nw ds)) (hN : X.N[n]? = some x := by rfl) (hv : Vis X.env.scope x := by first | exact Or.inl rfl | exact Or.inr (Or.inl rfl) | exact Or.inr (Or.inr rfl)) (hd : (x == ("__debug__" : Str)) = false := by decide)
    (hcd : (x == ("__classdict__" : Str)) = false := by decide) : DS X O W ρ (.Return (some (.Name x p')) pos) D := ps_mono (ps_ret (pe_var hN hv hd hcd)) fun E σ H ⟨F, R, q⟩ => by
  obtain ⟨e, f, o, xs, hp, r⟩ := R.ow hr
  refine ⟨.ref p, e, q.rt F _ _ _ (.nw ds) _ (Ex.refl _) R.drop ⟨p, xs, rfl, f, o, fun m s z hq => ?_, hp, r⟩ h⟩
  rcases sets_get z with ⟨_, y⟩ | ⟨hm, z⟩
  · subst y; exact absurd hq List.not_mem_nil
  · exact R.ap m n s _ p hm z hr hq (List.mem_singleton.mpr rfl)
/-- an expression alone -/
theorem ds_expr (he : DE X O ρ e d) (h : D.nx ρ) (hs : swapsWith e none pos.line X.env = pure false := by rfl) : DS X O W ρ (.Expr e pos) D := ps_mono (ps_expr he hs) fun E σ H ⟨F, R, q⟩ => ⟨F, R, fun F' H' v e' R' r => q.nx _ _ _ _ e' R' h⟩
theorem ds_exprC (he : CE X O ρ ρ' e d) (h : D.nx ρ') (hs : swapsWith e none pos.line X.env = pure false := by rfl) : DS X O W ρ (.Expr e pos) D := ps_mono (ps_expr he hs) fun E σ H ⟨F, R, q⟩ => ⟨F, R, fun F' H' v e' R' r => q.nx _ _ _ _ e' R' h⟩
theorem ds_exprR (he : DR X O W ρ e er) (h : D.ex ρ er) (hs : swapsWith e none pos.line X.env = pure false := by rfl) : DS X O W ρ (.Expr e pos) D := ps_mono (ps_expr he hs) fun E σ H ⟨F, R, q⟩ => ⟨F, R, fun F' H' cls od e' R' ok => q.ex _ _ _ _ _ _ _ e' R' ok h⟩
theorem ds_pass (h : D.nx ρ) : DS X O W ρ (.Pass pos) D := ps_mono ps_pass fun E σ H ⟨F, R, q⟩ => q.nx _ _ _ _ (Ex.refl _) R h
theorem ds_break (h : D.bk ρ) : DS X O W ρ (.Break pos) D := ps_mono ps_break fun E σ H ⟨F, R, q⟩ => q.bk _ _ _ _ (Ex.refl _) R h
theorem ds_cont (h : D.ct ρ) : DS X O W ρ (.Continue pos) D := ps_mono ps_continue fun E σ H ⟨F, R, q⟩ => q.ct _ _ _ _ (Ex.refl _) R h
/-- if -/
theorem ds_if (hc : DT X O ρ c k) (h1 : k = true → DSs X O W ρ body D) (h2 : k = false → DSs X O W ρ els D) : DS X O W ρ (.If c body els pos) D := by
  refine ⟨fun pins s σ H E I ⟨F, R, q⟩ => ?_⟩
  refine wpAny_If (thn (hc.run pins s σ H (fun b H1 => b = k ∧ tS X.K O W ρ D E σ H1) I ⟨F, R, fun F' H' e R' => ⟨rfl, F', R', q.up e⟩⟩) fun d s1 ⟨H1, I1, ek, q1⟩ => ?_)
  subst ek
  cases d with
  | true => exact (h1 rfl).run pins s1 σ H1 E I1 q1
  | false => exact (h2 rfl).run pins s1 σ H1 E I1 q1
/-- the same statements behind both ways are shown once, from any words that Mid holds of -/
theorem ds_cut (Mid : List Sl → Prop) (h : DS X O W ρ st { D with nx := Mid }) (hm : ∀ ρ', Mid ρ' → DSs X O W ρ' rest D) : DSs X O W ρ (st :: rest) D := ds_cons (ps_mono h fun E σ H ⟨F, R, q⟩ => ⟨F, R, fun F' ρ' σ' H' e R' n => q.nx F' ρ' σ' H' e R' (hm ρ' n), q.rt, q.bk, q.ct, q.ex⟩)
def tFB (K : Frg) (O : Hp) (W : WX) (n : Nat) (ds : List PyData) (Pv : Nat → List Sl → Prop) (D : Dk) : TS := fun E σ H => ∃ (m : Nat) (d : PyData) (ρ' : List Sl), ds[m]? = some d ∧ Pv m ρ' ∧ tS K O W (ρ'.set n (.va d)) (D.lp (Pv (m + 1)) D.nx) E σ H
/-- for -/
theorem ds_for {n : Nat} {x : Str} {iter : Expr} (po : PassesOwn (model X.prog X.w) X.A X.env X.xe) (hc : X.calm = true) (hN : X.N.Nodup) (hi : IE X O ρ (.Name x p') iter ds) (Pv : Nat → List Sl → Prop) (h0 : Pv 0 ρ)
    (hb : ∀ (m : Nat) d ρ', ds[m]? = some d → Pv m ρ' → DSs X O W (ρ'.set n (.va d)) body (D.lp (Pv (m + 1)) D.nx)) (hd : ∀ ρ', Pv ds.length ρ' → D.nx ρ') (hx0 : X.N[n]? = some x := by rfl) (hx : Loc X.env.scope x := by first | exact Or.inl rfl | exact Or.inr rfl) (hf : X.fn x = true := by rfl)
    (hs : ∀ y, foldedSetIterable iter X.env y = pure y := by intro _; rfl) : DS X O W ρ (.For (.Name x p') iter body [] pos) D := by
  have hbody : PSs X body (tFB X.K O W n ds Pv D) := ⟨fun pins s σ H E I ⟨m, d, ρ', h1, h2, h3⟩ => (hb m d ρ' h1 h2).run pins s σ H E I h3⟩
  refine ps_mono (ps_for po hc hi (pg_name (i := n) hN hx0 hx (.inl hf)) hbody hs) fun E σ H ⟨F, R, q⟩ => ⟨F, R, fun F1 H1 J G e1 R1 w hG => ?_⟩
  refine for_it (g := gName n) (tb := tFB X.K O W n ds Pv D) (D := E) w (fun m σ' H' => ∃ F' ρ', Ex F1 F' ∧ Rel X.K O F' ρ' σ' H' ∧ Pv m ρ') ⟨F1, ρ, Ex.refl _, R1, h0⟩ (fun m σ' H' _ h => ?_) (fun m v σ' H' H'' hm h y => ?_) fun σ' H' h => ?_
  · obtain ⟨F', ρ', e', R', _⟩ := h
    exact hG H' (e'.trans R'.fh)
  · obtain ⟨F', ρ', e', R', pv⟩ := h
    obtain ⟨eH, d, hd', rd⟩ := y
    subst eH
    exact ⟨m, d, ρ', hd', pv, F', R'.setVa (rd.mono e'), fun F2 ρ2 σ2 H2 e2 R2 n2 => ⟨F2, ρ2, e'.trans e2, R2, n2⟩, fun F2 ρ2 σ2 H2 o v e2 => q.rt F2 ρ2 σ2 H2 o v ((e1.trans e').trans e2), fun F2 ρ2 σ2 H2 e2 R2 n2 => q.nx F2 ρ2 σ2 H2 ((e1.trans e').trans e2) R2 n2,
      fun F2 ρ2 σ2 H2 e2 R2 n2 => ⟨F2, ρ2, e'.trans e2, R2, n2⟩, fun F2 ρ2 σ2 H2 er cls od e2 => q.ex F2 ρ2 σ2 H2 er cls od ((e1.trans e').trans e2)⟩
  · obtain ⟨F', ρ', e', R', pv⟩ := h
    exact q.nx F' ρ' σ' H' (e1.trans e') R' (hd ρ' pv)
/-- while -/
theorem ds_while (po : PassesOwn (model X.prog X.w) X.A X.env X.xe) (Wd : Nat → List Sl → Prop) (m0 : Nat) (h0 : Wd m0 ρ)
    (ht : ∀ m ρ', Wd m ρ' → ∃ k, DT X O ρ' c k ∧ (k = true → DSs X O W ρ' body (D.lp (fun ρ2 => ∃ m', m' < m ∧ Wd m' ρ2) D.nx)) ∧ (k = false → D.nx ρ')) : DS X O W ρ (.While c body [] pos) D := by
  have hcond : PT X c (fun σ H Q => ∃ ρ' k, DT X O ρ' c k ∧ tTT X.K O ρ' k σ H Q) := ⟨fun pins s σ H Q I ⟨ρ', k, h1, h2⟩ => h1.run pins s σ H Q I h2⟩
  have hbody : PSs X body (fun E σ H => ∃ m ρ', DSs X O W ρ' body (D.lp (fun ρ2 => ∃ m', m' < m ∧ Wd m' ρ2) D.nx) ∧ tS X.K O W ρ' (D.lp (fun ρ2 => ∃ m', m' < m ∧ Wd m' ρ2) D.nx) E σ H) := ⟨fun pins s σ H E I ⟨m, ρ', h1, h2⟩ => h1.run pins s σ H E I h2⟩
  refine ps_mono (ps_while po hcond hbody) fun E σ H ⟨F, R, q⟩ => ?_
  refine ⟨fun m σ' H' => ∃ F' ρ', Ex F F' ∧ Rel X.K O F' ρ' σ' H' ∧ Wd m ρ', ⟨m0, F, ρ, Ex.refl _, R, h0⟩, fun m σ' H' h => ?_⟩
  obtain ⟨F', ρ', e', R', hw⟩ := h
  obtain ⟨k0, h3, hT, hF⟩ := ht m ρ' hw
  refine ⟨ρ', k0, h3, F', R', fun F2 H2 e2 R2 => ?_⟩
  cases k0 with
  | true =>
    refine ⟨fun σ2 H2 => ∃ m', m' < m ∧ ∃ F' ρ', Ex F F' ∧ Rel X.K O F' ρ' σ2 H2 ∧ Wd m' ρ', fun σ2 H2 h => h, m, ρ', hT rfl, F2, R2, fun F3 ρ3 σ3 H3 e3 R3 ⟨m', hm, w3⟩ => ⟨m', hm, F3, ρ3, (e'.trans e2).trans e3, R3, w3⟩, fun F3 ρ3 σ3 H3 o v e3 => q.rt F3 ρ3 σ3 H3 o v ((e'.trans e2).trans e3),
      fun F3 ρ3 σ3 H3 e3 => q.nx F3 ρ3 σ3 H3 ((e'.trans e2).trans e3), fun F3 ρ3 σ3 H3 e3 R3 ⟨m', hm, w3⟩ => ⟨m', hm, F3, ρ3, (e'.trans e2).trans e3, R3, w3⟩, fun F3 ρ3 σ3 H3 er cls od e3 => q.ex F3 ρ3 σ3 H3 er cls od ((e'.trans e2).trans e3)⟩
  | false => exact q.nx F2 ρ' σ' H2 (e'.trans e2) R2 (hF rfl)
end
end DL

namespace DL
open PySem PySem.Spec PyProof.Rows L2
section
variable {X : Cx} {O : Hp} {W : WX} {ρ ρ' : List Sl} {e a b c tg : Expr} {es : List Expr} {d : PyData} {ds ds' : List PyData} {pos p' p2 ap cp : Pos} {i j : Int} {k : Bool} {st : Stmt} {rest body els : List Stmt} {D : Dk} {er : Er} {o : Out} {n : Nat} {p : Addr}
/-! ### an own list is changed -/
theorem tyL {K : Frg} {F H : Hp} {σ : Sg} (R : Rel K O F ρ σ H) (hr : ρ[n]? = some (.ow p ds)) : tyV K "list" (.ref p) H := by
  obtain ⟨_, _, _, xs, h, _⟩ := R.ow hr
  exact .inl ⟨rfl, xs, SqL.of h⟩
theorem ce_append (hr : ρ[n]? = some (.ow p ds)) (ho : RE X O ρ a (.ref p)) (he : DE X O ρ e d) (hz : ds.length < 16777216)
    (hbase : attributeBase a "append" X.env (eval a X.env) = eval a X.env := by rfl)
    (hfew : ((backTo cp (starEach [e] X.env)).all (fun x => !x.1) && (backToKw cp (keywordEach [] X.env)).all (fun x => x.1.isSome) && decide ([e].length + ([] : List Keyword).length + (if ([] : List Keyword).isEmpty then 0 else 1) < 30)) = true := by rfl)
    (hline : (ap.endLine == cp.line) = true := by rfl) (hs : starEach [e] X.env = (false, eval e X.env) :: starEach [] X.env := by rfl) (hpl : (backTo cp (starEach [] X.env)).any (·.1) = false := by rfl) :
    CE X O ρ (ρ.set n (.ow p (ds ++ [d]))) (.Call (.Attribute a "append" ap) [e] [] cp) .none :=
  pe_mono (pe_bm PySem.F.plainAttrs_list PySem.F.slot_list_append PySem.F.type_list_append mt_append ho (pa_cons he pa_nil hs) hbase hfew hline hs hpl) fun σ H Q ⟨F, R, kk⟩ => ⟨F, R, fun F1 H1 v e1 R1 ev => by
    cases (show v = V.ref p from ev)
    refine ⟨tyL R1 hr, F1, R1, fun F2 H2 u e2 R2 r => ?_⟩
    obtain ⟨_, _, _, xs, h, rx⟩ := R2.ow hr
    exact ⟨p, xs, u, rfl, rfl, h, by rw [← all_len rx]; exact sz_lt hz, kk F2 _ _ (e1.trans e2) (R2.mutOw hr (all_app rx (mk_cons r mk_nil))) mk_non⟩⟩
theorem ce_extend {es : List PyData} (hr : ρ[n]? = some (.ow p ds)) (ho : RE X O ρ a (.ref p)) (he : LE X O ρ e es) (hz : ds.length + es.length ≤ 16777216)
    (hbase : attributeBase a "extend" X.env (eval a X.env) = eval a X.env := by rfl)
    (hfew : ((backTo cp (starEach [e] X.env)).all (fun x => !x.1) && (backToKw cp (keywordEach [] X.env)).all (fun x => x.1.isSome) && decide ([e].length + ([] : List Keyword).length + (if ([] : List Keyword).isEmpty then 0 else 1) < 30)) = true := by rfl)
    (hline : (ap.endLine == cp.line) = true := by rfl) (hs : starEach [e] X.env = (false, eval e X.env) :: starEach [] X.env := by rfl) (hpl : (backTo cp (starEach [] X.env)).any (·.1) = false := by rfl) :
    CE X O ρ (ρ.set n (.ow p (ds ++ es))) (.Call (.Attribute a "extend" ap) [e] [] cp) .none :=
  pe_mono (pe_bm PySem.F.plainAttrs_list PySem.F.slot_list_extend PySem.F.type_list_extend mt_extend ho (pa_cons he pa_nil hs) hbase hfew hline hs hpl) fun σ H Q ⟨F, R, kk⟩ => ⟨F, R, fun F1 H1 v e1 R1 ev => by
    cases (show v = V.ref p from ev)
    refine ⟨tyL R1 hr, F1, R1, fun F2 H2 u e2 R2 be => ?_⟩
    obtain ⟨_, _, _, xs, h, rx⟩ := R2.ow hr
    obtain ⟨q, ys, rfl, hy, ry⟩ := be F2 H2 (Ex.refl _) R2
    exact ⟨p, q, xs, ys, rfl, rfl, h, hy, by rw [← all_len rx, ← all_len ry]; exact sz_le hz, kk F2 _ _ (e1.trans e2) (R2.mutOw hr (all_app rx ry)) mk_non⟩⟩
theorem all_dropLast {K : Frg} {F : Hp} {xs : List V} (h : RpAll K F ds xs) : RpAll K F ds.dropLast xs.dropLast := by
  rw [List.dropLast_eq_take, List.dropLast_eq_take, all_len h]
  exact all_take _ h
theorem ce_pop (hr : ρ[n]? = some (.ow p ds)) (ho : RE X O ρ a (.ref p)) (hl : ds[ds.length - 1]? = some d)
    (hbase : attributeBase a "pop" X.env (eval a X.env) = eval a X.env := by rfl) (hline : (ap.endLine == cp.line) = true := by rfl) :
    CE X O ρ (ρ.set n (.ow p ds.dropLast)) (.Call (.Attribute a "pop" ap) [] [] cp) d :=
  pe_mono (pe_bm0 PySem.F.plainAttrs_list PySem.F.slot_list_pop PySem.F.type_list_pop mt_pop ho hbase hline) fun σ H Q ⟨F, R, kk⟩ => ⟨F, R, fun F1 H1 v e1 R1 ev => by
    cases (show v = V.ref p from ev)
    obtain ⟨_, _, _, xs, h, rx⟩ := R1.ow hr
    obtain ⟨u, hu, ru⟩ := all_get rx hl
    exact ⟨tyL R1 hr, p, xs, u, rfl, rfl, h, by rw [← all_len rx]; exact hu, kk F1 _ _ e1 (R1.mutOw hr (all_dropLast rx)) ru⟩⟩
/-! ### a def of the text -/
/-- what stands behind the top under a name -/
structure Def (K : Frg) (mg : Str → Option Value) (x : Str) (st : Stmt) : Prop where
  ex : ∃ (f : Addr) (fd : FuncData), Fun K x x st f fd ∧ mg x = some (.ref f)
def OutLe (o out : Out) : Prop := o = out ∨ ∃ ds, o = .nw ds ∧ out = .ok (.list ds)
/-- what a def that changes nothing is to end with -/
def Dpu (out : Out) : Dk := { nx := fun _ => OutLe (.ok .none) out, rt := fun _ o => OutLe o out, ex := fun _ e => out = .er e }
/-- the words behind it, of the arguments -/
def Kp (ρa ρb ρ' : List Sl) : Prop := ρb.length = ρa.length ∧ ∀ (i : Nat) s, ρb[i]? = some s → match s with
  | .no => True
  | .va d => ρa[i]? = some (.va d)
  | .ow p ds => (∃ es, ρa[i]? = some (.ow p es)) ∧ ∃ j : Nat, ρ'[j]? = some (.ow p ds)
  | .rw v φ => ρa[i]? = some (.rw v φ)
  | .st v μ => (∃ μ0, ρa[i]? = some (.st v μ0)) ∧ ∃ (j : Nat) (u : V), ρ'[j]? = some (.st u μ) ∧ ∀ (l : Nat) s, l ≠ i → ρb[l]? = some s → owns s = []
def Dow (ρa ρb : List Sl) (out : Out) : Dk := { nx := fun ρ' => Kp ρa ρb ρ' ∧ OutLe (.ok .none) out, rt := fun ρ' o => Kp ρa ρb ρ' ∧ OutLe o out, ex := fun ρ' e => Kp ρa ρb ρ' ∧ out = .er e }
theorem Rel.back {K : Frg} {O F F' H H' : Hp} {ρa ρb ρ' : List Sl} {σ σ' : Sg} (R0 : Rel K O F ρa σ H) (R : Rel K O F' ρ' σ' H') (e : Ex F F') (kp : Kp ρa ρb ρ') : Rel K O F' ρb σ H' where
  len := by rw [kp.1]; exact R0.len
  fh := R.fh
  oh := R.oh
  dis := R.dis
  sl := fun m s z => by
    have q := kp.2 m s z
    cases s with
    | no => trivial
    | va d =>
      obtain ⟨v, h1, h2⟩ := R0.va q
      exact ⟨v, h1, h2.mono e⟩
    | rw v φ =>
      have q2 := R0.sl m _ q
      exact ⟨q2.1, fun F2 e2 => q2.2 F2 (e.trans e2)⟩
    | ow p ds =>
      obtain ⟨⟨es, h1⟩, j, h2⟩ := q
      obtain ⟨_, f, o, xs, h, r⟩ := R.ow h2
      exact ⟨(R0.ow h1).1, f, o, xs, h, r⟩
    | st v μ =>
      obtain ⟨⟨μ0, h1⟩, j, u, h2, _⟩ := q
      exact ⟨(R0.st h1).1, (R.st h2).2⟩
  ap := fun m l s t q hn h1 h2 g1 g2 => by
    cases s with
    | no => exact absurd g1 List.not_mem_nil
    | va d => exact absurd g1 List.not_mem_nil
    | rw v φ => exact absurd g1 List.not_mem_nil
    | st v μ =>
      obtain ⟨_, j, u, _, h⟩ := kp.2 m _ h1
      rw [h l t (Ne.symm hn) h2] at g2
      exact absurd g2 List.not_mem_nil
    | ow p ds =>
      obtain rfl := List.mem_singleton.mp (show q ∈ [p] from g1)
      obtain ⟨⟨es1, k1⟩, _⟩ := kp.2 m _ h1
      cases t with
      | no => exact absurd g2 List.not_mem_nil
      | va d => exact absurd g2 List.not_mem_nil
      | rw v φ => exact absurd g2 List.not_mem_nil
      | st v μ =>
        obtain ⟨_, j, u, _, h⟩ := kp.2 l _ h2
        have := h m _ hn h1
        cases this
      | ow p2 ds2 =>
        obtain rfl := List.mem_singleton.mp (show q ∈ [p2] from g2)
        obtain ⟨⟨es2, k2⟩, _⟩ := kp.2 l _ h2
        exact R0.ap m l _ _ q hn k1 k2 (List.mem_singleton.mpr rfl) (List.mem_singleton.mpr rfl)
theorem NewL.kp {K : Frg} {O F H : Hp} {ρa ρb ρ' : List Sl} {v : V} (h : NewL K O ρ' F H v ds) (kp : Kp ρa ρb ρ') : NewL K O ρb F H v ds := by
  obtain ⟨p, xs, ev, f, o, ap, hp, r⟩ := h
  refine ⟨p, xs, ev, f, o, fun j s z hq => ?_, hp, r⟩
  have k := kp.2 j _ z
  cases s with
  | no => exact absurd hq List.not_mem_nil
  | va d => exact absurd hq List.not_mem_nil
  | rw v φ => exact absurd hq List.not_mem_nil
  | ow p2 ds2 =>
    obtain ⟨_, j', z'⟩ := k
    exact ap j' _ z' hq
  | st u μ =>
    obtain ⟨_, j', u', z', _⟩ := k
    exact ap j' _ z' hq
theorem RvOk.kp {K : Frg} {O F H : Hp} {ρa ρb ρ' : List Sl} {v : V} {o out : Out} (h : RvOk K O ρ' F H v o) (kp : Kp ρa ρb ρ') (le : OutLe o out) (R : Rel K O F ρb σ H) : ∃ F', Ex F F' ∧ Rel K O F' ρb σ H ∧ RvOk K O ρb F' H v out := by
  rcases le with rfl | ⟨ds, rfl, rfl⟩
  · cases o with
    | ok d => exact ⟨F, Ex.refl _, R, h⟩
    | nw ds => exact ⟨F, Ex.refl _, R, NewL.kp h kp⟩
    | tn d0 ds => obtain ⟨q, h1, h2⟩ := h; exact ⟨F, Ex.refl _, R, q, NewL.kp h1 kp, h2⟩
    | er e => exact h.elim
  · obtain ⟨p, xs, ev, f, o, ap, hp, r⟩ := NewL.kp h kp
    subst ev
    exact ⟨upd F p (.lst xs), Ex.new f, R.frz hp o ap f, mk_lst upd_same (RpAll.mono (Ex.new f) r)⟩
theorem rel_start {K : Frg} {O F H : Hp} {ρa : List Sl} {vs : List V} {N : List Str} (R : Rel K O F ρa (vs.map some) H) : Rel K O F (ρa ++ List.replicate (N.length - ρa.length) .no) (L2.start N vs) H := by
  have hl : ρa.length = vs.length := by have := R.len; rw [List.length_map] at this; exact this.symm
  unfold L2.start
  rw [hl]
  have get1 : ∀ (m : Nat) s, (ρa ++ List.replicate (N.length - vs.length) Sl.no)[m]? = some s → ρa[m]? = some s ∨ s = .no := fun m s z => by
    by_cases h : m < ρa.length
    · rw [List.getElem?_append_left h] at z; exact .inl z
    · rw [List.getElem?_append_right (by omega), List.getElem?_replicate] at z
      split at z
      · exact .inr (Option.some.inj z).symm
      · cases z
  refine ⟨by rw [List.length_append, List.length_append, List.length_map, List.length_replicate, List.length_replicate, hl], R.fh, R.oh, R.dis, fun m s z => ?_, fun m l s t q hn h1 h2 g1 g2 => ?_⟩
  · rcases get1 m s z with z | rfl
    · have hm : m < (vs.map some).length := by rw [List.length_map, ← hl]; exact (List.getElem?_eq_some_iff.mp z).1
      rw [List.getElem?_append_left hm]
      exact R.sl m s z
    · trivial
  · rcases get1 m _ h1 with h1 | rfl
    · rcases get1 l _ h2 with h2 | rfl
      · exact R.ap m l s t q hn h1 h2 g1 g2
      · exact absurd g2 List.not_mem_nil
    · exact absurd g1 List.not_mem_nil
section
variable {P : Program} {w : World} {K : Frg} {mg : Str → Option Value} {base : Heap}
theorem fn_own {x : Str} {f : Addr} {fd : FuncData} {st : Stmt} {N ps : List Str} {k : Nat} {S : List Sl → List Sl → Out → Prop} (F : Fun K x x st f fd) (Sc : FnScope N ps (defScope st))
    (hlen : ∀ ρa ρb o, S ρa ρb o → ρa.length = ps.length)
    (body : ∀ (cdv : Value) (A : Around) (outer : List Env) (s : Shared) (H : Hp) (E : XK), Room k (A.deeper (envOfC x (defScope st) s.heap.objs.size f cdv)) → ∀ (O : Hp) ρa ρb out, S ρa ρb out →
      DSs (cxOf (L2.CX P w) P w K mg base N x (defScope st) f cdv A outer s H E) O (fun cls d _ H => E cls d H) (ρa ++ List.replicate (N.length - ρa.length) .no) (defBody st) (Dow ρa ρb out)) : FnOk P w K mg base (L2.CX P w) (k + 1) f fd ps (spF K S) := by
  refine F.okX Sc (fun vs H Q E h => ?_) fun cdv A outer s H vs Q E hr h => ?_
  · obtain ⟨O, F0, ρa, ρb, out, R, hS, _⟩ := h
    rw [← hlen _ _ _ hS]
    have := R.len
    rw [List.length_map] at this
    exact this
  · obtain ⟨O, F0, ρa, ρb, out, R, hS, hq, hx⟩ := h
    refine ⟨_, body cdv A outer s H E hr O ρa ρb out hS, F0, rel_start R, fun F' ρ' σ' H' e R' n => ?_, fun F' ρ' σ' H' o v e R' rv n => ?_, fun _ _ _ _ _ _ z => z, fun _ _ _ _ _ _ z => z, fun F' ρ' σ' H' er cls od e R' ok n => ?_⟩
    · obtain ⟨kp, le⟩ := n
      have Rb := R.back R' e kp
      obtain ⟨F2, e2, R2, rv⟩ := RvOk.kp (o := .ok .none) (v := .non) (show RvOk K O ρ' F' H' .non (.ok .none) from mk_non (K := K) (H := F')) kp le Rb
      exact hq F2 H' _ (e.trans e2) R2 rv
    · obtain ⟨kp, le⟩ := n
      have Rb := R.back R' e kp
      obtain ⟨F2, e2, R2, rv⟩ := RvOk.kp rv kp le Rb
      exact hq F2 H' _ (e.trans e2) R2 rv
    · obtain ⟨kp, le⟩ := n
      exact hx er le F' H' cls od e (R.back R' e kp) ok
theorem has_of {x : Str} {st : Stmt} {N ps : List Str} {k : Nat} {S : List Sl → List Sl → Out → Prop} (Df : Def K mg x st) (Sc : FnScope N ps (defScope st))
    (hb : ∀ (kV doc pm : Value) (an : Option Addr) (cdv ct : Value) (us : List Value), us.length = ps.length → bindArgs (PySem.W.fnOf x x (defArgs st) (defBody st) (defScope st) .none kV doc pm an cdv ct) ⟨us, []⟩ = pure (ps.zip us))
    (hlen : ∀ ρa ρb o, S ρa ρb o → ρa.length = ps.length)
    (body : ∀ (f : Addr) (cdv : Value) (A : Around) (outer : List Env) (s : Shared) (H : Hp) (E : XK), Room k (A.deeper (envOfC x (defScope st) s.heap.objs.size f cdv)) → ∀ (O : Hp) ρa ρb out, S ρa ρb out →
      DSs (cxOf (L2.CX P w) P w K mg base N x (defScope st) f cdv A outer s H E) O (fun cls d _ H => E cls d H) (ρa ++ List.replicate (N.length - ρa.length) .no) (defBody st) (Dow ρa ρb out)) : HasS P w K mg base x (k + 1) S := by
  obtain ⟨f, fd, F, hm⟩ := Df.ex
  exact ⟨f, fd, ps, hm, F.kp, F.binds hb, fn_own F Sc hlen fun cdv A outer s H E hr => body f cdv A outer s H E hr⟩
theorem kp_pure {ρ' : List Sl} : Kp (ds.map .va) (ds.map .va) ρ' := ⟨rfl, fun m s z => by
  rw [List.getElem?_map] at z
  cases q : ds[m]? with
  | none => rw [q] at z; cases z
  | some d =>
    rw [q] at z
    obtain rfl : s = Sl.va d := (Option.some.inj z).symm
    show (ds.map Sl.va)[m]? = _
    rw [List.getElem?_map, q]; rfl⟩
theorem dk_mono {X : Cx} {O : Hp} {W : WX} {ρ : List Sl} {sts : List Stmt} {D D' : Dk} (h : DSs X O W ρ sts D) (h1 : ∀ ρ, D.nx ρ → D'.nx ρ) (h2 : ∀ ρ o, D.rt ρ o → D'.rt ρ o) (h3 : ∀ ρ, D.bk ρ → D'.bk ρ) (h4 : ∀ ρ, D.ct ρ → D'.ct ρ) (h5 : ∀ ρ e, D.ex ρ e → D'.ex ρ e) : DSs X O W ρ sts D' :=
  pss_mono h fun E σ H ⟨F, R, q⟩ => ⟨F, R, fun F' ρ' σ' H' e R' n => q.nx F' ρ' σ' H' e R' (h1 _ n), fun F' ρ' σ' H' o v e R' r n => q.rt F' ρ' σ' H' o v e R' r (h2 _ _ n), fun F' ρ' σ' H' e R' n => q.bk F' ρ' σ' H' e R' (h3 _ n), fun F' ρ' σ' H' e R' n => q.ct F' ρ' σ' H' e R' (h4 _ n), fun F' ρ' σ' H' er cls od e R' ok n => q.ex F' ρ' σ' H' er cls od e R' ok (h5 _ _ n)⟩
theorem fn_pu {x : Str} {f : Addr} {fd : FuncData} {st : Stmt} {N ps : List Str} {k : Nat} {S : List PyData → Out → Prop} (F : Fun K x x st f fd) (Sc : FnScope N ps (defScope st)) (hlen : ∀ ds o, S ds o → ds.length = ps.length)
    (body : ∀ (cdv : Value) (A : Around) (outer : List Env) (s : Shared) (H : Hp) (E : XK), Room k (A.deeper (envOfC x (defScope st) s.heap.objs.size f cdv)) → ∀ (O : Hp) ds out, S ds out →
      DSs (cxOf (L2.CX P w) P w K mg base N x (defScope st) f cdv A outer s H E) O (fun cls d _ H => E cls d H) (ds.map .va ++ List.replicate (N.length - ds.length) .no) (defBody st) (Dpu out)) : FnOk P w K mg base (L2.CX P w) (k + 1) f fd ps (spF K (Pu S)) :=
  fn_own F Sc (fun ρa ρb o ⟨ds, h1, _, h3⟩ => by rw [h1, List.length_map]; exact hlen ds o h3) fun cdv A outer s H E hr O ρa ρb out ⟨ds, h1, h2, h3⟩ => by
    subst h1 h2
    have h := body cdv A outer s H E hr O ds out h3
    rw [List.length_map]
    exact dk_mono h (fun ρ n => ⟨kp_pure, n⟩) (fun ρ o n => ⟨kp_pure, n⟩) (fun _ z => z) (fun _ z => z) fun ρ e n => ⟨kp_pure, n⟩
/-- .. that changes nothing -/
theorem has_pu {x : Str} {st : Stmt} {N ps : List Str} {k : Nat} {S : List PyData → Out → Prop} (Df : Def K mg x st) (Sc : FnScope N ps (defScope st))
    (hb : ∀ (kV doc pm : Value) (an : Option Addr) (cdv ct : Value) (us : List Value), us.length = ps.length → bindArgs (PySem.W.fnOf x x (defArgs st) (defBody st) (defScope st) .none kV doc pm an cdv ct) ⟨us, []⟩ = pure (ps.zip us))
    (hlen : ∀ ds o, S ds o → ds.length = ps.length)
    (body : ∀ (f : Addr) (cdv : Value) (A : Around) (outer : List Env) (s : Shared) (H : Hp) (E : XK), Room k (A.deeper (envOfC x (defScope st) s.heap.objs.size f cdv)) → ∀ (O : Hp) ds out, S ds out →
      DSs (cxOf (L2.CX P w) P w K mg base N x (defScope st) f cdv A outer s H E) O (fun cls d _ H => E cls d H) (ds.map .va ++ List.replicate (N.length - ds.length) .no) (defBody st) (Dpu out)) : Has P w K mg base x (k + 1) S :=
  has_of Df Sc hb (fun ρa ρb o ⟨ds, h1, _, h3⟩ => by rw [h1, List.length_map]; exact hlen ds o h3) fun f cdv A outer s H E hr O ρa ρb out ⟨ds, h1, h2, h3⟩ => by
    subst h1 h2
    have h := body f cdv A outer s H E hr O ds out h3
    rw [List.length_map]
    exact dk_mono h (fun ρ n => ⟨kp_pure, n⟩) (fun ρ o n => ⟨kp_pure, n⟩) (fun _ z => z) (fun _ z => z) fun ρ e n => ⟨kp_pure, n⟩
end
end
/-! ### the law's end -/
theorem cx_no {P : Program} {w : World} {H : Hp} {s : Shared} {e : Value} {s' : Shared} (h : L2.CX P w [] H s (fun _ _ _ => False) e s') : False := by
  obtain ⟨_, _, _, _, _, _, _, _, _, _, _, _, z⟩ := h
  exact z
/-- what a law asks: True, of every script of at most 63 whole numbers -/
def SLaw : List PyData → Out → Prop := fun ds o => ∃ ns : List Int, ns.length ≤ 63 ∧ ds = [scr ns] ∧ o = .ok (.bool true)
theorem sp_law {K : Frg} {H : Hp} {a : Addr} {ns : List Int} (hl : ns.length ≤ 63) (hS : SqL K H a (ns.map V.int)) : spF K (Pu SLaw) [.ref a] H (fun v _ => v = .bl true) (fun _ _ _ => False) :=
  ⟨fun _ => none, H, [scr ns].map .va, [scr ns].map .va, .ok (.bool true), rel_args (mk_cons (mk_scr hS) mk_nil) (Ex.refl _) (fun _ _ z => by cases z) (fun _ _ z => by cases z), ⟨[scr ns], rfl, rfl, ns, hl, rfl, rfl⟩, fun F' H' v _ _ rv => rp_bl (K := K) (H := F') rv, nofun⟩
/-- what stands under built-in names -/
structure BI (mg : Str → Option Value) : Prop where
  len : mg "len" = none
  range : mg "range" = none
  list : mg "list" = none
  tuple : mg "tuple" = none
  isinstance : mg "isinstance" = none
  all : mg "all" = none
  int : mg "int" = none
  str : mg "str" = none
  ord : mg "ord" = none
  sum : mg "sum" = none
  min : mg "min" = none
  max : mg "max" = none
  set : mg "set" = none
  bool : mg "bool" = none
end DL

namespace DL
open PySem PySem.Spec PyProof.Rows L2
section
variable {X : Cx} {O : Hp} {W : WX} {ρ ρ' : List Sl} {e a b c tg : Expr} {es : List Expr} {d : PyData} {ds ds' : List PyData} {pos p' p2 ap cp spos : Pos} {i j : Int} {k : Bool} {st : Stmt} {rest body els : List Stmt} {D : Dk} {er : Er} {o : Out} {n : Nat} {p : Addr}
/-! ### name = [.. for ..] -/
theorem ps_lc {m : Nat} {y x : Str} {px : Pos} {iter elt : Expr} {ifs : List Expr} {scope : Scope} (hc : X.calm = true) (hN : X.N.Nodup) (hi : IE X O ρ (.Name x px) iter ds) (ok : BlkOk X.N X.env.scope scope [(x, n)]) (sel : Nat → Option PyData)
    (hg : ∀ (s : Shared) (H : Hp) (C : Addr) (cl : List (Str × Addr)) (fp : List Addr), PG (X.blk s H scope (compEnvC scope cl C X.env) fp) (.Name x px) (gName n))
    (ht : ∀ (k : Nat) d, ds[k]? = some d → ∀ (s : Shared) (H : Hp) (C : Addr) (cl : List (Str × Addr)) (fp : List Addr) (O' : Hp), PTs (X.blk s H scope (compEnvC scope cl C X.env) fp) ifs (tTT X.K O' ((pure' ρ).set n (.va d)) (sel k).isSome))
    (he : ∀ (k : Nat) d e, ds[k]? = some d → sel k = some e → ∀ (s : Shared) (H : Hp) (C : Addr) (cl : List (Str × Addr)) (fp : List Addr) (O' : Hp), DE (X.blk s H scope (compEnvC scope cl C X.env) fp) O' ((pure' ρ).set n (.va d)) elt e)
    (hz : ds.length ≤ 16777215) (hs : ∀ y, foldedSetIterable iter X.env y = pure y) (hy : X.N[m]? = some y) (hyl : X.env.scope.names.lookup y = some .local)
    (hsw : swapsWith (.ListComp elt [⟨.Name x px, iter, ifs, 0⟩] scope pos) (some (.Name y p')) spos.line X.env = pure true) :
    PS X (.Assign [.Name y p'] (.ListComp elt [⟨.Name x px, iter, ifs, 0⟩] scope pos) spos) (tAsg (tX X.K O ρ ρ (PN X.K O ρ ((List.range ds.length).filterMap sel))) (gName m)) :=
  ps_mono (ps_setLc (own := [(x, n)]) (g := gName n) (tt := lcT X.K ρ n ds sel) (te := lcE X.K ρ n ds sel) hc hN hy hyl hsw
    hi ok hg (fun s H C cl fp => ⟨fun pins s' σ H' Q I ⟨k, d, O', h1, h2⟩ => (ht k d h1 s H C cl fp O').run pins s' σ H' Q I h2⟩)
    (fun s H C cl fp => ⟨fun pins s' σ H' Q I ⟨k, d, e, O', h1, h2, h3⟩ => (he k d e h1 h2 s H C cl fp O').run pins s' σ H' Q I h3⟩) hs) fun E σ H q => lc_read hz σ H _ q
theorem tA_own {m : Nat} {rs : List PyData} (hk : ∀ p, Apart ρ p → D.nx (ρ.set m (.ow p rs))) : ∀ E σ H, tS X.K O W ρ D E σ H → tAsg (tX X.K O ρ ρ (PN X.K O ρ rs)) (gName m) E σ H := fun E σ H ⟨F, R, q⟩ => ⟨F, R, fun F' H' v e' R' ⟨p, xs, ev, f, o, ap, hp, r⟩ => by
  subst ev
  exact q.nx _ _ _ _ e' (R'.setOw hp r f o ap) (hk p ap)⟩
theorem ds_lcM {α : Type} {xs : List α} {f g : α → PyData} {m : Nat} {y x : Str} {px : Pos} {iter elt : Expr} {scope : Scope} (hc : X.calm = true) (hN : X.N.Nodup) (hi : IE X O ρ (.Name x px) iter (xs.map f)) (ok : BlkOk X.N X.env.scope scope [(x, n)])
    (hg : ∀ (s : Shared) (H : Hp) (C : Addr) (cl : List (Str × Addr)) (fp : List Addr), PG (X.blk s H scope (compEnvC scope cl C X.env) fp) (.Name x px) (gName n))
    (he : ∀ z ∈ xs, ∀ (s : Shared) (H : Hp) (C : Addr) (cl : List (Str × Addr)) (fp : List Addr) (O' : Hp), DE (X.blk s H scope (compEnvC scope cl C X.env) fp) O' ((pure' ρ).set n (.va (f z))) elt (g z))
    (hz : xs.length ≤ 16777215) (hk : ∀ p, Apart ρ p → D.nx (ρ.set m (.ow p (xs.map g)))) (hs : ∀ y, foldedSetIterable iter X.env y = pure y := by intro _; rfl) (hy : X.N[m]? = some y := by rfl) (hyl : X.env.scope.names.lookup y = some .local := by rfl)
    (hsw : swapsWith (.ListComp elt [⟨.Name x px, iter, [], 0⟩] scope pos) (some (.Name y p')) spos.line X.env = pure true := by exact sw_true rfl rfl rfl (by decide +kernel)) : DS X O W ρ (.Assign [.Name y p'] (.ListComp elt [⟨.Name x px, iter, [], 0⟩] scope pos) spos) D := by
  have h := ps_lc (ifs := []) (spos := spos) (p' := p') (pos := pos) hc hN hi ok (fun k => (xs.map g)[k]?) hg (fun k d hd s H C cl fp O' => by
    have hk : k < (xs.map g).length := by have := (List.getElem?_eq_some_iff.mp hd).1; rw [List.length_map] at this ⊢; exact this
    rw [show ((xs.map g)[k]?).isSome = true by rw [List.getElem?_eq_getElem hk]; rfl]
    exact ⟨fun pins s' σ H' Q I ⟨F, R, q⟩ => pts_nil.run pins s' σ H' Q I (q F H' (Ex.refl _) R)⟩) (fun k d e h1 h2 => by
    rw [List.getElem?_map] at h1 h2
    cases q : xs[k]? with
    | none => rw [q] at h1; cases h1
    | some z =>
      rw [q] at h1 h2
      cases h1; cases h2
      exact he z (List.mem_of_getElem? q)) (by rw [List.length_map]; exact hz) hs hy hyl hsw
  rw [show (xs.map f).length = (xs.map g).length by rw [List.length_map, List.length_map], fm_get] at h
  exact ps_mono h (tA_own hk)
/-! ### one name in an if -/
theorem ds_ifA {x : Str} {d' : PyData} (hN : X.N.Nodup) (hc : DT X O ρ c k) (h0 : ρ[n]? = some (.va d')) (he : k = true → DE X O ρ e d) (hk : D.nx (ρ.set n (.va (if k then d else d')))) (hi : X.N[n]? = some x := by rfl) (hx : Loc X.env.scope x := by first | exact Or.inl rfl | exact Or.inr rfl) (hs : swapsWith e (some (.Name x p')) pos.line X.env = pure false := by rfl) (hf : X.fn x = true := by rfl) :
    DS X O W ρ (.If c [.Assign [.Name x p'] e pos] [] p2) D := by
  refine ds_if hc (fun h => ?_) (fun h => ?_)
  · subst h
    exact ds_cons (ds_asg hN (he rfl) (ds_nil hk) hi hx hs hf)
  · subst h
    refine ds_nil ?_
    have z : ρ.set n (.va d') = ρ := by
      apply List.ext_getElem?
      intro m
      by_cases hm : m = n
      · subst hm
        have hl := (List.getElem?_eq_some_iff.mp h0).1
        rw [List.getElem?_set_self hl, h0]
      · rw [List.getElem?_set_ne (Ne.symm hm)]
    rw [show (if false = true then d else d') = d' from rfl, z] at hk
    exact hk
theorem ds_ifI {x : Str} {i' : Int} (hN : X.N.Nodup) (hc : DT X O ρ c k) (h0 : ρ[n]? = some (.va (.int i'))) (he : DE X O ρ e (.int i)) (hk : D.nx (ρ.set n (.va (.int (if k then i else i'))))) (hi : X.N[n]? = some x := by rfl) (hx : Loc X.env.scope x := by first | exact Or.inl rfl | exact Or.inr rfl) (hs : swapsWith e (some (.Name x p')) pos.line X.env = pure false := by rfl) (hf : X.fn x = true := by rfl) :
    DS X O W ρ (.If c [.Assign [.Name x p'] e pos] [] p2) D := ds_ifA hN hc h0 (fun _ => he) (by cases k <;> exact hk) hi hx hs hf
/-! ### == of data -/
mutual
/-- no dicts -/
def lay0 : PyData → Bool
  | .list xs => lay0s xs
  | .tuple xs => lay0s xs
  | .dict _ => false
  | _ => true
def lay0s : List PyData → Bool
  | [] => true
  | x :: xs => lay0 x && lay0s xs
end
mutual
theorem lay0_of : ∀ {d : PyData}, d.canLay0 = true → lay0 d = true
  | .none, _ => rfl
  | .bool _, _ => rfl
  | .int _, _ => rfl
  | .str _, _ => rfl
  | .list xs, h => by unfold PyData.canLay0 at h; exact lay0s_of h
  | .tuple xs, h => by unfold PyData.canLay0 at h; exact lay0s_of h
  | .dict _, h => by unfold PyData.canLay0 at h; cases h
theorem lay0s_of : ∀ {ds : List PyData}, PyData.canLayAll0 ds = true → lay0s ds = true
  | [], _ => rfl
  | d :: ds, h => by
    unfold PyData.canLayAll0 at h
    rw [Bool.and_eq_true] at h
    show (lay0 d && lay0s ds) = true
    rw [lay0_of h.1, lay0s_of h.2]; rfl
end
/-- may be compared -/
structure Lay (d : PyData) : Prop where
  c : d.canLay0 = true
  h : d.depth ≤ 190
mutual
theorem dp_of {K : Frg} {H : Hp} : ∀ {d : PyData} {v : V}, lay0 d = true → Rp K H d v → Dp K H v d
  | .none, _, _, h => by rw [rp_non h]; exact .non
  | .bool _, _, _, h => by rw [rp_bl h]; exact .bl _
  | .int _, _, _, h => by rw [rp_int h]; exact .int _
  | .str _, _, _, h => by rw [rp_str h]; exact .str _
  | .list ds, _, l, h => by
    obtain ⟨a, xs, rfl, q, r⟩ := rp_lst h
    exact .lst (SqL.of q) (dpAll_of l r)
  | .tuple ds, _, l, h => by
    obtain ⟨a, xs, rfl, q, r⟩ := rp_tup h
    exact .tup q (dpAll_of l r)
  | .dict _, _, l, _ => by cases l
theorem dpAll_of {K : Frg} {H : Hp} : ∀ {ds : List PyData} {xs : List V}, lay0s ds = true → RpAll K H ds xs → DpAll K H xs ds
  | [], _, _, h => by rw [all_nil h]; exact .nil
  | d :: ds, _, l, h => by
    obtain ⟨v, vs, rfl, a, h⟩ := all_cons h
    have l : (lay0 d && lay0s ds) = true := l
    rw [Bool.and_eq_true] at l
    exact .cons (dp_of l.1 a) (dpAll_of l.2 h)
end

def rEqW (K : Frg) : R2 := fun x y H Q => ∃ d e, Dp K H x d ∧ Dp K H y e ∧ d.canLay0 = true ∧ e.canLay0 = true ∧ d.depth ≤ 190 ∧ Q (.bl (PyData.eqv d e)) H
theorem op_eqW {n : Nat} (hr : Room n X.A) : OpR X (compareOp .Eq) (rEqW X.K) := by
  intro pins s σ H x y v u Q I rx ry h
  obtain ⟨d, e, hd, he, sd, se, hl, q⟩ := h
  obtain ⟨as, r1⟩ := Dp.reads I d x v hd rx
  obtain ⟨bs, r2⟩ := Dp.reads I e y u he ry
  exact SeqAt.compareEq_reads r1 r2 sd se (by have := hr.un; omega) ⟨.bl _, H, I, rfl, q⟩
def rNeW (K : Frg) : R2 := fun x y H Q => ∃ d e, Dp K H x d ∧ Dp K H y e ∧ d.canLay0 = true ∧ e.canLay0 = true ∧ d.depth ≤ 190 ∧ Q (.bl (!PyData.eqv d e)) H
theorem op_neW {n : Nat} (hr : Room n X.A) : OpR X (compareOp .NotEq) (rNeW X.K) := by
  intro pins s σ H x y v u Q I rx ry h
  obtain ⟨d, e, hd, he, sd, se, hl, q⟩ := h
  obtain ⟨as, r1⟩ := Dp.reads I d x v hd rx
  obtain ⟨bs, r2⟩ := Dp.reads I e y u he ry
  exact SeqAt.compareNe_reads r1 r2 sd se (by have := hr.un; omega) ⟨.bl _, H, I, rfl, q⟩
theorem opd_eqD {da db : PyData} (ha : Lay da) (hb : db.canLay0 = true) : OpD X.K O ρ (rEqW X.K) da db (PD X.K (.bool (PyData.eqv da db))) := fun σ F H x y G G' Q R _ g rx _ g' ry kk =>
  ⟨da, db, dp_of (lay0_of ha.c) (rx.mono g), dp_of (lay0_of hb) (ry.mono g'), ha.c, hb, ha.h, kk F H _ (Ex.refl _) R mk_bl⟩
theorem opd_neD {da db : PyData} (ha : Lay da) (hb : db.canLay0 = true) : OpD X.K O ρ (rNeW X.K) da db (PD X.K (.bool (!PyData.eqv da db))) := fun σ F H x y G G' Q R _ g rx _ g' ry kk =>
  ⟨da, db, dp_of (lay0_of ha.c) (rx.mono g), dp_of (lay0_of hb) (ry.mono g'), ha.c, hb, ha.h, kk F H _ (Ex.refl _) R mk_bl⟩
theorem de_eqD {n : Nat} {da db : PyData} (hr : Room n X.A) (h1 : BE X O ρ a da) (h2 : BE X O ρ b db) (ha : Lay da) (hb : db.canLay0 = true) : DE X O ρ (.Compare a [.Eq] [b] pos) (.bool (PyData.eqv da db)) := x_cmp (op_eqW hr) (opd_eqD ha hb) (nmk nofun nofun) h1 h2
theorem dt_eqD {n : Nat} {da db : PyData} (hr : Room n X.A) (h1 : BE X O ρ a da) (h2 : BE X O ρ b db) (ha : Lay da) (hb : db.canLay0 = true) : DT X O ρ (.Compare a [.Eq] [b] pos) (PyData.eqv da db) := x_cmpT (op_eqW hr) (opd_eqD ha hb) (nmk nofun nofun) h1 h2
theorem de_neD {n : Nat} {da db : PyData} (hr : Room n X.A) (h1 : BE X O ρ a da) (h2 : BE X O ρ b db) (ha : Lay da) (hb : db.canLay0 = true) : DE X O ρ (.Compare a [.NotEq] [b] pos) (.bool (!PyData.eqv da db)) := x_cmp (op_neW hr) (opd_neD ha hb) (nmk nofun nofun) h1 h2
theorem dt_neD {n : Nat} {da db : PyData} (hr : Room n X.A) (h1 : BE X O ρ a da) (h2 : BE X O ρ b db) (ha : Lay da) (hb : db.canLay0 = true) : DT X O ρ (.Compare a [.NotEq] [b] pos) (!PyData.eqv da db) := x_cmpT (op_neW hr) (opd_neD ha hb) (nmk nofun nofun) h1 h2
end
/-! lays of the usual data -/
theorem lay_ints : ∀ ns : List Int, PyData.canLayAll0 (ns.map .int) = true
  | [] => by simp only [List.map_nil, PyData.canLayAll0]
  | n :: ns => by
    rw [List.map_cons]
    unfold PyData.canLayAll0
    rw [lay_ints ns]
    simp only [PyData.canLay0, Bool.and_true]
theorem dep_ints : ∀ ns : List Int, PyData.depthAll (ns.map .int) ≤ 1
  | [] => by simp [PyData.depthAll]
  | n :: ns => by
    have := dep_ints ns
    rw [List.map_cons]
    simp only [PyData.depthAll, PyData.depth]
    omega
theorem lay_LI (ns : List Int) : Lay (.list (ns.map .int)) := ⟨by simp only [PyData.canLay0]; exact lay_ints ns, by have := dep_ints ns; simp only [PyData.depth]; omega⟩
theorem lay_TI (ns : List Int) : Lay (.tuple (ns.map .int)) := ⟨by simp only [PyData.canLay0]; exact lay_ints ns, by have := dep_ints ns; simp only [PyData.depth]; omega⟩
theorem eqvA_ints : ∀ xs ys : List Int, PyData.eqvAll (xs.map .int) (ys.map .int) = decide (xs = ys)
  | [], [] => by simp [PyData.eqvAll]
  | [], _ :: _ => by simp [PyData.eqvAll]
  | _ :: _, [] => by simp [PyData.eqvAll]
  | x :: xs, y :: ys => by
    rw [List.map_cons, List.map_cons]
    unfold PyData.eqvAll PyData.eqv
    rw [eqvA_ints xs ys]
    by_cases h : x = y
    · subst h; simp
    · simp [h]
theorem eqv_LI (xs ys : List Int) : PyData.eqv (.list (xs.map .int)) (.list (ys.map .int)) = decide (xs = ys) := by unfold PyData.eqv; exact eqvA_ints xs ys
theorem eqv_TI (xs ys : List Int) : PyData.eqv (.tuple (xs.map .int)) (.tuple (ys.map .int)) = decide (xs = ys) := by unfold PyData.eqv; exact eqvA_ints xs ys
theorem dn_int (i : Int) : PyData.depth (.int i) = 0 := by simp only [PyData.depth]
theorem beq_int (i j : Int) : (i == j) = decide (i = j) := by by_cases h : i = j <;> simp [h]
/-! isinstance with the usual classes -/
def isIntB : PyData → Bool
  | .int _ | .bool _ => true
  | _ => false
def isBoolB : PyData → Bool
  | .bool _ => true
  | _ => false
def isTupB : PyData → Bool
  | .tuple _ => true
  | _ => false
def isLstB : PyData → Bool
  | .list _ | .dict _ => true
  | _ => false
def isStrB : PyData → Bool
  | .str _ => true
  | _ => false
theorem kt_int : ∀ d : PyData, kitB (tyN d) "int" = some (isIntB d)
  | .none => (by decide +kernel : kitB "NoneType" "int" = some false)
  | .bool _ => (by decide +kernel : kitB "bool" "int" = some true)
  | .int _ => (by decide +kernel : kitB "int" "int" = some true)
  | .str _ => (by decide +kernel : kitB "str" "int" = some false)
  | .list _ => (by decide +kernel : kitB "list" "int" = some false)
  | .tuple _ => (by decide +kernel : kitB "tuple" "int" = some false)
  | .dict _ => (by decide +kernel : kitB "list" "int" = some false)
theorem kt_bool : ∀ d : PyData, kitB (tyN d) "bool" = some (isBoolB d)
  | .none => (by decide +kernel : kitB "NoneType" "bool" = some false)
  | .bool _ => (by decide +kernel : kitB "bool" "bool" = some true)
  | .int _ => (by decide +kernel : kitB "int" "bool" = some false)
  | .str _ => (by decide +kernel : kitB "str" "bool" = some false)
  | .list _ => (by decide +kernel : kitB "list" "bool" = some false)
  | .tuple _ => (by decide +kernel : kitB "tuple" "bool" = some false)
  | .dict _ => (by decide +kernel : kitB "list" "bool" = some false)
theorem kt_tuple : ∀ d : PyData, kitB (tyN d) "tuple" = some (isTupB d)
  | .none => (by decide +kernel : kitB "NoneType" "tuple" = some false)
  | .bool _ => (by decide +kernel : kitB "bool" "tuple" = some false)
  | .int _ => (by decide +kernel : kitB "int" "tuple" = some false)
  | .str _ => (by decide +kernel : kitB "str" "tuple" = some false)
  | .list _ => (by decide +kernel : kitB "list" "tuple" = some false)
  | .tuple _ => (by decide +kernel : kitB "tuple" "tuple" = some true)
  | .dict _ => (by decide +kernel : kitB "list" "tuple" = some false)
theorem kt_list : ∀ d : PyData, kitB (tyN d) "list" = some (isLstB d)
  | .none => (by decide +kernel : kitB "NoneType" "list" = some false)
  | .bool _ => (by decide +kernel : kitB "bool" "list" = some false)
  | .int _ => (by decide +kernel : kitB "int" "list" = some false)
  | .str _ => (by decide +kernel : kitB "str" "list" = some false)
  | .list _ => (by decide +kernel : kitB "list" "list" = some true)
  | .tuple _ => (by decide +kernel : kitB "tuple" "list" = some false)
  | .dict _ => (by decide +kernel : kitB "list" "list" = some true)
theorem kt_str : ∀ d : PyData, kitB (tyN d) "str" = some (isStrB d)
  | .none => (by decide +kernel : kitB "NoneType" "str" = some false)
  | .bool _ => (by decide +kernel : kitB "bool" "str" = some false)
  | .int _ => (by decide +kernel : kitB "int" "str" = some false)
  | .str _ => (by decide +kernel : kitB "str" "str" = some true)
  | .list _ => (by decide +kernel : kitB "list" "str" = some false)
  | .tuple _ => (by decide +kernel : kitB "tuple" "str" = some false)
  | .dict _ => (by decide +kernel : kitB "list" "str" = some false)
section
variable {X : Cx} {O : Hp} {ρ : List Sl} {a : Expr} {d : PyData} {p p2 pos : Pos}
theorem de_isInt (hm : X.mg "isinstance" = none) (hm2 : X.mg "int" = none) (ha : BE X O ρ a d) (hg : Gl X "isinstance" := by rfl) (hg2 : Gl X "int" := by rfl)
    (he : starEach [a, .Name "int" p2] X.env = (false, eval a X.env) :: starEach [.Name "int" p2] X.env := by rfl) (he2 : starEach [.Name "int" p2] X.env = (false, eval (.Name "int" p2) X.env) :: starEach [] X.env := by rfl) (hpl : (backTo pos (starEach [.Name "int" p2] X.env)).any (·.1) = false := by rfl) :
    DE X O ρ (.Call (.Name "isinstance" p) [a, .Name "int" p2] [] pos) (.bool (isIntB d)) := de_isi hm hm2 (n := "int") (by decide +kernel) ha (kt_int d) hg hg2 (by decide) (by decide) he he2 hpl
theorem de_isBool (hm : X.mg "isinstance" = none) (hm2 : X.mg "bool" = none) (ha : BE X O ρ a d) (hg : Gl X "isinstance" := by rfl) (hg2 : Gl X "bool" := by rfl)
    (he : starEach [a, .Name "bool" p2] X.env = (false, eval a X.env) :: starEach [.Name "bool" p2] X.env := by rfl) (he2 : starEach [.Name "bool" p2] X.env = (false, eval (.Name "bool" p2) X.env) :: starEach [] X.env := by rfl) (hpl : (backTo pos (starEach [.Name "bool" p2] X.env)).any (·.1) = false := by rfl) :
    DE X O ρ (.Call (.Name "isinstance" p) [a, .Name "bool" p2] [] pos) (.bool (isBoolB d)) := de_isi hm hm2 (n := "bool") (by decide +kernel) ha (kt_bool d) hg hg2 (by decide) (by decide) he he2 hpl
theorem de_isTup (hm : X.mg "isinstance" = none) (hm2 : X.mg "tuple" = none) (ha : BE X O ρ a d) (hg : Gl X "isinstance" := by rfl) (hg2 : Gl X "tuple" := by rfl)
    (he : starEach [a, .Name "tuple" p2] X.env = (false, eval a X.env) :: starEach [.Name "tuple" p2] X.env := by rfl) (he2 : starEach [.Name "tuple" p2] X.env = (false, eval (.Name "tuple" p2) X.env) :: starEach [] X.env := by rfl) (hpl : (backTo pos (starEach [.Name "tuple" p2] X.env)).any (·.1) = false := by rfl) :
    DE X O ρ (.Call (.Name "isinstance" p) [a, .Name "tuple" p2] [] pos) (.bool (isTupB d)) := de_isi hm hm2 (n := "tuple") (by decide +kernel) ha (kt_tuple d) hg hg2 (by decide) (by decide) he he2 hpl
theorem de_isLst (hm : X.mg "isinstance" = none) (hm2 : X.mg "list" = none) (ha : BE X O ρ a d) (hg : Gl X "isinstance" := by rfl) (hg2 : Gl X "list" := by rfl)
    (he : starEach [a, .Name "list" p2] X.env = (false, eval a X.env) :: starEach [.Name "list" p2] X.env := by rfl) (he2 : starEach [.Name "list" p2] X.env = (false, eval (.Name "list" p2) X.env) :: starEach [] X.env := by rfl) (hpl : (backTo pos (starEach [.Name "list" p2] X.env)).any (·.1) = false := by rfl) :
    DE X O ρ (.Call (.Name "isinstance" p) [a, .Name "list" p2] [] pos) (.bool (isLstB d)) := de_isi hm hm2 (n := "list") (by decide +kernel) ha (kt_list d) hg hg2 (by decide) (by decide) he he2 hpl
theorem de_isStr (hm : X.mg "isinstance" = none) (hm2 : X.mg "str" = none) (ha : BE X O ρ a d) (hg : Gl X "isinstance" := by rfl) (hg2 : Gl X "str" := by rfl)
    (he : starEach [a, .Name "str" p2] X.env = (false, eval a X.env) :: starEach [.Name "str" p2] X.env := by rfl) (he2 : starEach [.Name "str" p2] X.env = (false, eval (.Name "str" p2) X.env) :: starEach [] X.env := by rfl) (hpl : (backTo pos (starEach [.Name "str" p2] X.env)).any (·.1) = false := by rfl) :
    DE X O ρ (.Call (.Name "isinstance" p) [a, .Name "str" p2] [] pos) (.bool (isStrB d)) := de_isi hm hm2 (n := "str") (by decide +kernel) ha (kt_str d) hg hg2 (by decide) (by decide) he he2 hpl
end
/-! a module's constants -/
theorem de_glI {X : Cx} {O : Hp} {ρ : List Sl} {x : Str} {i : Int} {pos : Pos} (h : ∃ t, X.mg x = some (.int i t)) (hg : Gl X x := by rfl) (hd : (x == ("__debug__" : Str)) = false := by decide) : DE X O ρ (.Name x pos) (.int i) := by
  obtain ⟨t, h⟩ := h
  exact de_gl (v := .int i) h ⟨t, rfl⟩ (fun _ => mk_int) hg hd
theorem cut_to {α : Type} (xs : List α) (k : Nat) (h : k ≤ xs.length) : DL.cutD xs none (some (k : Int)) = xs.take k := by
  unfold DL.cutD
  rw [HT.sIx_none, HT.sIx_nat, Nat.min_eq_left h]
  simp
theorem cut_from {α : Type} (xs : List α) (k : Nat) (h : k ≤ xs.length) : DL.cutD xs (some (k : Int)) none = xs.drop k := by
  unfold DL.cutD
  rw [HT.sIx_none, HT.sIx_nat, Nat.min_eq_left h]
  rw [List.take_of_length_le (by rw [List.length_drop]; omega)]
theorem atI_mod {α : Type} [Inhabited α] {ns : List α} (h : ns ≠ []) (k : Int) (z : α) : atI ns (k % (ns.length : Int)) = some (ns.getD (k % (ns.length : Int)).toNat z) := by
  have hl : 0 < ns.length := List.length_pos_iff.mpr h
  have h0 := Int.emod_nonneg k (show (ns.length : Int) ≠ 0 by omega)
  have h1 := Int.emod_lt_of_pos k (show 0 < (ns.length : Int) by omega)
  unfold atI ixN
  rw [if_pos h0, if_pos h1]
  have h2 : (k % (ns.length : Int)).toNat < ns.length := by omega
  show ns[(k % (ns.length : Int)).toNat]? = _
  rw [List.getElem?_eq_getElem h2, List.getD_eq_getElem?_getD, List.getElem?_eq_getElem h2]
  rfl
/-- an item at a place in bounds -/
theorem atI_in {α : Type} {ns : List α} {k : Int} (z : α) (h0 : 0 ≤ k) (h1 : k < (ns.length : Int)) : atI ns k = some (ns.getD k.toNat z) := by
  unfold atI ixN
  rw [if_pos h0, if_pos h1]
  have h2 : k.toNat < ns.length := by omega
  show ns[k.toNat]? = _
  rw [List.getElem?_eq_getElem h2, List.getD_eq_getElem?_getD, List.getElem?_eq_getElem h2]
  rfl
theorem atI_ints {ns : List Int} {k : Int} (h0 : 0 ≤ k) (h1 : k < (ns.length : Int)) : atI (ns.map PyData.int) k = some (.int (ns.getD k.toNat 0)) := by
  rw [atI_in (.int 0) h0 (by rw [List.length_map]; exact h1), List.getD_eq_getElem?_getD, List.getElem?_map, List.getD_eq_getElem?_getD, List.getElem?_eq_getElem (show k.toNat < ns.length by omega)]
  rfl
/-- an item of a written list, by a remainder -/
theorem atI_menu {α : Type} [Inhabited α] {ns : List α} {m : Int} (k : Int) (z : α) (h : m = (ns.length : Int)) (hn : ns ≠ []) : atI ns (k % m) = some (ns.getD (k % m).toNat z) := by subst h; exact atI_mod hn k z
end DL

namespace DL
open PySem PySem.Spec PyProof.Rows L2
section
variable {X : Cx} {O : Hp} {W : WX} {ρ ρ' : List Sl} {e a b c tg : Expr} {es : List Expr} {d : PyData} {ds ds' : List PyData} {pos p' p2 ap cp spos : Pos} {i j : Int} {k : Bool} {st : Stmt} {rest body els : List Stmt} {D : Dk} {er : Er} {o : Out} {n : Nat} {p : Addr}
/-! ### small things more -/
def isInts : List Expr → List Int → Bool
  | [], [] => true
  | .Constant (.int i) _ _ :: es, n :: ns => decide (i = n) && isInts es ns
  | _, _ => false
theorem ad_ints : ∀ {es : List Expr} {ns : List Int}, isInts es ns = true → AD X O ρ es (ns.map .int)
  | [], [], _ => ad_nil
  | .Constant (.int i) j q :: es, n :: ns, h => by
    have h2 : (decide (i = n) && isInts es ns) = true := h
    rw [Bool.and_eq_true, decide_eq_true_eq] at h2
    obtain ⟨e1, h3⟩ := h2
    subst e1
    exact ad_cons de_int (ad_ints h3)
theorem ne_ints (ns : List Int) (h : isInts es ns = true := by rfl) (hl : ns.length ≤ 16777216 := by decide) : NE X O ρ (.List es pos) (ns.map .int) := ne_lst (ad_ints h) (by rw [List.length_map]; exact hl)
theorem de_tints (ns : List Int) {x1 : Nat} (h : isInts es ns = true := by rfl) (hl : ns.length ≤ 16777216 := by decide) : DE X O ρ (.Tuple es x1 pos) (.tuple (ns.map .int)) := de_tup (ad_ints h) (by rw [List.length_map]; exact hl)
theorem opd_isB {x y : Bool} : OpD X.K O ρ rIsB (.bool x) (.bool y) (PD X.K (.bool (decide (x = y)))) := fun σ F H u v G G' Q R _ _ rx _ _ ry kk => ⟨x, y, rp_bl rx, rp_bl ry, kk F H _ (Ex.refl _) R mk_bl⟩
theorem opd_isNB {x y : Bool} : OpD X.K O ρ rNotB (.bool x) (.bool y) (PD X.K (.bool (!decide (x = y)))) := fun σ F H u v G G' Q R _ _ rx _ _ ry kk => ⟨x, y, rp_bl rx, rp_bl ry, kk F H _ (Ex.refl _) R mk_bl⟩
theorem dt_isT {x : Bool} {jj : Nat} (ha : BE X O ρ a (.bool x)) : DT X O ρ (.Compare a [.Is] [.Constant (.bool true) jj p2] pos) x := (x_cmpT op_isBl (opd_isB (y := true)) (nmk nofun nofun) ha de_bl.b).is (by cases x <;> rfl)
theorem dt_notT {x : Bool} {jj : Nat} (ha : BE X O ρ a (.bool x)) : DT X O ρ (.Compare a [.IsNot] [.Constant (.bool true) jj p2] pos) (!x) := (x_cmpT op_notBl (opd_isNB (y := true)) (nmk nofun nofun) ha de_bl.b).is (by cases x <;> rfl)
theorem de_notTt (h : DT X O ρ a k) (hp : ∀ σ H Q, tTT X.K O ρ k σ H Q → True) : True := trivial
theorem ne_if2 {k : Bool} (hc : DT X O ρ c k) (ha : NE X O ρ a ds) (hb : NE X O ρ b ds') : NE X O ρ (.IfExp c a b pos) (if k then ds else ds') := by
  cases k with
  | true => exact ne_if hc (fun _ => ha) nofun
  | false => exact ne_if hc nofun fun _ => hb
theorem ds_ifId {x : Str} {i' : Int} {q : Prop} [dq : Decidable q] (hN : X.N.Nodup) (hc : DT X O ρ c (decide q)) (h0 : ρ[n]? = some (.va (.int i'))) (he : DE X O ρ e (.int i)) (hk : D.nx (ρ.set n (.va (.int (if q then i else i'))))) (hi : X.N[n]? = some x := by rfl) (hx : Loc X.env.scope x := by first | exact Or.inl rfl | exact Or.inr rfl) (hs : swapsWith e (some (.Name x p')) pos.line X.env = pure false := by rfl) (hf : X.fn x = true := by rfl) :
    DS X O W ρ (.If c [.Assign [.Name x p'] e pos] [] p2) D := ds_ifI hN hc h0 he (by
  have z : (if decide q = true then i else i') = (if q then i else i') := by by_cases h : q <;> simp [h]
  rw [z]; exact hk) hi hx hs hf
theorem ds_ifB {x : Str} {k2 k3 : Bool} (hN : X.N.Nodup) (hc : DT X O ρ c k) (h0 : ρ[n]? = some (.va (.bool k3))) (he : DE X O ρ e (.bool k2)) (hk : D.nx (ρ.set n (.va (.bool (if k then k2 else k3))))) (hi : X.N[n]? = some x := by rfl) (hx : Loc X.env.scope x := by first | exact Or.inl rfl | exact Or.inr rfl) (hs : swapsWith e (some (.Name x p')) pos.line X.env = pure false := by rfl) (hf : X.fn x = true := by rfl) :
    DS X O W ρ (.If c [.Assign [.Name x p'] e pos] [] p2) D := ds_ifA hN hc h0 (fun _ => he) (by cases k <;> exact hk) hi hx hs hf
theorem de_eqLI {m : Nat} {xs ys : List Int} (hr : Room m X.A) (h1 : BE X O ρ a (.list (xs.map .int))) (h2 : BE X O ρ b (.list (ys.map .int))) : DE X O ρ (.Compare a [.Eq] [b] pos) (.bool (decide (xs = ys))) := (de_eqD hr h1 h2 (lay_LI _) (lay_LI _).c).is (by rw [eqv_LI])
theorem dt_eqLI {m : Nat} {xs ys : List Int} (hr : Room m X.A) (h1 : BE X O ρ a (.list (xs.map .int))) (h2 : BE X O ρ b (.list (ys.map .int))) : DT X O ρ (.Compare a [.Eq] [b] pos) (decide (xs = ys)) := (dt_eqD hr h1 h2 (lay_LI _) (lay_LI _).c).is (by rw [eqv_LI])
theorem de_neLI {m : Nat} {xs ys : List Int} (hr : Room m X.A) (h1 : BE X O ρ a (.list (xs.map .int))) (h2 : BE X O ρ b (.list (ys.map .int))) : DE X O ρ (.Compare a [.NotEq] [b] pos) (.bool (!decide (xs = ys))) := (de_neD hr h1 h2 (lay_LI _) (lay_LI _).c).is (by rw [eqv_LI])
theorem dt_neLI {m : Nat} {xs ys : List Int} (hr : Room m X.A) (h1 : BE X O ρ a (.list (xs.map .int))) (h2 : BE X O ρ b (.list (ys.map .int))) : DT X O ρ (.Compare a [.NotEq] [b] pos) (!decide (xs = ys)) := (dt_neD hr h1 h2 (lay_LI _) (lay_LI _).c).is (by rw [eqv_LI])
theorem de_eqTI {m : Nat} {xs ys : List Int} (hr : Room m X.A) (h1 : BE X O ρ a (.tuple (xs.map .int))) (h2 : BE X O ρ b (.tuple (ys.map .int))) : DE X O ρ (.Compare a [.Eq] [b] pos) (.bool (decide (xs = ys))) := (de_eqD hr h1 h2 (lay_TI _) (lay_TI _).c).is (by rw [eqv_TI])
theorem dt_eqTI {m : Nat} {xs ys : List Int} (hr : Room m X.A) (h1 : BE X O ρ a (.tuple (xs.map .int))) (h2 : BE X O ρ b (.tuple (ys.map .int))) : DT X O ρ (.Compare a [.Eq] [b] pos) (decide (xs = ys)) := (dt_eqD hr h1 h2 (lay_TI _) (lay_TI _).c).is (by rw [eqv_TI])
theorem ce_insert {b : Expr} (hr : ρ[n]? = some (.ow p ds)) (ho : RE X O ρ a (.ref p)) (hb : BE X O ρ b (.int i)) (he : DE X O ρ e d) (hz : ds.length < 16777216) (hi : 0 ≤ i ∧ i < 2 ^ 63)
    (hbase : attributeBase a "insert" X.env (eval a X.env) = eval a X.env := by rfl)
    (hfew : ((backTo cp (starEach [b, e] X.env)).all (fun x => !x.1) && (backToKw cp (keywordEach [] X.env)).all (fun x => x.1.isSome) && decide ([b, e].length + ([] : List Keyword).length + (if ([] : List Keyword).isEmpty then 0 else 1) < 30)) = true := by rfl)
    (hline : (ap.endLine == cp.line) = true := by rfl) (hs : starEach [b, e] X.env = (false, eval b X.env) :: starEach [e] X.env := by rfl) (hs2 : starEach [e] X.env = (false, eval e X.env) :: starEach [] X.env := by rfl) (hpl : (backTo cp (starEach [e] X.env)).any (·.1) = false := by rfl) :
    CE X O ρ (ρ.set n (.ow p (ds.take i.toNat ++ [d] ++ ds.drop i.toNat))) (.Call (.Attribute a "insert" ap) [b, e] [] cp) .none :=
  pe_mono (pe_bm PySem.F.plainAttrs_list PySem.F.slot_list_insert PySem.F.type_list_insert mt_insert ho (pa_cons hb (pa_cons he pa_nil hs2) hs) hbase hfew hline hs hpl) fun σ H Q ⟨F, R, kk⟩ => ⟨F, R, fun F1 H1 v e1 R1 ev => by
    cases (show v = V.ref p from ev)
    refine ⟨tyL R1 hr, F1, R1, fun F2 H2 u e2 R2 ru => ⟨F2, R2, fun F3 H3 u3 e3 R3 r3 => ?_⟩⟩
    obtain ⟨_, _, _, xs, h, rx⟩ := R3.ow hr
    cases rp_int ((ru.up e3).flat R3 rfl : Rp X.K F3 (.int i) u)
    exact ⟨p, xs, i, u3, rfl, rfl, h, by rw [← all_len rx]; exact sz_lt hz, hi.1, hi.2, kk F3 _ _ ((e1.trans e2).trans e3) (R3.mutOw hr (all_app (all_app (all_take _ rx) (mk_cons r3 mk_nil)) (all_drop _ rx))) mk_non⟩⟩
end
theorem atI_any {α : Type} {ns : List α} {k : Int} (h0 : 0 ≤ k) (h1 : k < (ns.length : Int)) : atI ns k = some (ns[k.toNat]'(by omega)) := by
  unfold atI ixN
  rw [if_pos h0, if_pos h1]
  exact List.getElem?_eq_getElem (by omega)
theorem atI_menuI {ns : List Int} {m : Int} (k : Int) (h : m = (ns.length : Int)) (hn : 0 < m) : atI (ns.map PyData.int) (k % m) = some (.int (ns.getD (k % m).toNat 0)) :=
  atI_ints (Int.emod_nonneg _ (by omega)) (by rw [← h]; exact Int.emod_lt_of_pos _ hn)
/-! ### errors of own classes -/
/-- what stands behind the top of an own error class without an __init__ -/
structure ExK (K : Frg) (mg : Str → Option Value) (x : Str) (C : Addr) : Prop where
  g : mg x = some (.ref C)
  ex : PySem.W.excIn K C [.type "ValueError", .type "Exception", .type "BaseException", .type "object"] "ValueError.__new__" = true
  kp : PySem.W.keepIn K (.ref C) = true
  bP : PySem.W.subIn K (.ref C) (.type "BaseException") = some true
  tP : PySem.W.typeIn K (.ref C) = some (.type "type")
/-- .. whose instances isinstance asks -/
structure ExI (K : Frg) (C : Addr) : Prop where
  hg : PySem.W.findIn K (.ref C) "__getattribute__" = some (some (.builtin "BaseException.__getattribute__"))
  hk : PySem.W.findIn K (.ref C) "__getattr__" = some none
  hs : PySem.W.subIn K (.ref C) (.type "BaseException") = some true
  hd : PySem.W.hasDictIn K C = true
  ha : PySem.W.findIn K (.ref C) "__class__" = some (some (.builtin "object.__class__"))
  hn : PySem.W.specialIn K (.builtin "object.__class__") "__get__" = some (some (.builtin "getset_descriptor.__get__"))
  ht : PySem.W.takesIn K (.builtin "object.__class__") = some true
  hm : PySem.W.mroIn K C (.type "object") = some true
theorem ExI.c {K : Frg} {C : Addr} (h : ExI K C) : ExcC K C := ⟨h.hg, h.hk, h.hs, h.hd, h.ha, h.hn, h.ht, h.hm⟩
/-- a class named in an except clause -/
structure ExN (K : Frg) (mg : Str → Option Value) (x : Str) (C : Addr) : Prop where
  g : mg x = some (.ref C)
def erC : Er → Addr
  | .pl C => C
  | .fl C _ _ => C
/-- the object of an error -/
def ErZ (er : Er) (oe : Obj) (F : Hp) : Prop := match er with
  | .pl C => Zc (.ref C) none oe
  | .fl C f k => ∃ dd, Zc (.ref C) (some dd) oe ∧ F dd = some (.xd [(f, .int k)])
section
variable {X : Cx} {O : Hp} {W : WX} {ρ ρ' : List Sl} {e a b c tg : Expr} {es : List Expr} {d : PyData} {ds ds' : List PyData} {pos pos' np p p' p2 : Pos} {i j : Int} {k : Bool} {st : Stmt} {rest body els : List Stmt} {D : Dk} {er : Er} {o : Out} {n : Nat}
theorem ds_raise {x m : Str} {C : Addr} {jj : Nat} (hc : X.calm = true) (tk : Takes X W) (E : ExK X.K X.mg x C) (h : D.ex ρ (.pl C)) (hg : Gl X x := by rfl) (hdb : (x == ("__debug__" : Str)) = false := by decide) :
    DS X O W ρ (.Raise (some (.Call (.Name x p) [.Constant (.str m) jj p2] [] pos)) none pos') D :=
  ps_mono (ps_raise hc tk (pmk_own PySem.F.excBase_ValueError E.ex E.g E.kp (raises_own E.bP E.tP) hg hdb)) fun E' σ H ⟨F, R, q⟩ => q.ex F ρ σ H (.pl C) _ _ (Ex.refl _) R ⟨rfl, rfl⟩ h
/-- x.m(e), of which e comes to an error -/
theorem dr_bm {T id : String} {r : V → List V → Hp → VK → Prop} {name : Str} {ap cp : Pos} {u : V} (pa : PlainAttrs T) (slot : Slot T name id) (hty : typeOf (.builtin id) = pure (.type "method_descriptor")) (hm : MtR X id r)
    (ht : ∀ σ F H, Rel X.K O F ρ σ H → tyV X.K T u H) (ho : RE X O ρ a u) (he : DR X O W ρ e er)
    (hbase : attributeBase a name X.env (eval a X.env) = eval a X.env := by rfl)
    (hfew : ((backTo cp (starEach [e] X.env)).all (fun x => !x.1) && (backToKw cp (keywordEach [] X.env)).all (fun x => x.1.isSome) && decide ([e].length + ([] : List Keyword).length + (if ([] : List Keyword).isEmpty then 0 else 1) < 30)) = true := by rfl)
    (hline : (ap.endLine == cp.line) = true := by rfl) (hs : starEach [e] X.env = (false, eval e X.env) :: starEach [] X.env := by rfl) (hpl : (backTo cp (starEach [] X.env)).any (·.1) = false := by rfl) : DR X O W ρ (.Call (.Attribute a name ap) [e] [] cp) er :=
  pe_mono (pe_bm pa slot hty hm ho (ar_hd he hs) hbase hfew hline hs hpl) fun σ H Q ⟨F, R, kk⟩ => ⟨F, R, fun F1 H1 v e1 R1 ev => by
    cases (show v = u from ev)
    exact ⟨ht _ _ _ R1, F1, R1, fun F2 H2 cls od e2 R2 ok => kk F2 H2 cls od (e1.trans e2) R2 ok⟩⟩
/-- what the suite of an except clause is to end with, seen from the statement's end: the error's own name is gone -/
def Dk.su (D : Dk) (i : Nat) : Dk := { nx := fun ρ' => D.nx (ρ'.set i .no), rt := fun ρ' o => D.rt (ρ'.set i .no) o, bk := fun ρ' => D.bk (ρ'.set i .no), ct := fun ρ' => D.ct (ρ'.set i .no), ex := fun _ _ => False }
theorem Rel.unset {K : Frg} {O F H : Hp} {ρ : List Sl} {σ : Sg} (R : Rel K O F ρ σ H) : Rel K O F (ρ.set n .no) (σ.set n none) H := by
  have h := R.wipe (n := n)
  exact h
theorem Apart.drop {ρ : List Sl} {p : Addr} (h : Apart ρ p) : Apart (ρ.set n .no) p := fun j s z hq => by
  rcases sets_get z with ⟨_, y⟩ | ⟨_, z⟩
  · subst y; exact absurd hq List.not_mem_nil
  · exact h j s z hq
theorem RvOk.drop {K : Frg} {O F H : Hp} {ρ : List Sl} {v : V} {o : Out} (h : RvOk K O ρ F H v o) : RvOk K O (ρ.set n .no) F H v o := by
  cases o with
  | ok d => exact h
  | nw ds => obtain ⟨p, xs, e, f, o, a, q⟩ := h; exact ⟨p, xs, e, f, o, a.drop, q⟩
  | tn d0 ds => obtain ⟨q', ⟨p, xs, e, f, o, a, q⟩, z⟩ := h; exact ⟨q', ⟨p, xs, e, f, o, a.drop, q⟩, z⟩
  | er e => exact h
def tSu (K : Frg) (O : Hp) (W : WX) (n : Nat) (Dh : List Sl → Er → Prop) (D : Dk) : Addr → Value → Option Addr → TS := fun a cls d E σ H => ∃ (ρ' : List Sl) (er : Er), Dh ρ' er ∧ ∀ oe : Obj, Zc cls d oe → tS K O W (ρ'.set n (.rw (.ref a) (ErZ er oe))) (D.su n) E σ H
/-- try: body / except X as n: suite -/
theorem ds_tryAs {x nm : Str} {c : Value} {b₀ : Stmt} {suite : List Stmt} (Dh : List Sl → Er → Prop) (hs : X.stack = X.env :: X.outer) (hf : X.env.frame = some X.env.locals) (hN : X.N.Nodup) (hi : X.N[n]? = some nm) (hln : X.env.kindOf nm = some .local)
    (hc : Names X x c) (tk : Takes X W) (hm : ∀ ρ' er, Dh ρ' er → PySem.W.exmOne X.K (.ref (erC er)) c = some true)
    (hb : ∀ (W' : WX) (pn : List (Addr × Obj)) (xe : Value → Shared → Prop), Takes (X.tr pn xe) W' → PassesOwn (model X.prog X.w) X.A X.env xe → DSs (X.tr pn xe) O W' ρ body { D with ex := Dh })
    (hsu : ∀ ρ' er, Dh ρ' er → ∀ (a : Addr) (oe : Obj) (pn : List (Addr × Obj)), (∃ vs, oe.data = .fields vs) → DSs (X.suite a ((a, oe) :: pn)) O W (ρ'.set n (.rw (.ref a) (ErZ er oe))) (b₀ :: suite) (D.su n)) :
    DS X O W ρ (.Try body [.ExceptHandler (some (.Name x np)) (some nm) (b₀ :: suite) pos'] [] [] pos) D := by
  refine ps_mono (t := fun E σ H => tS X.K O (wAs X.K c n (tSu X.K O W n Dh D) W E) ρ { D with ex := Dh } E σ H) (ps_try_as (Wout := W) (tb := fun W' => tS X.K O W' ρ { D with ex := Dh }) (ts := tSu X.K O W n Dh D) hs hf hN hi hln hc tk (fun W' pn xe t1 t2 => hb W' pn xe t1 t2) (fun a oe cls d pn hz hf => ⟨fun pins s σ H E I ⟨ρ', er, h1, h2⟩ => (hsu ρ' er h1 a oe pn hf).run pins s σ H E I (h2 oe hz)⟩)) fun E σ H ⟨F, R, q⟩ => ?_
  refine ⟨F, R, q.nx, q.rt, q.bk, q.ct, fun F' ρ' σ' H' er cls od e' R' ok hd => ?_⟩
  have hcls : cls = .ref (erC er) := by cases er <;> exact ok.1
  refine ⟨true, by rw [hcls]; exact hm ρ' er hd, fun _ a ha => ⟨ρ', er, hd, fun oe hz => ⟨F', R'.setRw fun F2 e2 => ?_, ?_⟩⟩, fun z => by cases z⟩
  · cases er with
    | pl C =>
      obtain ⟨rfl, rfl⟩ := ok
      exact hz
    | fl C f k =>
      obtain ⟨rfl, dd, rfl, h⟩ := ok
      exact ⟨dd, hz, e2 _ _ h⟩
  · exact ⟨fun F2 ρ2 σ2 H2 e2 R2 n2 => q.nx F2 _ _ H2 (e'.trans e2) R2.unset n2, fun F2 ρ2 σ2 H2 o v e2 R2 rv n2 => q.rt F2 _ _ H2 o v (e'.trans e2) R2.unset rv.drop n2,
      fun F2 ρ2 σ2 H2 e2 R2 n2 => q.bk F2 _ _ H2 (e'.trans e2) R2.unset n2, fun F2 ρ2 σ2 H2 e2 R2 n2 => q.ct F2 _ _ H2 (e'.trans e2) R2.unset n2, fun _ _ _ _ _ _ _ _ _ _ z => z.elim⟩
/-- try: body / except X: suite -/
theorem ds_tryOnly {x : Str} {c : Value} {b₀ : Stmt} {suite : List Stmt} (Dh : List Sl → Er → Prop) (hs : X.stack = X.env :: X.outer) (hf : X.env.frame = some X.env.locals)
    (hc : Names X x c) (tk : Takes X W) (hm : ∀ ρ' er, Dh ρ' er → PySem.W.exmOne X.K (.ref (erC er)) c = some true)
    (hb : ∀ (W' : WX) (pn : List (Addr × Obj)) (xe : Value → Shared → Prop), Takes (X.tr pn xe) W' → PassesOwn (model X.prog X.w) X.A X.env xe → DSs (X.tr pn xe) O W' ρ body { D with ex := Dh })
    (hsu : ∀ ρ' er, Dh ρ' er → ∀ (a : Addr) (oe : Obj) (pn : List (Addr × Obj)), DSs (X.suite a ((a, oe) :: pn)) O W ρ' (b₀ :: suite) { D with ex := fun _ _ => False }) :
    DS X O W ρ (.Try body [.ExceptHandler (some (.Name x np)) none (b₀ :: suite) pos'] [] [] pos) D := by
  refine ps_mono (t := fun E σ H => tS X.K O (wOnly X.K c (fun _ _ _ E σ H => ∃ ρ' er, Dh ρ' er ∧ tS X.K O W ρ' { D with ex := fun _ _ => False } E σ H) W E) ρ { D with ex := Dh } E σ H) (ps_try_only (Wout := W) (tb := fun W' => tS X.K O W' ρ { D with ex := Dh }) (ts := fun _ _ _ E σ H => ∃ ρ' er, Dh ρ' er ∧ tS X.K O W ρ' { D with ex := fun _ _ => False } E σ H) hs hf hc tk (fun W' pn xe t1 t2 => hb W' pn xe t1 t2) (fun a oe cls d pn hz hf => ⟨fun pins s σ H E I ⟨ρ', er, h1, h2⟩ => (hsu ρ' er h1 a oe pn).run pins s σ H E I h2⟩)) fun E σ H ⟨F, R, q⟩ => ?_
  refine ⟨F, R, q.nx, q.rt, q.bk, q.ct, fun F' ρ' σ' H' er cls od e' R' ok hd => ?_⟩
  have hcls : cls = .ref (erC er) := by cases er <;> exact ok.1
  exact ⟨true, by rw [hcls]; exact hm ρ' er hd, fun _ a ha => ⟨ρ', er, hd, F', R', (q.up e').nx, (q.up e').rt, (q.up e').bk, (q.up e').ct, fun _ _ _ _ _ _ _ _ _ _ z => z.elim⟩, fun z => by cases z⟩
/-! isinstance of the caught error -/
theorem kind_E {er : Er} {oe : Obj} {F : Hp} (h : ErZ er oe F) : oe.cls = .ref (erC er) := by
  cases er with
  | pl C => exact h.1
  | fl C f k => obtain ⟨dd, h, _⟩ := h; exact h.1
theorem de_isE {C : Addr} {a0 : Addr} {oe : Obj} {pn : List (Addr × Obj)} {cv : Value} {cvv : V} {xc nm : Str} (T : ExI X.K C) (hf : ∃ vs, oe.data = .fields vs) (hr : ρ[n]? = some (.rw (.ref a0) (ErZ (.pl C) oe))) (hm : X.mg "isinstance" = none)
    (hk : PySem.W.kitOne X.K (.ref C) cv = some k) (hcl : PE (X.suite a0 ((a0, oe) :: pn)) (.Name xc p2) (tC cvv)) (hrel : ∀ u, RelV cvv u → u = cv) (hN : X.N[n]? = some nm := by rfl)
    (hv : Vis X.env.scope nm := by first | exact Or.inl rfl | exact Or.inr (Or.inl rfl) | exact Or.inr (Or.inr rfl)) (hd : (nm == ("__debug__" : Str)) = false := by decide) (hcd : (nm == ("__classdict__" : Str)) = false := by decide) (hg : Gl X "isinstance" := by rfl) :
    DE (X.suite a0 ((a0, oe) :: pn)) O ρ (.Call (.Name "isinstance" p) [.Name nm np, .Name xc p2] [] pos) (.bool k) := by
  refine ⟨fun pins s σ H Q I ⟨F, R, kk⟩ => ?_⟩
  have hφ : σ[n]? = some (some (.ref a0)) ∧ _ := R.sl n _ hr
  have hz : Zc (.ref C) none oe := hφ.2 F (Ex.refl _)
  refine (pe_callB (call_isE (pn := pn) T.c hz hf) hg hm (by decide +kernel) (pa_cons (pe_var (X := X.suite a0 ((a0, oe) :: pn)) hN hv hd hcd) (pa_cons hcl pa_nil))).run pins s σ H Q I ?_
  exact ⟨_, hφ.1, _, cv, k, rfl, hrel, hk, kk F H _ (Ex.refl _) R mk_bl⟩
theorem de_isEo {C C' : Addr} {a0 : Addr} {oe : Obj} {pn : List (Addr × Obj)} {xc nm : Str} (T : ExI X.K C) (hf : ∃ vs, oe.data = .fields vs) (hr : ρ[n]? = some (.rw (.ref a0) (ErZ (.pl C) oe))) (hm : X.mg "isinstance" = none)
    (hk : PySem.W.kitOne X.K (.ref C) (.ref C') = some k) (gC : X.mg xc = some (.ref C')) (hN : X.N[n]? = some nm := by rfl)
    (hv : Vis X.env.scope nm := by first | exact Or.inl rfl | exact Or.inr (Or.inl rfl) | exact Or.inr (Or.inr rfl)) (hd : (nm == ("__debug__" : Str)) = false := by decide) (hcd : (nm == ("__classdict__" : Str)) = false := by decide) (hg : Gl X "isinstance" := by rfl) (hg2 : Gl X xc := by rfl) (hd2 : (xc == ("__debug__" : Str)) = false := by decide) :
    DE (X.suite a0 ((a0, oe) :: pn)) O ρ (.Call (.Name "isinstance" p) [.Name nm np, .Name xc p2] [] pos) (.bool k) :=
  de_isE (cvv := .ref C') T hf hr hm hk (pe_glob (X := X.suite a0 ((a0, oe) :: pn)) (u := .ref C') hg2 gC rfl hd2) (fun u h => h) hN hv hd hcd hg
theorem de_isEv {C : Addr} {a0 : Addr} {oe : Obj} {pn : List (Addr × Obj)} {nm : Str} (T : ExI X.K C) (hf : ∃ vs, oe.data = .fields vs) (hr : ρ[n]? = some (.rw (.ref a0) (ErZ (.pl C) oe))) (hm : X.mg "isinstance" = none)
    (hk : PySem.W.kitOne X.K (.ref C) (.type "ValueError") = some k) (gC : X.mg "ValueError" = none) (hN : X.N[n]? = some nm := by rfl)
    (hv : Vis X.env.scope nm := by first | exact Or.inl rfl | exact Or.inr (Or.inl rfl) | exact Or.inr (Or.inr rfl)) (hd : (nm == ("__debug__" : Str)) = false := by decide) (hcd : (nm == ("__classdict__" : Str)) = false := by decide) (hg : Gl X "isinstance" := by rfl) (hg2 : Gl X "ValueError" := by rfl) :
    DE (X.suite a0 ((a0, oe) :: pn)) O ρ (.Call (.Name "isinstance" p) [.Name nm np, .Name "ValueError" p2] [] pos) (.bool k) :=
  de_isE (cvv := .ty "ValueError") T hf hr hm hk (pe_bltn (X := X.suite a0 ((a0, oe) :: pn)) (u := .type "ValueError") hg2 gC (by decide +kernel) rfl) (fun u h => h) hN hv hd hcd hg
end
end DL

namespace DL
open PySem PySem.Spec PyProof.Rows L2
theorem ExK.nm {X : Cx} {x : Str} {C : Addr} (E : ExK X.K X.mg x C) (hg : Gl X x := by rfl) (hd : (x == ("__debug__" : Str)) = false := by decide) : Names X x (.ref C) := ⟨hg, hd, .inl E.g⟩
/-! ### equality of data -/
mutual
theorem eqv_refl : ∀ {d : PyData}, d.canLay0 = true → PyData.eqv d d = true
  | .none, _ => by simp [PyData.eqv]
  | .bool _, _ => by simp [PyData.eqv]
  | .int _, _ => by simp [PyData.eqv]
  | .str _, _ => by simp [PyData.eqv]
  | .list xs, h => by unfold PyData.canLay0 at h; unfold PyData.eqv; exact eqvA_refl h
  | .tuple xs, h => by unfold PyData.canLay0 at h; unfold PyData.eqv; exact eqvA_refl h
  | .dict _, h => by unfold PyData.canLay0 at h; cases h
theorem eqvA_refl : ∀ {ds : List PyData}, PyData.canLayAll0 ds = true → PyData.eqvAll ds ds = true
  | [], _ => by simp [PyData.eqvAll]
  | d :: ds, h => by
    unfold PyData.canLayAll0 at h
    rw [Bool.and_eq_true] at h
    unfold PyData.eqvAll
    rw [eqv_refl h.1, eqvA_refl h.2]; rfl
end
/-! no truth in it -/
mutual
def nob : PyData → Bool
  | .bool _ => false
  | .list xs => nobs xs
  | .tuple xs => nobs xs
  | .dict _ => false
  | _ => true
def nobs : List PyData → Bool
  | [] => true
  | x :: xs => nob x && nobs xs
end
mutual
theorem eqv_eq : ∀ {d e : PyData}, nob d = true → nob e = true → PyData.eqv d e = true → d = e
  | .none, .none, _, _, _ => rfl
  | .int i, .int j, _, _, h => by simp [PyData.eqv] at h; rw [h]
  | .str i, .str j, _, _, h => by simp [PyData.eqv] at h; rw [h]
  | .list xs, .list ys, a, b, h => by unfold PyData.eqv at h; unfold nob at a b; rw [eqvA_eq a b h]
  | .tuple xs, .tuple ys, a, b, h => by unfold PyData.eqv at h; unfold nob at a b; rw [eqvA_eq a b h]
  | .bool _, _, a, _, _ => by unfold nob at a; cases a
  | .dict _, _, a, _, _ => by unfold nob at a; cases a
  | _, .bool _, _, a, _ => by unfold nob at a; cases a
  | _, .dict _, _, a, _ => by unfold nob at a; cases a
  | .none, .int _, _, _, h | .none, .str _, _, _, h | .none, .list _, _, _, h | .none, .tuple _, _, _, h => by simp [PyData.eqv] at h
  | .int _, .none, _, _, h | .int _, .str _, _, _, h | .int _, .list _, _, _, h | .int _, .tuple _, _, _, h => by simp [PyData.eqv] at h
  | .str _, .none, _, _, h | .str _, .int _, _, _, h | .str _, .list _, _, _, h | .str _, .tuple _, _, _, h => by simp [PyData.eqv] at h
  | .list _, .none, _, _, h | .list _, .int _, _, _, h | .list _, .str _, _, _, h | .list _, .tuple _, _, _, h => by simp [PyData.eqv] at h
  | .tuple _, .none, _, _, h | .tuple _, .int _, _, _, h | .tuple _, .str _, _, _, h | .tuple _, .list _, _, _, h => by simp [PyData.eqv] at h
theorem eqvA_eq : ∀ {ds es : List PyData}, nobs ds = true → nobs es = true → PyData.eqvAll ds es = true → ds = es
  | [], [], _, _, _ => rfl
  | [], _ :: _, _, _, h => by simp [PyData.eqvAll] at h
  | _ :: _, [], _, _, h => by simp [PyData.eqvAll] at h
  | d :: ds, e :: es, a, b, h => by
    unfold nobs at a b
    unfold PyData.eqvAll at h
    rw [Bool.and_eq_true] at a b h
    rw [eqv_eq a.1 b.1 h.1, eqvA_eq a.2 b.2 h.2]
end
def LayN (k : Nat) (d : PyData) : Prop := d.canLay0 = true ∧ d.depth ≤ k
theorem LayN.lay {k : Nat} {d : PyData} (h : LayN k d) (hk : k ≤ 190) : Lay d := ⟨h.1, Nat.le_trans h.2 hk⟩
theorem LayN.mono {k k' : Nat} {d : PyData} (h : LayN k d) (l : k ≤ k') : LayN k' d := ⟨h.1, Nat.le_trans h.2 l⟩
theorem layN_none : LayN 1 .none := ⟨by simp only [PyData.canLay0], by simp only [PyData.depth]; omega⟩
theorem layN_bool {b : Bool} : LayN 1 (.bool b) := ⟨by simp only [PyData.canLay0], by simp only [PyData.depth]; omega⟩
theorem layN_int {i : Int} : LayN 1 (.int i) := ⟨by simp only [PyData.canLay0], by simp only [PyData.depth]; omega⟩
theorem layN_str {x : Str} (h : PyData.strOk x = true := by decide) : LayN 1 (.str x) := ⟨by simp only [PyData.canLay0]; exact h, by simp only [PyData.depth]; omega⟩
theorem layA {k : Nat} : ∀ {ds : List PyData}, (∀ d ∈ ds, LayN k d) → PyData.canLayAll0 ds = true ∧ PyData.depthAll ds ≤ k
  | [], _ => ⟨by simp only [PyData.canLayAll0], by simp only [PyData.depthAll]; omega⟩
  | d :: ds, h => by
    obtain ⟨a, b⟩ := h d (List.mem_cons_self)
    obtain ⟨c, e⟩ := layA fun x hx => h x (List.mem_cons_of_mem _ hx)
    refine ⟨by unfold PyData.canLayAll0; rw [a, c]; rfl, by simp only [PyData.depthAll]; omega⟩
theorem layN_list {k : Nat} {ds : List PyData} (h : ∀ d ∈ ds, LayN k d) : LayN (k + 1) (.list ds) := by
  obtain ⟨a, b⟩ := layA h
  exact ⟨by simp only [PyData.canLay0]; exact a, by simp only [PyData.depth]; omega⟩
theorem layN_tup {k : Nat} {ds : List PyData} (h : ∀ d ∈ ds, LayN k d) : LayN (k + 1) (.tuple ds) := by
  obtain ⟨a, b⟩ := layA h
  exact ⟨by simp only [PyData.canLay0]; exact a, by simp only [PyData.depth]; omega⟩
theorem layN_LI {ns : List Int} : LayN 2 (.list (ns.map .int)) := layN_list fun d h => by obtain ⟨i, _, rfl⟩ := List.mem_map.mp h; exact layN_int
theorem layN_TI {ns : List Int} : LayN 2 (.tuple (ns.map .int)) := layN_tup fun d h => by obtain ⟨i, _, rfl⟩ := List.mem_map.mp h; exact layN_int
/-- a tuple of whole numbers -/
def tupI (ns : List Int) : PyData := .tuple (ns.map .int)
theorem lay_LTI (xs : List (List Int)) : Lay (.list (xs.map tupI)) := (layN_list fun d h => by obtain ⟨i, _, rfl⟩ := List.mem_map.mp h; exact layN_TI).lay (k := 3) (by decide)
theorem atI_nat {ns : List Int} {k : Nat} (h : k < ns.length) : atI (ns.map PyData.int) (k : Int) = some (.int (ns.getD k 0)) := atI_ints (by omega) (by omega)
theorem drop_getD {ns : List Int} {k : Nat} (h : k < ns.length) : ns.drop k = ns.getD k 0 :: ns.drop (k + 1) := by
  rw [List.getD_eq_getElem?_getD, List.getElem?_eq_getElem h]; exact List.drop_eq_getElem_cons h
/-- an item of a row of whole numbers met on a walk -/
theorem ints_at {ns : List Int} {m : Nat} {d : PyData} (h : (ns.map PyData.int)[m]? = some d) : ∃ b, ns[m]? = some b ∧ d = .int b ∧ m < ns.length := by
  rw [List.getElem?_map] at h
  cases hb : ns[m]? with
  | none => rw [hb] at h; cases h
  | some b => rw [hb] at h; cases h; exact ⟨b, rfl, rfl, (List.getElem?_eq_some_iff.mp hb).1⟩
theorem map_at {α : Type} {f : α → PyData} {xs : List α} {m : Nat} {d : PyData} (h : (xs.map f)[m]? = some d) : ∃ b, xs[m]? = some b ∧ d = f b ∧ m < xs.length := by
  rw [List.getElem?_map] at h
  cases hb : xs[m]? with
  | none => rw [hb] at h; cases h
  | some b => rw [hb] at h; cases h; exact ⟨b, rfl, rfl, (List.getElem?_eq_some_iff.mp hb).1⟩
theorem take_at {α : Type} {xs : List α} {m : Nat} {b : α} (h : xs[m]? = some b) : xs.take (m + 1) = xs.take m ++ [b] := by
  rw [List.take_add_one, h]; rfl
theorem nobs_ints : ∀ ns : List Int, nobs (ns.map .int) = true
  | [] => rfl
  | n :: ns => by show (nob (.int n) && nobs (ns.map .int)) = true; rw [nobs_ints ns]; rfl
instance : Inhabited PyData := ⟨.none⟩
theorem two_getD (a b : PyData) {n : Nat} (h : n < 2) : [a, b].getD n .none = a ∨ [a, b].getD n .none = b := by
  match n, h with
  | 0, _ => exact .inl rfl
  | 1, _ => exact .inr rfl
theorem all_true {α : Type} (xs : List α) : (xs.map fun _ => true).all id = true := by rw [List.all_map, List.all_eq_true]; intro _ _; rfl
theorem kitCls_own {K : Frg} {t : Value} {C : Addr} {r : Bool} (h2 : PySem.W.isClsIn K C = true) (h3 : PySem.W.typeIn K (.ref C) = some (.type "type")) (h4 : PySem.W.subIn K t (.ref C) = some r) : PySem.W.kitCls K t (.ref C) = some r := by
  have e2 : ((PySem.W.clsIn K C).isSome && PySem.W.typeIn K (.ref C) == some (.type "type")) = true := by
    have h2' : (PySem.W.clsIn K C).isSome = true := h2
    rw [h2', h3] <;> rfl
  show (if ((PySem.W.clsIn K C).isSome && PySem.W.typeIn K (.ref C) == some (.type "type")) = true then PySem.W.subIn K t (.ref C) else none) = some r
  rw [if_pos e2]
  exact h4
theorem exm_own {K : Frg} {t : Value} {C : Addr} (h1 : PySem.W.subIn K (.ref C) (.type "BaseException") = some true) (h2 : PySem.W.isClsIn K C = true) (h3 : PySem.W.typeIn K (.ref C) = some (.type "type")) (h4 : PySem.W.subIn K t (.ref C) = some true) : PySem.W.exmOne K t (.ref C) = some true := by
  have e1 : (PySem.W.subIn K (.ref C) (.type "BaseException") == some true) = true := by rw [h1] <;> rfl
  unfold PySem.W.exmOne
  rw [if_pos e1]
  exact kitCls_own h2 h3 h4
theorem kit_own {K : Frg} {t : Value} {C : Addr} (h2 : PySem.W.isClsIn K C = true) (h3 : PySem.W.typeIn K (.ref C) = some (.type "type")) (h4 : PySem.W.subIn K t (.ref C) = some true) : PySem.W.kitOne K t (.ref C) = some true := by
  unfold PySem.W.kitOne
  rw [kitCls_own h2 h3 h4]
  split <;> rfl
theorem kit_ve {K : Frg} {t : Value} (h4 : PySem.W.subIn K t (.type "ValueError") = some true) : PySem.W.kitOne K t (.type "ValueError") = some true := by
  have e : PySem.W.kitCls K t (.type "ValueError") = some true := by
    show (if PySem.W.kitMeta "ValueError" = true then PySem.W.subIn K t (.type "ValueError") else none) = some true
    rw [if_pos (by decide +kernel)]
    exact h4
  unfold PySem.W.kitOne
  rw [e]
  split <;> rfl
section
variable {X : Cx} {O : Hp} {W : WX} {ρ ρ' : List Sl} {e a b c tg : Expr} {es : List Expr} {d : PyData} {ds ds' : List PyData} {pos pos' np p p' p2 : Pos} {i j : Int} {k : Bool} {st : Stmt} {rest body els : List Stmt} {D : Dk} {er : Er} {o : Out} {n : Nat}
theorem ds_tryAs1 (er : Er) {x nm : Str} {c : Value} {b₀ : Stmt} {suite : List Stmt} (hc : Names X x c) (tk : Takes X W) (hN : X.N.Nodup) (hm : PySem.W.exmOne X.K (.ref (erC er)) c = some true)
    (hb : ∀ (W' : WX) (pn : List (Addr × Obj)) (xe : Value → Shared → Prop), Takes (X.tr pn xe) W' → PassesOwn (model X.prog X.w) X.A X.env xe → DSs (X.tr pn xe) O W' ρ body { D with ex := fun ρ' er' => ρ' = ρ ∧ er' = er })
    (hsu : ∀ (a : Addr) (oe : Obj) (pn : List (Addr × Obj)), (∃ vs, oe.data = .fields vs) → DSs (X.suite a ((a, oe) :: pn)) O W (ρ.set n (.rw (.ref a) (ErZ er oe))) (b₀ :: suite) (D.su n))
    (hs : X.stack = X.env :: X.outer := by rfl) (hf : X.env.frame = some X.env.locals := by rfl) (hi : X.N[n]? = some nm := by rfl) (hln : X.env.kindOf nm = some .local := by rfl) :
    DS X O W ρ (.Try body [.ExceptHandler (some (.Name x np)) (some nm) (b₀ :: suite) pos'] [] [] pos) D :=
  ds_tryAs (fun ρ' er' => ρ' = ρ ∧ er' = er) hs hf hN hi hln hc tk (fun _ _ h => by rw [h.2]; exact hm) hb fun ρ' er' h a oe pn hf' => by
    obtain ⟨e1, e2⟩ := h
    subst e1 e2
    exact hsu a oe pn hf'
theorem ds_tryAs0 {x nm : Str} {c : Value} {b₀ : Stmt} {suite : List Stmt} (n : Nat) (hc : Names X x c) (tk : Takes X W) (hN : X.N.Nodup)
    (hb : ∀ (W' : WX) (pn : List (Addr × Obj)) (xe : Value → Shared → Prop), Takes (X.tr pn xe) W' → PassesOwn (model X.prog X.w) X.A X.env xe → DSs (X.tr pn xe) O W' ρ body { D with ex := fun _ _ => False })
    (hs : X.stack = X.env :: X.outer := by rfl) (hf : X.env.frame = some X.env.locals := by rfl) (hi : X.N[n]? = some nm := by rfl) (hln : X.env.kindOf nm = some .local := by rfl) :
    DS X O W ρ (.Try body [.ExceptHandler (some (.Name x np)) (some nm) (b₀ :: suite) pos'] [] [] pos) D :=
  ds_tryAs (n := n) (fun _ _ => False) hs hf hN hi hln hc tk (fun _ _ h => h.elim) hb fun _ _ h => h.elim
theorem ds_tryOnly1 (er : Er) {x : Str} {c : Value} {b₀ : Stmt} {suite : List Stmt} (hc : Names X x c) (tk : Takes X W) (hm : PySem.W.exmOne X.K (.ref (erC er)) c = some true)
    (hb : ∀ (W' : WX) (pn : List (Addr × Obj)) (xe : Value → Shared → Prop), Takes (X.tr pn xe) W' → PassesOwn (model X.prog X.w) X.A X.env xe → DSs (X.tr pn xe) O W' ρ body { D with ex := fun ρ' er' => ρ' = ρ ∧ er' = er })
    (hsu : ∀ (a : Addr) (oe : Obj) (pn : List (Addr × Obj)), DSs (X.suite a ((a, oe) :: pn)) O W ρ (b₀ :: suite) { D with ex := fun _ _ => False })
    (hs : X.stack = X.env :: X.outer := by rfl) (hf : X.env.frame = some X.env.locals := by rfl) :
    DS X O W ρ (.Try body [.ExceptHandler (some (.Name x np)) none (b₀ :: suite) pos'] [] [] pos) D :=
  ds_tryOnly (fun ρ' er' => ρ' = ρ ∧ er' = er) hs hf hc tk (fun _ _ h => by rw [h.2]; exact hm) hb fun ρ' er' h a oe pn => by
    obtain ⟨e1, e2⟩ := h
    subst e1 e2
    exact hsu a oe pn
theorem ds_tryOnly0 {x : Str} {c : Value} {b₀ : Stmt} {suite : List Stmt} (hc : Names X x c) (tk : Takes X W)
    (hb : ∀ (W' : WX) (pn : List (Addr × Obj)) (xe : Value → Shared → Prop), Takes (X.tr pn xe) W' → PassesOwn (model X.prog X.w) X.A X.env xe → DSs (X.tr pn xe) O W' ρ body { D with ex := fun _ _ => False })
    (hs : X.stack = X.env :: X.outer := by rfl) (hf : X.env.frame = some X.env.locals := by rfl) :
    DS X O W ρ (.Try body [.ExceptHandler (some (.Name x np)) none (b₀ :: suite) pos'] [] [] pos) D :=
  ds_tryOnly (fun _ _ => False) hs hf hc tk (fun _ _ h => h.elim) hb fun _ _ h => h.elim
theorem ie_seq {tg : Expr} {ds : List PyData} {d : PyData} (hd : d = .list ds ∨ d = .tuple ds) (h : DE X O ρ a d) : IE X O ρ tg a ds := by
  rcases hd with rfl | rfl
  · exact ie_lst h
  · exact ie_tup h
end
end DL

namespace DL
open PySem PySem.Spec PyProof.Rows L2
/-! ### what stands in own objects -/
section
variable {K : Frg} {F H : Hp} {its jts : List Itm} {xs ys : List V} {it : Itm} {v : V} {ds : List PyData} {k : Nat}
theorem it_app : ∀ {its : List Itm} {xs : List V}, ItAll K F its xs → ItAll K F jts ys → ItAll K F (its ++ jts) (xs ++ ys)
  | [], _, h, g => by cases (show _ = [] from h); exact g
  | _ :: _, _, ⟨u, us, z, a, h⟩, g => by subst z; exact ⟨u, us ++ ys, rfl, a, it_app h g⟩
theorem it_one (h : ItOk K F it v) : ItAll K F [it] [v] := ⟨v, [], rfl, h, rfl⟩
theorem it_get : ∀ {its : List Itm} {xs : List V} {i : Nat} {it : Itm}, ItAll K F its xs → its[i]? = some it → ∃ v, xs[i]? = some v ∧ ItOk K F it v
  | [], _, _, _, _, e => by simp at e
  | _ :: _, _, 0, _, ⟨u, us, z, a, h⟩, e => by subst z; simp at e; subst e; exact ⟨u, rfl, a⟩
  | _ :: _, _, i + 1, _, ⟨u, us, z, a, h⟩, e => by
    subst z
    obtain ⟨v, q, r⟩ := it_get (i := i) h (by simpa using e)
    exact ⟨v, by simpa using q, r⟩
theorem it_set : ∀ {its : List Itm} {xs : List V} (i : Nat) {it : Itm} {v : V}, ItAll K F its xs → ItOk K F it v → ItAll K F (its.set i it) (xs.set i v)
  | [], _, _, _, _, h, _ => by cases (show _ = [] from h); exact rfl
  | _ :: _, _, 0, _, _, ⟨u, us, z, a, h⟩, g => by subst z; exact ⟨_, us, rfl, g, h⟩
  | _ :: _, _, i + 1, _, _, ⟨u, us, z, a, h⟩, g => by subst z; exact ⟨u, _, rfl, a, it_set i h g⟩
theorem it_take : ∀ {its : List Itm} {xs : List V} (n : Nat), ItAll K F its xs → ItAll K F (its.take n) (xs.take n)
  | _, _, 0, _ => by rw [List.take_zero, List.take_zero]; exact rfl
  | [], _, _ + 1, h => by cases (show _ = [] from h); exact rfl
  | _ :: _, _, n + 1, ⟨u, us, z, a, h⟩ => by subst z; exact ⟨u, us.take n, rfl, a, it_take n h⟩
theorem it_dropLast (h : ItAll K F its xs) : ItAll K F its.dropLast xs.dropLast := by
  rw [List.dropLast_eq_take, List.dropLast_eq_take, h.len]
  exact it_take _ h
theorem it_dat : ∀ {ds : List PyData} {xs : List V}, RpAll K F ds xs → ItAll K F (ds.map .dat) xs
  | [], _, h => all_nil h
  | d :: ds, _, h => by
    obtain ⟨v, vs, rfl, a, h⟩ := all_cons h
    exact ⟨v, vs, rfl, a, it_dat h⟩
theorem dat_it : ∀ {ds : List PyData} {xs : List V}, ItAll K F (ds.map .dat) xs → RpAll K F ds xs
  | [], _, h => by cases (show _ = [] from h); exact mk_nil
  | d :: ds, _, ⟨v, vs, z, a, h⟩ => by subst z; exact mk_cons a (dat_it h)
theorem zip_get : ∀ {ks : List Str} {xs : List V} {j : Nat} {f : Str} {v : V}, ks.Nodup → ks[j]? = some f → xs[j]? = some v → (ks.zip xs).lookup f = some v
  | [], _, _, _, _, _, h, _ => by simp at h
  | _ :: _, [], _, _, _, _, _, h => by simp at h
  | g :: ks, x :: xs, 0, f, v, _, h1, h2 => by
    simp at h1 h2; subst h1 h2
    simp [List.lookup]
  | g :: ks, x :: xs, j + 1, f, v, n, h1, h2 => by
    rw [List.nodup_cons] at n
    have h3 : ks[j]? = some f := by simpa using h1
    have hne : ¬ f = g := fun e => n.1 (e ▸ List.mem_of_getElem? h3)
    rw [List.zip_cons_cons, List.lookup_cons]
    have : (f == g) = false := by simpa using hne
    rw [this]
    exact zip_get n.2 h3 (by simpa using h2)
theorem zip_put : ∀ {ks : List Str} {xs : List V} {j : Nat} {f : Str} {v : V}, ks.Nodup → ks.length = xs.length → ks[j]? = some f → putF f v (ks.zip xs) = ks.zip (xs.set j v)
  | [], _, _, _, _, _, _, h => by simp at h
  | _ :: _, [], _, _, _, _, h, _ => by simp at h
  | g :: ks, x :: xs, 0, f, v, _, _, h1 => by
    simp at h1; subst h1
    show (if g = g then (g, v) :: ks.zip xs else _) = _
    rw [if_pos rfl]; rfl
  | g :: ks, x :: xs, j + 1, f, v, n, l, h1 => by
    rw [List.nodup_cons] at n
    have h3 : ks[j]? = some f := by simpa using h1
    have hne : ¬ g = f := fun e => n.1 (e ▸ List.mem_of_getElem? h3)
    show (if g = f then _ else (g, x) :: putF f v (ks.zip xs)) = _
    rw [if_neg hne, zip_put n.2 (by simpa using l) h3]; rfl
theorem zip_new : ∀ {ks : List Str} {xs : List V} {f : Str} {v : V}, f ∉ ks → ks.length = xs.length → putF f v (ks.zip xs) = (ks ++ [f]).zip (xs ++ [v])
  | [], [], _, _, _, _ => rfl
  | [], _ :: _, _, _, _, h => by simp at h
  | _ :: _, [], _, _, _, h => by simp at h
  | g :: ks, x :: xs, f, v, n, l => by
    rw [List.mem_cons, not_or] at n
    show (if g = f then _ else (g, x) :: putF f v (ks.zip xs)) = _
    rw [if_neg fun e => n.1 e.symm, zip_new n.2 (by simpa using l)]; rfl
end
theorem get_mem {α : Type} {l : List α} {k : Nat} {a : α} (h : l[k]? = some a) : a ∈ l := List.mem_of_getElem? h
section
variable {K : Frg} {O F F' H H' : Hp} {ρ : List Sl} {σ : L2.St} {n k : Nat} {v : V} {μ : Sto} {q : Addr} {c c' : Cell}
theorem Rel.cell (R : Rel K O F ρ σ H) (hr : ρ[n]? = some (.st v μ)) (hk : μ[k]? = some (q, c)) : F q = none ∧ O q = none ∧ CellOk K F H q c := (R.st hr).2.2 q c (get_mem hk)
theorem set_fst (hk : μ[k]? = some (q, c)) (c' : Cell) : (μ.set k (q, c')).map Prod.fst = μ.map Prod.fst := by
  rw [List.map_set]
  apply List.ext_getElem?
  intro i
  by_cases h : i = k
  · subst h
    have hl := (List.getElem?_eq_some_iff.mp hk).1
    rw [List.getElem?_set_self (by simpa using hl), List.getElem?_map, hk]; rfl
  · rw [List.getElem?_set_ne (Ne.symm h)]
/-- a cell of a slot's store is rewritten -/
theorem Rel.mutC {o : HO} (R : Rel K O F ρ σ H) (hr : ρ[n]? = some (.st v μ)) (hk : μ[k]? = some (q, c)) (hc : CellOk K F (upd H q o) q c') : Rel K O F (ρ.set n (.st v (μ.set k (q, c')))) σ (upd H q o) := by
  obtain ⟨a, nd, all⟩ := R.st hr
  obtain ⟨f, g, _⟩ := R.cell hr hk
  have hq : q ∈ owns (.st v μ) := List.mem_map.mpr ⟨_, get_mem hk, rfl⟩
  have R1 : Rel K O F (ρ.set n .no) σ H := R.drop
  have nq : ∀ (j : Nat) s q', (ρ.set n .no)[j]? = some s → q' ∈ owns s → q' ≠ q := fun j s q' e hq' x => by
    subst x
    rcases sets_get e with ⟨_, z⟩ | ⟨hj, e⟩
    · subst z; exact absurd hq' List.not_mem_nil
    · exact R.ap j n s _ q' hj e hr hq' hq
  have R2 : Rel K O F (ρ.set n .no) σ (upd H q o) := R1.mv (Ex.refl F) (R.fh.mut f) (R.oh.mut g) R.dis (fun j s q' e hq' u z => by rw [upd_ne (nq j s q' e hq')]; exact z) (fun j s q' e hq' => (R1.has e hq').1) fun j s q' e hq' => (R1.has e hq').2.1
  have R3 : Rel K O F ((ρ.set n .no).set n (.st v (μ.set k (q, c')))) σ (upd H q o) := R2.set1 rfl (fun _ _ => rfl) (fun _ => ⟨a, by rw [set_fst hk]; exact nd, fun q' d hm => by
    obtain ⟨i, hi⟩ := List.getElem?_of_mem hm
    rcases sets_get hi with ⟨_, z⟩ | ⟨hne, hi2⟩
    · cases z; exact ⟨f, g, hc⟩
    · obtain ⟨f', g', cc⟩ := all q' d (get_mem hi2)
      refine ⟨f', g', cc.mv (Ex.refl _) fun u hu => ?_⟩
      have : q' ≠ q := fun x => by
        subst x
        have h1 : (μ.map Prod.fst)[i]? = some q' := by rw [List.getElem?_map, hi2]; rfl
        have h2 : (μ.map Prod.fst)[k]? = some q' := by rw [List.getElem?_map, hk]; rfl
        have hl := (List.getElem?_eq_some_iff.mp h1).1
        exact hne ((List.getElem?_inj hl nd).mp (h1.trans h2.symm))
      rw [upd_ne this]; exact hu⟩) fun j t q' hj e h1 h2 => by
    rcases sets_get e with ⟨z, _⟩ | ⟨hj2, e⟩
    · exact hj z
    · rw [show owns (.st v (μ.set k (q, c'))) = owns (.st v μ) from set_fst hk c'] at h1
      exact R.ap n j _ t q' (Ne.symm hj2) hr e h1 h2
  rw [List.set_set] at R3
  exact R3
/-- a new object joins a slot's store -/
theorem Rel.addC {o : HO} (R : Rel K O F ρ σ H) (hr : ρ[n]? = some (.st v μ)) (hq : H q = some o) (hF : F q = none) (hO : O q = none) (ha : Apart ρ q) (hc : CellOk K F H q c) : Rel K O F (ρ.set n (.st v (μ ++ [(q, c)]))) σ H := by
  obtain ⟨a, nd, all⟩ := R.st hr
  refine R.set1 rfl (fun _ _ => rfl) (fun _ => ⟨a, ?_, fun q' d hm => ?_⟩) fun j t q' hj e h1 h2 => ?_
  · rw [List.map_append, List.nodup_append]
    refine ⟨nd, by simp, fun x hx y hy e => ?_⟩
    rw [List.mem_singleton.mp (show y ∈ [q] from hy)] at e
    subst e
    exact ha n _ hr hx
  · rcases List.mem_append.mp hm with hm | hm
    · exact all q' d hm
    · cases List.mem_singleton.mp hm; exact ⟨hF, hO, hc⟩
  · rw [show owns (.st v (μ ++ [(q, c)])) = owns (.st v μ) ++ [q] by show (μ ++ [(q, c)]).map Prod.fst = _; rw [List.map_append]; rfl] at h1
    rcases List.mem_append.mp h1 with h1 | h1
    · exact R.ap n j _ t q' (Ne.symm hj) hr e h1 h2
    · rw [List.mem_singleton.mp h1] at h2; exact ha j t e h2
/-- a slot's own list is a store -/
theorem Rel.owSt {ds : List PyData} {p : Addr} (R : Rel K O F ρ σ H) (hr : ρ[n]? = some (.ow p ds)) : Rel K O F (ρ.set n (.st (.ref p) [(p, .lst (ds.map .dat))])) σ H := by
  obtain ⟨a, f, g, xs, h, r⟩ := R.ow hr
  refine R.set1 rfl (fun _ _ => rfl) (fun _ => ⟨a, by simp, fun q' d hm => ?_⟩) fun j t q' hj e h1 h2 => R.ap n j _ t q' (Ne.symm hj) hr e h1 h2
  cases List.mem_singleton.mp hm
  exact ⟨f, g, xs, h, it_dat r⟩
/-- .. and one store takes another's cells -/
theorem Rel.join {m : Nat} {u : V} {ν : Sto} (R : Rel K O F ρ σ H) (hr : ρ[n]? = some (.st v μ)) (hm : ρ[m]? = some (.st u ν)) (hn : n ≠ m) : Rel K O F ((ρ.set m (.pt u)).set n (.st v (μ ++ ν))) σ H := by
  obtain ⟨a, nd, all⟩ := R.st hr
  obtain ⟨a2, nd2, all2⟩ := R.st hm
  have R1 : Rel K O F (ρ.set m (.pt u)) σ H := R.set1 rfl (fun _ _ => rfl) (fun _ => ⟨a2, fun _ _ => trivial⟩) fun _ _ _ _ _ h => absurd h List.not_mem_nil
  refine R1.set1 rfl (fun _ _ => rfl) (fun _ => ⟨a, ?_, fun q' d hx => ?_⟩) fun j t q' hj e h1 h2 => ?_
  · rw [List.map_append, List.nodup_append]
    refine ⟨nd, nd2, fun x hx y hy e => ?_⟩
    subst e
    exact R.ap n m _ _ x hn hr hm hx hy
  · rcases List.mem_append.mp hx with hx | hx
    · exact all q' d hx
    · exact all2 q' d hx
  · rw [show owns (.st v (μ ++ ν)) = owns (.st v μ) ++ owns (.st u ν) by show (μ ++ ν).map Prod.fst = _; rw [List.map_append]; rfl] at h1
    rcases sets_get e with ⟨z, e⟩ | ⟨hjm, e⟩
    · subst e; exact absurd h2 List.not_mem_nil
    · rcases List.mem_append.mp h1 with h1 | h1
      · exact R.ap n j _ t q' (Ne.symm hj) hr e h1 h2
      · exact R.ap m j _ t q' (Ne.symm hjm) hm e h1 h2
/-- a store keeps but some of its cells -/
theorem Rel.less {ν : Sto} (R : Rel K O F ρ σ H) (hr : ρ[n]? = some (.st v μ)) (hs : ν.Sublist μ) : Rel K O F (ρ.set n (.st v ν)) σ H := by
  obtain ⟨a, nd, all⟩ := R.st hr
  refine R.set1 rfl (fun _ _ => rfl) (fun _ => ⟨a, nd.sublist (hs.map Prod.fst), fun q' d hx => all q' d (hs.subset hx)⟩) fun j t q' hj e h1 h2 => R.ap n j _ t q' (Ne.symm hj) hr e ((hs.map Prod.fst).subset h1) h2
/-- .. in another order -/
theorem Rel.perm {ν : Sto} (R : Rel K O F ρ σ H) (hr : ρ[n]? = some (.st v μ)) (hs : ν.Perm μ) : Rel K O F (ρ.set n (.st v ν)) σ H := by
  obtain ⟨a, nd, all⟩ := R.st hr
  refine R.set1 rfl (fun _ _ => rfl) (fun _ => ⟨a, ((hs.map Prod.fst).nodup_iff).mpr nd, fun q' d hx => all q' d (hs.subset hx)⟩) fun j t q' hj e h1 h2 => R.ap n j _ t q' (Ne.symm hj) hr e ((hs.map Prod.fst).subset h1) h2
end
end DL

namespace DL
open PySem PySem.Spec PyProof.Rows L2
/-- evaluation gives a value as it is, and may change the words -/
def RC (X : Cx) (O : Hp) (ρ ρ' : List Sl) (e : Expr) (u : V) : Prop := PE X e (tX X.K O ρ ρ' (PV u))
def tTC (K : Frg) (O : Hp) (ρ ρ' : List Sl) (b : Bool) : TT := fun σ H Q => ∃ F, Rel K O F ρ σ H ∧ ∀ F' H', Ex F F' → Rel K O F' ρ' σ H' → Q b H'
/-- a test that may change the words -/
def CT (X : Cx) (O : Hp) (ρ ρ' : List Sl) (e : Expr) (b : Bool) : Prop := PT X e (tTC X.K O ρ ρ' b)
/-- an own class: its fields' names are no attributes of it -/
structure OCls (K : Frg) (C : Addr) (ks : List Str) : Prop where
  cl : Cls K C
  na : ∀ f ∈ ks, NoAttr K C f
section
variable {X : Cx} {O : Hp} {W : WX} {ρ ρ' : List Sl} {e a b c tg : Expr} {es : List Expr} {d : PyData} {ds ds' : List PyData} {pos pos' p' p2 ap cp : Pos} {i j : Int} {kk : Bool} {st : Stmt} {rest body els : List Stmt} {D : Dk} {er : Er} {o : Out} {n k m : Nat} {p q : Addr} {v u : V} {μ : Sto} {its : List Itm} {C dx : Addr} {ks : List Str} {f x : Str} {it : Itm}
theorem DE.ce (h : DE X O ρ e d) : CE X O ρ ρ e d := h
theorem CE.is {d' : PyData} (h : CE X O ρ ρ' e d) (z : d = d') : CE X O ρ ρ' e d' := z ▸ h
theorem CE.to {ρ2 : List Sl} (h : CE X O ρ ρ' e d) (z : ρ' = ρ2) : CE X O ρ ρ2 e d := z ▸ h
theorem DT.ct (h : DT X O ρ e kk) : CT X O ρ ρ e kk := h
theorem re_st {i : Nat} (hr : ρ[i]? = some (.st v μ)) (hN : X.N[i]? = some x := by rfl) (hv : Vis X.env.scope x := by first | exact Or.inl rfl | exact Or.inr (Or.inl rfl) | exact Or.inr (Or.inr rfl)) (hd : (x == ("__debug__" : Str)) = false := by decide)
    (hcd : (x == ("__classdict__" : Str)) = false := by decide) : RE X O ρ (.Name x pos) v := pe_mono (pe_var hN hv hd hcd) fun σ H Q ⟨F, R, k⟩ => by
  obtain ⟨e, _⟩ := R.st hr
  exact ⟨v, e, k F H _ (Ex.refl _) R rfl⟩
theorem be_cell (hr : ρ[n]? = some (.st v μ)) (hk : μ[k]? = some (q, .lst (ds.map .dat))) (he : RE X O ρ a (.ref q)) : BE X O ρ a (.list ds) := pe_mono he fun σ H Q ⟨F, R, kk⟩ => ⟨F, R, fun F1 H1 v1 e1 R1 ev => kk F1 H1 v1 e1 R1 fun F2 H2 e2 R2 => by
  cases (show v1 = V.ref q from ev)
  obtain ⟨f, _, xs, h, r⟩ := R2.cell hr hk
  exact ⟨upd F2 q (.lst xs), Ex.new f, R2.fh.add h, mk_lst upd_same (RpAll.mono (Ex.new f) (dat_it r))⟩⟩
theorem le_cell (hr : ρ[n]? = some (.st v μ)) (hk : μ[k]? = some (q, .lst (ds.map .dat))) (he : RE X O ρ a (.ref q)) : LE X O ρ a ds := pe_mono he fun σ H Q ⟨F, R, kk⟩ => ⟨F, R, fun F1 H1 v1 e1 R1 ev => kk F1 H1 v1 e1 R1 fun F2 H2 e2 R2 => by
  cases (show v1 = V.ref q from ev)
  obtain ⟨f, _, xs, h, r⟩ := R2.cell hr hk
  exact ⟨q, xs, rfl, h, dat_it r⟩⟩
theorem it_atI {K : Frg} {F : Hp} {its : List Itm} {xs : List V} {i : Int} {it : Itm} (h : ItAll K F its xs) (hi : atI its i = some it) : ∃ v, atI xs i = some v ∧ ItOk K F it v := by
  unfold atI at *
  cases z : ixN its.length i with
  | none => rw [z] at hi; cases hi
  | some m =>
    rw [z] at hi
    obtain ⟨v, h1, h2⟩ := it_get h hi
    exact ⟨v, by rw [← h.len, z]; exact h1, h2⟩
theorem re_ixC (hr : ρ[n]? = some (.st v μ)) (hk : μ[k]? = some (q, .lst its)) (he : RE X O ρ a (.ref q)) (hb : BE X O ρ b (.int i)) (h : atI its i = some (.adr u)) (hs : PlainIx b := by exact fun _ _ => rfl) : RE X O ρ (.Subscript a b pos) u := pe_mono (pe_ix ix_list he hb hs) fun σ H Q ⟨F, R, kk⟩ => ⟨F, R, fun F1 H1 x e1 R1 ev => ⟨F1, R1, fun F2 H2 y e2 R2 by' => by
  cases (show x = V.ref q from ev)
  obtain ⟨_, _, xs, hx, rx⟩ := R2.cell hr hk
  obtain ⟨w, hw, rw'⟩ := it_atI rx h
  cases (show w = u from rw')
  exact ⟨q, xs, i, u, rfl, rp_int (by'.flat R2 rfl : Rp X.K F2 (.int i) y), SqL.of hx, hw, kk F2 H2 u (e1.trans e2) R2 rfl⟩⟩⟩
theorem de_ixC (hr : ρ[n]? = some (.st v μ)) (hk : μ[k]? = some (q, .lst its)) (he : RE X O ρ a (.ref q)) (hb : BE X O ρ b (.int i)) (h : atI its i = some (.dat d)) (hs : PlainIx b := by exact fun _ _ => rfl) : DE X O ρ (.Subscript a b pos) d := pe_mono (pe_ix ix_list he hb hs) fun σ H Q ⟨F, R, kk⟩ => ⟨F, R, fun F1 H1 x e1 R1 ev => ⟨F1, R1, fun F2 H2 y e2 R2 by' => by
  cases (show x = V.ref q from ev)
  obtain ⟨_, _, xs, hx, rx⟩ := R2.cell hr hk
  obtain ⟨w, hw, rw'⟩ := it_atI rx h
  exact ⟨q, xs, i, w, rfl, rp_int (by'.flat R2 rfl : Rp X.K F2 (.int i) y), SqL.of hx, hw, kk F2 H2 w (e1.trans e2) R2 rw'⟩⟩⟩
/-! fields -/
theorem de_fld (T : OCls X.K C ks) (hr : ρ[n]? = some (.st v μ)) (hk : μ[k]? = some (q, .ins C dx ks its)) (he : RE X O ρ a (.ref q)) (hf : ks[m]? = some f) (hi : its[m]? = some (.dat d)) (hb : attributeBase a f X.env (eval a X.env) = eval a X.env := by rfl) : DE X O ρ (.Attribute a f pos) d := pe_mono (pe_fld he hb) fun σ H Q ⟨F, R, kk⟩ => ⟨F, R, fun F1 H1 x e1 R1 ev => by
  cases (show x = V.ref q from ev)
  obtain ⟨_, _, nd, ln, xs, hx, rx⟩ := R1.cell hr hk
  obtain ⟨w, hw, rw'⟩ := it_get rx hi
  exact ⟨q, C, dx, _, w, rfl, hx, T.cl, T.na f (get_mem hf), zip_get nd hf hw, kk F1 H1 w e1 R1 rw'⟩⟩
theorem re_fld (T : OCls X.K C ks) (hr : ρ[n]? = some (.st v μ)) (hk : μ[k]? = some (q, .ins C dx ks its)) (he : RE X O ρ a (.ref q)) (hf : ks[m]? = some f) (hi : its[m]? = some (.adr u)) (hb : attributeBase a f X.env (eval a X.env) = eval a X.env := by rfl) : RE X O ρ (.Attribute a f pos) u := pe_mono (pe_fld he hb) fun σ H Q ⟨F, R, kk⟩ => ⟨F, R, fun F1 H1 x e1 R1 ev => by
  cases (show x = V.ref q from ev)
  obtain ⟨_, _, nd, ln, xs, hx, rx⟩ := R1.cell hr hk
  obtain ⟨w, hw, rw'⟩ := it_get rx hi
  cases (show w = u from rw')
  exact ⟨q, C, dx, _, u, rfl, hx, T.cl, T.na f (get_mem hf), zip_get nd hf hw, kk F1 H1 u e1 R1 rfl⟩⟩
theorem zip_few {ks : List Str} {xs : List V} (h : ks.length < 1000) : (ks.zip xs).length < 1000 := by rw [List.length_zip]; omega
theorem ds_fld (T : OCls X.K C ks) (hr : ρ[n]? = some (.st v μ)) (hk : μ[k]? = some (q, .ins C dx ks its)) (he : RE X O ρ a (.ref q)) (hv : DE X O ρ e d) (hf : ks[m]? = some f) (hl : ks.length < 1000) (h : D.nx (ρ.set n (.st v (μ.set k (q, .ins C dx ks (its.set m (.dat d))))))) (hs : swapsWith e (some (.Attribute a f pos')) pos.line X.env = pure false := by rfl) : DS X O W ρ (.Assign [.Attribute a f pos'] e pos) D := ps_mono (ps_fld he hv hs) fun E σ H ⟨F, R, qq⟩ => ⟨F, R, fun F1 H1 y e1 R1 ry => ⟨F1, R1, fun F2 H2 x e2 R2 ev => by
  cases (show x = V.ref q from ev)
  obtain ⟨_, _, nd, ln, xs, hx, rx⟩ := R2.cell hr hk
  refine ⟨q, C, dx, _, rfl, hx, T.cl, T.na f (get_mem hf), zip_few hl, ?_⟩
  rw [zip_put nd (ln.trans rx.len) hf]
  exact qq.nx F2 _ _ _ (e1.trans e2) (R2.mutC (c' := .ins C dx ks _) hr hk ⟨nd, by rw [List.length_set]; exact ln, _, upd_same, it_set m rx (show ItOk X.K F2 (.dat d) y from ry.mono e2)⟩) h⟩⟩
theorem ds_fldP (T : OCls X.K C ks) (hr : ρ[n]? = some (.st v μ)) (hk : μ[k]? = some (q, .ins C dx ks its)) (he : RE X O ρ a (.ref q)) (hv : RE X O ρ e u) (hf : ks[m]? = some f) (hl : ks.length < 1000) (h : D.nx (ρ.set n (.st v (μ.set k (q, .ins C dx ks (its.set m (.adr u))))))) (hs : swapsWith e (some (.Attribute a f pos')) pos.line X.env = pure false := by rfl) : DS X O W ρ (.Assign [.Attribute a f pos'] e pos) D := ps_mono (ps_fld he hv hs) fun E σ H ⟨F, R, qq⟩ => ⟨F, R, fun F1 H1 y e1 R1 ry => ⟨F1, R1, fun F2 H2 x e2 R2 ev => by
  cases (show x = V.ref q from ev)
  cases (show y = u from ry)
  obtain ⟨_, _, nd, ln, xs, hx, rx⟩ := R2.cell hr hk
  refine ⟨q, C, dx, _, rfl, hx, T.cl, T.na f (get_mem hf), zip_few hl, ?_⟩
  rw [zip_put nd (ln.trans rx.len) hf]
  exact qq.nx F2 _ _ _ (e1.trans e2) (R2.mutC (c' := .ins C dx ks _) hr hk ⟨nd, by rw [List.length_set]; exact ln, _, upd_same, it_set m rx (show ItOk X.K F2 (.adr u) u from rfl)⟩) h⟩⟩
/-- a field more -/
theorem ds_fldM (cl : Cls X.K C) (na : NoAttr X.K C f) (hr : ρ[n]? = some (.st v μ)) (hk : μ[k]? = some (q, .ins C dx ks its)) (he : RE X O ρ a (.ref q)) (hv : DE X O ρ e d) (hf : f ∉ ks) (hl : ks.length < 1000) (h : D.nx (ρ.set n (.st v (μ.set k (q, .ins C dx (ks ++ [f]) (its ++ [.dat d])))))) (hs : swapsWith e (some (.Attribute a f pos')) pos.line X.env = pure false := by rfl) : DS X O W ρ (.Assign [.Attribute a f pos'] e pos) D := ps_mono (ps_fld he hv hs) fun E σ H ⟨F, R, qq⟩ => ⟨F, R, fun F1 H1 y e1 R1 ry => ⟨F1, R1, fun F2 H2 x e2 R2 ev => by
  cases (show x = V.ref q from ev)
  obtain ⟨_, _, nd, ln, xs, hx, rx⟩ := R2.cell hr hk
  refine ⟨q, C, dx, _, rfl, hx, cl, na, zip_few hl, ?_⟩
  rw [zip_new hf (ln.trans rx.len)]
  exact qq.nx F2 _ _ _ (e1.trans e2) (R2.mutC (c' := .ins C dx (ks ++ [f]) _) hr hk ⟨by rw [List.nodup_append]; exact ⟨nd, by simp, fun a ha b hb e => hf (by rw [← List.mem_singleton.mp hb, ← e]; exact ha)⟩, by rw [List.length_append, List.length_append, ln]; rfl, _, upd_same, it_app rx (it_one (show ItOk X.K F2 (.dat d) y from ry.mono e2))⟩) h⟩⟩
/-- the value in a slot, as it is -/
def valOf : Sl → Option V
  | .ow p _ => some (.ref p)
  | .rw v _ => some v
  | .st v _ => some v
  | _ => none
theorem Rel.val {K : Frg} {F H : Hp} {σ : Sg} {s : Sl} (R : Rel K O F ρ σ H) (h : ρ[n]? = some s) (hv : valOf s = some u) : σ[n]? = some (some u) := by
  have q := R.sl n s h
  cases s with
  | no => cases hv
  | va d => cases hv
  | ow p ds => cases hv; exact q.1
  | rw v φ => cases hv; exact q.1
  | st v μ => cases hv; exact q.1
theorem re_nm {i : Nat} {s : Sl} (hr : ρ[i]? = some s) (hu : valOf s = some u) (hN : X.N[i]? = some x := by rfl) (hv : Vis X.env.scope x := by first | exact Or.inl rfl | exact Or.inr (Or.inl rfl) | exact Or.inr (Or.inr rfl)) (hd : (x == ("__debug__" : Str)) = false := by decide)
    (hcd : (x == ("__classdict__" : Str)) = false := by decide) : RE X O ρ (.Name x pos) u := pe_mono (pe_var hN hv hd hcd) fun σ H Q ⟨F, R, k⟩ => ⟨u, R.val hr hu, k F H _ (Ex.refl _) R rfl⟩
/-- a name's field takes a new list -/
theorem ds_fldN {s : Sl} {l : Nat} (T : OCls X.K C ks) (hr : ρ[n]? = some (.st v μ)) (hk : μ[k]? = some (q, .ins C dx ks its)) (h0 : ρ[l]? = some s) (hu : valOf s = some (.ref q)) (hv : NE X O ρ e ds) (hf : ks[m]? = some f) (hl : ks.length < 1000)
    (h : ∀ p, D.nx (ρ.set n (.st v (μ.set k (q, .ins C dx ks (its.set m (.adr (.ref p)))) ++ [(p, .lst (ds.map .dat))])))) (hs : swapsWith e (some (.Attribute (.Name x p2) f pos')) pos.line X.env = pure false := by rfl) (hN : X.N[l]? = some x := by rfl) (hvv : Vis X.env.scope x := by first | exact Or.inl rfl | exact Or.inr (Or.inl rfl) | exact Or.inr (Or.inr rfl)) (hd : (x == ("__debug__" : Str)) = false := by decide)
    (hcd : (x == ("__classdict__" : Str)) = false := by decide) : DS X O W ρ (.Assign [.Attribute (.Name x p2) f pos'] e pos) D := ps_mono (ps_fld (pe_var hN hvv hd hcd) hv hs) fun E σ H ⟨F, R, qq⟩ => ⟨F, R, fun F1 H1 y e1 R1 ⟨p, ys, ey, fp, op, app, hp, ry⟩ => by
  subst ey
  obtain ⟨_, _, nd, ln, xs, hx, rx⟩ := R1.cell hr hk
  refine ⟨.ref q, R1.val h0 hu, q, C, dx, _, rfl, hx, T.cl, T.na f (get_mem hf), zip_few hl, ?_⟩
  rw [zip_put nd (ln.trans rx.len) hf]
  have npq : p ≠ q := fun z => by subst z; exact app n _ hr (List.mem_map.mpr ⟨_, get_mem hk, rfl⟩)
  have hn : n < ρ.length := (List.getElem?_eq_some_iff.mp hr).1
  have R3 := R1.mutC (c' := .ins C dx ks _) (o := .ins C dx (ks.zip (xs.set m (.ref p)))) hr hk ⟨nd, by rw [List.length_set]; exact ln, _, upd_same, it_set m rx (show ItOk X.K F1 (.adr (.ref p)) (.ref p) from rfl)⟩
  have R4 := R3.addC (q := p) (o := .lst ys) (c := .lst (ds.map .dat)) (List.getElem?_set_self hn) (by rw [upd_ne npq]; exact hp) fp op (fun j s' z hq => by
    rcases sets_get z with ⟨_, z⟩ | ⟨_, z⟩
    · subst z
      rw [show owns (.st v (μ.set k (q, .ins C dx ks (its.set m (.adr (.ref p)))))) = owns (.st v μ) from set_fst hk _] at hq
      exact app n _ hr hq
    · exact app j s' z hq) ⟨ys, by rw [upd_ne npq]; exact hp, it_dat ry⟩
  rw [List.set_set] at R4
  exact qq.nx F1 _ _ _ e1 R4 (h p)⟩
/-- .. a new field -/
theorem ds_fldMN {s : Sl} {l : Nat} (cl : Cls X.K C) (na : NoAttr X.K C f) (hr : ρ[n]? = some (.st v μ)) (hk : μ[k]? = some (q, .ins C dx ks its)) (h0 : ρ[l]? = some s) (hu : valOf s = some (.ref q)) (hv : NE X O ρ e ds) (hf : f ∉ ks) (hl : ks.length < 1000)
    (h : ∀ p, D.nx (ρ.set n (.st v (μ.set k (q, .ins C dx (ks ++ [f]) (its ++ [.adr (.ref p)])) ++ [(p, .lst (ds.map .dat))])))) (hs : swapsWith e (some (.Attribute (.Name x p2) f pos')) pos.line X.env = pure false := by rfl) (hN : X.N[l]? = some x := by rfl) (hvv : Vis X.env.scope x := by first | exact Or.inl rfl | exact Or.inr (Or.inl rfl) | exact Or.inr (Or.inr rfl)) (hd : (x == ("__debug__" : Str)) = false := by decide)
    (hcd : (x == ("__classdict__" : Str)) = false := by decide) : DS X O W ρ (.Assign [.Attribute (.Name x p2) f pos'] e pos) D := ps_mono (ps_fld (pe_var hN hvv hd hcd) hv hs) fun E σ H ⟨F, R, qq⟩ => ⟨F, R, fun F1 H1 y e1 R1 ⟨p, ys, ey, fp, op, app, hp, ry⟩ => by
  subst ey
  obtain ⟨_, _, nd, ln, xs, hx, rx⟩ := R1.cell hr hk
  refine ⟨.ref q, R1.val h0 hu, q, C, dx, _, rfl, hx, cl, na, zip_few hl, ?_⟩
  rw [zip_new hf (ln.trans rx.len)]
  have npq : p ≠ q := fun z => by subst z; exact app n _ hr (List.mem_map.mpr ⟨_, get_mem hk, rfl⟩)
  have hn : n < ρ.length := (List.getElem?_eq_some_iff.mp hr).1
  have R3 := R1.mutC (c' := .ins C dx (ks ++ [f]) _) (o := .ins C dx ((ks ++ [f]).zip (xs ++ [.ref p]))) hr hk ⟨by rw [List.nodup_append]; exact ⟨nd, by simp, fun a ha b hb e => hf (by rw [← List.mem_singleton.mp hb, ← e]; exact ha)⟩, by rw [List.length_append, List.length_append, ln]; rfl, _, upd_same, it_app rx (it_one (show ItOk X.K F1 (.adr (.ref p)) (.ref p) from rfl))⟩
  have R4 := R3.addC (q := p) (o := .lst ys) (c := .lst (ds.map .dat)) (List.getElem?_set_self hn) (by rw [upd_ne npq]; exact hp) fp op (fun j s' z hq => by
    rcases sets_get z with ⟨_, z⟩ | ⟨_, z⟩
    · subst z
      rw [show owns (.st v (μ.set k (q, .ins C dx (ks ++ [f]) (its ++ [.adr (.ref p)])))) = owns (.st v μ) from set_fst hk _] at hq
      exact app n _ hr hq
    · exact app j s' z hq) ⟨ys, by rw [upd_ne npq]; exact hp, it_dat ry⟩
  rw [List.set_set] at R4
  exact qq.nx F1 _ _ _ e1 R4 (h p)⟩
/-! lists of a store -/
theorem tyC {K : Frg} {F H : Hp} {σ : Sg} (R : Rel K O F ρ σ H) (hr : ρ[n]? = some (.st v μ)) (hk : μ[k]? = some (q, .lst its)) : tyV K "list" (.ref q) H := by
  obtain ⟨_, _, xs, h, _⟩ := R.cell hr hk
  exact .inl ⟨rfl, xs, SqL.of h⟩
theorem ce_appC (hr : ρ[n]? = some (.st v μ)) (hk : μ[k]? = some (q, .lst its)) (ho : RE X O ρ a (.ref q)) (he : DE X O ρ e d) (hz : its.length < 16777216)
    (hbase : attributeBase a "append" X.env (eval a X.env) = eval a X.env := by rfl)
    (hfew : ((backTo cp (starEach [e] X.env)).all (fun x => !x.1) && (backToKw cp (keywordEach [] X.env)).all (fun x => x.1.isSome) && decide ([e].length + ([] : List Keyword).length + (if ([] : List Keyword).isEmpty then 0 else 1) < 30)) = true := by rfl)
    (hline : (ap.endLine == cp.line) = true := by rfl) (hs : starEach [e] X.env = (false, eval e X.env) :: starEach [] X.env := by rfl) (hpl : (backTo cp (starEach [] X.env)).any (·.1) = false := by rfl) :
    CE X O ρ (ρ.set n (.st v (μ.set k (q, .lst (its ++ [.dat d]))))) (.Call (.Attribute a "append" ap) [e] [] cp) .none :=
  pe_mono (pe_bm PySem.F.plainAttrs_list PySem.F.slot_list_append PySem.F.type_list_append mt_append ho (pa_cons he pa_nil hs) hbase hfew hline hs hpl) fun σ H Q ⟨F, R, kk⟩ => ⟨F, R, fun F1 H1 v1 e1 R1 ev => by
    cases (show v1 = V.ref q from ev)
    refine ⟨tyC R1 hr hk, F1, R1, fun F2 H2 u e2 R2 r => ?_⟩
    obtain ⟨_, _, xs, h, rx⟩ := R2.cell hr hk
    exact ⟨q, xs, u, rfl, rfl, h, by rw [← rx.len]; exact sz_lt hz, kk F2 _ _ (e1.trans e2) (R2.mutC (c' := .lst _) hr hk ⟨_, upd_same, it_app rx (it_one (it := .dat d) r)⟩) mk_non⟩⟩
theorem ce_appP (hr : ρ[n]? = some (.st v μ)) (hk : μ[k]? = some (q, .lst its)) (ho : RE X O ρ a (.ref q)) (he : RE X O ρ e u) (hz : its.length < 16777216)
    (hbase : attributeBase a "append" X.env (eval a X.env) = eval a X.env := by rfl)
    (hfew : ((backTo cp (starEach [e] X.env)).all (fun x => !x.1) && (backToKw cp (keywordEach [] X.env)).all (fun x => x.1.isSome) && decide ([e].length + ([] : List Keyword).length + (if ([] : List Keyword).isEmpty then 0 else 1) < 30)) = true := by rfl)
    (hline : (ap.endLine == cp.line) = true := by rfl) (hs : starEach [e] X.env = (false, eval e X.env) :: starEach [] X.env := by rfl) (hpl : (backTo cp (starEach [] X.env)).any (·.1) = false := by rfl) :
    CE X O ρ (ρ.set n (.st v (μ.set k (q, .lst (its ++ [.adr u]))))) (.Call (.Attribute a "append" ap) [e] [] cp) .none :=
  pe_mono (pe_bm PySem.F.plainAttrs_list PySem.F.slot_list_append PySem.F.type_list_append mt_append ho (pa_cons he pa_nil hs) hbase hfew hline hs hpl) fun σ H Q ⟨F, R, kk⟩ => ⟨F, R, fun F1 H1 v1 e1 R1 ev => by
    cases (show v1 = V.ref q from ev)
    refine ⟨tyC R1 hr hk, F1, R1, fun F2 H2 u' e2 R2 r => ?_⟩
    cases (show u' = u from r)
    obtain ⟨_, _, xs, h, rx⟩ := R2.cell hr hk
    exact ⟨q, xs, u, rfl, rfl, h, by rw [← rx.len]; exact sz_lt hz, kk F2 _ _ (e1.trans e2) (R2.mutC (c' := .lst _) hr hk ⟨_, upd_same, it_app rx (it_one (it := .adr u) rfl)⟩) mk_non⟩⟩
theorem ce_extC {es' : List PyData} (hr : ρ[n]? = some (.st v μ)) (hk : μ[k]? = some (q, .lst its)) (ho : RE X O ρ a (.ref q)) (he : LE X O ρ e es') (hz : its.length + es'.length ≤ 16777216)
    (hbase : attributeBase a "extend" X.env (eval a X.env) = eval a X.env := by rfl)
    (hfew : ((backTo cp (starEach [e] X.env)).all (fun x => !x.1) && (backToKw cp (keywordEach [] X.env)).all (fun x => x.1.isSome) && decide ([e].length + ([] : List Keyword).length + (if ([] : List Keyword).isEmpty then 0 else 1) < 30)) = true := by rfl)
    (hline : (ap.endLine == cp.line) = true := by rfl) (hs : starEach [e] X.env = (false, eval e X.env) :: starEach [] X.env := by rfl) (hpl : (backTo cp (starEach [] X.env)).any (·.1) = false := by rfl) :
    CE X O ρ (ρ.set n (.st v (μ.set k (q, .lst (its ++ es'.map .dat))))) (.Call (.Attribute a "extend" ap) [e] [] cp) .none :=
  pe_mono (pe_bm PySem.F.plainAttrs_list PySem.F.slot_list_extend PySem.F.type_list_extend mt_extend ho (pa_cons he pa_nil hs) hbase hfew hline hs hpl) fun σ H Q ⟨F, R, kk⟩ => ⟨F, R, fun F1 H1 v1 e1 R1 ev => by
    cases (show v1 = V.ref q from ev)
    refine ⟨tyC R1 hr hk, F1, R1, fun F2 H2 u e2 R2 be => ?_⟩
    obtain ⟨_, _, xs, h, rx⟩ := R2.cell hr hk
    obtain ⟨b, ys, rfl, hy, ry⟩ := be F2 H2 (Ex.refl _) R2
    exact ⟨q, b, xs, ys, rfl, rfl, h, hy, by rw [← rx.len, ← all_len ry]; exact sz_le hz, kk F2 _ _ (e1.trans e2) (R2.mutC (c' := .lst _) hr hk ⟨_, upd_same, it_app rx (it_dat ry)⟩) mk_non⟩⟩
/-- a.append of a new list -/
theorem ds_appN (hr : ρ[n]? = some (.st v μ)) (hk : μ[k]? = some (q, .lst its)) (ho : RE X O ρ a (.ref q)) (he : NE X O ρ e ds) (hz : its.length < 16777216)
    (hnx : ∀ p, D.nx (ρ.set n (.st v (μ.set k (q, .lst (its ++ [.adr (.ref p)])) ++ [(p, .lst (ds.map .dat))]))))
    (hsw : swapsWith (.Call (.Attribute a "append" ap) [e] [] cp) none pos.line X.env = pure false := by rfl)
    (hbase : attributeBase a "append" X.env (eval a X.env) = eval a X.env := by rfl)
    (hfew : ((backTo cp (starEach [e] X.env)).all (fun x => !x.1) && (backToKw cp (keywordEach [] X.env)).all (fun x => x.1.isSome) && decide ([e].length + ([] : List Keyword).length + (if ([] : List Keyword).isEmpty then 0 else 1) < 30)) = true := by rfl)
    (hline : (ap.endLine == cp.line) = true := by rfl) (hs : starEach [e] X.env = (false, eval e X.env) :: starEach [] X.env := by rfl) (hpl : (backTo cp (starEach [] X.env)).any (·.1) = false := by rfl) :
    DS X O W ρ (.Expr (.Call (.Attribute a "append" ap) [e] [] cp) pos) D :=
  ps_mono (ps_expr (pe_bm PySem.F.plainAttrs_list PySem.F.slot_list_append PySem.F.type_list_append mt_append ho (pa_cons he pa_nil hs) hbase hfew hline hs hpl) hsw) fun E σ H ⟨F, R, qq⟩ => ⟨F, R, fun F1 H1 v1 e1 R1 ev => by
    cases (show v1 = V.ref q from ev)
    refine ⟨tyC R1 hr hk, F1, R1, fun F2 H2 u e2 R2 ⟨p, ys, eu, fp, op, app, hp, ry⟩ => ?_⟩
    subst eu
    obtain ⟨_, _, xs, h, rx⟩ := R2.cell hr hk
    have npq : p ≠ q := fun z => by subst z; exact app n _ hr (List.mem_map.mpr ⟨_, get_mem hk, rfl⟩)
    have hn : n < ρ.length := (List.getElem?_eq_some_iff.mp hr).1
    have R3 := R2.mutC (c' := .lst (its ++ [.adr (.ref p)])) (o := .lst (xs ++ [.ref p])) hr hk ⟨_, upd_same, it_app rx (it_one (it := .adr (.ref p)) rfl)⟩
    have R4 := R3.addC (q := p) (o := .lst ys) (c := .lst (ds.map .dat)) (List.getElem?_set_self hn) (by rw [upd_ne npq]; exact hp) fp op (fun j s' z hq => by
      rcases sets_get z with ⟨_, z⟩ | ⟨_, z⟩
      · subst z
        rw [show owns (.st v (μ.set k (q, .lst (its ++ [.adr (.ref p)])))) = owns (.st v μ) from set_fst hk _] at hq
        exact app n _ hr hq
      · exact app j s' z hq) ⟨ys, by rw [upd_ne npq]; exact hp, it_dat ry⟩
    rw [List.set_set] at R4
    exact ⟨q, xs, .ref p, rfl, rfl, h, by rw [← rx.len]; exact sz_lt hz, qq.nx F2 _ _ _ (e1.trans e2) R4 (hnx p)⟩⟩
theorem ce_popC (hr : ρ[n]? = some (.st v μ)) (hk : μ[k]? = some (q, .lst its)) (ho : RE X O ρ a (.ref q)) (hl : its[its.length - 1]? = some (.dat d))
    (hbase : attributeBase a "pop" X.env (eval a X.env) = eval a X.env := by rfl) (hline : (ap.endLine == cp.line) = true := by rfl) :
    CE X O ρ (ρ.set n (.st v (μ.set k (q, .lst its.dropLast)))) (.Call (.Attribute a "pop" ap) [] [] cp) d :=
  pe_mono (pe_bm0 PySem.F.plainAttrs_list PySem.F.slot_list_pop PySem.F.type_list_pop mt_pop ho hbase hline) fun σ H Q ⟨F, R, kk⟩ => ⟨F, R, fun F1 H1 v1 e1 R1 ev => by
    cases (show v1 = V.ref q from ev)
    obtain ⟨_, _, xs, h, rx⟩ := R1.cell hr hk
    obtain ⟨u, hu, ru⟩ := it_get rx hl
    exact ⟨tyC R1 hr hk, q, xs, u, rfl, rfl, h, by rw [← rx.len]; exact hu, kk F1 _ _ e1 (R1.mutC (c' := .lst _) hr hk ⟨_, upd_same, it_dropLast rx⟩) ru⟩⟩
theorem rc_popC (hr : ρ[n]? = some (.st v μ)) (hk : μ[k]? = some (q, .lst its)) (ho : RE X O ρ a (.ref q)) (hl : its[its.length - 1]? = some (.adr u))
    (hbase : attributeBase a "pop" X.env (eval a X.env) = eval a X.env := by rfl) (hline : (ap.endLine == cp.line) = true := by rfl) :
    RC X O ρ (ρ.set n (.st v (μ.set k (q, .lst its.dropLast)))) (.Call (.Attribute a "pop" ap) [] [] cp) u :=
  pe_mono (pe_bm0 PySem.F.plainAttrs_list PySem.F.slot_list_pop PySem.F.type_list_pop mt_pop ho hbase hline) fun σ H Q ⟨F, R, kk⟩ => ⟨F, R, fun F1 H1 v1 e1 R1 ev => by
    cases (show v1 = V.ref q from ev)
    obtain ⟨_, _, xs, h, rx⟩ := R1.cell hr hk
    obtain ⟨w, hw, rw'⟩ := it_get rx hl
    cases (show w = u from rw')
    exact ⟨tyC R1 hr hk, q, xs, u, rfl, rfl, h, by rw [← rx.len]; exact hw, kk F1 _ _ e1 (R1.mutC (c' := .lst _) hr hk ⟨_, upd_same, it_dropLast rx⟩) rfl⟩⟩
/-! names -/
theorem ds_asgP (hN : X.N.Nodup) (he : RC X O ρ ρ' e u) (hk : D.nx (ρ'.set n (.pt u))) (hi : X.N[n]? = some x := by rfl) (hx : Loc X.env.scope x := by first | exact Or.inl rfl | exact Or.inr rfl) (hs : swapsWith e (some (.Name x p')) pos.line X.env = pure false := by rfl) (hf : X.fn x = true := by rfl) :
    DS X O W ρ (.Assign [.Name x p'] e pos) D := ps_mono (ps_set hN hi hx he hs (.inl hf)) fun E σ H ⟨F, R, q⟩ => ⟨F, R, fun F' H' v e' R' r => by
  cases (show v = u from r)
  exact q.nx _ _ _ _ e' (R'.setRw fun _ _ => trivial) hk⟩
/-- the new list in slot m joins the store in slot n -/
theorem ds_own (hr : ρ[n]? = some (.st v μ)) (hm : ρ[m]? = some (.ow p ds)) (hn : n ≠ m) (h : DSs X O W ((ρ.set m (.pt (.ref p))).set n (.st v (μ ++ [(p, .lst (ds.map .dat))]))) rest D) : DSs X O W ρ rest D := ds_re h fun F σ H R => ⟨F, Ex.refl _, by
  have hl : m < ρ.length := (List.getElem?_eq_some_iff.mp hm).1
  have R1 := R.owSt hm
  have R2 := R1.join (n := n) (m := m) (by rw [List.getElem?_set_ne (Ne.symm hn)]; exact hr) (List.getElem?_set_self hl) hn
  rw [List.set_set] at R2
  exact R2⟩
theorem ds_owSt (hm : ρ[m]? = some (.ow p ds)) (h : DSs X O W (ρ.set m (.st (.ref p) [(p, .lst (ds.map .dat))])) rest D) : DSs X O W ρ rest D := ds_re h fun F σ H R => ⟨F, Ex.refl _, R.owSt hm⟩
theorem ds_join {ν : Sto} (hr : ρ[n]? = some (.st v μ)) (hm : ρ[m]? = some (.st u ν)) (hn : n ≠ m) (h : DSs X O W ((ρ.set m (.pt u)).set n (.st v (μ ++ ν))) rest D) : DSs X O W ρ rest D := ds_re h fun F σ H R => ⟨F, Ex.refl _, R.join hr hm hn⟩
theorem ds_less {ν : Sto} (hr : ρ[n]? = some (.st v μ)) (hs : ν.Sublist μ) (h : DSs X O W (ρ.set n (.st v ν)) rest D) : DSs X O W ρ rest D := ds_re h fun F σ H R => ⟨F, Ex.refl _, R.less hr hs⟩
theorem ds_perm {ν : Sto} (hr : ρ[n]? = some (.st v μ)) (hs : ν.Perm μ) (h : DSs X O W (ρ.set n (.st v ν)) rest D) : DSs X O W ρ rest D := ds_re h fun F σ H R => ⟨F, Ex.refl _, R.perm hr hs⟩
/-! tests -/
theorem CE.t {k : Bool} (h : CE X O ρ ρ' e (.bool k)) (he : ∀ whole, isTrue e X.env whole = (do let v ← whole; standAt e.pos; holding [v] (truthy v)) := by exact fun _ => rfl) : CT X O ρ ρ' e k :=
  pt_mono (pt_truth h he) fun σ H Q ⟨F, R, kk⟩ => ⟨F, R, fun F' H' v e' R' bv => ⟨k, tru_of (d := .bool k) nofun bv R'.fh, kk F' H' e' R'⟩⟩
theorem ct_not {k : Bool} (ha : CT X O ρ ρ' a k) : CT X O ρ ρ' (.UnaryOp .Not a pos) (!k) := pt_mono (pt_not ha) fun σ H Q ⟨F, R, kk⟩ => ⟨F, R, fun F' H' e R' => kk F' H' e R'⟩
theorem ct_and {k : Bool} (ha : DT X O ρ a true) (hb : CT X O ρ ρ' b k) : CT X O ρ ρ' (.BoolOp .And [a, b] pos) k :=
  PW.pt (pw_mono (pw_and ha (pw_and1 hb)) fun σ H Q ⟨F, R, kk⟩ => ⟨F, R, fun F1 H1 e1 R1 => ⟨F1, R1, fun F2 H2 e2 R2 => kk F2 H2 (e1.trans e2) R2⟩⟩)
theorem ct_or {k : Bool} (ha : DT X O ρ a false) (hb : CT X O ρ ρ' b k) : CT X O ρ ρ' (.BoolOp .Or [a, b] pos) k :=
  PW.pt (pw_mono (pw_or ha (pw_or1 hb)) fun σ H Q ⟨F, R, kk⟩ => ⟨F, R, fun F1 H1 e1 R1 => ⟨F1, R1, fun F2 H2 e2 R2 => kk F2 H2 (e1.trans e2) R2⟩⟩)
theorem ce_and (ha : DE X O ρ a (.bool true)) (hb : CE X O ρ ρ' b d) : CE X O ρ ρ' (.BoolOp .And [a, b] pos) d :=
  pe_mono (pe_and ha (pe_one hb)) fun σ H Q ⟨F, R, kk⟩ => ⟨F, R, fun F1 H1 v e1 R1 r => ⟨true, rp_bl r, F1, R1, fun F2 H2 v e2 R2 r => kk F2 H2 v (e1.trans e2) R2 r⟩⟩
theorem ce_or (ha : DE X O ρ a (.bool false)) (hb : CE X O ρ ρ' b d) : CE X O ρ ρ' (.BoolOp .Or [a, b] pos) d :=
  pe_mono (pe_or ha (pe_one hb)) fun σ H Q ⟨F, R, kk⟩ => ⟨F, R, fun F1 H1 v e1 R1 r => ⟨false, rp_bl r, F1, R1, fun F2 H2 v e2 R2 r => kk F2 H2 v (e1.trans e2) R2 r⟩⟩
theorem ds_ifC {k : Bool} (hc : CT X O ρ ρ' c k) (h1 : k = true → DSs X O W ρ' body D) (h2 : k = false → DSs X O W ρ' els D) : DS X O W ρ (.If c body els pos) D := by
  refine ⟨fun pins s σ H E I ⟨F, R, q⟩ => ?_⟩
  refine wpAny_If (thn (hc.run pins s σ H (fun b H1 => b = k ∧ tS X.K O W ρ' D E σ H1) I ⟨F, R, fun F' H' e R' => ⟨rfl, F', R', q.up e⟩⟩) fun d s1 ⟨H1, I1, ek, q1⟩ => ?_)
  subst ek
  cases d with
  | true => exact (h1 rfl).run pins s1 σ H1 E I1 q1
  | false => exact (h2 rfl).run pins s1 σ H1 E I1 q1
end
end DL

namespace DL
open PySem PySem.Spec PyProof.Rows L2
/-! ### a store is from now on only read -/
mutual
/-- the item reads as d, by the lists of the store -/
inductive Th (μ : Sto) : Itm → PyData → Prop
  | dat {d : PyData} : Th μ (.dat d) d
  | lst {q : Addr} {its : List Itm} {ds : List PyData} : (q, Cell.lst its) ∈ μ → ThAll μ its ds → Th μ (.adr (.ref q)) (.list ds)
inductive ThAll (μ : Sto) : List Itm → List PyData → Prop
  | nil : ThAll μ [] []
  | cons {it : Itm} {d : PyData} {its : List Itm} {ds : List PyData} : Th μ it d → ThAll μ its ds → ThAll μ (it :: its) (d :: ds)
end
theorem ThAll.dat {μ : Sto} : ∀ ds : List PyData, ThAll μ (ds.map .dat) ds
  | [] => .nil
  | d :: ds => .cons .dat (ThAll.dat ds)
theorem Th.flat {μ : Sto} {q : Addr} {ds : List PyData} (h : (q, Cell.lst (ds.map .dat)) ∈ μ) : Th μ (.adr (.ref q)) (.list ds) := .lst h (ThAll.dat ds)
noncomputable def addF (μ : Sto) (F H : Hp) : Hp := open Classical in fun b => if b ∈ μ.map Prod.fst then H b else F b
theorem addF_in {μ : Sto} {F H : Hp} {b : Addr} (h : b ∈ μ.map Prod.fst) : addF μ F H b = H b := if_pos h
theorem addF_no {μ : Sto} {F H : Hp} {b : Addr} (h : ¬ b ∈ μ.map Prod.fst) : addF μ F H b = F b := if_neg h
mutual
theorem th_rp {K : Frg} {F H : Hp} {μ : Sto} (hm : ∀ q c, (q, c) ∈ μ → CellOk K F H q c) (e : Ex F (addF μ F H)) : ∀ {it : Itm} {d : PyData} {v : V}, Th μ it d → ItOk K F it v → Rp K (addF μ F H) d v
  | _, _, _, .dat, h => Rp.mono e h
  | _, _, _, .lst hq ht, h => by
    cases (show _ = _ from h)
    obtain ⟨xs, h1, h2⟩ := hm _ _ hq
    exact mk_lst (by rw [addF_in (List.mem_map.mpr ⟨_, hq, rfl⟩)]; exact h1) (thA_rp hm e ht h2)
theorem thA_rp {K : Frg} {F H : Hp} {μ : Sto} (hm : ∀ q c, (q, c) ∈ μ → CellOk K F H q c) (e : Ex F (addF μ F H)) : ∀ {its : List Itm} {ds : List PyData} {xs : List V}, ThAll μ its ds → ItAll K F its xs → RpAll K (addF μ F H) ds xs
  | _, _, _, .nil, h => by cases (show _ = [] from h); exact mk_nil
  | _, _, _, .cons h1 h2, h => by
    obtain ⟨v, vs, z, a, r⟩ := h
    subst z
    exact mk_cons (th_rp hm e h1 a) (thA_rp hm e h2 r)
end
section
variable {K : Frg} {O F H : Hp} {ρ : List Sl} {σ : L2.St} {n : Nat} {v u : V} {μ : Sto} {d : PyData}
theorem Rel.frzS (R : Rel K O F ρ σ H) (hr : ρ[n]? = some (.st v μ)) : Ex F (addF μ F H) ∧ Rel K O (addF μ F H) (ρ.set n (.pt v)) σ H ∧ ∀ q c, (q, c) ∈ μ → CellOk K F H q c := by
  obtain ⟨a, nd, all⟩ := R.st hr
  have e : Ex F (addF μ F H) := fun b o h => by
    by_cases z : b ∈ μ.map Prod.fst
    · rw [addF_in z]; exact R.fh b o h
    · rw [addF_no z]; exact h
  have R1 : Rel K O F (ρ.set n (.pt v)) σ H := R.set1 rfl (fun _ _ => rfl) (fun _ => ⟨a, fun _ _ => trivial⟩) fun _ _ _ _ _ h => absurd h List.not_mem_nil
  refine ⟨e, R1.mv e (fun b o h => ?_) R.oh (fun b o h => ?_) (fun j s q z hq o h => h) (fun j s q z hq => ?_) fun j s q z hq => (R1.has z hq).2.1, fun q c hq => (all q c hq).2.2⟩
  · by_cases z : b ∈ μ.map Prod.fst
    · rw [addF_in z] at h; exact h
    · rw [addF_no z] at h; exact R.fh b o h
  · have z : ¬ b ∈ μ.map Prod.fst := fun z => by
      obtain ⟨⟨q, c⟩, hm, rfl⟩ := List.mem_map.mp z
      rw [(all q c hm).2.1] at h; cases h
    rw [addF_no z]; exact R.dis b o h
  · have z2 : ¬ q ∈ μ.map Prod.fst := fun z2 => by
      rcases sets_get z with ⟨_, y⟩ | ⟨hj, z⟩
      · subst y; exact absurd hq List.not_mem_nil
      · exact R.ap j n s _ q hj z hr hq z2
    rw [addF_no z2]; exact (R1.has z hq).1
end
section
variable {X : Cx} {O : Hp} {W : WX} {ρ ρ' : List Sl} {e a b c tg : Expr} {es : List Expr} {d : PyData} {ds ds' : List PyData} {pos pos' p' p2 ap cp : Pos} {i j : Int} {kk : Bool} {st : Stmt} {rest body els : List Stmt} {D : Dk} {er : Er} {o : Out} {n k m : Nat} {p q : Addr} {v u : V} {μ μ1 μ2 : Sto} {its : List Itm} {C dx : Addr} {ks : List Str} {f x : Str} {it : Itm}
/-- the store of slot n, whose value reads as d -/
theorem ds_frz (hr : ρ[n]? = some (.st v μ)) (ht : Th μ (.adr v) d) (h : DSs X O W (ρ.set n (.va d)) rest D) : DSs X O W ρ rest D := ds_re h fun F σ H R => by
  obtain ⟨e, R1, hm⟩ := R.frzS hr
  have hl : n < ρ.length := (List.getElem?_eq_some_iff.mp hr).1
  have r : Rp X.K (addF μ F H) d v := th_rp hm e ht rfl
  refine ⟨addF μ F H, e, ?_⟩
  have R2 := R1.set1 (i := n) (s := .va d) rfl (fun _ _ => rfl) (fun _ => ⟨v, (R.st hr).1, r⟩) fun _ _ _ _ _ h => absurd h List.not_mem_nil
  rw [List.set_set] at R2
  exact R2
/-- .. and another slot whose value reads so -/
theorem ds_frz2 {s : Sl} (hr : ρ[n]? = some (.st v μ)) (hm : ρ[m]? = some s) (hu : valOf s = some u) (hn : n ≠ m) (ht : Th μ (.adr u) d) (h : DSs X O W ((ρ.set n (.pt v)).set m (.va d)) rest D) : DSs X O W ρ rest D := ds_re h fun F σ H R => by
  obtain ⟨e, R1, hc⟩ := R.frzS hr
  have r : Rp X.K (addF μ F H) d u := th_rp hc e ht rfl
  exact ⟨addF μ F H, e, R1.set1 (i := m) (s := .va d) rfl (fun _ _ => rfl) (fun _ => ⟨u, R.val hm hu, r⟩) fun _ _ _ _ _ h => absurd h List.not_mem_nil⟩
theorem de_notL {ds : List PyData} (ha : BE X O ρ a (.list ds)) : DE X O ρ (.UnaryOp .Not a pos) (.bool (!(!ds.isEmpty))) := pe_mono (pe_notT ha) fun σ H Q ⟨F, R, kk⟩ => ⟨F, R, fun F1 H1 v e1 R1 bv => by
  obtain ⟨G, g1, g2, r⟩ := bv F1 H1 (Ex.refl _) R1
  exact ⟨!ds.isEmpty, tru_of (d := .list ds) nofun r g2, kk F1 H1 _ e1 R1 mk_bl⟩⟩
theorem de_notTu {ds : List PyData} (ha : BE X O ρ a (.tuple ds)) : DE X O ρ (.UnaryOp .Not a pos) (.bool (!(!ds.isEmpty))) := pe_mono (pe_notT ha) fun σ H Q ⟨F, R, kk⟩ => ⟨F, R, fun F1 H1 v e1 R1 bv => by
  obtain ⟨G, g1, g2, r⟩ := bv F1 H1 (Ex.refl _) R1
  exact ⟨!ds.isEmpty, tru_of (d := .tuple ds) nofun r g2, kk F1 H1 _ e1 R1 mk_bl⟩⟩
theorem de_ifS {k : Bool} {x y : Str} (hc : DT X O ρ c k) (ha : DE X O ρ a (.str x)) (hb : DE X O ρ b (.str y)) : DE X O ρ (.IfExp c a b pos) (.str (if k = true then x else y)) := by
  cases k with
  | true => exact de_if hc (fun _ => ha) nofun
  | false => exact de_if hc nofun fun _ => hb
/-! ### tuples of the module's own -/
def Gt (K : Frg) (mg : Str → Option Value) (x : Str) (d : PyData) : Prop := ∃ a : Addr, mg x = some (.ref a) ∧ ∀ F, Rp K F d (.ref a)
theorem de_glT (h : Gt X.K X.mg x d) (hg : Gl X x := by rfl) (hd : (x == ("__debug__" : Str)) = false := by decide) : DE X O ρ (.Name x pos) d := by
  obtain ⟨a, hm, r⟩ := h
  exact de_gl (v := .ref a) hm rfl r hg hd
theorem all_strsT {K : Frg} {F : Hp} : ∀ {ss : List Str}, RpAll K F (ss.map PyData.str) (ss.map V.str)
  | [] => mk_nil
  | _ :: _ => mk_cons mk_str all_strsT
theorem tup_K {K : Frg} {F : Hp} {a : Addr} {od : Option Addr} {its : Array Value} {n : Nat} {sl : Array (Option Value)} {ds : List PyData} {xs : List V} (h : K.lookup a = some ⟨.type "tuple", od, .seq its n, sl⟩) (hz : its.size ≤ 1000) (hv : Vals xs its.toList) (hr : RpAll K F ds xs) : Rp K F (.tuple ds) (.ref a) :=
  mk_tup (.inr ⟨_, its, n, h, rfl, rfl, by rw [sizeLine_eq]; omega, hv⟩) hr
/-! ### calls that change own objects -/
def spG (K : Frg) (S : List Sl → (List Sl → Out → Prop) → Prop) : Sp := fun vs H Q E => ∃ O F ρa Po, Rel K O F ρa (vs.map some) H ∧ S ρa Po ∧
  (∀ ρb o F' H' v, Po ρb o → Ex F F' → Rel K O F' ρb (vs.map some) H' → RvOk K O ρb F' H' v o → Q v H') ∧
  (∀ ρb e F' H' cls od, Po ρb (.er e) → Ex F F' → Rel K O F' ρb (vs.map some) H' → ErOk F' e cls od → E cls od H')
structure HasG (P : Program) (w : World) (K : Frg) (mg : Str → Option Value) (base : Heap) (x : Str) (k : Nat) (S : List Sl → (List Sl → Out → Prop) → Prop) : Prop where
  ex : ∃ (fa : Addr) (fd : FuncData) (ps : List Str), mg x = some (.ref fa) ∧ PySem.W.keepIn K (.ref fa) = true ∧ Binds K fd ps [] ∧ FnOk P w K mg base (L2.CX P w) k fa fd ps (spG K S)
theorem HasG.mono {P : Program} {w : World} {K : Frg} {mg : Str → Option Value} {base : Heap} {x : Str} {k k' : Nat} {S : List Sl → (List Sl → Out → Prop) → Prop} (h : HasG P w K mg base x k S) (l : k ≤ k') : HasG P w K mg base x k' S :=
  let ⟨fa, fd, ps, a, b, c, F⟩ := h.ex
  ⟨fa, fd, ps, a, b, c, F.mono l⟩
def noOwn : Sl → Bool
  | .no | .va _ | .rw _ _ => true
  | _ => false
theorem noOwn_owns {s : Sl} (h : noOwn s = true) : owns s = [] := by cases s <;> first | rfl | cases h
/-- how a def of own objects is to end: the first argument's store, the other words as they were -/
def DowG (ρa : List Sl) (Po : List Sl → Out → Prop) : Dk := { nx := fun ρ' => ∃ ρb o, Po ρb o ∧ Kp ρa ρb ρ' ∧ OutLe (.ok .none) o, rt := fun ρ' o' => ∃ ρb o, Po ρb o ∧ Kp ρa ρb ρ' ∧ OutLe o' o, ex := fun ρ' e => ∃ ρb, Po ρb (.er e) ∧ Kp ρa ρb ρ' }
theorem kp_st {v u : V} {μ0 μ : Sto} {r ρ' : List Sl} (j : Nat) (h : ρ'[j]? = some (.st u μ)) (hr : r.all noOwn = true := by rfl) : Kp (.st v μ0 :: r) (.st v μ :: r) ρ' := ⟨rfl, fun i s z => by
  cases i with
  | zero =>
    cases z
    exact ⟨⟨μ0, rfl⟩, j, u, h, fun l s hl z => by
      cases l with
      | zero => exact absurd rfl hl
      | succ l => exact noOwn_owns (List.all_eq_true.mp hr s (List.mem_of_getElem? (show r[l]? = some s from z)))⟩
  | succ i =>
    have z : r[i]? = some s := z
    have hs := List.all_eq_true.mp hr s (List.mem_of_getElem? z)
    cases s with
    | no => trivial
    | va d => exact z
    | rw v φ => exact z
    | ow p ds => cases hs
    | st v μ => cases hs⟩
theorem kp_no {r ρ' : List Sl} (hr : r.all noOwn = true := by rfl) : Kp r r ρ' := ⟨rfl, fun i s z => by
  have hs := List.all_eq_true.mp hr s (List.mem_of_getElem? z)
  cases s with
  | no => trivial
  | va d => exact z
  | rw v φ => exact z
  | ow p ds => cases hs
  | st v μ => cases hs⟩
section
variable {P : Program} {w : World} {K : Frg} {mg : Str → Option Value} {base : Heap}
theorem fn_G {x y : Str} {f : Addr} {fd : FuncData} {st : Stmt} {N ps : List Str} {k : Nat} {S : List Sl → (List Sl → Out → Prop) → Prop} (F : Fun K x y st f fd) (Sc : FnScope N ps (defScope st))
    (hlen : ∀ ρa Po, S ρa Po → ρa.length = ps.length)
    (body : ∀ (cdv : Value) (A : Around) (outer : List Env) (s : Shared) (H : Hp) (E : XK), Room k (A.deeper (envOfC y (defScope st) s.heap.objs.size f cdv)) → ∀ (O : Hp) ρa Po, S ρa Po →
      DSs (cxOf (L2.CX P w) P w K mg base N y (defScope st) f cdv A outer s H E) O (fun cls d _ H => E cls d H) (ρa ++ List.replicate (N.length - ρa.length) .no) (defBody st) (DowG ρa Po)) : FnOk P w K mg base (L2.CX P w) (k + 1) f fd ps (spG K S) := by
  refine F.okX Sc (fun vs H Q E h => ?_) fun cdv A outer s H vs Q E hr h => ?_
  · obtain ⟨O, F0, ρa, Po, R, hS, _⟩ := h
    rw [← hlen _ _ hS]
    have := R.len
    rw [List.length_map] at this
    exact this
  · obtain ⟨O, F0, ρa, Po, R, hS, hq, hx⟩ := h
    refine ⟨_, body cdv A outer s H E hr O ρa Po hS, F0, rel_start R, fun F' ρ' σ' H' e R' n => ?_, fun F' ρ' σ' H' o v e R' rv n => ?_, fun _ _ _ _ _ _ z => z, fun _ _ _ _ _ _ z => z, fun F' ρ' σ' H' er cls od e R' ok n => ?_⟩
    · obtain ⟨ρb, o, po, kp, le⟩ := n
      have Rb := R.back R' e kp
      obtain ⟨F2, e2, R2, rv⟩ := RvOk.kp (o := .ok .none) (v := .non) (show RvOk K O ρ' F' H' .non (.ok .none) from mk_non (K := K) (H := F')) kp le Rb
      exact hq ρb o F2 H' _ po (e.trans e2) R2 rv
    · obtain ⟨ρb, o', po, kp, le⟩ := n
      have Rb := R.back R' e kp
      obtain ⟨F2, e2, R2, rv⟩ := RvOk.kp rv kp le Rb
      exact hq ρb o' F2 H' _ po (e.trans e2) R2 rv
    · obtain ⟨ρb, po, kp⟩ := n
      exact hx ρb er F' H' cls od po e (R.back R' e kp) ok
theorem has_G {x : Str} {st : Stmt} {N ps : List Str} {k : Nat} {S : List Sl → (List Sl → Out → Prop) → Prop} (Df : Def K mg x st) (Sc : FnScope N ps (defScope st))
    (hb : ∀ (kV doc pm : Value) (an : Option Addr) (cdv ct : Value) (us : List Value), us.length = ps.length → bindArgs (PySem.W.fnOf x x (defArgs st) (defBody st) (defScope st) .none kV doc pm an cdv ct) ⟨us, []⟩ = pure (ps.zip us))
    (hlen : ∀ ρa Po, S ρa Po → ρa.length = ps.length)
    (body : ∀ (f : Addr) (cdv : Value) (A : Around) (outer : List Env) (s : Shared) (H : Hp) (E : XK), Room k (A.deeper (envOfC x (defScope st) s.heap.objs.size f cdv)) → ∀ (O : Hp) ρa Po, S ρa Po →
      DSs (cxOf (L2.CX P w) P w K mg base N x (defScope st) f cdv A outer s H E) O (fun cls d _ H => E cls d H) (ρa ++ List.replicate (N.length - ρa.length) .no) (defBody st) (DowG ρa Po)) : HasG P w K mg base x (k + 1) S := by
  obtain ⟨f, fd, F, hm⟩ := Df.ex
  exact ⟨f, fd, ps, hm, F.kp, F.binds hb, fn_G F Sc hlen fun cdv A outer s H E hr => body f cdv A outer s H E hr⟩
end
/-- the other arguments' words -/
def WsVs (K : Frg) (F : Hp) : List Sl → List V → Prop
  | [], vs => vs = []
  | .va d :: r, vs => ∃ v us, vs = v :: us ∧ Rp K F d v ∧ WsVs K F r us
  | .rw u φ :: r, vs => ∃ us, vs = u :: us ∧ (∀ F', Ex F F' → φ F') ∧ WsVs K F r us
  | _ :: _, _ => False
def AW (X : Cx) (O : Hp) (ρ : List Sl) (es : List Expr) (ws : List Sl) : Prop := PA X es (tAA X.K O ρ fun _ F vs => WsVs X.K F ws vs)
theorem aw_nil : AW X O ρ [] [] := pa_mono pa_nil fun σ H Q ⟨F, R, k⟩ => k F H _ (Ex.refl _) R rfl
theorem aw_va {r : List Sl} (h : DE X O ρ e d) (hr : AW X O ρ es r) (hs : starEach (e :: es) X.env = (false, eval e X.env) :: starEach es X.env := by rfl) : AW X O ρ (e :: es) (.va d :: r) :=
  pa_mono (pa_cons h hr hs) fun σ H Q ⟨F, R, k⟩ => ⟨F, R, fun F1 H1 v e1 R1 r => ⟨F1, R1, fun F2 H2 vs e2 R2 rs => k F2 H2 _ (e1.trans e2) R2 ⟨v, vs, rfl, r.mono e2, rs⟩⟩⟩
theorem aw_pt {r : List Sl} (h : RE X O ρ e u) (hr : AW X O ρ es r) (hs : starEach (e :: es) X.env = (false, eval e X.env) :: starEach es X.env := by rfl) : AW X O ρ (e :: es) (.pt u :: r) :=
  pa_mono (pa_cons h hr hs) fun σ H Q ⟨F, R, k⟩ => ⟨F, R, fun F1 H1 v e1 R1 ev => ⟨F1, R1, fun F2 H2 vs e2 R2 rs => k F2 H2 _ (e1.trans e2) R2 (by cases (show v = u from ev); exact ⟨vs, rfl, fun _ _ => trivial, rs⟩)⟩⟩
theorem ws_len {K : Frg} {F : Hp} : ∀ {ws : List Sl} {vs : List V}, WsVs K F ws vs → vs.length = ws.length
  | [], _, h => by cases (show _ = [] from h); rfl
  | .va d :: r, _, ⟨v, us, z, _, h⟩ => by rw [z, List.length_cons, List.length_cons, ws_len h]
  | .rw u φ :: r, _, ⟨us, z, _, h⟩ => by rw [z, List.length_cons, List.length_cons, ws_len h]
  | .no :: _, _, h => h.elim
  | .ow _ _ :: _, _, h => h.elim
  | .st _ _ :: _, _, h => h.elim
theorem ws_sl {K : Frg} {O F H : Hp} : ∀ {ws : List Sl} {vs : List V} {i : Nat} {s : Sl}, WsVs K F ws vs → ws[i]? = some s → SlOk K O F H ((vs.map some)[i]?) s ∧ owns s = []
  | [], _, _, _, _, e => by simp at e
  | .va d :: r, _, 0, _, ⟨v, us, z, a, h⟩, e => by subst z; simp at e; subst e; exact ⟨⟨v, rfl, a⟩, rfl⟩
  | .rw u φ :: r, _, 0, _, ⟨us, z, a, h⟩, e => by subst z; simp at e; subst e; exact ⟨⟨rfl, a⟩, rfl⟩
  | .va d :: r, _, i + 1, _, ⟨v, us, z, a, h⟩, e => by subst z; exact ws_sl (i := i) h (by simpa using e)
  | .rw u φ :: r, _, i + 1, _, ⟨us, z, a, h⟩, e => by subst z; exact ws_sl (i := i) h (by simpa using e)
  | .no :: _, _, _, _, h, _ => h.elim
  | .ow _ _ :: _, _, _, _, h, _ => h.elim
  | .st _ _ :: _, _, _, _, h, _ => h.elim
/-- what a call of the first argument's store needs, and what comes back -/
theorem callG_core {K : Frg} {F H : Hp} {σ : Sg} {S : List Sl → (List Sl → Out → Prop) → Prop} {Po : List Sl → Out → Prop} {r : List Sl} {vs : List V} {Q : VK} {E : XK} (R : Rel K O F ρ σ H) (hr : ρ[n]? = some (.st v (μ1 ++ μ2))) (rs : WsVs K F r vs) (hS : S (.st u μ1 :: r) Po)
    (hP : ∀ ρb o, Po ρb o → ∃ μ', ρb = .st u μ' :: r)
    (hq : ∀ μ' o F' H' w, Po (.st u μ' :: r) o → Ex F F' → Rel K O F' (ρ.set n (.st v (μ' ++ μ2))) σ H' → RvOk K O (ρ.set n (.st v (μ' ++ μ2))) F' H' w o → Q w H')
    (hx : ∀ μ' e F' H' cls od, Po (.st u μ' :: r) (.er e) → Ex F F' → Rel K O F' (ρ.set n (.st v (μ' ++ μ2))) σ H' → ErOk F' e cls od → E cls od H') : spG K S (u :: vs) H Q E := by
  obtain ⟨a, nd, all⟩ := R.st hr
  rw [List.map_append, List.nodup_append] at nd
  have hl : n < ρ.length := (List.getElem?_eq_some_iff.mp hr).1
  have R1 : Rel K O F (ρ.set n (.st v μ2)) σ H := R.less hr (List.sublist_append_right _ _)
  have h2 : (ρ.set n (.st v μ2))[n]? = some (.st v μ2) := List.getElem?_set_self hl
  have own1 : ∀ q, q ∈ μ1.map Prod.fst → ¬ Own (ρ.set n (.st v μ2)) q := fun q hq ⟨j, s, z, hs⟩ => by
    rcases sets_get z with ⟨_, y⟩ | ⟨hj, z⟩
    · subst y; exact nd.2.2 q hq q hs rfl
    · exact R.ap j n s _ q hj z hr hs (by show q ∈ (μ1 ++ μ2).map Prod.fst; rw [List.map_append]; exact List.mem_append_left _ hq)
  have Ra : Rel K (allO (ρ.set n (.st v μ2)) O H) F (.st u μ1 :: r) ((u :: vs).map some) H := by
    refine ⟨by rw [List.length_map, List.length_cons, List.length_cons, ws_len rs], R.fh, R1.toAll.oh, R1.toAll.dis, fun i s z => ?_, fun i j s t q hn z1 z2 g1 g2 => ?_⟩
    · cases i with
      | zero =>
        cases z
        refine ⟨rfl, nd.1, fun q c hc => ?_⟩
        obtain ⟨f, g, cc⟩ := all q c (List.mem_append_left _ hc)
        exact ⟨f, by rw [allO_no (own1 q (List.mem_map.mpr ⟨_, hc, rfl⟩))]; exact g, cc⟩
      | succ i => exact (ws_sl rs (show r[i]? = some s from z)).1
    · cases i with
      | zero =>
        cases j with
        | zero => exact hn rfl
        | succ j => rw [(ws_sl (O := O) (H := H) rs (show r[j]? = some t from z2)).2] at g2; exact absurd g2 List.not_mem_nil
      | succ i => rw [(ws_sl (O := O) (H := H) rs (show r[i]? = some s from z1)).2] at g1; exact absurd g1 List.not_mem_nil
  have back : ∀ μ' F' H', Ex F F' → Rel K (allO (ρ.set n (.st v μ2)) O H) F' (.st u μ' :: r) ((u :: vs).map some) H' → Rel K O F' (ρ.set n (.st v (μ' ++ μ2))) σ H' := fun μ' F' H' e Rb => by
    have R3 : Rel K O F' (ρ.set n (.st v μ2)) σ H' := R1.ofAll Rb e
    obtain ⟨_, ndb, allb⟩ := Rb.st (i := 0) rfl
    have no : ∀ q c, (q, c) ∈ μ' → ¬ Own (ρ.set n (.st v μ2)) q ∧ O q = none := fun q c hc => by
      have g := (allb q c hc).2.1
      by_cases z : Own (ρ.set n (.st v μ2)) q
      · rw [allO_ow z] at g
        obtain ⟨j, s, z1, z2⟩ := z
        obtain ⟨_, _, o, ho⟩ := R1.has z1 z2
        rw [ho] at g; cases g
      · rw [allO_no z] at g; exact ⟨z, g⟩
    have R4 := R3.set1 (i := n) (s := .st v (μ' ++ μ2)) rfl (fun _ _ => rfl) (fun _ => ⟨a, by
      rw [List.map_append, List.nodup_append]
      refine ⟨ndb, nd.2.1, fun x hx y hy e => ?_⟩
      subst e
      obtain ⟨⟨q, c⟩, hm, rfl⟩ := List.mem_map.mp hx
      exact (no q c hm).1 ⟨n, _, h2, hy⟩, fun q c hc => by
      rcases List.mem_append.mp hc with hc | hc
      · exact ⟨(allb q c hc).1, (no q c hc).2, (allb q c hc).2.2⟩
      · exact (R3.st h2).2.2 q c hc⟩) fun j t q hj e h1 h3 => by
      rw [show owns (.st v (μ' ++ μ2)) = μ'.map Prod.fst ++ μ2.map Prod.fst by show (μ' ++ μ2).map Prod.fst = _; rw [List.map_append]] at h1
      rcases List.mem_append.mp h1 with h1 | h1
      · obtain ⟨⟨q', c⟩, hm, rfl⟩ := List.mem_map.mp h1
        exact (no q' c hm).1 ⟨j, t, e, h3⟩
      · exact R3.ap n j _ t q (Ne.symm hj) h2 e h1 h3
    rw [List.set_set] at R4
    exact R4
  refine ⟨allO (ρ.set n (.st v μ2)) O H, F, .st u μ1 :: r, Po, Ra, hS, fun ρb o F' H' w po e Rb rv => ?_, fun ρb er F' H' cls od po e Rb ok => ?_⟩
  · obtain ⟨μ', rfl⟩ := hP ρb o po
    refine hq μ' o F' H' w po e (back μ' F' H' e Rb) ?_
    have hnw : ∀ {w : V} {ds : List PyData}, NewL K (allO (ρ.set n (.st v μ2)) O H) (.st u μ' :: r) F' H' w ds → NewL K O (ρ.set n (.st v (μ' ++ μ2))) F' H' w ds := fun {w ds} rv => by
      obtain ⟨p, xs, ev, f, g, ap, hp, rr⟩ := rv
      have z : ¬ Own (ρ.set n (.st v μ2)) p := fun z => by
        rw [allO_ow z] at g
        obtain ⟨j, s, z1, z2⟩ := z
        obtain ⟨_, _, o, ho⟩ := R1.has z1 z2
        rw [ho] at g; cases g
      refine ⟨p, xs, ev, f, by rw [allO_no z] at g; exact g, fun j s e hs => ?_, hp, rr⟩
      rcases sets_get e with ⟨_, y⟩ | ⟨hj, e⟩
      · subst y
        rw [show owns (.st v (μ' ++ μ2)) = μ'.map Prod.fst ++ μ2.map Prod.fst by show (μ' ++ μ2).map Prod.fst = _; rw [List.map_append]] at hs
        rcases List.mem_append.mp hs with hs | hs
        · exact ap 0 _ rfl hs
        · exact z ⟨n, _, h2, hs⟩
      · exact z ⟨j, s, by rw [List.getElem?_set_ne (Ne.symm hj)]; exact e, hs⟩
    cases o with
    | ok d => exact rv
    | er e => exact rv.elim
    | nw ds => exact hnw rv
    | tn d0 ds => obtain ⟨q, h1, h2⟩ := rv; exact ⟨q, hnw h1, h2⟩
  · obtain ⟨μ', rfl⟩ := hP ρb _ po
    exact hx μ' er F' H' cls od po e (back μ' F' H' e Rb) ok
/-- f(o, ..): the words behind it, by what is promised -/
def tG (K : Frg) (O : Hp) (ρ : List Sl) (n : Nat) (v u : V) (μ2 : Sto) (r : List Sl) (Po : List Sl → Out → Prop) : TE := fun σ H Q => ∃ F, Rel K O F ρ σ H ∧ ∀ μ' o F' H' w, Po (.st u μ' :: r) o → Ex F F' → Rel K O F' (ρ.set n (.st v (μ' ++ μ2))) σ H' → RvOk K O (ρ.set n (.st v (μ' ++ μ2))) F' H' w o → Q w H'
theorem x_callG {g : Str} {gp : Pos} {l : Nat} {S : List Sl → (List Sl → Out → Prop) → Prop} {Po : List Sl → Out → Prop} {r : List Sl} (G : HasG X.prog X.w X.K X.mg X.base g l S) (hrm : Room l X.A) (hr : ρ[n]? = some (.st v (μ1 ++ μ2))) (h0 : RE X O ρ a u) (ha : AW X O ρ es r) (hS : S (.st u μ1 :: r) Po) (hP : ∀ ρb o, Po ρb o → ∃ μ', ρb = .st u μ' :: r) (ne : ∀ ρb e, ¬ Po ρb (.er e))
    (hg : Gl X g := by rfl) (hdb : (g == ("__debug__" : Str)) = false := by decide) (he : starEach (a :: es) X.env = (false, eval a X.env) :: starEach es X.env := by rfl) (hpl : (backTo pos (starEach es X.env)).any (·.1) = false := by rfl) : PE X (.Call (.Name g gp) (a :: es) [] pos) (tG X.K O ρ n v u μ2 r Po) := by
  obtain ⟨fa, fd, ps, hm, hk, hb, F⟩ := G.ex
  refine pe_mono (pe_call F hrm hg hm hk hb .nil (E := E0) passL' (pa_cons h0 ha he) hdb he hpl) fun σ H Q ⟨F0, R, kk⟩ => ⟨F0, R, fun F1 H1 w e1 R1 ew => ⟨F1, R1, fun F2 H2 vs e2 R2 rs => ?_⟩⟩
  cases (show w = u from ew)
  show spG X.K S ((u :: vs) ++ []) H2 Q E0
  rw [List.append_nil]
  exact callG_core R2 hr rs hS hP (fun μ' o F' H' w' po e R' rv => kk μ' o F' H' w' po ((e1.trans e2).trans e) R' rv) fun μ' e F' H' cls od po _ _ _ => absurd po (ne _ e)
/-- .. where it is certain what comes back -/
theorem ce_callG {g : Str} {gp : Pos} {l : Nat} {S : List Sl → (List Sl → Out → Prop) → Prop} {r : List Sl} {μ' : Sto} (G : HasG X.prog X.w X.K X.mg X.base g l S) (hrm : Room l X.A) (hr : ρ[n]? = some (.st v (μ1 ++ μ2))) (h0 : RE X O ρ a u) (ha : AW X O ρ es r) (hS : S (.st u μ1 :: r) fun ρb o => ρb = .st u μ' :: r ∧ o = .ok d)
    (hg : Gl X g := by rfl) (hdb : (g == ("__debug__" : Str)) = false := by decide) (he : starEach (a :: es) X.env = (false, eval a X.env) :: starEach es X.env := by rfl) (hpl : (backTo pos (starEach es X.env)).any (·.1) = false := by rfl) : CE X O ρ (ρ.set n (.st v (μ' ++ μ2))) (.Call (.Name g gp) (a :: es) [] pos) d :=
  pe_mono (x_callG G hrm hr h0 ha hS (fun ρb o h => ⟨μ', h.1⟩) (fun ρb e h => nomatch h.2) hg hdb he hpl) fun σ H Q ⟨F, R, kk⟩ => ⟨F, R, fun μ2' o F' H' w po e R' rv => by
    obtain ⟨h1, h2⟩ := po
    cases h1; cases h2
    exact kk F' H' w e R' rv⟩
theorem ce_callG0 {g : Str} {gp : Pos} {l : Nat} {S : List Sl → (List Sl → Out → Prop) → Prop} {r : List Sl} {μ' : Sto} (G : HasG X.prog X.w X.K X.mg X.base g l S) (hrm : Room l X.A) (hr : ρ[n]? = some (.st v μ1)) (h0 : RE X O ρ a u) (ha : AW X O ρ es r) (hS : S (.st u μ1 :: r) fun ρb o => ρb = .st u μ' :: r ∧ o = .ok d)
    (hg : Gl X g := by rfl) (hdb : (g == ("__debug__" : Str)) = false := by decide) (he : starEach (a :: es) X.env = (false, eval a X.env) :: starEach es X.env := by rfl) (hpl : (backTo pos (starEach es X.env)).any (·.1) = false := by rfl) : CE X O ρ (ρ.set n (.st v μ')) (.Call (.Name g gp) (a :: es) [] pos) d := by
  have h := ce_callG (μ2 := []) (pos := pos) (gp := gp) G hrm (by rw [List.append_nil]; exact hr) h0 ha hS hg hdb he hpl
  rw [List.append_nil] at h
  exact h
theorem ds_ret_and {k : Bool} (ha : DE X O ρ a (.bool k)) (h1 : k = true → CE X O ρ ρ' b d ∧ D.rt ρ' (.ok d)) (h2 : k = false → D.rt ρ (.ok (.bool false))) : DS X O W ρ (.Return (some (.BoolOp .And [a, b] p2)) pos) D := by
  cases k with
  | true => exact ds_retC (ce_and ha (h1 rfl).1) (h1 rfl).2
  | false => exact ds_ret (de_and ha (fun z => nomatch z) fun _ => rfl) (h2 rfl)
theorem ds_ret_or {k : Bool} (ha : DE X O ρ a (.bool k)) (h1 : k = false → CE X O ρ ρ' b d ∧ D.rt ρ' (.ok d)) (h2 : k = true → D.rt ρ (.ok (.bool true))) : DS X O W ρ (.Return (some (.BoolOp .Or [a, b] p2)) pos) D := by
  cases k with
  | false => exact ds_retC (ce_or ha (h1 rfl).1) (h1 rfl).2
  | true => exact ds_ret (de_or ha (fun z => nomatch z) fun _ => rfl) (h2 rfl)
/-- f(o, ..) alone -/
theorem ds_exprG {g : Str} {gp : Pos} {l : Nat} {S : List Sl → (List Sl → Out → Prop) → Prop} {Po : List Sl → Out → Prop} {r : List Sl} (G : HasG X.prog X.w X.K X.mg X.base g l S) (hrm : Room l X.A) (hr : ρ[n]? = some (.st v (μ1 ++ μ2))) (h0 : RE X O ρ a u) (ha : AW X O ρ es r) (hS : S (.st u μ1 :: r) Po) (hP : ∀ ρb o, Po ρb o → ∃ μ', ρb = .st u μ' :: r) (ne : ∀ ρb e, ¬ Po ρb (.er e))
    (h : ∀ μ' o, Po (.st u μ' :: r) o → D.nx (ρ.set n (.st v (μ' ++ μ2))))
    (hs : swapsWith (.Call (.Name g gp) (a :: es) [] pos) none pos'.line X.env = pure false := by rfl) (hg : Gl X g := by rfl) (hdb : (g == ("__debug__" : Str)) = false := by decide) (he : starEach (a :: es) X.env = (false, eval a X.env) :: starEach es X.env := by rfl) (hpl : (backTo pos (starEach es X.env)).any (·.1) = false := by rfl) : DS X O W ρ (.Expr (.Call (.Name g gp) (a :: es) [] pos) pos') D :=
  ps_mono (ps_expr (x_callG G hrm hr h0 ha hS hP ne hg hdb he hpl) hs) fun E σ H ⟨F, R, q⟩ => ⟨F, R, fun μ' o F' H' w po e R' rv => q.nx _ _ _ _ e R' (h μ' o po)⟩
/-! ### a new object -/
structure MkG (P : Program) (w : World) (K : Frg) (mg : Str → Option Value) (base : Heap) (x : Str) (C : Addr) (k : Nat) (S : List Sl → (List Sl → Out → Prop) → Prop) : Prop where
  ex : ∃ (fa : Addr) (fd : FuncData) (ps : List Str), mg x = some (.ref C) ∧ Mk K C fa ∧ Binds K fd ps [] ∧ FnOk P w K mg base (L2.CX P w) k fa fd ps (spG K S)
theorem ds_asgMk {g nm : Str} {gp : Pos} {l : Nat} {S : List Sl → (List Sl → Out → Prop) → Prop} {Po : Addr → Addr → List Sl → Out → Prop} (M : MkG X.prog X.w X.K X.mg X.base g C l S) (hrm : Room (l + 1) X.A) (hN : X.N.Nodup)
    (hS : ∀ p dx, S [.st (.ref p) [(p, .ins C dx [] [])]] (Po p dx)) (hP : ∀ p dx ρb o, Po p dx ρb o → o = .ok .none ∧ ∃ μ', ρb = [.st (.ref p) μ'])
    (h : ∀ p dx μ' o, Po p dx [.st (.ref p) μ'] o → D.nx (ρ.set n (.st (.ref p) μ'))) (hi : X.N[n]? = some nm := by rfl) (hx : Loc X.env.scope nm := by first | exact Or.inl rfl | exact Or.inr rfl) (hs : swapsWith (.Call (.Name g gp) [] [] pos) (some (.Name nm p')) pos'.line X.env = pure false := by rfl) (hf : X.fn nm = true := by rfl) (hg : Gl X g := by rfl) (hdb : (g == ("__debug__" : Str)) = false := by decide) :
    DS X O W ρ (.Assign [.Name nm p'] (.Call (.Name g gp) [] [] pos) pos') D := by
  obtain ⟨fa, fd, ps, hm, mk, hb, F⟩ := M.ex
  refine ps_mono (ps_set hN hi hx (pe_make0 mk F hrm hg hm hb .nil (E := E0) passL' hdb) hs (.inl hf)) fun E σ H ⟨F0, R, q⟩ => fun x dx nx ndx nex => ?_
  have nd' : (upd H dx (.own x)) x = none := by rw [upd_ne nex.symm]; exact nx
  have R1 : Rel X.K O F0 ρ σ (upd (upd H dx (.own x)) x (.ins C dx [])) := (R.newH ndx).newH nd'
  have ax : Apart ρ x := R.fresh_apart nx
  have fx : F0 x = none := R.fh.back nx
  have ox : O x = none := R.oh.back nx
  have nox : ¬ Own ρ x := fun ⟨j, s, z, hq⟩ => ax j s z hq
  have Ra : Rel X.K (allO ρ O (upd (upd H dx (.own x)) x (.ins C dx []))) F0 [.st (.ref x) [(x, .ins C dx [] [])]] ([V.ref x].map some) (upd (upd H dx (.own x)) x (.ins C dx [])) := by
    refine ⟨rfl, R1.fh, R1.toAll.oh, R1.toAll.dis, fun i s z => ?_, fun i j s t q' hn z1 z2 g1 g2 => ?_⟩
    · cases i with
      | zero =>
        cases z
        refine ⟨rfl, by simp, fun q' c hc => ?_⟩
        cases List.mem_singleton.mp hc
        exact ⟨fx, by rw [allO_no nox]; exact ox, List.nodup_nil, rfl, [], upd_same, rfl⟩
      | succ i => simp at z
    · cases i with
      | zero =>
        cases j with
        | zero => exact hn rfl
        | succ j => simp at z2
      | succ i => simp at z1
  refine ⟨_, F0, _, Po x dx, Ra, hS x dx, fun ρb o F' H' w po e Rb rv => ?_, fun ρb er F' H' cls od po e Rb ok => ?_⟩
  · obtain ⟨rfl, μ', rfl⟩ := hP x dx ρb o po
    refine ⟨rp_non (K := X.K) (H := F') rv, ?_⟩
    have R3 : Rel X.K O F' ρ σ H' := R1.ofAll Rb e
    obtain ⟨_, ndb, allb⟩ := Rb.st (i := 0) rfl
    have no : ∀ q c, (q, c) ∈ μ' → ¬ Own ρ q ∧ O q = none := fun q c hc => by
      have g := (allb q c hc).2.1
      by_cases z : Own ρ q
      · rw [allO_ow z] at g
        obtain ⟨j, s, z1, z2⟩ := z
        obtain ⟨_, _, o, ho⟩ := R1.has z1 z2
        rw [ho] at g; cases g
      · rw [allO_no z] at g; exact ⟨z, g⟩
    have R4 : Rel X.K O F' (ρ.set n (.st (.ref x) μ')) (σ.set n (some (.ref x))) H' := R3.set1 List.length_set (fun j hj => set_ne? hj) (fun hl => ⟨List.getElem?_set_self (R3.lt hl), ndb, fun q c hc => ⟨(allb q c hc).1, (no q c hc).2, (allb q c hc).2.2⟩⟩) fun j t q hj e h1 h2 => by
      obtain ⟨⟨q', c⟩, hm, rfl⟩ := List.mem_map.mp (show q ∈ μ'.map Prod.fst from h1)
      exact (no q' c hm).1 ⟨j, t, e, h2⟩
    exact q.nx _ _ _ _ e R4 (h x dx μ' _ po)
  · exact nomatch (hP x dx ρb _ po).1
end
end DL

/-! ### isinstance of a caught error that has a dict -/
namespace PySem.W
open PySem PySem.Spec PySem.Calls PyProof.Rows
section
variable {prog : Program} {w : World} {A : Around} {E : Value → Shared → Prop} {s : Shared} {K : Frag} {y B : Addr} {oy : Obj} {own : Option Obj}
theorem dlFound {C : Addr} {nm : Str} {v g : Value} (h1 : (clsIn K C).isSome = true) (h2 : findIn K (.ref C) nm = some (some v)) (h3 : specialIn K v "__get__" = some (some g)) (h4 : takesIn K v = some true) : findObj K C own nm = some (.bind g v) := by
  cases hcd : clsIn K C with
  | none => rw [hcd] at h1; cases h1
  | some cd =>
    unfold findObj
    rw [hcd, h2]
    simp [h3, h4]
theorem dlClass {Q : Option Value → Shared → Prop} (T : L2.ExcC K B) (X : K.In s.heap) (I : InstAt s.heap y oy B own) (h : Q (some (.ref B)) { s with toks := s.toks + 1 }) : wpAny (model prog w) A (getAttr? (.ref y) "__class__") Q E s := by
  have some1 : (clsIn K B).isSome = true := by obtain ⟨cd, hc, _⟩ := any_some T.hd; rw [hc]; rfl
  obtain ⟨hp, gs, dr, tk, os⟩ := s
  have A0 := I.type (M := model prog w)
  have A1 := looks_findIn (M := model prog w) X T.hg
  have A2 := looks_findIn (M := model prog w) X T.hk
  have A3 := looks_find (M := model prog w) X I (dlFound (own := own) some1 T.ha T.hn T.ht)
  have isB : Looks (model prog w) hp (isInstance (.ref y) (.type "BaseException")) true := A0.andThen (looks_subIn X T.hs)
  have b1 : (false && onTheHeap (Value.builtin "BaseException.__getattribute__")) = false := rfl
  have b2 : (Value.builtin "BaseException.__getattribute__" == Value.builtin "object.__getattribute__") = false := by decide +kernel
  have b3 : (onTheHeap (Value.ref B) && Value.builtin "BaseException.__getattribute__" == Value.builtin "object.__getattribute__") = false := by rw [b2]; rfl
  unfold getAttr? getAttrBy? getAttrBy
  refine wpAny_bind (wpAny_mkText (wpAny_bind (wpAny_attempt (wpAny_holding (wpAny_bind (A0.at (wpAny_bind (A1.at ?_))))))))
  show wpAny _ _ (if (onTheHeap (Value.ref B) && Value.builtin "BaseException.__getattribute__" == Value.builtin "object.__getattribute__") = true then _ else _) _ _ _
  rw [b3, if_neg Bool.false_ne_true]
  unfold getAttrByItsOwn hookBefore
  refine wpAny_bind ?_
  rw [if_pos (show onTheHeap (Value.ref B) = true from rfl)]
  refine A2.at (wpAny_bind (wpAny_attempt (wpAny_holding ?_)))
  unfold callGetattribute
  rw [b1, if_neg Bool.false_ne_true]
  unfold boundAndCalled
  rw [PySem.F.excAttr_ValueError.ga.bind (.ref y)]
  refine wpAny_bind (wpAny_pure ?_)
  show wpAny _ _ (call (.builtin "BaseException.__getattribute__") [.ref y, .str "__class__" tk]) _ _ _
  refine wpAny_call (codeAny_call_builtin PySem.F.excAttr_ValueError.ga.plain PySem.F.entry_bexc_ga ?_)
  refine @check_slot (model prog w) _ _ ⟨hp, gs, dr, tk + 1, os⟩ "BaseException.__getattribute__" "BaseException" "__getattribute__" (.ref y) [.str "__class__" tk] [] _ (by decide +kernel) (by decide +kernel) isB (PySem.F.args_bexc_ga (.ref y) (.str "__class__" tk)) ?_
  unfold Builtin.«object.__getattribute__»
  refine wpAny_bind (wpAny_of_eq (a := ((Value.ref y : Value), [Value.str "__class__" tk])) (by first | rfl | (simp only [slotArgs]; rfl)) ?_)
  refine wpAny_bind (wpAny_pure (wpAny_bind (A0.at (wpAny_bind (A3.at ?_)))))
  show wpAny _ _ (holding [Value.builtin "object.__class__"] (call (.builtin "getset_descriptor.__get__") [.builtin "object.__class__", .ref y, .ref B]) >>= ret) _ _ _
  refine wpAny_bind (wpAny_holding (wpAny_call (class_get (s := ⟨hp, gs, dr, tk + 1, os⟩) (ox := oy) (od := own) X I T.hm ?_)))
  refine wpAny_pure ?_
  show wpAny _ _ (handedOut (.ref B)) _ _ _
  rw [handedOut_of (v := .ref B) rfl]
  first
    | exact wpAny_pure (wpAny_pure h)
    | exact wpAny_pure h
    | exact wpAny_pure (wpAny_bind (wpAny_pure (wpAny_pure h)))
theorem dlKit (T : L2.ExcC K B) : KitX K (.ref y) (.ref B) (fun h => InstAt h y oy B own) where
  ty := fun _ _ _ I => I.type
  it := fun M h X _ => by
    obtain ⟨cdB, hB, _⟩ := any_some T.hd
    unfold clsIn at hB
    split at hB
    · rename_i c1 d1 cd1 sl1 ho
      intro A1 Q1 E1 s1 k q
      unfold isType loadHead
      exact wpAny_bind (wpAny_loadPart (k _ _ (X _ _ ho)) (wpAny_pure q))
    · cases hB
  ne := fun h tp dd its n sl X htp => by
    obtain ⟨cdB, hB, _⟩ := any_some T.hd
    refine Bool.eq_false_iff.mpr fun z => ?_
    obtain rfl : B = tp := Value.ref.inj (beq_iff_eq.mp z)
    unfold clsIn at hB
    split at hB
    · rename_i c1 d1 cd1 sl1 ho
      cases (X _ _ ho).symm.trans htp
    · cases hB
  ca := fun X I k => dlClass T X I k
end
end PySem.W
namespace DL
open PySem PySem.Spec PyProof.Rows L2
theorem dlIs {X : Cx} {a B dd : Addr} {oe : Obj} {pn : List (Addr × Obj)} (T : ExcC X.K B) (hz : Zc (.ref B) (some dd) oe) (hf : ∃ vs, oe.data = .fields vs) :
    CallR (X.suite a ((a, oe) :: pn)) (.builtin "isinstance") (fun xs H Q => ∃ (c : V) (cv : Value) (b : Bool) (fs : List (Str × V)), xs = [.ref a, c] ∧ (∀ u, RelV c u → u = cv) ∧ H dd = some (.xd fs) ∧ PySem.W.kitOne X.K (.ref B) cv = some b ∧ Q (.bl b) H) := by
  intro pins s σ H xs us Q I r h
  obtain ⟨c, cv, b, fs, rfl, hcv, hd, e, q⟩ := h
  cases r with
  | cons rx rr =>
    cases rr with
    | cons rt rr =>
      cases rr
      cases rx
      have ec := hcv _ rt
      subst ec
      obtain ⟨hget, _⟩ := I.pin (a, oe) (List.mem_append.mpr (.inl List.mem_cons_self))
      obtain ⟨vs, hv⟩ := hf
      have hx : ObjOk X.prog X.w H s.heap dd (.xd fs) := I.hok dd _ hd
      obtain ⟨mA, hns, _⟩ := hx
      obtain ⟨od, ho, _⟩ := lookIn_ns hns
      have J : PySem.W.InstAt s.heap a oe B (some od) := by
        obtain ⟨oc, oD, oda, osl⟩ := oe
        obtain ⟨h1, h2⟩ := hz
        dsimp only at h1 h2 hv
        subst h1 h2 hv
        exact ⟨hget, rfl, rfl, ho⟩
      exact PySem.W.kia_one (PySem.W.dlKit T) I.kIn J e (fun z => nomatch z) fun tk => ⟨.bl b, H, I.kept (t' := tk) fun _ _ z => z, rfl, q⟩
/-! ### an error class with a field, by its __init__ -/
def SpI (K : Frg) (f : Str) : Sp := fun vs H Q _ => ∃ (a C : Addr) (v : V), vs = [.ref a, v] ∧ H a = some (exo a C none) ∧ OexC K C ∧ PySem.W.findIn K (.ref C) f = some none ∧ ∀ dx, H dx = none → dx ≠ a → Q .non (upd (upd H dx (exd dx [(f, v)])) a (exo a C (some dx)))
structure ExF (P : Program) (w : World) (K : Frg) (mg : Str → Option Value) (base : Heap) (x : Str) (C : Addr) (f : Str) : Prop where
  g : mg x = some (.ref C)
  T : OexC K C
  no : PySem.W.findIn K (.ref C) f = some none
  xf : XfC K C
  init : ∃ (fI : Addr) (fd : FuncData) (ps : List Str), PySem.W.findIn K (.ref C) "__init__" = some (some (.ref fI)) ∧ PySem.W.typeIn K (.ref fI) = some (.type "function") ∧ Binds K fd ps [] ∧ FnOk P w K mg base (L2.CX P w) 1 fI fd ps (SpI K f)
theorem ExF.nm {P : Program} {w : World} {base : Heap} {X : Cx} {x : Str} {C : Addr} {f : Str} (E : ExF P w X.K X.mg base x C f) (hg : Gl X x := by rfl) (hd : (x == ("__debug__" : Str)) = false := by decide) : Names X x (.ref C) := ⟨hg, hd, .inl E.g⟩
section
variable {X : Cx} {O : Hp} {W : WX} {ρ ρ' : List Sl} {e a b c tg : Expr} {es : List Expr} {d : PyData} {ds ds' : List PyData} {pos pos' np p p' p2 : Pos} {i j : Int} {k : Bool} {st : Stmt} {rest body els : List Stmt} {D : Dk} {er : Er} {o : Out} {n : Nat} {f : Str} {C : Addr}
theorem ds_raiseF {x : Str} (hc : X.calm = true) (tk : Takes X W) (E : ExF X.prog X.w X.K X.mg X.base x C f) (hr : Room 2 X.A) (he : DE X O ρ e (.int i)) (h : D.ex ρ (.fl C f i)) (hg : Gl X x := by rfl) (hdb : (x == ("__debug__" : Str)) = false := by decide)
    (hs : starEach [e] X.env = (false, eval e X.env) :: starEach [] X.env := by rfl) (hpl : (backTo pos (starEach [] X.env)).any (·.1) = false := by rfl) :
    DS X O W ρ (.Raise (some (.Call (.Name x p) [e] [] pos)) none pos') D := by
  obtain ⟨fI, fd, ps, iC, tI, hb, F1⟩ := E.init
  refine ps_mono (ps_raise hc tk (pmk_oex E.T iC tI F1 hr hb .nil passL' hg E.g (pa_cons he pa_nil hs) hdb hs hpl)) fun E' σ H ⟨F, R, q⟩ => ?_
  refine ⟨F, R, fun F1 H1 v e1 R1 rv => ⟨by show 1 ≤ 1000; decide, fun a ha => ?_⟩⟩
  cases rp_int rv
  refine ⟨a, C, .int i, rfl, upd_same, E.T, E.no, fun dx hdx hne => ⟨rfl, dx, [(f, .int i)], upd_same, ?_, ?_, ?_⟩⟩
  · rw [upd_ne hne, upd_same]
  · rw [upd_ne hne] at hdx; exact hdx
  · have hH : upd (del (upd (upd (upd H1 a (exo a C none)) dx (exd dx [(f, V.int i)])) a (exo a C (some dx))) a) dx (.xd [(f, .int i)]) = upd H1 dx (.xd [(f, .int i)]) := by
      funext z
      by_cases z1 : z = dx
      · subst z1; rw [upd_same, upd_same]
      · rw [upd_ne z1, upd_ne z1]
        by_cases z2 : z = a
        · subst z2; rw [del_same, ha]
        · rw [del_ne z2, upd_ne z2, upd_ne z1, upd_ne z2]
    rw [hH]
    have hdx1 : H1 dx = none := by rw [upd_ne hne] at hdx; exact hdx
    have R2 := R1.new (o := .xd [(f, V.int i)]) hdx1
    exact q.ex _ ρ σ _ (.fl C f i) _ _ (e1.trans (Ex.new (R1.fh.back hdx1))) R2 ⟨rfl, dx, rfl, upd_same⟩ h
/-- e.f of the caught error -/
theorem de_xf {P : Program} {w : World} {base : Heap} {x nm : Str} {a0 : Addr} {oe : Obj} {pn : List (Addr × Obj)} (E : ExF P w X.K X.mg base x C f) (hf : ∃ vs, oe.data = .fields vs) (hr : ρ[n]? = some (.rw (.ref a0) (ErZ (.fl C f i) oe))) (hN : X.N[n]? = some nm := by rfl)
    (hv : Vis X.env.scope nm := by first | exact Or.inl rfl | exact Or.inr (Or.inl rfl) | exact Or.inr (Or.inr rfl)) (hd : (nm == ("__debug__" : Str)) = false := by decide) (hcd : (nm == ("__classdict__" : Str)) = false := by decide) :
    DE (X.suite a0 ((a0, oe) :: pn)) O ρ (.Attribute (.Name nm np) f pos) (.int i) := by
  refine ⟨fun pins s σ H Q I ⟨F, R, kk⟩ => ?_⟩
  have hφ : σ[n]? = some (some (.ref a0)) ∧ _ := R.sl n _ hr
  obtain ⟨dd, hz, hF⟩ : ∃ dd, Zc (.ref C) (some dd) oe ∧ F dd = some (.xd [(f, .int i)]) := hφ.2 F (Ex.refl _)
  refine (pe_xf (n := f) E.xf E.no hz hf (pe_var (X := X.suite a0 ((a0, oe) :: pn)) hN hv hd hcd)).run pins s σ H Q I ?_
  exact ⟨_, hφ.1, rfl, rfl, dd, _, .int i, rfl, R.fh _ _ hF, by simp [List.lookup], kk F H _ (Ex.refl _) R mk_int⟩
/-- isinstance of it -/
theorem de_isF {a0 : Addr} {oe : Obj} {pn : List (Addr × Obj)} {cv : Value} {cvv : V} {xc nm : Str} (T : ExI X.K C) (hf : ∃ vs, oe.data = .fields vs) (hr : ρ[n]? = some (.rw (.ref a0) (ErZ (.fl C f i) oe))) (hm : X.mg "isinstance" = none)
    (hk : PySem.W.kitOne X.K (.ref C) cv = some k) (hcl : PE (X.suite a0 ((a0, oe) :: pn)) (.Name xc p2) (tC cvv)) (hrel : ∀ u, RelV cvv u → u = cv) (hN : X.N[n]? = some nm := by rfl)
    (hv : Vis X.env.scope nm := by first | exact Or.inl rfl | exact Or.inr (Or.inl rfl) | exact Or.inr (Or.inr rfl)) (hd : (nm == ("__debug__" : Str)) = false := by decide) (hcd : (nm == ("__classdict__" : Str)) = false := by decide) (hg : Gl X "isinstance" := by rfl) :
    DE (X.suite a0 ((a0, oe) :: pn)) O ρ (.Call (.Name "isinstance" p) [.Name nm np, .Name xc p2] [] pos) (.bool k) := by
  refine ⟨fun pins s σ H Q I ⟨F, R, kk⟩ => ?_⟩
  have hφ : σ[n]? = some (some (.ref a0)) ∧ _ := R.sl n _ hr
  obtain ⟨dd, hz, hF⟩ : ∃ dd, Zc (.ref C) (some dd) oe ∧ F dd = some (.xd [(f, .int i)]) := hφ.2 F (Ex.refl _)
  refine (pe_callB (dlIs (pn := pn) T.c hz hf) hg hm (by decide +kernel) (pa_cons (pe_var (X := X.suite a0 ((a0, oe) :: pn)) hN hv hd hcd) (pa_cons hcl pa_nil))).run pins s σ H Q I ?_
  exact ⟨_, hφ.1, _, cv, k, _, rfl, hrel, R.fh _ _ hF, hk, kk F H _ (Ex.refl _) R mk_bl⟩
theorem de_isFo {C' : Addr} {a0 : Addr} {oe : Obj} {pn : List (Addr × Obj)} {xc nm : Str} (T : ExI X.K C) (hf : ∃ vs, oe.data = .fields vs) (hr : ρ[n]? = some (.rw (.ref a0) (ErZ (.fl C f i) oe))) (hm : X.mg "isinstance" = none)
    (hk : PySem.W.kitOne X.K (.ref C) (.ref C') = some k) (gC : X.mg xc = some (.ref C')) (hN : X.N[n]? = some nm := by rfl)
    (hv : Vis X.env.scope nm := by first | exact Or.inl rfl | exact Or.inr (Or.inl rfl) | exact Or.inr (Or.inr rfl)) (hd : (nm == ("__debug__" : Str)) = false := by decide) (hcd : (nm == ("__classdict__" : Str)) = false := by decide) (hg : Gl X "isinstance" := by rfl) (hg2 : Gl X xc := by rfl) (hd2 : (xc == ("__debug__" : Str)) = false := by decide) :
    DE (X.suite a0 ((a0, oe) :: pn)) O ρ (.Call (.Name "isinstance" p) [.Name nm np, .Name xc p2] [] pos) (.bool k) :=
  de_isF (cvv := .ref C') T hf hr hm hk (pe_glob (X := X.suite a0 ((a0, oe) :: pn)) (u := .ref C') hg2 gC rfl hd2) (fun u h => h) hN hv hd hcd hg
theorem de_isFv {a0 : Addr} {oe : Obj} {pn : List (Addr × Obj)} {nm : Str} (T : ExI X.K C) (hf : ∃ vs, oe.data = .fields vs) (hr : ρ[n]? = some (.rw (.ref a0) (ErZ (.fl C f i) oe))) (hm : X.mg "isinstance" = none)
    (hk : PySem.W.kitOne X.K (.ref C) (.type "ValueError") = some k) (gC : X.mg "ValueError" = none) (hN : X.N[n]? = some nm := by rfl)
    (hv : Vis X.env.scope nm := by first | exact Or.inl rfl | exact Or.inr (Or.inl rfl) | exact Or.inr (Or.inr rfl)) (hd : (nm == ("__debug__" : Str)) = false := by decide) (hcd : (nm == ("__classdict__" : Str)) = false := by decide) (hg : Gl X "isinstance" := by rfl) (hg2 : Gl X "ValueError" := by rfl) :
    DE (X.suite a0 ((a0, oe) :: pn)) O ρ (.Call (.Name "isinstance" p) [.Name nm np, .Name "ValueError" p2] [] pos) (.bool k) :=
  de_isF (cvv := .ty "ValueError") T hf hr hm hk (pe_bltn (X := X.suite a0 ((a0, oe) :: pn)) (u := .type "ValueError") hg2 gC (by decide +kernel) rfl) (fun u h => h) hN hv hd hcd hg
end
end DL

namespace DL
open PySem PySem.Spec PyProof.Rows L2
section
variable {X : Cx} {O : Hp} {W : WX} {ρ ρ' : List Sl} {e a b c tg : Expr} {es : List Expr} {d : PyData} {ds ds' : List PyData} {pos pos' np p' p2 : Pos} {i : Int} {j : Nat} {st : Stmt} {rest body els : List Stmt} {D : Dk} {n k : Nat} {p q : Addr} {v u : V} {μ : Sto} {its : List Itm}
/-- name[i] = e, the name's own list -/
theorem ds_setI (hr : ρ[n]? = some (.ow p ds)) (ho : RE X O ρ a (.ref p)) (hi : BE X O ρ b (.int i)) (he : DE X O ρ e d) (hj : ixN ds.length i = some j) (h : D.nx (ρ.set n (.ow p (ds.set j d))))
    (hs : swapsWithSole [.Subscript a b p'] e pos.line X.env = pure false := by rfl) (hw : swappedStores [.Subscript a b p'] e X.env = pure none := by rfl)
    (h1 : (assignEach [.Subscript a b p'] X.env).map (·.2) = [assign (.Subscript a b p') X.env] := by rfl)
    (ha : ∀ v, assign (.Subscript a b p') X.env v = (do
      let ov ← holding [v] (eval a X.env)
      let iv ← holding [v, ov] (eval b X.env)
      standAt p'
      holding [v, ov, iv] (setItem ov iv v)
      release [v, ov, iv] []) := by intro _; rfl) : DS X O W ρ (.Assign [.Subscript a b p'] e pos) D :=
  ps_mono (ps_asg he (pg_sub ho hi set_list ha) hs hw h1) fun E σ H ⟨F, R, qq⟩ => ⟨F, R, fun F1 H1 y e1 R1 ry => ⟨F1, R1, fun F2 H2 x e2 R2 ex => ⟨F2, R2, fun F3 H3 z e3 R3 bz => by
    cases (show x = V.ref p from ex)
    obtain ⟨_, _, _, xs, hx, rx⟩ := R3.ow hr
    exact ⟨p, xs, i, j, rfl, rp_int (bz.flat R3 rfl : Rp X.K F3 (.int i) z), hx, by rw [← all_len rx]; exact hj, qq.nx _ _ _ _ ((e1.trans e2).trans e3) (R3.mutOw hr (all_set j rx (ry.mono (e2.trans e3)))) h⟩⟩⟩⟩
theorem ds_setC (hr : ρ[n]? = some (.st v μ)) (hk : μ[k]? = some (q, .lst its)) (ho : RE X O ρ a (.ref q)) (hi : BE X O ρ b (.int i)) (he : DE X O ρ e d) (hj : ixN its.length i = some j) (h : D.nx (ρ.set n (.st v (μ.set k (q, .lst (its.set j (.dat d)))))))
    (hs : swapsWithSole [.Subscript a b p'] e pos.line X.env = pure false := by rfl) (hw : swappedStores [.Subscript a b p'] e X.env = pure none := by rfl)
    (h1 : (assignEach [.Subscript a b p'] X.env).map (·.2) = [assign (.Subscript a b p') X.env] := by rfl)
    (ha : ∀ v, assign (.Subscript a b p') X.env v = (do
      let ov ← holding [v] (eval a X.env)
      let iv ← holding [v, ov] (eval b X.env)
      standAt p'
      holding [v, ov, iv] (setItem ov iv v)
      release [v, ov, iv] []) := by intro _; rfl) : DS X O W ρ (.Assign [.Subscript a b p'] e pos) D :=
  ps_mono (ps_asg he (pg_sub ho hi set_list ha) hs hw h1) fun E σ H ⟨F, R, qq⟩ => ⟨F, R, fun F1 H1 y e1 R1 ry => ⟨F1, R1, fun F2 H2 x e2 R2 ex => ⟨F2, R2, fun F3 H3 z e3 R3 bz => by
    cases (show x = V.ref q from ex)
    obtain ⟨_, _, xs, hx, rx⟩ := R3.cell hr hk
    exact ⟨q, xs, i, j, rfl, rp_int (bz.flat R3 rfl : Rp X.K F3 (.int i) z), hx, by rw [← rx.len]; exact hj, qq.nx _ _ _ _ ((e1.trans e2).trans e3) (R3.mutC (c' := .lst _) hr hk ⟨_, upd_same, it_set j rx (show ItOk X.K F3 (.dat d) y from ry.mono (e2.trans e3))⟩) h⟩⟩⟩⟩
theorem dt_isNR {p : Addr} {jj : Nat} (ha : RE X O ρ a (.ref p)) : DT X O ρ (.Compare a [.Is] [.Constant .none jj p2] pos) false :=
  pt_mono (pt_cmpR op_isN ha (de_non (ρ := ρ)) (nmk nofun nofun)) fun σ H Q ⟨F, R, kk⟩ => ⟨F, R, fun F1 H1 x e1 R1 ex => ⟨F1, R1, fun F2 H2 y e2 R2 ry => by
    cases (show x = V.ref p from ex)
    exact ⟨rp_non ry, false, by rw [decide_eq_false (show ¬ V.ref p = V.non from nofun)], kk F2 H2 (e1.trans e2) R2⟩⟩⟩
theorem dt_notNR {p : Addr} {jj : Nat} (ha : RE X O ρ a (.ref p)) : DT X O ρ (.Compare a [.IsNot] [.Constant .none jj p2] pos) true :=
  pt_mono (pt_cmpR op_notN ha (de_non (ρ := ρ)) (nmk nofun nofun)) fun σ H Q ⟨F, R, kk⟩ => ⟨F, R, fun F1 H1 x e1 R1 ex => ⟨F1, R1, fun F2 H2 y e2 R2 ry => by
    cases (show x = V.ref p from ex)
    exact ⟨rp_non ry, true, by rw [decide_eq_false (show ¬ V.ref p = V.non from nofun)]; rfl, kk F2 H2 (e1.trans e2) R2⟩⟩⟩
end
/-! a list of lists of whole numbers, all of them own -/
def cellI (c : Addr × List Int) : Addr × Cell := (c.1, .lst ((c.2.map PyData.int).map .dat))
def stoL (pf : Addr) (C : List (Addr × List Int)) : Sto := (pf, .lst (C.map fun c => .adr (.ref c.1))) :: C.map cellI
theorem stoL_last {pf : Addr} {C : List (Addr × List Int)} {q : Addr} {h : List Int} : (stoL pf (C ++ [(q, h)]))[C.length + 1]? = some (q, .lst ((h.map PyData.int).map .dat)) := by
  unfold stoL
  rw [List.getElem?_cons_succ, List.map_append, List.getElem?_append_right (by rw [List.length_map]; exact Nat.le_refl _), List.length_map, Nat.sub_self]; rfl
theorem stoL_set {pf : Addr} {C : List (Addr × List Int)} {q : Addr} {h : List Int} {x : Int} : (stoL pf (C ++ [(q, h)])).set (C.length + 1) (q, .lst ((h.map PyData.int).map .dat ++ [.dat (.int x)])) = stoL pf (C ++ [(q, h ++ [x])]) := by
  unfold stoL
  rw [List.set_cons_succ]
  congr 1
  · simp
  · rw [List.map_append, List.map_append]
    show (C.map cellI ++ [cellI (q, h)]).set C.length _ = _
    rw [List.set_append_right _ _ (by rw [List.length_map]; exact Nat.le_refl _), List.length_map, Nat.sub_self]
    show C.map cellI ++ [_] = C.map cellI ++ [cellI (q, h ++ [x])]
    unfold cellI
    simp
theorem stoL_add {pf p : Addr} {C : List (Addr × List Int)} : (stoL pf C ++ [(p, Cell.lst (([] : List PyData).map Itm.dat))]).set 0 (pf, Cell.lst (C.map (fun c : Addr × List Int => Itm.adr (.ref c.1)) ++ [Itm.adr (.ref p)])) = stoL pf (C ++ [(p, [])]) := by
  unfold stoL cellI
  simp
theorem stoL_th {pf : Addr} {C : List (Addr × List Int)} : Th (stoL pf C) (.adr (.ref pf)) (.list (C.map fun c => .list (c.2.map .int))) := by
  refine .lst (List.mem_cons_self) ?_
  have : ∀ C0 : List (Addr × List Int), (∀ c ∈ C0, c ∈ C) → ThAll (stoL pf C) (C0.map fun c => Itm.adr (.ref c.1)) (C0.map fun c => PyData.list (c.2.map .int)) := fun C0 => by
    induction C0 with
    | nil => intro _; exact .nil
    | cons c C0 ih =>
      intro h
      exact .cons (Th.flat (List.mem_cons_of_mem _ (List.mem_map.mpr ⟨c, h c List.mem_cons_self, rfl⟩))) (ih fun x hx => h x (List.mem_cons_of_mem _ hx))
  exact this C fun c h => h
theorem drop_at {α : Type} {xs : List α} {m : Nat} {b : α} (h : xs[m]? = some b) : xs.drop m = b :: xs.drop (m + 1) := by
  obtain ⟨h1, h2⟩ := List.getElem?_eq_some_iff.mp h
  rw [List.drop_eq_getElem_cons h1, h2]
theorem atI_hd {α : Type} {x : α} {xs : List α} : atI (x :: xs) 0 = some x := by
  unfold atI ixN
  rw [if_pos (by omega), if_pos (by rw [List.length_cons]; omega)]; rfl
theorem cut_hd {α : Type} {x : α} {xs : List α} : DL.cutD (x :: xs) (some 1) none = xs := by
  rw [show ((1 : Int)) = ((1 : Nat) : Int) from rfl, cut_from _ 1 (by simp)]; rfl
theorem ixN_nat {n k : Nat} (h : k < n) : ixN n (k : Int) = some k := by
  unfold ixN
  rw [if_pos (by omega), if_pos (by omega)]; rfl
end DL

namespace DL
open PySem PySem.Spec PyProof.Rows L2
section
variable {X : Cx} {O : Hp} {W : WX} {ρ ρ' : List Sl} {e a b c tg e1 e2 : Expr} {es : List Expr} {d d1 : PyData} {ds ds' ds2 : List PyData} {pos pos' np p' p2 ap cp lp : Pos} {i : Int} {j : Nat} {st : Stmt} {rest body els : List Stmt} {D : Dk} {n k : Nat} {p q : Addr} {v u : V} {μ : Sto} {its : List Itm} {x : Str}
theorem isEmpty_it {K : Frg} {F : Hp} {its : List Itm} {xs : List V} (h : ItAll K F its xs) : xs.isEmpty = its.isEmpty := by
  have l := h.len
  cases its <;> cases xs <;> first | rfl | (simp at l)
theorem dt_cellT (hr : ρ[n]? = some (.st v μ)) (hk : μ[k]? = some (q, .lst its)) (he : RE X O ρ a (.ref q)) (ht : ∀ whole, isTrue a X.env whole = (do let v ← whole; standAt a.pos; holding [v] (truthy v)) := by exact fun _ => rfl) : DT X O ρ a (!its.isEmpty) :=
  pt_mono (pt_truth he ht) fun σ H Q ⟨F, R, kk⟩ => ⟨F, R, fun F1 H1 y e1 R1 ey => by
    cases (show y = V.ref q from ey)
    obtain ⟨_, _, xs, hx, rx⟩ := R1.cell hr hk
    exact ⟨!its.isEmpty, .inl ⟨xs, SqL.of hx, by rw [isEmpty_it rx]⟩, kk F1 H1 e1 R1⟩⟩
theorem de_lenC (hm : X.mg "len" = none) (hr : ρ[n]? = some (.st v μ)) (hk : μ[k]? = some (q, .lst its)) (he : RE X O ρ a (.ref q)) (hg : Gl X "len" := by rfl) (hs : starEach [a] X.env = (false, eval a X.env) :: starEach [] X.env := by rfl) : DE X O ρ (.Call (.Name "len" p2) [a] [] pos) (.int (its.length : Int)) :=
  pe_mono (pe_callB (he := hs) call_len_seq hg hm PySem.boot_len (pa_cons he pa_nil hs)) fun σ H Q ⟨F, R, kk⟩ => ⟨F, R, fun F1 H1 y e1 R1 ey => by
    cases (show y = V.ref q from ey)
    obtain ⟨_, _, xs, hx, rx⟩ := R1.cell hr hk
    exact ⟨q, xs, rfl, .inl (SqL.of hx), kk F1 H1 _ e1 R1 (by rw [rx.len]; exact mk_int)⟩⟩
/-- a.append([e1, e2]), e2 a new list -/
theorem ds_appNN (hr : ρ[n]? = some (.st v μ)) (hk : μ[k]? = some (q, .lst its)) (ho : RE X O ρ a (.ref q)) (h1 : DE X O ρ e1 d1) (h2 : NE X O ρ e2 ds2) (hz : its.length < 16777216)
    (hnx : ∀ pb pa, D.nx (ρ.set n (.st v (μ.set k (q, .lst (its ++ [.adr (.ref pa)])) ++ [(pb, .lst (ds2.map .dat)), (pa, .lst [.dat d1, .adr (.ref pb)])]))))
    (hsw : swapsWith (.Call (.Attribute a "append" ap) [.List [e1, e2] lp] [] cp) none pos.line X.env = pure false := by rfl)
    (hbase : attributeBase a "append" X.env (eval a X.env) = eval a X.env := by rfl)
    (hfew : ((backTo cp (starEach [.List [e1, e2] lp] X.env)).all (fun x => !x.1) && (backToKw cp (keywordEach [] X.env)).all (fun x => x.1.isSome) && decide ([Expr.List [e1, e2] lp].length + ([] : List Keyword).length + (if ([] : List Keyword).isEmpty then 0 else 1) < 30)) = true := by rfl)
    (hline : (ap.endLine == cp.line) = true := by rfl) (hs : starEach [.List [e1, e2] lp] X.env = (false, eval (.List [e1, e2] lp) X.env) :: starEach [] X.env := by rfl) (hpl : (backTo cp (starEach [] X.env)).any (·.1) = false := by rfl)
    (hs1 : starEach [e1, e2] X.env = (false, eval e1 X.env) :: starEach [e2] X.env := by rfl) (hs2 : starEach [e2] X.env = (false, eval e2 X.env) :: starEach [] X.env := by rfl) :
    DS X O W ρ (.Expr (.Call (.Attribute a "append" ap) [.List [e1, e2] lp] [] cp) pos) D :=
  ps_mono (ps_expr (pe_bm PySem.F.plainAttrs_list PySem.F.slot_list_append PySem.F.type_list_append mt_append ho (pa_cons (pe_lst (pa_cons h1 (pa_cons h2 pa_nil hs2) hs1)) pa_nil hs) hbase hfew hline hs hpl) hsw) fun E σ H ⟨F, R, qq⟩ => ⟨F, R, fun F1 H1 v1 ee1 R1 ev => by
    cases (show v1 = V.ref q from ev)
    refine ⟨tyC R1 hr hk, F1, R1, fun F2 H2 w1 ee2 R2 r1 => ⟨F2, R2, fun F3 H3 w2 ee3 R3 ⟨pb, ys, eu, fp, op, app, hp, ry⟩ => ⟨by show 2 ≤ sizeLine; rw [sizeLine_eq]; decide, fun pa hpa => ?_⟩⟩⟩
    subst eu
    have R4 : Rel X.K O F3 ρ σ (upd H3 pa (.lst [w1, .ref pb])) := R3.newH hpa
    have npb : pb ≠ pa := ne_of_none hp hpa
    obtain ⟨_, _, xs, h, rx⟩ := R4.cell hr hk
    have nbq : pb ≠ q := fun z => by subst z; exact app n _ hr (List.mem_map.mpr ⟨_, get_mem hk, rfl⟩)
    have naq : pa ≠ q := fun z => by
      subst z
      obtain ⟨_, _, _, h', _⟩ := R3.cell hr hk
      rw [hpa] at h'; cases h'
    have hn : n < ρ.length := (List.getElem?_eq_some_iff.mp hr).1
    have R5 := R4.mutC (c' := .lst (its ++ [.adr (.ref pa)])) (o := .lst (xs ++ [.ref pa])) hr hk ⟨_, upd_same, it_app rx (it_one (it := .adr (.ref pa)) rfl)⟩
    have R6 := R5.addC (q := pb) (o := .lst ys) (c := .lst (ds2.map .dat)) (List.getElem?_set_self hn) (by rw [upd_ne nbq, upd_ne npb]; exact hp) fp op (fun j s' z hq => by
      rcases sets_get z with ⟨_, z⟩ | ⟨_, z⟩
      · subst z
        rw [show owns (.st v (μ.set k (q, .lst (its ++ [.adr (.ref pa)])))) = owns (.st v μ) from set_fst hk _] at hq
        exact app n _ hr hq
      · exact app j s' z hq) ⟨ys, by rw [upd_ne nbq, upd_ne npb]; exact hp, it_dat ry⟩
    rw [List.set_set] at R6
    have apa : Apart ρ pa := R3.fresh_apart hpa
    have R7 := R6.addC (q := pa) (o := .lst [w1, .ref pb]) (c := .lst [.dat d1, .adr (.ref pb)]) (List.getElem?_set_self hn) (by rw [upd_ne naq, upd_same]) (R3.fh.back hpa) (R3.oh.back hpa) (fun j s' z hq => by
      rcases sets_get z with ⟨_, z⟩ | ⟨_, z⟩
      · subst z
        rw [show owns (.st v (μ.set k (q, .lst (its ++ [.adr (.ref pa)])) ++ [(pb, .lst (ds2.map .dat))])) = owns (.st v μ) ++ [pb] by show (μ.set k _ ++ [_]).map Prod.fst = _; rw [List.map_append, set_fst hk _]; rfl] at hq
        rcases List.mem_append.mp hq with hq | hq
        · exact apa n _ hr hq
        · exact npb (List.mem_singleton.mp hq).symm
      · exact apa j s' z hq) ⟨[w1, .ref pb], by rw [upd_ne naq, upd_same], ⟨w1, [.ref pb], rfl, r1.mono ee3, ⟨.ref pb, [], rfl, rfl, rfl⟩⟩⟩
    rw [List.set_set, List.append_assoc] at R7
    exact ⟨q, xs, .ref pa, rfl, rfl, h, by rw [← rx.len]; exact sz_lt hz, qq.nx F3 _ _ _ ((ee1.trans ee2).trans ee3) R7 (hnx pb pa)⟩⟩
end
theorem atI_0 {α : Type} {x : α} {xs : List α} : atI (x :: xs) 0 = some x := by
  unfold atI ixN; rw [if_pos (by decide), if_pos (by rw [List.length_cons]; omega)]; rfl
theorem atI_1 {α : Type} {x y : α} {xs : List α} : atI (x :: y :: xs) 1 = some y := by
  unfold atI ixN; rw [if_pos (by decide), if_pos (by rw [List.length_cons, List.length_cons]; omega)]; rfl
theorem atI_2 {α : Type} {x y z : α} {xs : List α} : atI (x :: y :: z :: xs) 2 = some z := by
  unfold atI ixN; rw [if_pos (by decide), if_pos (by rw [List.length_cons, List.length_cons, List.length_cons]; omega)]; rfl
theorem upTo_at {n k : Nat} {d : PyData} (h : (upTo n)[k]? = some d) : k < n ∧ d = .int (k : Nat) := by
  have hk : k < n := by have := (List.getElem?_eq_some_iff.mp h).1; rw [upTo_len] at this; exact this
  rw [upTo_get hk] at h
  cases h
  exact ⟨hk, rfl⟩
end DL

namespace DL
open PySem PySem.Spec PyProof.Rows L2
section
variable {X : Cx} {O : Hp} {W : WX} {ρ ρ' : List Sl} {e a b c tg e1 e2 : Expr} {es : List Expr} {d d1 : PyData} {ds ds' ds2 : List PyData} {pos pos' np p' p2 ap cp lp spos : Pos} {i : Int} {j : Nat} {st : Stmt} {rest body els : List Stmt} {D : Dk} {n k : Nat} {p q : Addr} {v u : V} {μ : Sto} {its : List Itm} {x : Str}
def tFB2 (K : Frg) (O : Hp) (W : WX) (n1 n2 : Nat) (f1 f2 : PyData → PyData) (ds : List PyData) (Pv : Nat → List Sl → Prop) (D : Dk) : TS := fun E σ H => ∃ (m : Nat) (d : PyData) (ρ' : List Sl), ds[m]? = some d ∧ Pv m ρ' ∧ tS K O W ((ρ'.set n1 (.va (f1 d))).set n2 (.va (f2 d))) (D.lp (Pv (m + 1)) D.nx) E σ H
def tup0 : PyData → PyData
  | .tuple (a :: _) => a
  | d => d
def tup1 : PyData → PyData
  | .tuple (_ :: b :: _) => b
  | d => d
/-- for a, b in pairs -/
theorem ds_for2 {n1 n2 kk : Nat} {x1 x2 : Str} {iter : Expr} {q1 q2 : Pos} (po : PassesOwn (model X.prog X.w) X.A X.env X.xe) (hc : X.calm = true) (hN : X.N.Nodup) (hi : IE X O ρ (.Tuple [.Name x1 q1, .Name x2 q2] kk p') iter ds) (hp : ∀ d ∈ ds, ∃ a b, d = .tuple [a, b]) (Pv : Nat → List Sl → Prop) (h0 : Pv 0 ρ)
    (hb : ∀ (m : Nat) a b ρ', ds[m]? = some (.tuple [a, b]) → Pv m ρ' → DSs X O W ((ρ'.set n1 (.va a)).set n2 (.va b)) body (D.lp (Pv (m + 1)) D.nx)) (hd : ∀ ρ', Pv ds.length ρ' → D.nx ρ') (hx0 : X.N[n1]? = some x1 := by rfl) (hx : Loc X.env.scope x1 := by first | exact Or.inl rfl | exact Or.inr rfl) (hf : X.fn x1 = true := by rfl)
    (hy0 : X.N[n2]? = some x2 := by rfl) (hy : Loc X.env.scope x2 := by first | exact Or.inl rfl | exact Or.inr rfl) (hg : X.fn x2 = true := by rfl)
    (hs : ∀ y, foldedSetIterable iter X.env y = pure y := by intro _; rfl)
    (hz : PG X (.Tuple [.Name x1 q1, .Name x2 q2] kk p') (gTup X.K 2 (gCons (gName n1) (gCons (gName n2) gNil))) := by exact pg_tup rfl (pgs_cons (pg_name nd rfl (by first | exact Or.inl rfl | exact Or.inr rfl)) (pgs_cons (pg_name nd rfl (by first | exact Or.inl rfl | exact Or.inr rfl)) pgs_nil))) : DS X O W ρ (.For (.Tuple [.Name x1 q1, .Name x2 q2] kk p') iter body [] pos) D := by
  have hbody : PSs X body (tFB2 X.K O W n1 n2 tup0 tup1 ds Pv D) := ⟨fun pins s σ H E I ⟨m, d, ρ', h1, h2, h3⟩ => by
    obtain ⟨a, b, rfl⟩ := hp d (List.mem_of_getElem? h1)
    exact (hb m a b ρ' h1 h2).run pins s σ H E I h3⟩
  refine ps_mono (ps_for po hc hi hz hbody hs) fun E σ H ⟨F, R, q⟩ => ⟨F, R, fun F1 H1 J G e1 R1 w hG => ?_⟩
  refine for_it (g := gTup X.K 2 (gCons (gName n1) (gCons (gName n2) gNil))) (tb := tFB2 X.K O W n1 n2 tup0 tup1 ds Pv D) (D := E) w (fun m σ' H' => ∃ F' ρ', Ex F1 F' ∧ Rel X.K O F' ρ' σ' H' ∧ Pv m ρ') ⟨F1, ρ, Ex.refl _, R1, h0⟩ (fun m σ' H' _ h => ?_) (fun m v σ' H' H'' hm h y => ?_) fun σ' H' h => ?_
  · obtain ⟨F', ρ', e', R', _⟩ := h
    exact hG H' (e'.trans R'.fh)
  · obtain ⟨F', ρ', e', R', pv⟩ := h
    obtain ⟨eH, d, hd', rd⟩ := y
    subst eH
    obtain ⟨a, b, rfl⟩ := hp d (List.mem_of_getElem? hd')
    obtain ⟨t, xs, rfl, ht, r⟩ := rp_tup (rd.mono e')
    obtain ⟨v1, xs, rfl, r1, r⟩ := all_cons r
    obtain ⟨v2, xs, rfl, r2, r⟩ := all_cons r
    cases all_nil r
    refine ⟨t, [v1, v2], rfl, ex_t R'.fh ht, rfl, v1, [v2], rfl, v2, [], rfl, rfl, ?_⟩
    exact ⟨m, .tuple [a, b], ρ', hd', pv, F', (R'.setVa r1).setVa r2, fun F2 ρ2 σ2 H2 e2 R2 n2 => ⟨F2, ρ2, e'.trans e2, R2, n2⟩, fun F2 ρ2 σ2 H2 o v e2 => q.rt F2 ρ2 σ2 H2 o v ((e1.trans e').trans e2), fun F2 ρ2 σ2 H2 e2 R2 n2 => q.nx F2 ρ2 σ2 H2 ((e1.trans e').trans e2) R2 n2,
      fun F2 ρ2 σ2 H2 e2 R2 n2 => ⟨F2, ρ2, e'.trans e2, R2, n2⟩, fun F2 ρ2 σ2 H2 er cls od e2 => q.ex F2 ρ2 σ2 H2 er cls od ((e1.trans e').trans e2)⟩
  · obtain ⟨F', ρ', e', R', pv⟩ := h
    exact q.nx F' ρ' σ' H' (e1.trans e') R' (hd ρ' pv)
theorem fm_sel {α : Type} (xs : List α) (p : α → Bool) (g : α → PyData) : (List.range xs.length).filterMap (fun k => (xs[k]?).bind fun z => if p z = true then some (g z) else none) = (xs.filter p).map g := by
  have h : ∀ n, n ≤ xs.length → (List.range n).filterMap (fun k => (xs[k]?).bind fun z => if p z = true then some (g z) else none) = ((xs.take n).filter p).map g := fun n => by
    induction n with
    | zero => intro _; rfl
    | succ n ih =>
      intro hn
      rw [List.range_succ, List.filterMap_append, ih (by omega), List.take_succ_eq_append_getElem (by omega), List.filter_append, List.map_append]
      congr 1
      rw [List.filterMap_cons, List.getElem?_eq_getElem (show n < xs.length by omega), Option.bind_some]
      by_cases hp : p xs[n] = true
      · rw [if_pos hp, List.filter_cons, if_pos hp]; rfl
      · rw [if_neg hp, List.filter_cons, if_neg hp]; rfl
  have := h xs.length (Nat.le_refl _)
  rw [List.take_length] at this
  exact this
/-- [e for x in xs if c] -/
theorem ne_lcI {α : Type} {xs : List α} {f g : α → PyData} {p : α → Bool} {n : Nat} {x : Str} {px : Pos} {iter elt c : Expr} {scope : Scope} (hc : X.calm = true) (hN : X.N.Nodup) (hi : IE X O ρ (.Name x px) iter (xs.map f)) (ok : BlkOk X.N X.env.scope scope [(x, n)])
    (hg : ∀ (s : Shared) (H : Hp) (C : Addr) (cl : List (Str × Addr)) (fp : List Addr), PG (X.blk s H scope (compEnvC scope cl C X.env) fp) (.Name x px) (gName n))
    (ht : ∀ z ∈ xs, ∀ (s : Shared) (H : Hp) (C : Addr) (cl : List (Str × Addr)) (fp : List Addr) (O' : Hp), DT (X.blk s H scope (compEnvC scope cl C X.env) fp) O' ((pure' ρ).set n (.va (f z))) c (p z))
    (he : ∀ z ∈ xs, p z = true → ∀ (s : Shared) (H : Hp) (C : Addr) (cl : List (Str × Addr)) (fp : List Addr) (O' : Hp), DE (X.blk s H scope (compEnvC scope cl C X.env) fp) O' ((pure' ρ).set n (.va (f z))) elt (g z))
    (hz : xs.length ≤ 16777215) (hs : ∀ y, foldedSetIterable iter X.env y = pure y := by intro _; rfl) : NE X O ρ (.ListComp elt [⟨.Name x px, iter, [c], 0⟩] scope pos) ((xs.filter p).map g) := by
  have h := ne_lcF (ifs := [c]) (pos := pos) hc hN hi ok (fun k => (xs[k]?).bind fun z => if p z = true then some (g z) else none) hg (fun k d hd s H C cl fp O' => by
    rw [List.getElem?_map] at hd
    cases q : xs[k]? with
    | none => rw [q] at hd; cases hd
    | some z =>
      rw [q] at hd
      cases hd
      have e : (((some z).bind fun z => if p z = true then some (g z) else none).isSome) = p z := by
        show (if p z = true then some (g z) else none).isSome = p z
        cases p z <;> rfl
      rw [e]
      exact pts_one (ht z (List.mem_of_getElem? q) s H C cl fp O')) (fun k d e hd hs' => by
    rw [List.getElem?_map] at hd
    cases q : xs[k]? with
    | none => rw [q] at hd; cases hd
    | some z =>
      rw [q] at hd
      cases hd
      rw [q] at hs'
      by_cases hp : p z = true
      · have hs' : (if p z = true then some (g z) else none) = some e := hs'
        rw [if_pos hp] at hs'
        cases hs'
        exact he z (List.mem_of_getElem? q) hp
      · have hs' : (if p z = true then some (g z) else none) = some e := hs'
        rw [if_neg hp] at hs'
        cases hs') (by rw [List.length_map]; exact hz) hs
  rw [List.length_map, fm_sel] at h
  exact h
/-- name = [e for x in xs if c] -/
theorem ds_lcI {α : Type} {xs : List α} {f g : α → PyData} {c : Expr} {pr : α → Bool} {m : Nat} {y x : Str} {px : Pos} {iter elt : Expr} {scope : Scope} (hc : X.calm = true) (hN : X.N.Nodup) (hi : IE X O ρ (.Name x px) iter (xs.map f)) (ok : BlkOk X.N X.env.scope scope [(x, n)])
    (hg : ∀ (s : Shared) (H : Hp) (C : Addr) (cl : List (Str × Addr)) (fp : List Addr), PG (X.blk s H scope (compEnvC scope cl C X.env) fp) (.Name x px) (gName n))
    (ht : ∀ z ∈ xs, ∀ (s : Shared) (H : Hp) (C : Addr) (cl : List (Str × Addr)) (fp : List Addr) (O' : Hp), DT (X.blk s H scope (compEnvC scope cl C X.env) fp) O' ((pure' ρ).set n (.va (f z))) c (pr z))
    (he : ∀ z ∈ xs, pr z = true → ∀ (s : Shared) (H : Hp) (C : Addr) (cl : List (Str × Addr)) (fp : List Addr) (O' : Hp), DE (X.blk s H scope (compEnvC scope cl C X.env) fp) O' ((pure' ρ).set n (.va (f z))) elt (g z))
    (hz : xs.length ≤ 16777215) (hk : ∀ p, Apart ρ p → D.nx (ρ.set m (.ow p ((xs.filter pr).map g)))) (hs : ∀ y, foldedSetIterable iter X.env y = pure y := by intro _; rfl) (hy : X.N[m]? = some y := by rfl) (hyl : X.env.scope.names.lookup y = some .local := by rfl)
    (hsw : swapsWith (.ListComp elt [⟨.Name x px, iter, [c], 0⟩] scope pos) (some (.Name y p')) spos.line X.env = pure true := by exact sw_true rfl rfl rfl (by decide +kernel)) : DS X O W ρ (.Assign [.Name y p'] (.ListComp elt [⟨.Name x px, iter, [c], 0⟩] scope pos) spos) D := by
  have h := ps_lc (ifs := [c]) (spos := spos) (p' := p') (pos := pos) hc hN hi ok (fun k => (xs[k]?).bind fun z => if pr z = true then some (g z) else none) hg (fun k d hd s H C cl fp O' => by
    rw [List.getElem?_map] at hd
    cases q : xs[k]? with
    | none => rw [q] at hd; cases hd
    | some z =>
      rw [q] at hd
      cases hd
      have e : (((some z).bind fun z => if pr z = true then some (g z) else none).isSome) = pr z := by
        show (if pr z = true then some (g z) else none).isSome = pr z
        cases pr z <;> rfl
      rw [e]
      exact pts_one (ht z (List.mem_of_getElem? q) s H C cl fp O')) (fun k d e hd hs' => by
    rw [List.getElem?_map] at hd
    cases q : xs[k]? with
    | none => rw [q] at hd; cases hd
    | some z =>
      rw [q] at hd
      cases hd
      rw [q] at hs'
      by_cases hp : pr z = true
      · have hs' : (if pr z = true then some (g z) else none) = some e := hs'
        rw [if_pos hp] at hs'
        cases hs'
        exact he z (List.mem_of_getElem? q) hp
      · have hs' : (if pr z = true then some (g z) else none) = some e := hs'
        rw [if_neg hp] at hs'
        cases hs') (by rw [List.length_map]; exact hz) hs hy hyl hsw
  rw [List.length_map, fm_sel] at h
  exact ps_mono h (tA_own hk)
end
end DL

namespace DL
open PySem PySem.Spec PyProof.Rows L2
/-! ### len(set(xs)), xs a list of tuples of whole numbers -/
/-- each once -/
def ddI : List (List Int) → List (List Int)
  | [] => []
  | x :: r => if x ∈ r then ddI r else x :: ddI r
theorem ddI_mem : ∀ {r : List (List Int)} {x : List Int}, x ∈ ddI r ↔ x ∈ r
  | [], x => Iff.rfl
  | y :: r, x => by
    unfold ddI
    split
    · rename_i h
      rw [ddI_mem]
      exact ⟨fun z => List.mem_cons_of_mem _ z, fun z => by rcases List.mem_cons.mp z with rfl | z; exact h; exact z⟩
    · rw [List.mem_cons, List.mem_cons, ddI_mem]
theorem ddI_nodup : ∀ {r : List (List Int)}, (ddI r).Nodup
  | [] => List.nodup_nil
  | y :: r => by
    unfold ddI
    split
    · exact ddI_nodup
    · rename_i h
      exact List.nodup_cons.mpr ⟨fun z => h (ddI_mem.mp z), ddI_nodup⟩
theorem ddI_le : ∀ {r : List (List Int)}, (ddI r).length ≤ r.length
  | [] => Nat.le_refl _
  | y :: r => by
    have := ddI_le (r := r)
    unfold ddI
    split
    · rw [List.length_cons]; omega
    · rw [List.length_cons, List.length_cons]; omega
theorem ddI_len : ∀ {r : List (List Int)}, (ddI r).length = r.length ↔ r.Nodup
  | [] => ⟨fun _ => List.nodup_nil, fun _ => rfl⟩
  | y :: r => by
    rw [List.nodup_cons]
    have h2 := ddI_le (r := r)
    unfold ddI
    split
    · rename_i h
      rw [List.length_cons]
      exact ⟨fun z => by omega, fun z => absurd h z.1⟩
    · rename_i h
      rw [List.length_cons, List.length_cons, ← ddI_len (r := r)]
      exact ⟨fun z => ⟨h, by omega⟩, fun z => by rw [z.2]⟩
theorem nodup_len {a b : List (List Int)} (ha : a.Nodup) (hb : b.Nodup) (h1 : ∀ x ∈ a, x ∈ b) (h2 : ∀ x ∈ b, x ∈ a) : a.length = b.length := by
  have le : ∀ {a b : List (List Int)}, a.Nodup → (∀ x ∈ a, x ∈ b) → a.length ≤ b.length := by
    intro a
    induction a with
    | nil => intro b _ _; exact Nat.zero_le _
    | cons x a ih =>
      intro b hn hs
      rw [List.nodup_cons] at hn
      have hx := hs x List.mem_cons_self
      have := ih (b := b.erase x) hn.2 fun y hy => by
        refine (List.mem_erase_of_ne ?_).mpr (hs y (List.mem_cons_of_mem _ hy))
        intro e; rw [e] at hy; exact hn.1 hy
      rw [List.length_erase_of_mem hx] at this
      have := List.length_pos_of_mem hx
      rw [List.length_cons]; omega
  exact Nat.le_antisymm (le ha h1) (le hb h2)
section
variable {X : Cx}
def tLenSetT (K : PySem.W.Frag) (ta : TE) : TE := fun σ H Q => ta σ H fun x H1 => ∃ (l : Addr) (ks : List (Addr × List Int)), x = V.ref l ∧ SqL K H1 l (ks.map fun p => V.ref p.1) ∧ (∀ p ∈ ks, SqT K H1 p.1 (p.2.map V.int)) ∧ ks.length < 64 ∧ Q (.int (ddI (ks.map (·.2))).length) H1
theorem pe_lenSetT {a : Expr} {ta : TE} {p p2 q pos : Pos} (hc : X.calm = true) (hu : X.A.units + 64 < cLine) (hg : Gl X "len") (hm : X.mg "len" = none) (hg2 : Gl X "set") (hm2 : X.mg "set" = none) (ha : PE X a ta)
    (na : starEach [a] X.env = (false, eval a X.env) :: starEach [] X.env := by rfl) : PE X (.Call (.Name "len" p) [.Call (.Name "set" p2) [a] [] q] [] pos) (tLenSetT X.K ta) := by
  refine ⟨fun pins s σ H Q I h => ?_⟩
  refine Call_ (ld_blt I hg hm PySem.boot_len ?_)
  refine PyProof.Rows.callWith_builtin1 (PyProof.Rows.args_cons ?_ rfl) rfl rfl
  refine Call_ (ld_blt I hg2 hm2 PyProof.Rows.boot_set ?_)
  refine PyProof.Rows.callWith_type1 (PyProof.Rows.args_cons (thn (ha.run pins s σ H _ I h) fun v s1 ⟨x, H1, I1, r1, q1⟩ => PyProof.Rows.args_nil ?_) na) na rfl
  obtain ⟨l, ks, rfl, hq, hk, hf, q1⟩ := q1
  cases r1
  obtain ⟨its, r, pl, hz⟩ := I1.list hq
  refine call_set_tups (P := X.prog) (w := X.w) ks (I1.ok.hd hc) pl.isList (by simpa using refs_of_vals r) (fun p hp => I1.isT (hk p hp)) hf (by omega) fun h' tk L es ep t R g k => ?_
  refine PyProof.Rows.args_nil ?_
  have I2 : Inv X pins σ H1 { s1 with heap := h', toks := tk } := I1.kept fun b o e => k b o e
  obtain ⟨o, ho, hex, hd⟩ := R.ob
  have R2 : SetTR X.prog X.w ({ s1 with heap := h', toks := tk } : Shared).heap s1.heap.objs.size L es ep t := R
  have hsz := R2.size
  have hlen : L.length = (ddI (ks.map (·.2))).length := by
    have e := nodup_len R.nd (ddI_nodup (r := ks.map (·.2))) (fun x hx => by
      obtain ⟨p, hp, rfl⟩ := List.mem_map.mp hx
      have := g.sub p hp
      rw [List.take_length] at this
      exact ddI_mem.mpr (List.mem_map_of_mem this)) (fun x hx => by
      obtain ⟨p, hp, rfl⟩ := List.mem_map.mp (ddI_mem.mp hx)
      exact g.all p (by rw [List.take_length]; exact hp))
    rw [List.length_map] at e
    exact e
  have hfew := R.few
  refine call_len_set ho hex hd R2.fits (by omega) ⟨.int (ddI (ks.map (·.2))).length, H1, I2.tok _, ⟨_, by rw [hsz, hlen]⟩, q1⟩
end
section
variable {X : Cx} {O : Hp} {W : WX} {ρ ρ' : List Sl} {e a b c tg e1 e2 : Expr} {p p2 q pos : Pos}
theorem all_keys {K : Frg} {F : Hp} : ∀ {ns : List (List Int)} {xs : List V}, RpAll K F (ns.map tupI) xs → ∃ ks : List (Addr × List Int), xs = ks.map (fun p => V.ref p.1) ∧ (∀ p ∈ ks, SqT K F p.1 (p.2.map V.int)) ∧ ks.map (·.2) = ns
  | [], xs, h => ⟨[], all_nil h, fun _ z => (nomatch z), rfl⟩
  | n :: ns, xs, h => by
    obtain ⟨v, vs, rfl, h1, h2⟩ := all_cons h
    obtain ⟨t, ys, rfl, ht, hr⟩ := rp_tup h1
    cases all_ints hr
    obtain ⟨ks, rfl, h3, h4⟩ := all_keys h2
    exact ⟨(t, n) :: ks, rfl, fun p hp => by
      rcases List.mem_cons.mp hp with rfl | hp
      · exact ht
      · exact h3 p hp, by rw [List.map_cons, h4]⟩
theorem de_lenSetT {ns : List (List Int)} {m : Nat} (hc : X.calm = true) (hr : Room m X.A) (hm : X.mg "len" = none) (hm2 : X.mg "set" = none) (ha : LE X O ρ a (ns.map tupI)) (hl : ns.length < 64) (hg : Gl X "len" := by rfl) (hg2 : Gl X "set" := by rfl)
    (na : starEach [a] X.env = (false, eval a X.env) :: starEach [] X.env := by rfl) : DE X O ρ (.Call (.Name "len" p) [.Call (.Name "set" p2) [a] [] q] [] pos) (.int ((ddI ns).length : Nat)) :=
  pe_mono (pe_lenSetT hc (by have := hr.un; omega) hg hm hg2 hm2 ha na) fun σ H Q ⟨F, R, k⟩ => ⟨F, R, fun F1 H1 v e1 R1 b => by
    obtain ⟨l, xs, rfl, hx, rx⟩ := b F1 H1 (Ex.refl _) R1
    obtain ⟨ks, rfl, h1, h2⟩ := all_keys rx
    refine ⟨l, ks, rfl, SqL.of hx, fun p hp => ex_t R1.fh (h1 p hp), by rw [← h2, List.length_map] at hl; exact hl, ?_⟩
    rw [h2]
    exact k F1 H1 _ e1 R1 mk_int⟩
theorem x_isb {x y : Bool} {jj : Nat} (ha : BE X O ρ a (.bool x)) : DE X O ρ (.Compare a [.Is] [.Constant (.bool y) jj p2] pos) (.bool (decide (x = y))) := x_cmp op_isBl (opd_isB (y := y)) (nmk nofun nofun) ha de_bl.b
theorem x_isnb {x y : Bool} {jj : Nat} (ha : BE X O ρ a (.bool x)) : DE X O ρ (.Compare a [.IsNot] [.Constant (.bool y) jj p2] pos) (.bool (!decide (x = y))) := x_cmp op_notBl (opd_isNB (y := y)) (nmk nofun nofun) ha de_bl.b
theorem de_isTb {x : Bool} {jj : Nat} (ha : BE X O ρ a (.bool x)) : DE X O ρ (.Compare a [.Is] [.Constant (.bool true) jj p2] pos) (.bool x) := (x_isb (y := true) ha).is (by cases x <;> rfl)
theorem de_isFb {x : Bool} {jj : Nat} (ha : BE X O ρ a (.bool x)) : DE X O ρ (.Compare a [.Is] [.Constant (.bool false) jj p2] pos) (.bool (!x)) := (x_isb (y := false) ha).is (by cases x <;> rfl)
theorem de_notTb {x : Bool} {jj : Nat} (ha : BE X O ρ a (.bool x)) : DE X O ρ (.Compare a [.IsNot] [.Constant (.bool true) jj p2] pos) (.bool (!x)) := (x_isnb (y := true) ha).is (by cases x <;> rfl)
theorem de_notFb {x : Bool} {jj : Nat} (ha : BE X O ρ a (.bool x)) : DE X O ρ (.Compare a [.IsNot] [.Constant (.bool false) jj p2] pos) (.bool x) := (x_isnb (y := false) ha).is (by cases x <;> rfl)
theorem dt_isFb {x : Bool} {jj : Nat} (ha : BE X O ρ a (.bool x)) : DT X O ρ (.Compare a [.Is] [.Constant (.bool false) jj p2] pos) (!x) := (x_cmpT op_isBl (opd_isB (y := false)) (nmk nofun nofun) ha de_bl.b).is (by cases x <;> rfl)
theorem dt_notFb {x : Bool} {jj : Nat} (ha : BE X O ρ a (.bool x)) : DT X O ρ (.Compare a [.IsNot] [.Constant (.bool false) jj p2] pos) x := (x_cmpT op_notBl (opd_isNB (y := false)) (nmk nofun nofun) ha de_bl.b).is (by cases x <;> rfl)
end
end DL

namespace DL
open PySem PySem.Spec PyProof.Rows L2
/-! ### == of deeper data, where there is room -/
section
variable {X : Cx} {O : Hp} {W : WX} {ρ ρ' : List Sl} {e a b c tg e1 e2 : Expr} {p p2 q pos : Pos}
def rEqN (m : Nat) (K : Frg) : R2 := fun x y H Q => ∃ d e, Dp K H x d ∧ Dp K H y e ∧ d.canLay0 = true ∧ e.canLay0 = true ∧ d.depth ≤ m ∧ Q (.bl (PyData.eqv d e)) H
theorem op_eqN {n m : Nat} (hr : Room n X.A) (hm : m ≤ 190 + 16 * n) : OpR X (compareOp .Eq) (rEqN m X.K) := by
  intro pins s σ H x y v u Q I rx ry h
  obtain ⟨d, e, hd, he, sd, se, hl, q⟩ := h
  obtain ⟨as, r1⟩ := Dp.reads I d x v hd rx
  obtain ⟨bs, r2⟩ := Dp.reads I e y u he ry
  exact SeqAt.compareEq_reads r1 r2 sd se (by have := hr.un; omega) ⟨.bl _, H, I, rfl, q⟩
def rNeN (m : Nat) (K : Frg) : R2 := fun x y H Q => ∃ d e, Dp K H x d ∧ Dp K H y e ∧ d.canLay0 = true ∧ e.canLay0 = true ∧ d.depth ≤ m ∧ Q (.bl (!PyData.eqv d e)) H
theorem op_neN {n m : Nat} (hr : Room n X.A) (hm : m ≤ 190 + 16 * n) : OpR X (compareOp .NotEq) (rNeN m X.K) := by
  intro pins s σ H x y v u Q I rx ry h
  obtain ⟨d, e, hd, he, sd, se, hl, q⟩ := h
  obtain ⟨as, r1⟩ := Dp.reads I d x v hd rx
  obtain ⟨bs, r2⟩ := Dp.reads I e y u he ry
  exact SeqAt.compareNe_reads r1 r2 sd se (by have := hr.un; omega) ⟨.bl _, H, I, rfl, q⟩
theorem opd_eqN {m : Nat} {da db : PyData} (ha : LayN m da) (hb : db.canLay0 = true) : OpD X.K O ρ (rEqN m X.K) da db (PD X.K (.bool (PyData.eqv da db))) := fun σ F H x y G G' Q R _ g rx _ g' ry kk =>
  ⟨da, db, dp_of (lay0_of ha.1) (rx.mono g), dp_of (lay0_of hb) (ry.mono g'), ha.1, hb, ha.2, kk F H _ (Ex.refl _) R mk_bl⟩
theorem opd_neN {m : Nat} {da db : PyData} (ha : LayN m da) (hb : db.canLay0 = true) : OpD X.K O ρ (rNeN m X.K) da db (PD X.K (.bool (!PyData.eqv da db))) := fun σ F H x y G G' Q R _ g rx _ g' ry kk =>
  ⟨da, db, dp_of (lay0_of ha.1) (rx.mono g), dp_of (lay0_of hb) (ry.mono g'), ha.1, hb, ha.2, kk F H _ (Ex.refl _) R mk_bl⟩
theorem de_eqDN {n m : Nat} {da db : PyData} (hr : Room n X.A) (h1 : BE X O ρ a da) (h2 : BE X O ρ b db) (ha : LayN m da) (hb : db.canLay0 = true) (hm : m ≤ 190 + 16 * n := by first | decide | omega) : DE X O ρ (.Compare a [.Eq] [b] pos) (.bool (PyData.eqv da db)) := x_cmp (op_eqN hr hm) (opd_eqN ha hb) (nmk nofun nofun) h1 h2
theorem dt_eqDN {n m : Nat} {da db : PyData} (hr : Room n X.A) (h1 : BE X O ρ a da) (h2 : BE X O ρ b db) (ha : LayN m da) (hb : db.canLay0 = true) (hm : m ≤ 190 + 16 * n := by first | decide | omega) : DT X O ρ (.Compare a [.Eq] [b] pos) (PyData.eqv da db) := x_cmpT (op_eqN hr hm) (opd_eqN ha hb) (nmk nofun nofun) h1 h2
theorem de_neDN {n m : Nat} {da db : PyData} (hr : Room n X.A) (h1 : BE X O ρ a da) (h2 : BE X O ρ b db) (ha : LayN m da) (hb : db.canLay0 = true) (hm : m ≤ 190 + 16 * n := by first | decide | omega) : DE X O ρ (.Compare a [.NotEq] [b] pos) (.bool (!PyData.eqv da db)) := x_cmp (op_neN hr hm) (opd_neN ha hb) (nmk nofun nofun) h1 h2
theorem dt_neDN {n m : Nat} {da db : PyData} (hr : Room n X.A) (h1 : BE X O ρ a da) (h2 : BE X O ρ b db) (ha : LayN m da) (hb : db.canLay0 = true) (hm : m ≤ 190 + 16 * n := by first | decide | omega) : DT X O ρ (.Compare a [.NotEq] [b] pos) (!PyData.eqv da db) := x_cmpT (op_neN hr hm) (opd_neN ha hb) (nmk nofun nofun) h1 h2
/-! ### a test that raises -/
def RTst (X : Cx) (O : Hp) (W : WX) (ρ : List Sl) (e : Expr) (er : Er) : Prop := PT X e (fun σ H _ => tR X.K O W ρ er σ H)
theorem rt_val {er : Er} (h : DR X O W ρ a er) (he : ∀ whole, isTrue a X.env whole = (do let v ← whole; standAt a.pos; holding [v] (truthy v)) := by exact fun _ => rfl) : RTst X O W ρ a er := pt_mono (pt_truth h he) fun σ H Q t => t
theorem rt_not {er : Er} (h : RTst X O W ρ a er) : RTst X O W ρ (.UnaryOp .Not a pos) er := pt_mono (pt_not h) fun σ H Q t => t
theorem ds_ifR {er : Er} {body els : List Stmt} {D : Dk} (hc : RTst X O W ρ c er) (h : D.ex ρ er) : DS X O W ρ (.If c body els pos) D := by
  refine ⟨fun pins s σ H E I ⟨F, R, q⟩ => ?_⟩
  exact wpAny_If (thn (hc.run pins s σ H (fun _ _ => False) I ⟨F, R, fun F' H' cls od e' R' ok => q.ex _ _ _ _ _ _ _ e' R' ok h⟩) fun d s1 ⟨H1, I1, q1⟩ => q1.elim)
end
end DL

namespace DL
open PySem PySem.Spec PyProof.Rows L2
/-! ### tuple * n -/
theorem tuple_mul1 (l : Addr) (items : Array Value) (n : Nat) (dd : Option Addr) (sl : Array (Option Value)) (u : Tok) :
    Meets (Builtin.«tuple.__mul__» ⟨[.ref l, .int 1 u], []⟩) (fun _ R s => s.heap.get? l = some { cls := .type "tuple", dict := dd, data := .seq items n, slots := sl } ∧ R (.ok (.ret (Value.ref l))) s) :=
  .of_wp fun prog w A R s h => by
    obtain ⟨hp, g, d, tk, os⟩ := s
    obtain ⟨hl, h⟩ := h
    have f1 := AutoSeq1.idx_int
    have c0 : (decide ((1 : Int) < -(2 ^ 63)) || decide ((1 : Int) ≥ 2 ^ 63)) = false := by decide
    have c1 : (items.isEmpty || (1 : Int) == 1) = true := by rw [Bool.or_eq_true]; exact .inr (by decide)
    wp_walk using wpAny_loadPart' hl
    repeat (first
      | (refine wpAny_ite_false (decide_eq_false (by rw [c0]; exact Bool.false_ne_true)) ?_; wp_walk using wpAny_loadPart' hl)
      | (refine wpAny_ite_true (decide_eq_true c1) ?_; wp_walk using wpAny_loadPart' hl))
    exact ⟨_, rfl, h⟩
section
variable {X : Cx} {O : Hp} {W : WX} {ρ ρ' : List Sl} {e a b c tg e1 e2 : Expr} {p p2 q pos : Pos} {i : Int} {ds : List PyData}
def rRepT1 (K : PySem.W.Frag) : R2 := fun x y H Q => ∃ l xs, x = .ref l ∧ y = .int 1 ∧ SqT K H l xs ∧ Q (.ref l) H
theorem op_repT1 : OpR X (binaryOp .Mult) (rRepT1 X.K) := by
  intro pins s σ H x y v u Q I rx ry h
  obtain ⟨l, xs, rfl, rfl, hT, q⟩ := h
  cases rx
  obtain ⟨t, rfl⟩ := ry
  obtain ⟨its, r, ⟨⟨cls, dd, data, sl⟩, ho, hc, n, hd⟩, hs⟩ := I.tuple hT
  simp only at hc hd
  subst hc hd
  refine wpAny_binaryOp_repeat_ref (T := "tuple") (U := "int") (by decide) ⟨_, ho, rfl⟩ (fun s' => typeIs_int s' 1 t) noFill_tuple_mul F.fills_int_mul F.slot_int_rmul repeat_tuple F.slot_int_index.lookup
    (call_meets F.slot_int_rmul (typeIs_int s 1 t) F.entry_int_rmul (F.args_int_rmul_2 _ _) (int_rmul_tuple 1 t l its.toArray n dd sl)
      ⟨ho, rfl, ⟨_, ho, rfl⟩, call_meets F.slot_tuple_mul ⟨_, ho, rfl⟩ F.entry_tuple_mul (F.args_tuple_mul_2 _ _) (tuple_mul1 l its.toArray n dd sl t) ⟨ho, ?_⟩⟩)
  exact ⟨.ref l, H, I, rfl, q⟩
theorem de_repT (ha : DE X O ρ a (.tuple ds)) (hb : BE X O ρ b (.int i)) (h1 : 1 ≤ i) (h2 : i ≤ 1000) (hn : ds ≠ []) (hl : ds.length ≤ 1000) : DE X O ρ (.BinOp a .Mult b pos) (.tuple (List.replicate i.toNat ds).flatten) := by
  by_cases hi : i = 1
  · subst hi
    refine pe_mono (pe_op op_repT1 ha hb) fun σ H Q ⟨F, R, k⟩ => ⟨F, R, fun F1 H1 x e1 R1 bx => ⟨F1, R1, fun F2 H2 y e2 R2 by' => ?_⟩⟩
    obtain ⟨l, xs, rfl, hx, rx⟩ := rp_tup (bx.mono e2)
    refine ⟨l, xs, rfl, rp_int (by'.flat R2 rfl : Rp X.K F2 (.int 1) y), ex_t R2.fh hx, k F2 H2 _ (e1.trans e2) R2 (mk_tup hx ?_)⟩
    have : (List.replicate (1 : Int).toNat ds).flatten = ds := by simp
    rw [this]; exact rx
  · refine pe_mono (pe_op op_repT ha hb) fun σ H Q ⟨F, R, k⟩ => ⟨F, R, fun F1 H1 x e1 R1 bx => ⟨F1, R1, fun F2 H2 y e2 R2 by' => ?_⟩⟩
    obtain ⟨l, xs, rfl, hx, rx⟩ := rp_tup (bx.mono e2)
    have hxl := all_len rx
    refine ⟨l, i, xs, rfl, rp_int (by'.flat R2 rfl : Rp X.K F2 (.int i) y), ex_t R2.fh hx, ?_, by omega, h2, by omega, fun p hp => k _ _ _ ((e1.trans e2).trans (Ex.new (R2.fh.back hp))) (R2.new hp) (mk_tup (SqT.of upd_same) (RpAll.mono (Ex.new (R2.fh.back hp)) (all_rep rx _)))⟩
    intro z
    rw [z] at hxl
    exact hn (List.eq_nil_of_length_eq_zero (by simpa using hxl))
/-! ### raising within a tuple, within an append -/
theorem dr_tup {es : List Expr} {er : Er} {x1 : Nat} (h : AR X O W ρ es er) : DR X O W ρ (.Tuple es x1 pos) er := pe_mono (pe_tup h) fun σ H Q t => t
theorem dr_append {n : Nat} {er : Er} {ap cp : Pos} (hr : ρ[n]? = some (.ow p0 ds)) (ho : RE X O ρ a (.ref p0)) (ha : AR X O W ρ [e] er)
    (hbase : attributeBase a "append" X.env (eval a X.env) = eval a X.env := by rfl)
    (hfew : ((backTo cp (starEach [e] X.env)).all (fun x => !x.1) && (backToKw cp (keywordEach [] X.env)).all (fun x => x.1.isSome) && decide ([e].length + ([] : List Keyword).length + (if ([] : List Keyword).isEmpty then 0 else 1) < 30)) = true := by rfl)
    (hline : (ap.endLine == cp.line) = true := by rfl) (hs : starEach [e] X.env = (false, eval e X.env) :: starEach [] X.env := by rfl) (hpl : (backTo cp (starEach [] X.env)).any (·.1) = false := by rfl) :
    DR X O W ρ (.Call (.Attribute a "append" ap) [e] [] cp) er :=
  pe_mono (pe_bm PySem.F.plainAttrs_list PySem.F.slot_list_append PySem.F.type_list_append mt_append ho ha hbase hfew hline hs hpl) fun σ H Q ⟨F, R, kk⟩ => ⟨F, R, fun F1 H1 v e1 R1 ev => by
    cases (show v = V.ref p0 from ev)
    exact ⟨tyL R1 hr, F1, R1, fun F2 H2 cls od e2 R2 ok => kk F2 H2 cls od (e1.trans e2) R2 ok⟩⟩
end
end DL

namespace DL
open PySem PySem.Spec PyProof.Rows L2
/-! ### a local's own dict of whole numbers -/
def DcI (kvs : List (Int × Int)) : List (Key × V) := kvs.map fun p => (.inl p.1, .int p.2)
def lookI (kvs : List (Int × Int)) (k : Int) : Option Int := (kvs.find? fun p => decide (p.1 = k)).map (·.2)
theorem valV_DcI (k : Int) : ∀ kvs : List (Int × Int), valV (DcI kvs) (.inl k) = (lookI kvs k).map V.int
  | [] => rfl
  | p :: r => by
    have ih := valV_DcI k r
    unfold lookI DcI at *
    rw [List.map_cons, List.find?_cons]
    by_cases h : p.1 = k
    · rw [valV_pos (by rw [h]), decide_eq_true h]; rfl
    · rw [valV_neg (fun z => h (Sum.inl.inj z)), decide_eq_false h]; exact ih
abbrev slD (p : Addr) (kvs : List (Int × Int)) : Sl := .rw (.ref p) fun F => F p = some (.dK (DcI kvs))
section
variable {X : Cx} {O : Hp} {W : WX} {ρ : List Sl} {D : Dk} {a b e : Expr} {pos p2 p' : Pos} {n m : Nat} {i k v : Int} {x : Str} {p : Addr} {kvs : List (Int × Int)}
def isDI : List (Option Expr) → List Expr → List (Int × Int) → Bool
  | [], [], [] => true
  | some (.Constant (.int a) _ _) :: ks, .Constant (.int b) _ _ :: vs, (c, d) :: r => decide (a = c) && decide (b = d) && isDI ks vs r
  | _, _, _ => false
theorem pps_ints : ∀ {ks : List (Option Expr)} {vs : List Expr} {kvs : List (Int × Int)}, isDI ks vs kvs = true → PPs X pos ks vs (kvs.map fun p => (tC (.int p.1), tC (.int p.2)))
  | [], [], [], _ => pps_nil
  | some (.Constant (.int a) _ _) :: ks, .Constant (.int b) _ _ :: vs, (c, d) :: r, h => by
    unfold isDI at h
    rw [Bool.and_eq_true, Bool.and_eq_true, decide_eq_true_eq, decide_eq_true_eq] at h
    obtain ⟨⟨rfl, rfl⟩, h⟩ := h
    exact pps_cons pe_int pe_int (pps_ints h)
theorem isDI_all : ∀ {ks : List (Option Expr)} {vs : List Expr} {kvs : List (Int × Int)}, isDI ks vs kvs = true → ks.all (·.isSome) = true ∧ ks.length = kvs.length ∧ vs.length = kvs.length
  | [], [], [], _ => ⟨rfl, rfl, rfl⟩
  | some (.Constant (.int a) _ _) :: ks, .Constant (.int b) _ _ :: vs, (c, d) :: r, h => by
    unfold isDI at h
    rw [Bool.and_eq_true, Bool.and_eq_true, decide_eq_true_eq, decide_eq_true_eq] at h
    obtain ⟨h1, h2, h3⟩ := isDI_all h.2
    exact ⟨by rw [List.all_cons, h1]; rfl, by rw [List.length_cons, List.length_cons, h2], by rw [List.length_cons, List.length_cons, h3]⟩
theorem tPairs_ints {σ : Sg} {H : Hp} {Q : List (V × V) → Hp → Prop} : ∀ {kvs : List (Int × Int)}, Q (kvs.map fun p => (V.int p.1, V.int p.2)) H → tPairs (kvs.map fun p => (tC (.int p.1), tC (.int p.2))) σ H Q
  | [], h => h
  | p :: r, h => by
    show tPairs (r.map fun p => (tC (.int p.1), tC (.int p.2))) σ H fun ps H3 => Q ((V.int p.1, V.int p.2) :: ps) H3
    exact tPairs_ints (kvs := r) h
/-- x = {1: 2, ..} -/
theorem ds_asgD {ks : List (Option Expr)} {vs : List Expr} (kvs : List (Int × Int)) (hN : X.N.Nodup) (hk : ∀ p, D.nx (ρ.set n (slD p kvs))) (hd : isDI ks vs kvs = true := by decide) (hm : mergeK [] (DcI kvs) = DcI kvs := by rfl) (h0 : ks ≠ [] := by exact List.cons_ne_nil _ _) (h15 : kvs.length ≤ 15 := by decide) (hi : X.N[n]? = some x := by rfl) (hx : Loc X.env.scope x := by first | exact Or.inl rfl | exact Or.inr rfl)
    (hs : swapsWith (.Dict ks vs p2) (some (.Name x p')) pos.line X.env = pure false := by rfl) (hf : X.fn x = true := by rfl) : DS X O W ρ (.Assign [.Name x p'] (.Dict ks vs p2) pos) D := by
  obtain ⟨h1, h2, h3⟩ := isDI_all hd
  refine ps_mono (ps_set hN hi hx (pe_disp (pps_ints hd) h1 (h2.trans h3.symm) h0 (by omega)) hs (.inl hf)) fun E σ H ⟨F, R, q⟩ => ?_
  intro p hp
  refine tPairs_ints ⟨upd_same, DcI kvs, ?_, ?_, ?_⟩
  · unfold DcI; rw [List.map_map]; rfl
  · unfold DcI; rw [List.length_map]; exact h15
  · rw [hm, upd_upd]
    have R2 := R.new (o := .dK (DcI kvs)) hp
    exact q.nx _ _ _ _ (Ex.new (by cases h : F p with | none => rfl | some o => rw [R.fh _ _ h] at hp; cases hp)) (R2.setRw fun F' e' => e' _ _ upd_same) (hk p)
theorem de_ixD (hr : Room m X.A) (h : ρ[n]? = some (slD p kvs)) (hb : BE X O ρ b (.int k)) (hl : lookI kvs k = some v) (hN : X.N[n]? = some x := by rfl) (hv : Vis X.env.scope x := by first | exact Or.inl rfl | exact Or.inr (Or.inl rfl) | exact Or.inr (Or.inr rfl)) (hd : (x == ("__debug__" : Str)) = false := by decide)
    (hcd : (x == ("__classdict__" : Str)) = false := by decide) (hs : NoSl b := by exact fun _ _ => rfl) : DE X O ρ (.Subscript (.Name x p2) b pos) (.int v) := by
  have hu : X.A.units + 1 < cLine := by have := hr.un; omega
  refine pe_mono (pe_dget hu (pe_var hN hv hd hcd) hb hs) fun σ H Q ⟨F, R, kk⟩ => ?_
  refine ⟨.ref p, R.val h rfl, F, R, fun F1 H1 y e1 R1 by' => ?_⟩
  obtain rfl := rp_int (by'.flat R1 rfl : Rp X.K F1 (.int k) y)
  refine ⟨p, .int v, rfl, ?_, kk F1 H1 _ e1 R1 mk_int⟩
  have hF : F1 p = some (.dK (DcI kvs)) := (R1.sl n _ h).2 F1 (Ex.refl _)
  have := DGet.k (k := .inl k) (R1.fh _ _ hF)
  rw [valV_DcI, hl] at this
  exact this
theorem dt_inD (hr : Room m X.A) (h : ρ[n]? = some (slD p kvs)) (ha : BE X O ρ a (.int k)) (hN : X.N[n]? = some x := by rfl) (hv : Vis X.env.scope x := by first | exact Or.inl rfl | exact Or.inr (Or.inl rfl) | exact Or.inr (Or.inr rfl)) (hd : (x == ("__debug__" : Str)) = false := by decide)
    (hcd : (x == ("__classdict__" : Str)) = false := by decide) : DT X O ρ (.Compare a [.In] [.Name x p2] pos) (lookI kvs k).isSome := by
  have hu : X.A.units + 1 < cLine := by have := hr.un; omega
  refine pt_mono (pt_cmp (pc_din hu ha (pe_var hN hv hd hcd))) fun σ H Q ⟨F, R, kk⟩ => ?_
  refine ⟨F, R, fun F1 H1 y e1 R1 by' => ?_⟩
  obtain rfl := rp_int (by'.flat R1 rfl : Rp X.K F1 (.int k) y)
  refine ⟨.ref p, R1.val h rfl, p, (lookI kvs k).map .int, rfl, ?_, (lookI kvs k).isSome, by rw [Option.isSome_map], kk F1 H1 e1 R1⟩
  have hF : F1 p = some (.dK (DcI kvs)) := (R1.sl n _ h).2 F1 (Ex.refl _)
  have := DGet.k (k := .inl k) (R1.fh _ _ hF)
  rw [valV_DcI] at this
  exact this
theorem intText_fig {c : Nat} (h : 48 ≤ c ∧ c ≤ 57) : PySem.intText? ⟨#[c]⟩ = some (((c : Nat) : Int) - 48) := by
  have : c = 48 ∨ c = 49 ∨ c = 50 ∨ c = 51 ∨ c = 52 ∨ c = 53 ∨ c = 54 ∨ c = 55 ∨ c = 56 ∨ c = 57 := by omega
  rcases this with rfl | rfl | rfl | rfl | rfl | rfl | rfl | rfl | rfl | rfl <;> decide +kernel
theorem de_intS {c : Nat} {p : Pos} (hm : X.mg "int" = none) (ha : BE X O ρ a (.str ⟨#[c]⟩)) (h : 48 ≤ c ∧ c ≤ 57) (hg : Gl X "int" := by rfl) (he : starEach [a] X.env = (false, eval a X.env) :: starEach [] X.env := by rfl) : DE X O ρ (.Call (.Name "int" p) [a] [] pos) (.int ((c : Int) - 48)) :=
  x_t1 call_int_str hg hm boot_int ha (fun σ F H v Q R b kk => ⟨⟨#[c]⟩, _, by rw [rp_str (b.flat R rfl : Rp X.K F (.str _) v)], intText_fig h, by show 1 ≤ 640; decide, kk F H _ (Ex.refl _) R mk_int⟩) (by decide) (by decide) he
theorem dt_and4 {c d' : Expr} {k k' k2 k3 : Bool} (ha : DT X O ρ a k) (hb : k = true → DT X O ρ b k') (hc : k = true → k' = true → DT X O ρ c k2) (hd : k = true → k' = true → k2 = true → DT X O ρ d' k3) : DT X O ρ (.BoolOp .And [a, b, c, d'] pos) (k && (k' && (k2 && k3))) := (wt_and ha fun z => wt_and (hb z) fun y => wt_and (hc z y) fun x => wt_and1 (hd z y x)).t
theorem dt_or4 {c d' : Expr} {k k' k2 k3 : Bool} (ha : DT X O ρ a k) (hb : k = false → DT X O ρ b k') (hc : k = false → k' = false → DT X O ρ c k2) (hd : k = false → k' = false → k2 = false → DT X O ρ d' k3) : DT X O ρ (.BoolOp .Or [a, b, c, d'] pos) (k || (k' || (k2 || k3))) := (wt_or ha fun z => wt_or (hb z) fun y => wt_or (hc z y) fun x => wt_or1 (hd z y x)).t
end
end DL

namespace DL
open PySem PySem.Spec PyProof.Rows L2
/-! ### a store behind a first argument -/
section
variable {K : Frg} {O F F' H H' : Hp} {ρ ρ' : List Sl} {σ : L2.St} {n m : Nat} {v u : V} {μ μ1 μ2 : Sto} {p : Addr} {o : HO}
theorem kp_st1 {v u : V} {d0 : PyData} {μ0 μ : Sto} {r ρ' : List Sl} (j : Nat) (h : ρ'[j]? = some (.st u μ)) (hr : r.all noOwn = true := by rfl) : Kp (.va d0 :: .st v μ0 :: r) (.va d0 :: .st v μ :: r) ρ' := ⟨rfl, fun i s z => by
  cases i with
  | zero => cases z; rfl
  | succ i =>
    cases i with
    | zero =>
      cases z
      exact ⟨⟨μ0, rfl⟩, j, u, h, fun l s hl z => by
        cases l with
        | zero => cases z; rfl
        | succ l =>
          cases l with
          | zero => exact absurd rfl hl
          | succ l => exact noOwn_owns (List.all_eq_true.mp hr s (List.mem_of_getElem? (show r[l]? = some s from z)))⟩
    | succ i =>
      have z : r[i]? = some s := z
      have hs := List.all_eq_true.mp hr s (List.mem_of_getElem? z)
      cases s with
      | no => trivial
      | va d => exact z
      | rw v φ => exact z
      | ow p ds => cases hs
      | st v μ => cases hs⟩
theorem Rel.giveO (R : Rel K O F ρ σ H) (hp : H p = some o) (hF : F p = none) (ap : Apart ρ p) : Rel K (upd O p o) F ρ σ H :=
  R.mv (Ex.refl F) R.fh (fun b u e => by
    by_cases z : b = p
    · subst z; rw [upd_same] at e; cases e; exact hp
    · rw [upd_ne z] at e; exact R.oh b u e) (fun b u e => by
    by_cases z : b = p
    · subst z; exact hF
    · rw [upd_ne z] at e; exact R.dis b u e) (fun j s q z hq u e => e) (fun j s q z hq => (R.has z hq).1) fun j s q z hq => by
    rw [upd_ne (fun x => by subst x; exact ap j s z hq)]; exact (R.has z hq).2.1
theorem callG1_core {d0 : PyData} {v0 : V} {K : Frg} {F H : Hp} {σ : Sg} {S : List Sl → (List Sl → Out → Prop) → Prop} {Po : List Sl → Out → Prop} {r : List Sl} {vs : List V} {Q : VK} {E : XK} (R : Rel K O F ρ σ H) (hr : ρ[n]? = some (.st v (μ1 ++ μ2))) (r0 : Rp K F d0 v0) (rs : WsVs K F r vs) (hS : S (.va d0 :: .st u μ1 :: r) Po)
    (hP : ∀ ρb o, Po ρb o → ∃ μ', ρb = .va d0 :: .st u μ' :: r)
    (hq : ∀ μ' o F' H' w, Po (.va d0 :: .st u μ' :: r) o → Ex F F' → Rel K O F' (ρ.set n (.st v (μ' ++ μ2))) σ H' → RvOk K O (ρ.set n (.st v (μ' ++ μ2))) F' H' w o → Q w H')
    (hx : ∀ μ' e F' H' cls od, Po (.va d0 :: .st u μ' :: r) (.er e) → Ex F F' → Rel K O F' (ρ.set n (.st v (μ' ++ μ2))) σ H' → ErOk F' e cls od → E cls od H') : spG K S (v0 :: u :: vs) H Q E := by
  obtain ⟨a, nd, all⟩ := R.st hr
  rw [List.map_append, List.nodup_append] at nd
  have hl : n < ρ.length := (List.getElem?_eq_some_iff.mp hr).1
  have R1 : Rel K O F (ρ.set n (.st v μ2)) σ H := R.less hr (List.sublist_append_right _ _)
  have h2 : (ρ.set n (.st v μ2))[n]? = some (.st v μ2) := List.getElem?_set_self hl
  have own1 : ∀ q, q ∈ μ1.map Prod.fst → ¬ Own (ρ.set n (.st v μ2)) q := fun q hq ⟨j, s, z, hs⟩ => by
    rcases sets_get z with ⟨_, y⟩ | ⟨hj, z⟩
    · subst y; exact nd.2.2 q hq q hs rfl
    · exact R.ap j n s _ q hj z hr hs (by show q ∈ (μ1 ++ μ2).map Prod.fst; rw [List.map_append]; exact List.mem_append_left _ hq)
  have Ra : Rel K (allO (ρ.set n (.st v μ2)) O H) F (.va d0 :: .st u μ1 :: r) ((v0 :: u :: vs).map some) H := by
    refine ⟨by rw [List.length_map, List.length_cons, List.length_cons, List.length_cons, List.length_cons, ws_len rs], R.fh, R1.toAll.oh, R1.toAll.dis, fun i s z => ?_, fun i j s t q hn z1 z2 g1 g2 => ?_⟩
    · cases i with
      | zero => cases z; exact ⟨v0, rfl, r0⟩
      | succ i =>
        cases i with
        | zero =>
          cases z
          refine ⟨rfl, nd.1, fun q c hc => ?_⟩
          obtain ⟨f, g, cc⟩ := all q c (List.mem_append_left _ hc)
          exact ⟨f, by rw [allO_no (own1 q (List.mem_map.mpr ⟨_, hc, rfl⟩))]; exact g, cc⟩
        | succ i => exact (ws_sl rs (show r[i]? = some s from z)).1
    · cases i with
      | zero => cases z1; exact absurd g1 List.not_mem_nil
      | succ i =>
        cases i with
        | zero =>
          cases j with
          | zero => cases z2; exact absurd g2 List.not_mem_nil
          | succ j =>
            cases j with
            | zero => exact hn rfl
            | succ j => rw [(ws_sl (O := O) (H := H) rs (show r[j]? = some t from z2)).2] at g2; exact absurd g2 List.not_mem_nil
        | succ i => rw [(ws_sl (O := O) (H := H) rs (show r[i]? = some s from z1)).2] at g1; exact absurd g1 List.not_mem_nil
  have back : ∀ μ' F' H', Ex F F' → Rel K (allO (ρ.set n (.st v μ2)) O H) F' (.va d0 :: .st u μ' :: r) ((v0 :: u :: vs).map some) H' → Rel K O F' (ρ.set n (.st v (μ' ++ μ2))) σ H' := fun μ' F' H' e Rb => by
    have R3 : Rel K O F' (ρ.set n (.st v μ2)) σ H' := R1.ofAll Rb e
    obtain ⟨_, ndb, allb⟩ := Rb.st (i := 1) rfl
    have no : ∀ q c, (q, c) ∈ μ' → ¬ Own (ρ.set n (.st v μ2)) q ∧ O q = none := fun q c hc => by
      have g := (allb q c hc).2.1
      by_cases z : Own (ρ.set n (.st v μ2)) q
      · rw [allO_ow z] at g
        obtain ⟨j, s, z1, z2⟩ := z
        obtain ⟨_, _, o, ho⟩ := R1.has z1 z2
        rw [ho] at g; cases g
      · rw [allO_no z] at g; exact ⟨z, g⟩
    have R4 := R3.set1 (i := n) (s := .st v (μ' ++ μ2)) rfl (fun _ _ => rfl) (fun _ => ⟨a, by
      rw [List.map_append, List.nodup_append]
      refine ⟨ndb, nd.2.1, fun x hx y hy e => ?_⟩
      subst e
      obtain ⟨⟨q, c⟩, hm, rfl⟩ := List.mem_map.mp hx
      exact (no q c hm).1 ⟨n, _, h2, hy⟩, fun q c hc => by
      rcases List.mem_append.mp hc with hc | hc
      · exact ⟨(allb q c hc).1, (no q c hc).2, (allb q c hc).2.2⟩
      · exact (R3.st h2).2.2 q c hc⟩) fun j t q hj e h1 h3 => by
      rw [show owns (.st v (μ' ++ μ2)) = μ'.map Prod.fst ++ μ2.map Prod.fst by show (μ' ++ μ2).map Prod.fst = _; rw [List.map_append]] at h1
      rcases List.mem_append.mp h1 with h1 | h1
      · obtain ⟨⟨q', c⟩, hm, rfl⟩ := List.mem_map.mp h1
        exact (no q' c hm).1 ⟨j, t, e, h3⟩
      · exact R3.ap n j _ t q (Ne.symm hj) h2 e h1 h3
    rw [List.set_set] at R4
    exact R4
  refine ⟨allO (ρ.set n (.st v μ2)) O H, F, .va d0 :: .st u μ1 :: r, Po, Ra, hS, fun ρb o F' H' w po e Rb rv => ?_, fun ρb er F' H' cls od po e Rb ok => ?_⟩
  · obtain ⟨μ', rfl⟩ := hP ρb o po
    refine hq μ' o F' H' w po e (back μ' F' H' e Rb) ?_
    have hnw : ∀ {w : V} {ds : List PyData}, NewL K (allO (ρ.set n (.st v μ2)) O H) (.va d0 :: .st u μ' :: r) F' H' w ds → NewL K O (ρ.set n (.st v (μ' ++ μ2))) F' H' w ds := fun {w ds} rv => by
      obtain ⟨p, xs, ev, f, g, ap, hp, rr⟩ := rv
      have z : ¬ Own (ρ.set n (.st v μ2)) p := fun z => by
        rw [allO_ow z] at g
        obtain ⟨j, s, z1, z2⟩ := z
        obtain ⟨_, _, o, ho⟩ := R1.has z1 z2
        rw [ho] at g; cases g
      refine ⟨p, xs, ev, f, by rw [allO_no z] at g; exact g, fun j s e hs => ?_, hp, rr⟩
      rcases sets_get e with ⟨_, y⟩ | ⟨hj, e⟩
      · subst y
        rw [show owns (.st v (μ' ++ μ2)) = μ'.map Prod.fst ++ μ2.map Prod.fst by show (μ' ++ μ2).map Prod.fst = _; rw [List.map_append]] at hs
        rcases List.mem_append.mp hs with hs | hs
        · exact ap 1 _ rfl hs
        · exact z ⟨n, _, h2, hs⟩
      · exact z ⟨j, s, by rw [List.getElem?_set_ne (Ne.symm hj)]; exact e, hs⟩
    cases o with
    | ok d => exact rv
    | er e => exact rv.elim
    | nw ds => exact hnw rv
    | tn d0 ds => obtain ⟨q, h1, h2⟩ := rv; exact ⟨q, hnw h1, h2⟩
  · obtain ⟨μ', rfl⟩ := hP ρb _ po
    exact hx μ' er F' H' cls od po e (back μ' F' H' e Rb) ok
end
section
variable {X : Cx} {O : Hp} {W : WX} {ρ ρ' : List Sl} {e a b c tg : Expr} {es : List Expr} {d : PyData} {ds ds' : List PyData} {pos pos' p' p2 ap cp : Pos} {i j : Int} {kk : Bool} {st : Stmt} {rest body els : List Stmt} {D : Dk} {er : Er} {o : Out} {n k m : Nat} {p q : Addr} {v u : V} {μ μ1 μ2 : Sto} {its : List Itm} {C dx : Addr} {ks : List Str} {f x : Str} {it : Itm}
def tG1 (d0 : PyData) (K : Frg) (O : Hp) (ρ : List Sl) (n : Nat) (v u : V) (μ2 : Sto) (r : List Sl) (Po : List Sl → Out → Prop) : TE := fun σ H Q => ∃ F, Rel K O F ρ σ H ∧ ∀ μ' o F' H' w, Po (.va d0 :: .st u μ' :: r) o → Ex F F' → Rel K O F' (ρ.set n (.st v (μ' ++ μ2))) σ H' → RvOk K O (ρ.set n (.st v (μ' ++ μ2))) F' H' w o → Q w H'
theorem x_callG1 {a0 : Expr} {d0 : PyData} {g : Str} {gp : Pos} {l : Nat} {S : List Sl → (List Sl → Out → Prop) → Prop} {Po : List Sl → Out → Prop} {r : List Sl} (G : HasG X.prog X.w X.K X.mg X.base g l S) (hrm : Room l X.A) (hr : ρ[n]? = some (.st v (μ1 ++ μ2))) (h00 : DE X O ρ a0 d0) (h0 : RE X O ρ a u) (ha : AW X O ρ es r) (hS : S (.va d0 :: .st u μ1 :: r) Po) (hP : ∀ ρb o, Po ρb o → ∃ μ', ρb = .va d0 :: .st u μ' :: r) (ne : ∀ ρb e, ¬ Po ρb (.er e))
    (hg : Gl X g := by rfl) (hdb : (g == ("__debug__" : Str)) = false := by decide) (he0 : starEach (a0 :: a :: es) X.env = (false, eval a0 X.env) :: starEach (a :: es) X.env := by rfl) (he : starEach (a :: es) X.env = (false, eval a X.env) :: starEach es X.env := by rfl) (hpl : (backTo pos (starEach (a :: es) X.env)).any (·.1) = false := by rfl) : PE X (.Call (.Name g gp) (a0 :: a :: es) [] pos) (tG1 d0 X.K O ρ n v u μ2 r Po) := by
  obtain ⟨fa, fd, ps, hm, hk, hb, F⟩ := G.ex
  refine pe_mono (pe_call F hrm hg hm hk hb .nil (E := E0) passL' (pa_cons h00 (pa_cons h0 ha he) he0) hdb he0 hpl) fun σ H Q ⟨F0, R, kk⟩ => ⟨F0, R, fun Fa Ha wa ea Ra ra => ⟨Fa, Ra, fun F1 H1 w e1 R1 ew => ⟨F1, R1, fun F2 H2 vs e2 R2 rs => ?_⟩⟩⟩
  cases (show w = u from ew)
  show spG X.K S ((wa :: u :: vs) ++ []) H2 Q E0
  rw [List.append_nil]
  exact callG1_core R2 hr (ra.mono (e1.trans e2)) rs hS hP (fun μ' o F' H' w' po e R' rv => kk μ' o F' H' w' po (((ea.trans e1).trans e2).trans e) R' rv) fun μ' e F' H' cls od po _ _ _ => absurd po (ne _ e)
/-- .. where it is certain what comes back -/
theorem ce_callG1 {a0 : Expr} {d0 : PyData} {g : Str} {gp : Pos} {l : Nat} {S : List Sl → (List Sl → Out → Prop) → Prop} {r : List Sl} {μ' : Sto} (G : HasG X.prog X.w X.K X.mg X.base g l S) (hrm : Room l X.A) (hr : ρ[n]? = some (.st v (μ1 ++ μ2))) (h00 : DE X O ρ a0 d0) (h0 : RE X O ρ a u) (ha : AW X O ρ es r) (hS : S (.va d0 :: .st u μ1 :: r) fun ρb o => ρb = .va d0 :: .st u μ' :: r ∧ o = .ok d)
    (hg : Gl X g := by rfl) (hdb : (g == ("__debug__" : Str)) = false := by decide) (he0 : starEach (a0 :: a :: es) X.env = (false, eval a0 X.env) :: starEach (a :: es) X.env := by rfl) (he : starEach (a :: es) X.env = (false, eval a X.env) :: starEach es X.env := by rfl) (hpl : (backTo pos (starEach (a :: es) X.env)).any (·.1) = false := by rfl) : CE X O ρ (ρ.set n (.st v (μ' ++ μ2))) (.Call (.Name g gp) (a0 :: a :: es) [] pos) d :=
  pe_mono (x_callG1 G hrm hr h00 h0 ha hS (fun ρb o h => ⟨μ', h.1⟩) (fun ρb e h => nomatch h.2) hg hdb he0 he hpl) fun σ H Q ⟨F, R, kk⟩ => ⟨F, R, fun μ2' o F' H' w po e R' rv => by
    obtain ⟨h1, h2⟩ := po
    cases h1; cases h2
    exact kk F' H' w e R' rv⟩
/-- the store of slot n freezes: its own value and another slot's -/
theorem ds_frzB {s : Sl} {d2 : PyData} (hr : ρ[n]? = some (.st v μ)) (ht : Th μ (.adr v) d) (hm : ρ[m]? = some s) (hu : valOf s = some u) (hn : n ≠ m) (ht2 : Th μ (.adr u) d2) (h : DSs X O W ((ρ.set n (.va d)).set m (.va d2)) rest D) : DSs X O W ρ rest D := ds_re h fun F σ H R => by
  obtain ⟨e, R1, hc⟩ := R.frzS hr
  have r : Rp X.K (addF μ F H) d v := th_rp hc e ht rfl
  have r2 : Rp X.K (addF μ F H) d2 u := th_rp hc e ht2 rfl
  have R2 := R1.set1 (i := n) (s := .va d) rfl (fun _ _ => rfl) (fun _ => ⟨v, (R.st hr).1, r⟩) fun _ _ _ _ _ h => absurd h List.not_mem_nil
  rw [List.set_set] at R2
  exact ⟨addF μ F H, e, R2.set1 (i := m) (s := .va d2) rfl (fun _ _ => rfl) (fun _ => ⟨u, R.val hm hu, r2⟩) fun _ _ _ _ _ h => absurd h List.not_mem_nil⟩
/-- a.append([e1, [], e3, e4]) -/
theorem ds_appN4 {e1 e3 e4 : Expr} {d1 d3 d4 : PyData} {lp lp2 : Pos} (hr : ρ[n]? = some (.st v μ)) (hk : μ[k]? = some (q, .lst its)) (ho : RE X O ρ a (.ref q)) (h1 : DE X O ρ e1 d1) (h3 : ∀ O, DE X O ρ e3 d3) (h4 : ∀ O, DE X O ρ e4 d4) (hz : its.length < 16777216)
    (hnx : ∀ pb pa, D.nx (ρ.set n (.st v (μ.set k (q, .lst (its ++ [.adr (.ref pa)])) ++ [(pb, .lst []), (pa, .lst [.dat d1, .adr (.ref pb), .dat d3, .dat d4])]))))
    (hsw : swapsWith (.Call (.Attribute a "append" ap) [.List [e1, .List [] lp2, e3, e4] lp] [] cp) none pos.line X.env = pure false := by rfl)
    (hbase : attributeBase a "append" X.env (eval a X.env) = eval a X.env := by rfl)
    (hfew : ((backTo cp (starEach [.List [e1, .List [] lp2, e3, e4] lp] X.env)).all (fun x => !x.1) && (backToKw cp (keywordEach [] X.env)).all (fun x => x.1.isSome) && decide ([Expr.List [e1, .List [] lp2, e3, e4] lp].length + ([] : List Keyword).length + (if ([] : List Keyword).isEmpty then 0 else 1) < 30)) = true := by rfl)
    (hline : (ap.endLine == cp.line) = true := by rfl) (hs : starEach [.List [e1, .List [] lp2, e3, e4] lp] X.env = (false, eval (.List [e1, .List [] lp2, e3, e4] lp) X.env) :: starEach [] X.env := by rfl) (hpl : (backTo cp (starEach [] X.env)).any (·.1) = false := by rfl)
    (hs1 : starEach [e1, .List [] lp2, e3, e4] X.env = (false, eval e1 X.env) :: starEach [.List [] lp2, e3, e4] X.env := by rfl) (hs2 : starEach [.List [] lp2, e3, e4] X.env = (false, eval (.List [] lp2) X.env) :: starEach [e3, e4] X.env := by rfl)
    (hs3 : starEach [e3, e4] X.env = (false, eval e3 X.env) :: starEach [e4] X.env := by rfl) (hs4 : starEach [e4] X.env = (false, eval e4 X.env) :: starEach [] X.env := by rfl) :
    DS X O W ρ (.Expr (.Call (.Attribute a "append" ap) [.List [e1, .List [] lp2, e3, e4] lp] [] cp) pos) D := by
  have h2 : NE X O ρ (.List [] lp2) [] := ne_lst ad_nil (by decide)
  have hall : PA X [e3, e4] fun σ H Q => ∃ (O' F : Hp), Rel X.K O' F ρ σ H ∧ ∀ F1 H1 v3 v4, Ex F F1 → Rel X.K O' F1 ρ σ H1 → Rp X.K F1 d3 v3 → Rp X.K F1 d4 v4 → Q [v3, v4] H1 :=
    ⟨fun pos pins s σ H Q I ⟨O', F, R, kk⟩ => (pa_cons (h3 O') (pa_cons (h4 O') pa_nil hs4) hs3).run pos pins s σ H Q I ⟨F, R, fun F1 H1 v3 e1 R1 r3 => ⟨F1, R1, fun F2 H2 v4 e2 R2 r4 => kk F2 H2 v3 v4 (e1.trans e2) R2 (r3.mono e2) r4⟩⟩⟩
  refine ps_mono (ps_expr (pe_bm PySem.F.plainAttrs_list PySem.F.slot_list_append PySem.F.type_list_append mt_append ho (pa_cons (pe_lst (pa_cons h1 (pa_cons h2 hall hs2) hs1)) pa_nil hs) hbase hfew hline hs hpl) hsw) fun E σ H ⟨F, R, qq⟩ => ⟨F, R, fun F1 H1 v1 ee1 R1 ev => ?_⟩
  cases (show v1 = V.ref q from ev)
  refine ⟨tyC R1 hr hk, F1, R1, fun F2 H2 w1 ee2 R2 r1 => ⟨F2, R2, fun F3 H3 w2 ee3 R3 ⟨pb, ys, eu, fp, op, app, hp, ry⟩ => ?_⟩⟩
  subst eu
  cases (show ys = [] from all_nil ry)
  refine ⟨upd O pb (.lst []), F3, R3.giveO hp fp app, fun F4 H4 w3 w4 ee4 Rg r3 r4 => ⟨by show 4 ≤ sizeLine; rw [sizeLine_eq]; decide, fun pa hpa => ?_⟩⟩
  have hp4 : H4 pb = some (.lst []) := Rg.oh pb _ upd_same
  have fp4 : F4 pb = none := Rg.dis pb _ upd_same
  have app4 : Apart ρ pb := app
  have R4' : Rel X.K O F4 ρ σ H4 := Rg.subO op
  have R4 : Rel X.K O F4 ρ σ (upd H4 pa (.lst [w1, .ref pb, w3, w4])) := R4'.newH hpa
  have npb : pb ≠ pa := ne_of_none hp4 hpa
  obtain ⟨_, _, xs, h, rx⟩ := R4.cell hr hk
  have nbq : pb ≠ q := fun z => by subst z; exact app n _ hr (List.mem_map.mpr ⟨_, get_mem hk, rfl⟩)
  have naq : pa ≠ q := fun z => by
    subst z
    obtain ⟨_, _, _, h', _⟩ := R4'.cell hr hk
    rw [hpa] at h'; cases h'
  have hn : n < ρ.length := (List.getElem?_eq_some_iff.mp hr).1
  have R5 := R4.mutC (c' := .lst (its ++ [.adr (.ref pa)])) (o := .lst (xs ++ [.ref pa])) hr hk ⟨_, upd_same, it_app rx (it_one (it := .adr (.ref pa)) rfl)⟩
  have R6 := R5.addC (q := pb) (o := .lst []) (c := .lst []) (List.getElem?_set_self hn) (by rw [upd_ne nbq, upd_ne npb]; exact hp4) fp4 op (fun j s' z hq => by
    rcases sets_get z with ⟨_, z⟩ | ⟨_, z⟩
    · subst z
      rw [show owns (.st v (μ.set k (q, .lst (its ++ [.adr (.ref pa)])))) = owns (.st v μ) from set_fst hk _] at hq
      exact app n _ hr hq
    · exact app j s' z hq) ⟨[], by rw [upd_ne nbq, upd_ne npb]; exact hp4, rfl⟩
  rw [List.set_set] at R6
  have apa : Apart ρ pa := R4'.fresh_apart hpa
  have R7 := R6.addC (q := pa) (o := .lst [w1, .ref pb, w3, w4]) (c := .lst [.dat d1, .adr (.ref pb), .dat d3, .dat d4]) (List.getElem?_set_self hn) (by rw [upd_ne naq, upd_same]) (R4'.fh.back hpa) (R4'.oh.back hpa) (fun j s' z hq => by
    rcases sets_get z with ⟨_, z⟩ | ⟨_, z⟩
    · subst z
      rw [show owns (.st v (μ.set k (q, .lst (its ++ [.adr (.ref pa)])) ++ [(pb, .lst [])])) = owns (.st v μ) ++ [pb] by show (μ.set k _ ++ [_]).map Prod.fst = _; rw [List.map_append, set_fst hk _]; rfl] at hq
      rcases List.mem_append.mp hq with hq | hq
      · exact apa n _ hr hq
      · exact npb (List.mem_singleton.mp hq).symm
    · exact apa j s' z hq) ⟨[w1, .ref pb, w3, w4], by rw [upd_ne naq, upd_same], ⟨w1, [.ref pb, w3, w4], rfl, r1.mono (ee3.trans ee4), ⟨.ref pb, [w3, w4], rfl, rfl, ⟨w3, [w4], rfl, r3, ⟨w4, [], rfl, r4, rfl⟩⟩⟩⟩⟩
  rw [List.set_set, List.append_assoc] at R7
  exact ⟨q, xs, .ref pa, rfl, rfl, h, by rw [← rx.len]; exact sz_lt hz, qq.nx F4 _ _ _ (((ee1.trans ee2).trans ee3).trans ee4) R7 (hnx pb pa)⟩
theorem dt_cellB {k1 : Bool} (hr : ρ[n]? = some (.st v μ)) (hk : μ[k]? = some (q, .lst its)) (he : RE X O ρ a (.ref q)) (hb : its.isEmpty = !k1) (ht : ∀ whole, isTrue a X.env whole = (do let v ← whole; standAt a.pos; holding [v] (truthy v)) := by exact fun _ => rfl) : DT X O ρ a k1 := by
  have h := dt_cellT hr hk he ht
  rw [hb, Bool.not_not] at h
  exact h
theorem atI_3 {α : Type} {x y z w : α} {xs : List α} : atI (x :: y :: z :: w :: xs) 3 = some w := by
  unfold atI ixN
  rw [if_pos (by decide), if_pos (by simp only [List.length_cons]; omega)]; rfl
/-- x = f(d0, o, ..), what comes back by what is promised -/
theorem ds_asgG1 {a0 : Expr} {d0 d1 : PyData} {g : Str} {gp : Pos} {l : Nat} {S : List Sl → (List Sl → Out → Prop) → Prop} {Po : List Sl → Out → Prop} {r : List Sl} (hN : X.N.Nodup) (G : HasG X.prog X.w X.K X.mg X.base g l S) (hrm : Room l X.A) (hr : ρ[n]? = some (.st v μ1)) (h00 : DE X O ρ a0 d0) (h0 : RE X O ρ a u) (ha : AW X O ρ es r) (hS : S (.va d0 :: .st u μ1 :: r) Po)
    (hP : ∀ ρb o, Po ρb o → (∃ μ', ρb = .va d0 :: .st u μ' :: r) ∧ o = .ok d1) (h : ∀ μ', Po (.va d0 :: .st u μ' :: r) (.ok d1) → D.nx ((ρ.set n (.st v μ')).set m (.va d1)))
    (hi : X.N[m]? = some x := by rfl) (hx : Loc X.env.scope x := by first | exact Or.inl rfl | exact Or.inr rfl) (hs : swapsWith (.Call (.Name g gp) (a0 :: a :: es) [] pos) (some (.Name x p')) pos'.line X.env = pure false := by rfl) (hf : X.fn x = true := by rfl)
    (hg : Gl X g := by rfl) (hdb : (g == ("__debug__" : Str)) = false := by decide) (he0 : starEach (a0 :: a :: es) X.env = (false, eval a0 X.env) :: starEach (a :: es) X.env := by rfl) (he : starEach (a :: es) X.env = (false, eval a X.env) :: starEach es X.env := by rfl) (hpl : (backTo pos (starEach (a :: es) X.env)).any (·.1) = false := by rfl) : DS X O W ρ (.Assign [.Name x p'] (.Call (.Name g gp) (a0 :: a :: es) [] pos) pos') D := by
  have hc := x_callG1 (μ2 := []) (pos := pos) (gp := gp) G hrm (by rw [List.append_nil]; exact hr) h00 h0 ha hS (fun ρb o hp => (hP ρb o hp).1) (fun ρb e hp => nomatch (hP ρb _ hp).2) hg hdb he0 he hpl
  refine ps_mono (ps_set hN hi hx hc hs (.inl hf)) fun E σ H ⟨F, R, q⟩ => ⟨F, R, fun μ' o F' H' w po e R' rv => ?_⟩
  obtain ⟨_, rfl⟩ := hP _ _ po
  rw [List.append_nil] at R'
  exact q.nx _ _ _ _ e (R'.setVa rv) (h μ' po)
end
end DL

namespace DL
open PySem PySem.Spec PyProof.Rows L2
/-! ### a dict of the module, its keys whole numbers -/
theorem nx_to {D : Dk} {ρ ρ2 : List Sl} (e : ρ = ρ2) (h : D.nx ρ2) : D.nx ρ := e ▸ h
def Vd : PyData → V
  | .int i => .int i
  | .str s => .str s
  | _ => .non
def isIS : PyData → Bool
  | .int _ => true
  | .str _ => true
  | _ => false
theorem rp_Vd {K : Frg} {F : Hp} : ∀ {d : PyData}, isIS d = true → Rp K F d (Vd d)
  | .int _, _ => mk_int
  | .str _, _ => mk_str
def lookD (kvs : List (Int × PyData)) (k : Int) : Option PyData := (kvs.find? fun p => decide (p.1 = k)).map (·.2)
def EntI : List (Int × PyData) → List DictEntry → Prop
  | [], [] => True
  | p :: r, e :: es => (∃ t, e.key = .int p.1 t) ∧ e.hash = hashInt p.1 ∧ RelV (Vd p.2) e.val ∧ EntI r es
  | _, _ => False
def KDi (K : Frg) (mg : Str → Option Value) (x : Str) (kvs : List (Int × PyData)) : Prop :=
  ∃ (d : Addr) (es : Array DictEntry) (n : Nat), mg x = some (.ref d) ∧ K.lookup d = some ⟨.type "dict", none, .dict es n, #[]⟩ ∧ (d == sysModules) = false ∧ EntI kvs es.toList ∧ kvs.all (fun p => isIS p.2) = true
theorem entI_keys : ∀ {kvs : List (Int × PyData)} {l : List DictEntry}, EntI kvs l → ∀ e ∈ l, ∃ k : Int, Value.isInt k e.key = true ∧ e.hash = hashInt k
  | [], [], _, e, he => absurd he List.not_mem_nil
  | p :: r, z :: es, h, e, he => by
    obtain ⟨⟨t, h1⟩, h2, _, h4⟩ := h
    rcases List.mem_cons.mp he with rfl | he
    · exact ⟨p.1, by rw [h1]; simp [Value.isInt], h2⟩
    · exact entI_keys h4 e he
theorem entI_find (k : Int) : ∀ {kvs : List (Int × PyData)} {l : List DictEntry}, EntI kvs l → RelO ((lookD kvs k).map Vd) ((l.find? fun e => Value.isInt k e.key).map (·.val))
  | [], [], _ => True.intro
  | p :: r, z :: es, h => by
    obtain ⟨⟨t, h1⟩, h2, h3, h4⟩ := h
    have ih := entI_find k h4
    unfold lookD at *
    rw [List.find?_cons, List.find?_cons, h1]
    by_cases e : p.1 = k
    · rw [decide_eq_true e, show Value.isInt k (.int p.1 t) = true by simp [Value.isInt, e]]
      exact h3
    · rw [decide_eq_false e, show Value.isInt k (.int p.1 t) = false by simp [Value.isInt, e]]
      exact ih
theorem mapI_K {prog : Program} {w : World} {K : Frg} {h : Heap} {d : Addr} {es : Array DictEntry} {n : Nat} {kvs : List (Int × PyData)} (X : K.In h) (hl : K.lookup d = some ⟨.type "dict", none, .dict es n, #[]⟩) (hk : EntI kvs es.toList) : h.MapOf (intKind prog w) d (fun k => findBy Value.isInt es k) :=
  ⟨_, es, n, X _ _ hl, ⟨rfl, rfl, rfl⟩, rfl, fun e he => entI_keys hk e (Array.mem_toList_iff.mpr he), fun _ => rfl⟩
theorem mapI_find {es : Array DictEntry} {kvs : List (Int × PyData)} (k : Int) (hk : EntI kvs es.toList) : RelO ((lookD kvs k).map Vd) (findBy Value.isInt es k) := by
  have h := entI_find k hk
  obtain ⟨l⟩ := es
  unfold findBy
  rw [List.find?_toArray]
  exact h
theorem lookD_is {kvs : List (Int × PyData)} {k : Int} {d : PyData} (ha : kvs.all (fun p => isIS p.2) = true) (h : lookD kvs k = some d) : isIS d = true := by
  unfold lookD at h
  cases hf : kvs.find? (fun p => decide (p.1 = k)) with
  | none => rw [hf] at h; cases h
  | some p => rw [hf] at h; cases h; exact List.all_eq_true.mp ha p (List.mem_of_find?_eq_some hf)
section
variable {X : Cx} {O : Hp} {W : WX} {ρ ρ' : List Sl} {D : Dk} {a b e f : Expr} {pos p2 p' : Pos} {n m k1 : Nat} {i k v : Int} {x g : Str} {p q : Addr} {kvs : List (Int × PyData)} {d d0 : PyData} {ds : List PyData}
/-- G[k] -/
def rIxI (K : Frg) (mg : Str → Option Value) (g : Str) (kvs : List (Int × PyData)) : R2 := fun x y H Q => ∃ (d : Addr) (es : Array DictEntry) (n : Nat) (k : Int) (r : PyData), x = .ref d ∧ y = .int k ∧ K.lookup d = some ⟨.type "dict", none, .dict es n, #[]⟩ ∧ EntI kvs es.toList ∧ lookD kvs k = some r ∧ Q (Vd r) H
theorem ix_kdi {mg : Str → Option Value} : IxR X (rIxI X.K mg g kvs) := by
  intro value slice pins s σ H x y v u Q I rx ry h hs
  obtain ⟨d, es, n, k, r, rfl, rfl, hl, hk, hf, q⟩ := h
  obtain rfl : v = Value.ref d := rx
  obtain ⟨t, rfl⟩ := ry
  have hm := mapI_K (prog := X.prog) (w := X.w) I.kIn hl hk
  have hr := mapI_find k hk
  rw [hf] at hr
  obtain ⟨u, e, ru⟩ := RelO.some_of hr
  exact tail_any hm.typeIs slot_dict_getitem.lookup (wpAny_getItem_of (show (intKind X.prog X.w).is k (.int k t) = true from by simp [intKind, Value.isInt]) hm e ⟨Vd r, H, I.tok _, ru, q⟩) hs
theorem de_ixK (h : KDi X.K X.mg g kvs) (hb : BE X O ρ b (.int k)) (hl : lookD kvs k = some d) (hg : Gl X g := by rfl) (hd : (g == ("__debug__" : Str)) = false := by decide) (hs : PlainIx b := by exact fun _ _ => rfl) : DE X O ρ (.Subscript (.Name g p2) b pos) d := by
  obtain ⟨da, es, nn, hm, hK, hlo, hE, ha⟩ := h
  refine pe_mono (pe_ix (ix_kdi (g := g) (kvs := kvs) (mg := X.mg)) (pe_glob (v := .ref da) hg hm rfl hd) hb hs) fun σ H Q ⟨F, R, kk⟩ => ⟨F, R, fun F1 H1 y e1 R1 by' => ?_⟩
  exact ⟨da, es, nn, k, d, rfl, rp_int (by'.flat R1 rfl : Rp X.K F1 (.int k) y), hK, hE, hl, kk F1 H1 _ e1 R1 (rp_Vd (lookD_is ha hl))⟩
/-- k in G -/
theorem op_in_ki {da : Addr} {es : Array DictEntry} {nn : Nat} (hK : X.K.lookup da = some ⟨.type "dict", none, .dict es nn, #[]⟩) (hlo : (da == sysModules) = false) (hE : EntI kvs es.toList) : OpR X (compareOp .In) (fun x y H Q => ∃ (k : Int), x = .int k ∧ y = .ref da ∧ Q (.bl (lookD kvs k).isSome) H) := by
  intro pins s σ H x y v u Q I rx ry h
  obtain ⟨k, rfl, rfl, q⟩ := h
  obtain ⟨t, rfl⟩ := rx
  cases ry
  refine wpAny_in_of (knd := intKind X.prog X.w) (k := k) (show Value.isInt k (.int k t) = true by simp [Value.isInt]) hlo (mapI_K (prog := X.prog) (w := X.w) I.kIn hK hE) ?_
  have hr := (mapI_find k hE).isSome_eq
  rw [← hr, Option.isSome_map]
  exact ⟨.bl _, H, I.tok _, rfl, q⟩
theorem dt_inK (h : KDi X.K X.mg g kvs) (ha : BE X O ρ a (.int k)) (hg : Gl X g := by rfl) (hd : (g == ("__debug__" : Str)) = false := by decide) : DT X O ρ (.Compare a [.In] [.Name g p2] pos) (lookD kvs k).isSome := by
  obtain ⟨da, es, nn, hm, hK, hlo, hE, haa⟩ := h
  refine pt_mono (pt_cmpR (op_in_ki hK hlo hE) ha (pe_glob (v := .ref da) hg hm rfl hd) rfl) fun σ H Q ⟨F, R, kk⟩ => ⟨F, R, fun F1 H1 y e1 R1 by' => ?_⟩
  exact ⟨k, rp_int (by'.flat R1 rfl : Rp X.K F1 (.int k) y), rfl, _, rfl, kk F1 H1 e1 R1⟩
/-- G.get(k, other) -/
theorem de_getK {apos cpos : Pos} (h : KDi X.K X.mg g kvs) (he : BE X O ρ e (.int k)) (hf : DE X O ρ f d0) (m : M2 X (.Name g p2) "get" apos e f cpos := by exact ⟨by rfl, by rfl, by rfl, by rfl⟩) (hg : Gl X g := by rfl) (hd : (g == ("__debug__" : Str)) = false := by decide) : DE X O ρ (.Call (.Attribute (.Name g p2) "get" apos) [e, f] [] cpos) ((lookD kvs k).getD d0) := by
  obtain ⟨da, es, nn, hm, hK, hlo, hE, haa⟩ := h
  refine ⟨fun pins s σ H Q I h => ?_⟩
  have ho : PE X (.Name g p2) (tC (.ref da)) := pe_glob (v := .ref da) hg hm rfl hd
  obtain ⟨F, R, kk⟩ := h
  refine wpAny_Call_method m.base m.few m.line PySem.F.plainAttrs_dict PySem.F.slot_dict_get PySem.F.type_dict_get (thn (ho.run pins s σ H (fun v H' => v = .ref da ∧ H' = H) I ⟨rfl, rfl⟩) fun u s1 ⟨x, H1, I1, rx, ex, eH⟩ => ?_)
  subst ex eH
  obtain rfl : u = Value.ref da := rx
  have hmp := mapI_K (prog := X.prog) (w := X.w) I1.kIn hK hE
  refine ⟨hmp.typeIs, hmp.noDict, ?_⟩
  rw [m.trees]
  refine Calls.callWith_builtin rfl (Calls.evalArgs_plain (Calls.spliced_cons (thn (he.run pins s1 σ _ (fun y H2 => ∃ F1, Rel X.K O F1 ρ σ H2 ∧ Ex F F1 ∧ y = .int k) I1 ⟨F, R, fun F1 H1 y e1 R1 by' => ⟨F1, R1, e1, (rp_int (by'.flat R1 rfl : Rp X.K F1 (.int k) y))⟩⟩) fun iv s2 ⟨y, H2, I2, ry, F1, R1, e1, ey⟩ =>
    Calls.spliced_cons (thn (hf.run pins s2 σ H2 (fun z H3 => ∃ F2, Rel X.K O F2 ρ σ H3 ∧ Ex F1 F2 ∧ Rp X.K F2 d0 z) I2 ⟨F1, R1, fun F2 H3 z e2 R2 rz => ⟨F2, R2, e2, rz⟩⟩) fun fv s3 ⟨z, H3, I3, rz, F2, R2, e2, rd⟩ => Calls.spliced_nil ?_))))
  subst ey
  obtain ⟨t, rfl⟩ := ry
  have hmp3 := mapI_K (prog := X.prog) (w := X.w) I3.kIn hK hE
  refine call_meetsIn PySem.F.slot_dict_get hmp3.typeIs PySem.F.entry_dict_get (PySem.F.args_dict_get_3 _ _ _) (meets_dict_get_default (k := k) (intKind X.prog X.w) da (show (intKind X.prog X.w).is k (.int k t) = true from by simp [intKind, Value.isInt]) hlo fv) ⟨_, hmp3, ⟨((lookD kvs k).map Vd).getD z, H3, I3.tok _, (mapI_find k hE).getD rz, kk F2 H3 _ (e1.trans e2) R2 ?_⟩⟩
  cases hk : lookD kvs k with
  | none => exact rd
  | some r => exact rp_Vd (lookD_is haa hk)
/-- cell[CE] -/
theorem rc_ixC {its : List Itm} {μ : Sto} {v : V} {u : V} (hr : ρ'[n]? = some (.st v μ)) (hk : μ[k1]? = some (q, .lst its)) (he : RE X O ρ a (.ref q)) (hb : CE X O ρ ρ' b (.int i)) (h : atI its i = some (.adr u)) (hs : PlainIx b := by exact fun _ _ => rfl) : RC X O ρ ρ' (.Subscript a b pos) u := pe_mono (pe_ix ix_list he hb hs) fun σ H Q ⟨F, R, kk⟩ => ⟨F, R, fun F1 H1 x e1 R1 ev => ⟨F1, R1, fun F2 H2 y e2 R2 by' => by
  cases (show x = V.ref q from ev)
  obtain ⟨_, _, xs, hx, rx⟩ := R2.cell hr hk
  obtain ⟨w, hw, rw'⟩ := it_atI rx h
  cases (show w = u from rw')
  exact ⟨q, xs, i, u, rfl, rp_int by', SqL.of hx, hw, kk F2 H2 u (e1.trans e2) R2 rfl⟩⟩⟩
end
end DL

namespace DL
open PySem PySem.Spec PyProof.Rows L2
/-! ### a store behind plain arguments -/
section
variable {K : Frg} {O F F' H H' : Hp} {ρ ρ' : List Sl} {σ : L2.St} {n m : Nat} {v u : V} {μ μ1 μ2 : Sto} {p : Addr} {o : HO}
theorem kp_stn {v u : V} {ds : List PyData} {μ0 μ : Sto} {r ρ' : List Sl} (j : Nat) (h : ρ'[j]? = some (.st u μ)) (hr : r.all noOwn = true := by rfl) : Kp (ds.map .va ++ .st v μ0 :: r) (ds.map .va ++ .st v μ :: r) ρ' := by
  induction ds generalizing ρ' with
  | nil => exact kp_st j h hr
  | cons d ds ih =>
    obtain ⟨_, h2⟩ := ih h
    refine ⟨by simp, fun i s z => ?_⟩
    cases i with
    | zero => cases z; rfl
    | succ i =>
      have h3 := h2 i s z
      cases s with
      | no => trivial
      | va d => exact h3
      | rw v φ => exact h3
      | ow p ds => exact h3
      | st v μ =>
        obtain ⟨a, j, u, b, c⟩ := h3
        refine ⟨a, j, u, b, fun l s hl z => ?_⟩
        cases l with
        | zero => cases z; rfl
        | succ l => exact c l s (fun e => hl (by rw [e])) z
theorem callGn_core {d0s : List PyData} {v0s : List V} {K : Frg} {F H : Hp} {σ : Sg} {S : List Sl → (List Sl → Out → Prop) → Prop} {Po : List Sl → Out → Prop} {r : List Sl} {vs : List V} {Q : VK} {E : XK} (R : Rel K O F ρ σ H) (hr : ρ[n]? = some (.st v (μ1 ++ μ2))) (r0 : RpAll K F d0s v0s) (rs : WsVs K F r vs) (hS : S (d0s.map .va ++ .st u μ1 :: r) Po)
    (hP : ∀ ρb o, Po ρb o → ∃ μ', ρb = d0s.map .va ++ .st u μ' :: r)
    (hq : ∀ μ' o F' H' w, Po (d0s.map .va ++ .st u μ' :: r) o → Ex F F' → Rel K O F' (ρ.set n (.st v (μ' ++ μ2))) σ H' → RvOk K O (ρ.set n (.st v (μ' ++ μ2))) F' H' w o → Q w H')
    (hx : ∀ μ' e F' H' cls od, Po (d0s.map .va ++ .st u μ' :: r) (.er e) → Ex F F' → Rel K O F' (ρ.set n (.st v (μ' ++ μ2))) σ H' → ErOk F' e cls od → E cls od H') : spG K S (v0s ++ u :: vs) H Q E := by
  obtain ⟨a, nd, all⟩ := R.st hr
  rw [List.map_append, List.nodup_append] at nd
  have hl : n < ρ.length := (List.getElem?_eq_some_iff.mp hr).1
  have R1 : Rel K O F (ρ.set n (.st v μ2)) σ H := R.less hr (List.sublist_append_right _ _)
  have h2 : (ρ.set n (.st v μ2))[n]? = some (.st v μ2) := List.getElem?_set_self hl
  have own1 : ∀ q, q ∈ μ1.map Prod.fst → ¬ Own (ρ.set n (.st v μ2)) q := fun q hq ⟨j, s, z, hs⟩ => by
    rcases sets_get z with ⟨_, y⟩ | ⟨hj, z⟩
    · subst y; exact nd.2.2 q hq q hs rfl
    · exact R.ap j n s _ q hj z hr hs (by show q ∈ (μ1 ++ μ2).map Prod.fst; rw [List.map_append]; exact List.mem_append_left _ hq)
  have Ra : Rel K (allO (ρ.set n (.st v μ2)) O H) F (d0s.map .va ++ .st u μ1 :: r) ((v0s ++ u :: vs).map some) H := by
    have hl0 : v0s.length = d0s.length := (all_len r0).symm
    have hlm : (d0s.map Sl.va).length = v0s.length := by rw [List.length_map, hl0]
    have own0 : ∀ (i : Nat) s, (d0s.map Sl.va ++ .st u μ1 :: r)[i]? = some s → i ≠ v0s.length → owns s = [] := fun i s z hi => by
      by_cases h1 : i < v0s.length
      · rw [List.getElem?_append_left (by rw [hlm]; exact h1)] at z
        obtain ⟨d, _, rfl⟩ := List.mem_map.mp (List.mem_of_getElem? z)
        rfl
      · rw [List.getElem?_append_right (by rw [hlm]; omega), hlm, show i - v0s.length = (i - v0s.length - 1) + 1 by omega, List.getElem?_cons_succ] at z
        exact (ws_sl (O := O) (H := H) rs z).2
    refine ⟨by rw [List.length_map, List.length_append, List.length_append, List.length_cons, List.length_cons, ws_len rs, hlm], R.fh, R1.toAll.oh, R1.toAll.dis, fun i s z => ?_, fun i j s t q hn z1 z2 g1 g2 => ?_⟩
    · rw [List.map_append, List.map_cons]
      by_cases h1 : i < v0s.length
      · rw [List.getElem?_append_left (by rw [List.length_map]; exact h1), List.getElem?_map]
        rw [List.getElem?_append_left (by rw [hlm]; exact h1), List.getElem?_map] at z
        obtain ⟨d, hd, rfl⟩ := Option.map_eq_some_iff.mp z
        obtain ⟨v1, hv, rv⟩ := all_get r0 hd
        rw [hv]
        exact ⟨v1, rfl, rv⟩
      · rw [List.getElem?_append_right (by rw [List.length_map]; omega), List.length_map]
        rw [List.getElem?_append_right (by rw [hlm]; omega), hlm] at z
        cases hk : i - v0s.length with
        | zero =>
          rw [hk] at z
          cases z
          refine ⟨rfl, nd.1, fun q c hc => ?_⟩
          obtain ⟨f, g, cc⟩ := all q c (List.mem_append_left _ hc)
          exact ⟨f, by rw [allO_no (own1 q (List.mem_map.mpr ⟨_, hc, rfl⟩))]; exact g, cc⟩
        | succ k =>
          rw [hk] at z
          exact (ws_sl rs (show r[k]? = some s from z)).1
    · by_cases hi : i = v0s.length
      · have hj : j ≠ v0s.length := fun e => hn (by rw [hi, e])
        rw [own0 j t z2 hj] at g2; exact absurd g2 List.not_mem_nil
      · rw [own0 i s z1 hi] at g1; exact absurd g1 List.not_mem_nil
  have back : ∀ μ' F' H', Ex F F' → Rel K (allO (ρ.set n (.st v μ2)) O H) F' (d0s.map .va ++ .st u μ' :: r) ((v0s ++ u :: vs).map some) H' → Rel K O F' (ρ.set n (.st v (μ' ++ μ2))) σ H' := fun μ' F' H' e Rb => by
    have R3 : Rel K O F' (ρ.set n (.st v μ2)) σ H' := R1.ofAll Rb e
    obtain ⟨_, ndb, allb⟩ := Rb.st (i := d0s.length) (by rw [List.getElem?_append_right (by rw [List.length_map]; exact Nat.le_refl _), List.length_map, Nat.sub_self]; rfl)
    have no : ∀ q c, (q, c) ∈ μ' → ¬ Own (ρ.set n (.st v μ2)) q ∧ O q = none := fun q c hc => by
      have g := (allb q c hc).2.1
      by_cases z : Own (ρ.set n (.st v μ2)) q
      · rw [allO_ow z] at g
        obtain ⟨j, s, z1, z2⟩ := z
        obtain ⟨_, _, o, ho⟩ := R1.has z1 z2
        rw [ho] at g; cases g
      · rw [allO_no z] at g; exact ⟨z, g⟩
    have R4 := R3.set1 (i := n) (s := .st v (μ' ++ μ2)) rfl (fun _ _ => rfl) (fun _ => ⟨a, by
      rw [List.map_append, List.nodup_append]
      refine ⟨ndb, nd.2.1, fun x hx y hy e => ?_⟩
      subst e
      obtain ⟨⟨q, c⟩, hm, rfl⟩ := List.mem_map.mp hx
      exact (no q c hm).1 ⟨n, _, h2, hy⟩, fun q c hc => by
      rcases List.mem_append.mp hc with hc | hc
      · exact ⟨(allb q c hc).1, (no q c hc).2, (allb q c hc).2.2⟩
      · exact (R3.st h2).2.2 q c hc⟩) fun j t q hj e h1 h3 => by
      rw [show owns (.st v (μ' ++ μ2)) = μ'.map Prod.fst ++ μ2.map Prod.fst by show (μ' ++ μ2).map Prod.fst = _; rw [List.map_append]] at h1
      rcases List.mem_append.mp h1 with h1 | h1
      · obtain ⟨⟨q', c⟩, hm, rfl⟩ := List.mem_map.mp h1
        exact (no q' c hm).1 ⟨j, t, e, h3⟩
      · exact R3.ap n j _ t q (Ne.symm hj) h2 e h1 h3
    rw [List.set_set] at R4
    exact R4
  refine ⟨allO (ρ.set n (.st v μ2)) O H, F, d0s.map .va ++ .st u μ1 :: r, Po, Ra, hS, fun ρb o F' H' w po e Rb rv => ?_, fun ρb er F' H' cls od po e Rb ok => ?_⟩
  · obtain ⟨μ', rfl⟩ := hP ρb o po
    refine hq μ' o F' H' w po e (back μ' F' H' e Rb) ?_
    have hnw : ∀ {w : V} {ds : List PyData}, NewL K (allO (ρ.set n (.st v μ2)) O H) (d0s.map .va ++ .st u μ' :: r) F' H' w ds → NewL K O (ρ.set n (.st v (μ' ++ μ2))) F' H' w ds := fun {w ds} rv => by
      obtain ⟨p, xs, ev, f, g, ap, hp, rr⟩ := rv
      have z : ¬ Own (ρ.set n (.st v μ2)) p := fun z => by
        rw [allO_ow z] at g
        obtain ⟨j, s, z1, z2⟩ := z
        obtain ⟨_, _, o, ho⟩ := R1.has z1 z2
        rw [ho] at g; cases g
      refine ⟨p, xs, ev, f, by rw [allO_no z] at g; exact g, fun j s e hs => ?_, hp, rr⟩
      rcases sets_get e with ⟨_, y⟩ | ⟨hj, e⟩
      · subst y
        rw [show owns (.st v (μ' ++ μ2)) = μ'.map Prod.fst ++ μ2.map Prod.fst by show (μ' ++ μ2).map Prod.fst = _; rw [List.map_append]] at hs
        rcases List.mem_append.mp hs with hs | hs
        · exact ap d0s.length (.st u μ') (by rw [List.getElem?_append_right (by rw [List.length_map]; exact Nat.le_refl _), List.length_map, Nat.sub_self]; rfl) hs
        · exact z ⟨n, _, h2, hs⟩
      · exact z ⟨j, s, by rw [List.getElem?_set_ne (Ne.symm hj)]; exact e, hs⟩
    cases o with
    | ok d => exact rv
    | er e => exact rv.elim
    | nw ds => exact hnw rv
    | tn d0 ds => obtain ⟨q, h1, h2⟩ := rv; exact ⟨q, hnw h1, h2⟩
  · obtain ⟨μ', rfl⟩ := hP ρb _ po
    exact hx μ' er F' H' cls od po e (back μ' F' H' e Rb) ok
end
section
variable {X : Cx} {O : Hp} {W : WX} {ρ ρ' : List Sl} {e a b c tg : Expr} {es : List Expr} {d : PyData} {ds ds' : List PyData} {pos pos' p' p2 ap cp : Pos} {i j : Int} {D : Dk} {n k m : Nat} {p q : Addr} {v u : V} {μ μ1 μ2 : Sto}
def tG2 (d0 d1 : PyData) (K : Frg) (O : Hp) (ρ : List Sl) (n : Nat) (v u : V) (μ2 : Sto) (r : List Sl) (Po : List Sl → Out → Prop) : TE := fun σ H Q => ∃ F, Rel K O F ρ σ H ∧ ∀ μ' o F' H' w, Po (.va d0 :: .va d1 :: .st u μ' :: r) o → Ex F F' → Rel K O F' (ρ.set n (.st v (μ' ++ μ2))) σ H' → RvOk K O (ρ.set n (.st v (μ' ++ μ2))) F' H' w o → Q w H'
theorem x_callG2 {a0 a1 : Expr} {d0 d1 : PyData} {g : Str} {gp : Pos} {l : Nat} {S : List Sl → (List Sl → Out → Prop) → Prop} {Po : List Sl → Out → Prop} {r : List Sl} (G : HasG X.prog X.w X.K X.mg X.base g l S) (hrm : Room l X.A) (hr : ρ[n]? = some (.st v (μ1 ++ μ2))) (h00 : DE X O ρ a0 d0) (h01 : DE X O ρ a1 d1) (h0 : RE X O ρ a u) (ha : AW X O ρ es r) (hS : S (.va d0 :: .va d1 :: .st u μ1 :: r) Po) (hP : ∀ ρb o, Po ρb o → ∃ μ', ρb = .va d0 :: .va d1 :: .st u μ' :: r) (ne : ∀ ρb e, ¬ Po ρb (.er e))
    (hg : Gl X g := by rfl) (hdb : (g == ("__debug__" : Str)) = false := by decide) (he0 : starEach (a0 :: a1 :: a :: es) X.env = (false, eval a0 X.env) :: starEach (a1 :: a :: es) X.env := by rfl) (he1 : starEach (a1 :: a :: es) X.env = (false, eval a1 X.env) :: starEach (a :: es) X.env := by rfl) (he : starEach (a :: es) X.env = (false, eval a X.env) :: starEach es X.env := by rfl) (hpl : (backTo pos (starEach (a1 :: a :: es) X.env)).any (·.1) = false := by rfl) : PE X (.Call (.Name g gp) (a0 :: a1 :: a :: es) [] pos) (tG2 d0 d1 X.K O ρ n v u μ2 r Po) := by
  obtain ⟨fa, fd, ps, hm, hk, hb, F⟩ := G.ex
  refine pe_mono (pe_call F hrm hg hm hk hb .nil (E := E0) passL' (pa_cons h00 (pa_cons h01 (pa_cons h0 ha he) he1) he0) hdb he0 hpl) fun σ H Q ⟨F0, R, kk⟩ => ⟨F0, R, fun Fa Ha wa ea Ra ra => ⟨Fa, Ra, fun Fb Hb wb eb Rb rb => ⟨Fb, Rb, fun F1 H1 w e1 R1 ew => ⟨F1, R1, fun F2 H2 vs e2 R2 rs => ?_⟩⟩⟩⟩
  cases (show w = u from ew)
  show spG X.K S ((wa :: wb :: u :: vs) ++ []) H2 Q E0
  rw [List.append_nil]
  exact callGn_core (d0s := [d0, d1]) (v0s := [wa, wb]) R2 hr (mk_cons (ra.mono (eb.trans (e1.trans e2))) (mk_cons (rb.mono (e1.trans e2)) mk_nil)) rs hS hP (fun μ' o F' H' w' po e R' rv => kk μ' o F' H' w' po ((((ea.trans eb).trans e1).trans e2).trans e) R' rv) fun μ' e F' H' cls od po _ _ _ => absurd po (ne _ e)
theorem ce_callG2 {a0 a1 : Expr} {d0 d1 : PyData} {g : Str} {gp : Pos} {l : Nat} {S : List Sl → (List Sl → Out → Prop) → Prop} {r : List Sl} {μ' : Sto} (G : HasG X.prog X.w X.K X.mg X.base g l S) (hrm : Room l X.A) (hr : ρ[n]? = some (.st v μ1)) (h00 : DE X O ρ a0 d0) (h01 : DE X O ρ a1 d1) (h0 : RE X O ρ a u) (ha : AW X O ρ es r) (hS : S (.va d0 :: .va d1 :: .st u μ1 :: r) fun ρb o => ρb = .va d0 :: .va d1 :: .st u μ' :: r ∧ o = .ok d)
    (hg : Gl X g := by rfl) (hdb : (g == ("__debug__" : Str)) = false := by decide) (he0 : starEach (a0 :: a1 :: a :: es) X.env = (false, eval a0 X.env) :: starEach (a1 :: a :: es) X.env := by rfl) (he1 : starEach (a1 :: a :: es) X.env = (false, eval a1 X.env) :: starEach (a :: es) X.env := by rfl) (he : starEach (a :: es) X.env = (false, eval a X.env) :: starEach es X.env := by rfl) (hpl : (backTo pos (starEach (a1 :: a :: es) X.env)).any (·.1) = false := by rfl) : CE X O ρ (ρ.set n (.st v μ')) (.Call (.Name g gp) (a0 :: a1 :: a :: es) [] pos) d :=
  pe_mono (x_callG2 (μ2 := []) G hrm (by rw [List.append_nil]; exact hr) h00 h01 h0 ha hS (fun ρb o h => ⟨μ', h.1⟩) (fun ρb e h => nomatch h.2) hg hdb he0 he1 he hpl) fun σ H Q ⟨F, R, kk⟩ => ⟨F, R, fun μ2' o F' H' w po e R' rv => by
    obtain ⟨h1, h2⟩ := po
    cases h1; cases h2
    rw [List.append_nil] at R' rv
    exact kk F' H' w e R' rv⟩
end
end DL

namespace DL
open PySem PySem.Spec PyProof.Rows L2
section
variable {X : Cx} {O : Hp} {W : WX} {ρ : List Sl} {a tg : Expr} {ds : List PyData} {p pos : Pos}
/-- for x in reversed(a list) -/
theorem ie_rev (hm : X.mg "reversed" = none) (h : DE X O ρ a (.list ds)) (hg : Gl X "reversed" := by rfl) (he : starEach [a] X.env = (false, eval a X.env) :: starEach [] X.env := by rfl) : IE X O ρ tg (.Call (.Name "reversed" p) [a] [] pos) ds.reverse :=
  pi_mono (RT.pi_revA hg hm h he) fun σ H Q ⟨F, R, k⟩ => ⟨F, R, fun F1 H1 v e1 R1 r => by
    obtain ⟨l, xs, rfl, hx, rx⟩ := rp_lst r
    refine ⟨l, xs, rfl, .inl ⟨SqL.of (R1.fh _ _ hx), k F1 H1 _ (fun H => SqL X.K H l xs) e1 R1 ?_ fun H2 e => SqL.of (e _ _ hx)⟩⟩
    rw [List.length_reverse, all_len rx]
    exact walk_rev.mono (fun _ h => h) fun i H x H' hi _ y => ⟨y.1, by
      obtain ⟨d, hd, rd⟩ := all_got rx y.2
      refine ⟨d, ?_, rd⟩
      rw [List.getElem?_reverse (by rw [all_len rx]; exact hi), all_len rx]
      exact hd⟩⟩
end
end DL

namespace DL
open PySem PySem.Spec PyProof.Rows L2
section
variable {X : Cx} {O : Hp} {W : WX} {ρ : List Sl} {a : Expr} {d : PyData} {p2 pos : Pos}
/-- whether data are just this truth -/
def isTB (y : Bool) : PyData → Bool
  | .bool x => decide (x = y)
  | _ => false
theorem isTB_iff {K : Frg} {F : Hp} {y : Bool} {d : PyData} {v : V} (h : Rp K F d v) : decide (v = .bl y) = isTB y d := by
  cases d with
  | none => rw [rp_non h]; rfl
  | bool b => rw [rp_bl h]; cases b <;> cases y <;> rfl
  | int => rw [rp_int h]; rfl
  | str => rw [rp_str h]; rfl
  | list => obtain ⟨a, xs, rfl, _⟩ := rp_lst h; rfl
  | tuple => obtain ⟨a, xs, rfl, _⟩ := rp_tup h; rfl
  | dict => unfold Rp at h; obtain ⟨a, ns, rfl, _⟩ := h; rfl
theorem op_isBD {y : Bool} : OpR X (compareOp .Is) (fun x z H Q => (x = .non ∨ (∃ a, x = .bl a) ∨ ∃ a, x = .ref a) ∧ z = .bl y ∧ Q (.bl (decide (x = .bl y))) H) := by
  intro pins s σ H x z v u Q I rx rz h
  obtain ⟨hx, rfl, q⟩ := h
  cases (show u = Value.bool y from rz)
  rcases hx with rfl | ⟨a, rfl⟩ | ⟨a, rfl⟩
  · cases (show v = Value.none from rx)
    exact wpAny_pure ⟨.bl false, H, I, rfl, q⟩
  · cases (show v = Value.bool a from rx)
    by_cases e : a = y
    · subst e
      exact wpAny_is_self rfl ⟨.bl true, H, I, rfl, by simpa using q⟩
    · exact wpAny_is_other rfl (fun z => e (Value.bool.inj z)) ⟨.bl false, H, I, rfl, by simpa [e] using q⟩
  · cases (show v = Value.ref a from rx)
    exact wpAny_pure ⟨.bl false, H, I, rfl, q⟩
def isBDd : PyData → Bool
  | .int _ | .str _ => false
  | _ => true
theorem opd_isBD {y : Bool} (hd : isBDd d = true) : OpD X.K O ρ (fun x z H Q => (x = .non ∨ (∃ a, x = .bl a) ∨ ∃ a, x = .ref a) ∧ z = .bl y ∧ Q (.bl (decide (x = .bl y))) H) d (.bool y) (PD X.K (.bool (isTB y d))) := fun σ F H x z G G' Q R _ _ rx _ _ rz k => ⟨by
  cases d with
  | none => exact .inl (rp_non rx)
  | bool b => exact .inr (.inl ⟨b, rp_bl rx⟩)
  | int => cases hd
  | str => cases hd
  | list => obtain ⟨a, xs, rfl, _⟩ := rp_lst rx; exact .inr (.inr ⟨a, rfl⟩)
  | tuple => obtain ⟨a, xs, rfl, _⟩ := rp_tup rx; exact .inr (.inr ⟨a, rfl⟩)
  | dict => unfold Rp at rx; obtain ⟨a, ns, rfl, _⟩ := rx; exact .inr (.inr ⟨a, rfl⟩), rp_bl rz, by rw [isTB_iff rx]; exact k F H _ (Ex.refl _) R mk_bl⟩
theorem dt_isBD {y : Bool} {jj : Nat} (ha : BE X O ρ a d) (hd : isBDd d = true) : DT X O ρ (.Compare a [.Is] [.Constant (.bool y) jj p2] pos) (isTB y d) := x_cmpT op_isBD (opd_isBD hd) (nmk nofun nofun) ha de_bl.b
end
end DL

namespace DL
open PySem PySem.Spec PyProof.Rows L2
section
variable {X : Cx} {O : Hp} {W : WX} {ρ : List Sl} {a b : Expr} {i : Int} {ap cp : Pos}
theorem eqV_int (x y : Int) : eqV (.int x) (.int y) = decide (x = y) := by
  unfold eqV
  by_cases h : x = y
  · subst h; simp
  · simp [h]
/-- xs.index(i) of whole numbers -/
theorem de_indexI {ns : List Int} {j : Nat} (ha : DE X O ρ a (.list (ns.map .int))) (hb : BE X O ρ b (.int i)) (hj : ns[j]? = some i) (hno : ∀ m, m < j → ns[m]? ≠ some i)
    (hbase : attributeBase a "index" X.env (eval a X.env) = eval a X.env := by rfl)
    (hfew : ((backTo cp (starEach [b] X.env)).all (fun x => !x.1) && (backToKw cp (keywordEach [] X.env)).all (fun x => x.1.isSome) && decide ([b].length + ([] : List Keyword).length + (if ([] : List Keyword).isEmpty then 0 else 1) < 30)) = true := by rfl)
    (hline : (ap.endLine == cp.line) = true := by rfl) (hs : starEach [b] X.env = (false, eval b X.env) :: starEach [] X.env := by rfl) (hpl : (backTo cp (starEach [] X.env)).any (·.1) = false := by rfl) :
    DE X O ρ (.Call (.Attribute a "index" ap) [b] [] cp) (.int (j : Int)) :=
  pe_mono (pe_bm PySem.F.plainAttrs_list PySem.F.slot_list_index PySem.F.type_list_index mt_index ha (pa_cons hb pa_nil hs) hbase hfew hline hs hpl) fun σ H Q ⟨F, R, kk⟩ => ⟨F, R, fun F1 H1 v e1 R1 r => by
    obtain ⟨l, xs, rfl, hx, rx⟩ := rp_lst r
    have hxs := all_ints rx
    refine ⟨.inl ⟨rfl, xs, SqL.of (R1.fh _ _ hx)⟩, F1, R1, fun F2 H2 u e2 R2 bu => ?_⟩
    cases rp_int (bu.flat R2 rfl : Rp X.K F2 (.int i) u)
    refine ⟨l, xs, .int i, j, .int i, rfl, rfl, SqL.of (R2.fh _ _ (e2 _ _ hx)), rfl, ?_, ?_, by rw [eqV_int]; exact decide_eq_true rfl, fun m z hm hz => ?_, kk F2 H2 _ (e1.trans e2) R2 mk_int⟩
    · rw [hxs, List.all_map]; exact List.all_eq_true.mpr fun _ _ => rfl
    · rw [hxs, List.getElem?_map, hj]; rfl
    · rw [hxs, List.getElem?_map] at hz
      cases hq : ns[m]? with
      | none => rw [hq] at hz; cases hz
      | some y =>
        rw [hq] at hz
        cases hz
        rw [eqV_int]
        exact decide_eq_false fun e => hno m hm (by rw [hq, e])⟩
end
end DL

namespace DL
open PySem PySem.Spec PyProof.Rows L2
/-! ### a dict of the module, its keys texts -/
def lookS (kvs : List (Str × PyData)) (k : Str) : Option PyData := (kvs.find? fun p => decide (p.1 = k)).map (·.2)
def EntS (w : World) : List (Str × PyData) → List DictEntry → Prop
  | [], [] => True
  | p :: r, e :: es => (∃ t, e.key = .str p.1 t) ∧ e.hash = hashStr w p.1 ∧ RelV (Vd p.2) e.val ∧ EntS w r es
  | _, _ => False
def KDs (w : World) (K : Frg) (mg : Str → Option Value) (x : Str) (kvs : List (Str × PyData)) : Prop :=
  ∃ (d : Addr) (es : Array DictEntry) (n : Nat), mg x = some (.ref d) ∧ K.lookup d = some ⟨.type "dict", none, .dict es n, #[]⟩ ∧ (d == sysModules) = false ∧ EntS w kvs es.toList ∧ kvs.all (fun p => isIS p.2) = true
theorem entS_keys : ∀ {kvs : List (Str × PyData)} {l : List DictEntry}, EntS w kvs l → ∀ e ∈ l, ∃ k : Str, Value.isStrOf k e.key = true ∧ e.hash = hashStr w k
  | [], [], _, e, he => absurd he List.not_mem_nil
  | p :: r, z :: es, h, e, he => by
    obtain ⟨⟨t, h1⟩, h2, _, h4⟩ := h
    rcases List.mem_cons.mp he with rfl | he
    · exact ⟨p.1, by rw [h1]; simp [Value.isStrOf], h2⟩
    · exact entS_keys h4 e he
theorem entS_find (k : Str) : ∀ {kvs : List (Str × PyData)} {l : List DictEntry}, EntS w kvs l → RelO ((lookS kvs k).map Vd) ((l.find? fun e => Value.isStrOf k e.key).map (·.val))
  | [], [], _ => True.intro
  | p :: r, z :: es, h => by
    obtain ⟨⟨t, h1⟩, h2, h3, h4⟩ := h
    have ih := entS_find k h4
    unfold lookS at *
    rw [List.find?_cons, List.find?_cons, h1]
    by_cases e : p.1 = k
    · rw [decide_eq_true e, show Value.isStrOf k (.str p.1 t) = true by simp [Value.isStrOf, e]]
      exact h3
    · rw [decide_eq_false e, show Value.isStrOf k (.str p.1 t) = false by simp [Value.isStrOf, e]]
      exact ih
theorem mapS_K {prog : Program} {w : World} {K : Frg} {h : Heap} {d : Addr} {es : Array DictEntry} {n : Nat} {kvs : List (Str × PyData)} (X : K.In h) (hl : K.lookup d = some ⟨.type "dict", none, .dict es n, #[]⟩) (hk : EntS w kvs es.toList) : h.MapOf (PySem.strKind prog w) d (fun k => findBy Value.isStrOf es k) :=
  ⟨_, es, n, X _ _ hl, ⟨rfl, rfl, rfl⟩, rfl, fun e he => entS_keys hk e (Array.mem_toList_iff.mpr he), fun _ => rfl⟩
theorem mapS_find {es : Array DictEntry} {kvs : List (Str × PyData)} (k : Str) (hk : EntS w kvs es.toList) : RelO ((lookS kvs k).map Vd) (findBy Value.isStrOf es k) := by
  have h := entS_find k hk
  obtain ⟨l⟩ := es
  unfold findBy
  rw [List.find?_toArray]
  exact h
theorem lookS_is {kvs : List (Str × PyData)} {k : Str} {d : PyData} (ha : kvs.all (fun p => isIS p.2) = true) (h : lookS kvs k = some d) : isIS d = true := by
  unfold lookS at h
  cases hf : kvs.find? (fun p => decide (p.1 = k)) with
  | none => rw [hf] at h; cases h
  | some p => rw [hf] at h; cases h; exact List.all_eq_true.mp ha p (List.mem_of_find?_eq_some hf)
section
variable {X : Cx} {O : Hp} {W : WX} {ρ ρ' : List Sl} {D : Dk} {a b e f : Expr} {pos p2 p' : Pos} {n m k1 : Nat} {i v : Int} {x g k : Str} {p q : Addr} {kvs : List (Str × PyData)} {d d0 : PyData} {ds : List PyData}
/-- G[k] -/
def rIxS (w : World) (K : Frg) (mg : Str → Option Value) (g : Str) (kvs : List (Str × PyData)) : R2 := fun x y H Q => ∃ (d : Addr) (es : Array DictEntry) (n : Nat) (k : Str) (r : PyData), x = .ref d ∧ y = .str k ∧ K.lookup d = some ⟨.type "dict", none, .dict es n, #[]⟩ ∧ EntS w kvs es.toList ∧ lookS kvs k = some r ∧ Q (Vd r) H
theorem ix_kds {mg : Str → Option Value} : IxR X (rIxS X.w X.K mg g kvs) := by
  intro value slice pins s σ H x y v u Q I rx ry h hs
  obtain ⟨d, es, n, k, r, rfl, rfl, hl, hk, hf, q⟩ := h
  obtain rfl : v = Value.ref d := rx
  obtain ⟨t, rfl⟩ := ry
  have hm := mapS_K (prog := X.prog) (w := X.w) I.kIn hl hk
  have hr := mapS_find k hk
  rw [hf] at hr
  obtain ⟨u, e, ru⟩ := RelO.some_of hr
  exact tail_any hm.typeIs slot_dict_getitem.lookup (wpAny_getItem_of (show (PySem.strKind X.prog X.w).is k (.str k t) = true from by simp [PySem.strKind, Value.isStrOf]) hm e ⟨Vd r, H, I.tok _, ru, q⟩) hs
theorem de_ixKS (h : KDs X.w X.K X.mg g kvs) (hb : BE X O ρ b (.str k)) (hl : lookS kvs k = some d) (hg : Gl X g := by rfl) (hd : (g == ("__debug__" : Str)) = false := by decide) (hs : PlainIx b := by exact fun _ _ => rfl) : DE X O ρ (.Subscript (.Name g p2) b pos) d := by
  obtain ⟨da, es, nn, hm, hK, hlo, hE, ha⟩ := h
  refine pe_mono (pe_ix (ix_kds (g := g) (kvs := kvs) (mg := X.mg)) (pe_glob (v := .ref da) hg hm rfl hd) hb hs) fun σ H Q ⟨F, R, kk⟩ => ⟨F, R, fun F1 H1 y e1 R1 by' => ?_⟩
  exact ⟨da, es, nn, k, d, rfl, rp_str (by'.flat R1 rfl : Rp X.K F1 (.str k) y), hK, hE, hl, kk F1 H1 _ e1 R1 (rp_Vd (lookS_is ha hl))⟩
/-- k in G -/
theorem op_in_ks {da : Addr} {es : Array DictEntry} {nn : Nat} (hK : X.K.lookup da = some ⟨.type "dict", none, .dict es nn, #[]⟩) (hlo : (da == sysModules) = false) (hE : EntS X.w kvs es.toList) : OpR X (compareOp .In) (fun x y H Q => ∃ (k : Str), x = .str k ∧ y = .ref da ∧ Q (.bl (lookS kvs k).isSome) H) := by
  intro pins s σ H x y v u Q I rx ry h
  obtain ⟨k, rfl, rfl, q⟩ := h
  obtain ⟨t, rfl⟩ := rx
  cases ry
  refine wpAny_in_of (knd := strKind X.prog X.w) (k := k) (show Value.isStrOf k (.str k t) = true by simp [Value.isStrOf]) hlo (mapS_K (prog := X.prog) (w := X.w) I.kIn hK hE) ?_
  have hr := (mapS_find k hE).isSome_eq
  rw [← hr, Option.isSome_map]
  exact ⟨.bl _, H, I.tok _, rfl, q⟩
theorem dt_inKS (h : KDs X.w X.K X.mg g kvs) (ha : BE X O ρ a (.str k)) (hg : Gl X g := by rfl) (hd : (g == ("__debug__" : Str)) = false := by decide) : DT X O ρ (.Compare a [.In] [.Name g p2] pos) (lookS kvs k).isSome := by
  obtain ⟨da, es, nn, hm, hK, hlo, hE, haa⟩ := h
  refine pt_mono (pt_cmpR (op_in_ks hK hlo hE) ha (pe_glob (v := .ref da) hg hm rfl hd) rfl) fun σ H Q ⟨F, R, kk⟩ => ⟨F, R, fun F1 H1 y e1 R1 by' => ?_⟩
  exact ⟨k, rp_str (by'.flat R1 rfl : Rp X.K F1 (.str k) y), rfl, _, rfl, kk F1 H1 e1 R1⟩
end
end DL

namespace DL
open PySem PySem.Spec PyProof.Rows L2
section
variable {X : Cx} {O : Hp} {W : WX} {ρ : List Sl} {a b e f : Expr} {i k v : Int} {m : Nat} {d : PyData} {ds : List PyData} {pos p2 ap cp : Pos}
/-- {1: 2, ..}.get(k, v) -/
theorem de_getL {ks : List (Option Expr)} {vs : List Expr} (kvs : List (Int × Int)) (hr : Room m X.A) (he : BE X O ρ e (.int k)) (hf : DE X O ρ f (.int v)) (hd : isDI ks vs kvs = true := by decide) (hm : mergeK [] (DcI kvs) = DcI kvs := by rfl) (h0 : ks ≠ [] := by exact List.cons_ne_nil _ _) (h15 : kvs.length ≤ 15 := by decide)
    (mm : M2 X (.Dict ks vs p2) "get" ap e f cp := by exact ⟨by rfl, by rfl, by rfl, by rfl⟩) : DE X O ρ (.Call (.Attribute (.Dict ks vs p2) "get" ap) [e, f] [] cp) (.int ((lookI kvs k).getD v)) := by
  have hu : X.A.units + 1 < cLine := by have := hr.un; omega
  obtain ⟨h1, h2, h3⟩ := isDI_all hd
  refine pe_mono (pe_dget2 hu (pe_disp (pps_ints hd) h1 (h2.trans h3.symm) h0 (by omega)) he hf mm) fun σ H Q ⟨F, R, kk⟩ => ?_
  intro p hp
  refine tPairs_ints ⟨upd_same, DcI kvs, ?_, ?_, ?_⟩
  · unfold DcI; rw [List.map_map]; rfl
  · unfold DcI; rw [List.length_map]; exact h15
  · rw [hm, upd_upd]
    have R2 := R.new (o := .dK (DcI kvs)) hp
    have hF : F p = none := by cases h : F p with | none => rfl | some o => rw [R.fh _ _ h] at hp; cases hp
    refine ⟨p, rfl, .inl ⟨DcI kvs, .inl upd_same⟩, upd F p (.dK (DcI kvs)), R2, fun F1 H1 y e1 R1 by' => ⟨F1, R1, fun F2 H2 z e2 R3 rz => ?_⟩⟩
    obtain rfl := rp_int (by'.flat R1 rfl : Rp X.K F1 (.int k) y)
    obtain rfl := rp_int rz
    have hg := DGet.k (k := .inl k) (R3.fh _ _ (e2 _ _ (e1 _ _ upd_same)))
    rw [valV_DcI] at hg
    refine ⟨(lookI kvs k).map .int, hg, kk F2 H2 _ ((Ex.new hF).trans (e1.trans e2)) R3 ?_⟩
    cases lookI kvs k with
    | none => exact mk_int
    | some w => exact mk_int
/-- a in (b, ..), of data -/
def rInT (K : Frg) : R2 := fun x y H Q => ∃ d ds, Dp K H x d ∧ Dp K H y (.tuple ds) ∧ d.canLay0 = true ∧ (PyData.tuple ds).canLay0 = true ∧ d.depth ≤ 190 ∧ Q (.bl (ds.any fun z => PyData.eqv z d)) H
theorem op_inT (hr : Room m X.A) : OpR X (compareOp .In) (rInT X.K) := by
  intro pins s σ H x y v u Q I rx ry h
  obtain ⟨d, ds, hd, he, sd, se, hl, q⟩ := h
  obtain ⟨as, r1⟩ := Dp.reads I d x v hd rx
  obtain ⟨bs, r2⟩ := Dp.reads I (.tuple ds) y u he ry
  exact SeqAt.in_tuple_reads r2 r1 se sd (by have := hr.un; omega) ⟨.bl _, H, I, rfl, q⟩
theorem opd_inT (ha : Lay d) (hb : (PyData.tuple ds).canLay0 = true) : OpD X.K O ρ (rInT X.K) d (.tuple ds) (PD X.K (.bool (ds.any fun z => PyData.eqv z d))) := fun σ F H x y G G' Q R _ g rx _ g' ry kk =>
  ⟨d, ds, dp_of (lay0_of ha.c) (rx.mono g), dp_of (lay0_of hb) (ry.mono g'), ha.c, hb, ha.h, kk F H _ (Ex.refl _) R mk_bl⟩
theorem de_inT (hr : Room m X.A) (h1 : BE X O ρ a d) (h2 : BE X O ρ b (.tuple ds)) (ha : Lay d) (hb : (PyData.tuple ds).canLay0 = true) (hm : behindInMarks .In b = false := by with_unfolding_all rfl) : DE X O ρ (.Compare a [.In] [b] pos) (.bool (ds.any fun z => PyData.eqv z d)) := x_cmp (op_inT hr) (opd_inT ha hb) hm h1 h2
end
end DL

namespace DL
open PySem PySem.Spec PyProof.Rows L2
theorem all_reverse {K : Frg} {F : Hp} : ∀ {ds : List PyData} {xs : List V}, RpAll K F ds xs → RpAll K F ds.reverse xs.reverse
  | [], _, h => by rw [all_nil h]; exact mk_nil
  | d :: ds, _, h => by
    obtain ⟨v, vs, rfl, a, h⟩ := all_cons h
    rw [List.reverse_cons, List.reverse_cons]
    exact all_app (all_reverse h) (mk_cons a mk_nil)
section
variable {X : Cx} {O : Hp} {W : WX} {ρ : List Sl} {a b c e f : Expr} {i j k v : Int} {m n : Nat} {d : PyData} {ds : List PyData} {pos p2 ap cp : Pos} {p : Addr}
theorem de_ltlt {k : Int} (ha : BE X O ρ a (.int i)) (hb : BE X O ρ b (.int j)) (hc : BE X O ρ c (.int k)) (hm : lastMarks [.Lt, .Lt] [b, c] = false := by with_unfolding_all rfl) : DE X O ρ (.Compare a [.Lt, .Lt] [b, c] pos) (.bool (decide (i < j) && decide (j < k))) :=
  de_chain op_lt op_lt (opd_I0 fun _ => mk_bl) (opd_I0 fun _ => mk_bl) ha hb hc hm
theorem dt_ltlt {k : Int} (ha : BE X O ρ a (.int i)) (hb : BE X O ρ b (.int j)) (hc : BE X O ρ c (.int k)) (hm : lastMarks [.Lt, .Lt] [b, c] = false := by with_unfolding_all rfl) : DT X O ρ (.Compare a [.Lt, .Lt] [b, c] pos) (decide (i < j) && decide (j < k)) :=
  dt_chain op_lt op_lt (opd_I0 fun _ => mk_bl) (opd_I0 fun _ => mk_bl) ha hb hc hm
/-- xs.reverse() -/
theorem ce_reverse (hr : ρ[n]? = some (.ow p ds)) (ho : RE X O ρ a (.ref p))
    (hbase : attributeBase a "reverse" X.env (eval a X.env) = eval a X.env := by rfl) (hline : (ap.endLine == cp.line) = true := by rfl) :
    CE X O ρ (ρ.set n (.ow p ds.reverse)) (.Call (.Attribute a "reverse" ap) [] [] cp) .none :=
  pe_mono (pe_bm0 PySem.F.plainAttrs_list PySem.F.slot_list_reverse PySem.F.type_list_reverse mt_reverse ho hbase hline) fun σ H Q ⟨F, R, kk⟩ => ⟨F, R, fun F1 H1 v e1 R1 ev => by
    cases (show v = V.ref p from ev)
    obtain ⟨_, _, _, xs, h, rx⟩ := R1.ow hr
    exact ⟨tyL R1 hr, p, xs, rfl, rfl, h, kk F1 _ _ e1 (R1.mutOw hr (all_reverse rx)) mk_non⟩⟩
end
end DL

namespace DL
open PySem PySem.Spec PyProof.Rows L2
/-! ### a local's own dict, its keys whole numbers, all of them True -/
def putI (ks : List Int) (k : Int) : List Int := if k ∈ ks then ks else ks ++ [k]
abbrev DcT (ks : List Int) : List (Key × V) := ks.map fun k => (Sum.inl k, V.bl true)
theorem putI_K (ks : List Int) (k : Int) : putK (DcT ks) (Sum.inl k) (V.bl true) = DcT (putI ks k) := by
  unfold putK putI
  have h : (DcT ks).any (fun kv => decide (kv.1 = Sum.inl k)) = decide (k ∈ ks) := by
    rw [List.any_map]
    induction ks with
    | nil => rfl
    | cons x r ih =>
      rw [List.any_cons, ih]
      show (decide ((Sum.inl x : Key) = Sum.inl k) || _) = _
      by_cases e : x = k
      · subst e; simp
      · rw [decide_eq_false (fun z => e (Sum.inl.inj z)), Bool.false_or]
        by_cases e2 : k ∈ r
        · rw [decide_eq_true e2, decide_eq_true (List.mem_cons_of_mem _ e2)]
        · rw [decide_eq_false e2, decide_eq_false (by rw [List.mem_cons, not_or]; exact ⟨fun z => e z.symm, e2⟩)]
  rw [h]
  by_cases hk : k ∈ ks
  · rw [if_pos (decide_eq_true hk), if_pos hk, List.map_map]
    refine List.map_congr_left fun x _ => ?_
    show (if (Sum.inl x : Key) = Sum.inl k then _ else _) = _
    split <;> rfl
  · rw [if_neg (by rw [decide_eq_false hk]; exact Bool.false_ne_true), if_neg hk]; simp [DcT]
section
variable {X : Cx} {O : Hp} {W : WX} {ρ : List Sl} {D : Dk} {a b c e f : Expr} {i j k v : Int} {m n l : Nat} {d : PyData} {ds : List PyData} {pos p2 p' ap cp : Pos} {p q : Addr} {x : Str} {ks : List Int} {μ : Sto} {u : V}
/-- x = {} -/
theorem ds_newDK (hN : X.N.Nodup) (hk : ∀ p, D.nx (ρ.set n (.st (.ref p) [(p, .dct [])]))) (hi : X.N[n]? = some x := by rfl) (hx : Loc X.env.scope x := by first | exact Or.inl rfl | exact Or.inr rfl)
    (hs : swapsWith (.Dict [] [] p2) (some (.Name x p')) pos.line X.env = pure false := by rfl) (hf : X.fn x = true := by rfl) : DS X O W ρ (.Assign [.Name x p'] (.Dict [] [] p2) pos) D := by
  refine ps_mono (ps_set hN hi hx pe_dnewK hs (.inl hf)) fun E σ H ⟨F, R, q⟩ => ?_
  intro p hp
  have R1 := R.newH (o := .dK []) hp
  have ha := R.fresh_apart hp
  have hF : F p = none := R.fh.back hp
  have hO : O p = none := R.oh.back hp
  refine q.nx F _ _ _ (Ex.refl _) (R1.set1 (s := .st (.ref p) [(p, .dct [])]) List.length_set (fun j h => set_ne? h) (fun hl => ⟨List.getElem?_set_self (R.lt hl), List.nodup_cons.mpr ⟨List.not_mem_nil, List.nodup_nil⟩, fun q' c hc => ?_⟩) fun j t q' hj e h1 h2 => ?_) (hk p)
  · cases List.mem_singleton.mp hc
    exact ⟨hF, hO, upd_same⟩
  · rw [show q' = p from List.mem_singleton.mp h1] at h2
    exact ha j t e h2
/-- x[k] = True -/
theorem ds_setDK (hr : Room m X.A) (h : ρ[n]? = some (.st u μ)) (hk : μ[l]? = some (q, .dct ks)) (ho : RE X O ρ a (.ref q)) (hb : BE X O ρ b (.int k)) (he : DE X O ρ e (.bool true)) (hl : ks.length < 16777216) (hn : D.nx (ρ.set n (.st u (μ.set l (q, .dct (putI ks k))))))
    (hs : swapsWith e (some (.Subscript a b p')) pos.line X.env = pure false := by rfl) : DS X O W ρ (.Assign [.Subscript a b p'] e pos) D := by
  have hu : X.A.units + 1 < cLine := by have := hr.un; omega
  refine ps_mono (ps_dput hu ho hb he hs) fun E σ H ⟨F, R, qq⟩ => ⟨F, R, fun F1 H1 v e1 R1 rv => ⟨F1, R1, fun F2 H2 x e2 R2 ev => ⟨F2, R2, fun F3 H3 y e3 R3 by' => ?_⟩⟩⟩
  cases (show x = V.ref q from ev)
  obtain rfl := rp_int (by'.flat R3 rfl : Rp X.K F3 (.int k) y)
  obtain rfl := rp_bl rv
  obtain ⟨f1, g1, hc⟩ := R3.cell h hk
  have hp := DPut.k (k := .inl k) (v := V.bl true) (show H3 q = some (.dK (DcT ks)) from hc) (by rw [List.length_map]; exact sz_lt hl)
  rw [putI_K] at hp
  exact ⟨q, _, rfl, hp, qq.nx F3 _ _ _ ((e1.trans e2).trans e3) (R3.mutC (c' := .dct (putI ks k)) (o := .dK (DcT (putI ks k))) h hk upd_same) hn⟩
/-- sorted(x) -/
theorem ne_sortDK {ns : List Int} (hcl : X.calm = true) (h : ρ[n]? = some (.st u μ)) (hk : μ[l]? = some (q, .dct ks)) (ho : RE X O ρ a (.ref q)) (h64 : ks.length < 64) (hns : ∀ ys : List Int, ys.Perm ks → ys.Pairwise (· ≤ ·) → ys = ns) (hm : X.mg "sorted" = none) (hg : Gl X "sorted" := by rfl) (hv : bootBuiltins "sorted" = some (.builtin "sorted") := by decide +kernel) (he : starEach [a] X.env = (false, eval a X.env) :: starEach [] X.env := by rfl) :
    NE X O ρ (.Call (.Name "sorted" p2) [a] [] pos) (ns.map .int) :=
  x_b1 (call_sortedDI hcl) hg hm hv ho (fun σ F H v Q R ev kk => by
    cases (show v = V.ref q from ev)
    obtain ⟨f1, g1, hc⟩ := R.cell h hk
    refine ⟨q, DcT ks, ks, rfl, .inl hc, by rw [List.map_map]; rfl, h64, fun ys p hp hs hn => ?_⟩
    rw [hns ys hp hs]
    exact kk F _ _ (Ex.refl _) (R.newH hn) ⟨p, _, rfl, R.fh.back hn, R.oh.back hn, R.fresh_apart hn, upd_same, mk_ints⟩) (by decide) (by decide) he
end
end DL

namespace DL
open PySem PySem.Spec PyProof.Rows L2
/-! ### hi, hi - 1, .. -/
section
variable {X : Cx} {O : Hp} {ρ : List Sl} {tg a b c : Expr} {i j : Int} {p pos : Pos}
def dnTo (hi : Int) (n : Nat) : List D := (List.range n).map fun k => .int (hi - (k : Nat))
theorem dnTo_len (hi : Int) (n : Nat) : (dnTo hi n).length = n := by unfold dnTo; rw [List.length_map, List.length_range]
theorem dnTo_get {hi : Int} {n k : Nat} (h : k < n) : (dnTo hi n)[k]? = some (.int (hi - (k : Nat))) := by unfold dnTo; rw [List.getElem?_map, List.getElem?_range h]; rfl
theorem dnTo_at {hi : Int} {n k : Nat} {d : PyData} (h : (dnTo hi n)[k]? = some d) : k < n ∧ d = .int (hi - (k : Nat)) := by
  have hk : k < n := by have := (List.getElem?_eq_some_iff.mp h).1; rwa [dnTo_len] at this
  rw [dnTo_get hk] at h
  exact ⟨hk, (Option.some.inj h).symm⟩
theorem fromTo_at {lo : Int} {n k : Nat} {d : PyData} (h : (fromTo lo n)[k]? = some d) : k < n ∧ d = .int (lo + (k : Nat)) := by
  have hk : k < n := by have := (List.getElem?_eq_some_iff.mp h).1; rwa [fromTo_len] at this
  rw [fromTo_get hk] at h
  exact ⟨hk, (Option.some.inj h).symm⟩
theorem ie_rng3 (hm : X.mg "range" = none) (ha : BE X O ρ a (.int i)) (hb : BE X O ρ b (.int j)) (hc : BE X O ρ c (.int (-1))) (h : -(2 ^ 62) ≤ i ∧ i < 2 ^ 62 ∧ -(2 ^ 62) ≤ j ∧ j < 2 ^ 62) (hg : Gl X "range" := by rfl) (he : starEach [a, b, c] X.env = (false, eval a X.env) :: starEach [b, c] X.env := by rfl) (he2 : starEach [b, c] X.env = (false, eval b X.env) :: starEach [c] X.env := by rfl) (he3 : starEach [c] X.env = (false, eval c X.env) :: starEach [] X.env := by rfl)
    (hpl : (backTo pos (starEach [b, c] X.env)).any (·.1) = false := by rfl) : IE X O ρ tg (.Call (.Name "range" p) [a, b, c] [] pos) (dnTo i (i - j).toNat) :=
  pi_mono (pi_range3 hg hm (pa_cons ha (pa_cons hb (pa_cons hc pa_nil he3) he2) he) he hpl) fun σ H Q ⟨F, R, k⟩ => ⟨F, R, fun F1 H1 v e1 R1 b1 => ⟨F1, R1, fun F2 H2 u e2 R2 b2 => ⟨F2, R2, fun F3 H3 w e3 R3 b3 => by
    cases rp_int ((b1.up (e2.trans e3)).flat R3 rfl : Rp X.K F3 (.int i) v)
    cases rp_int ((b2.up e3).flat R3 rfl : Rp X.K F3 (.int j) u)
    cases rp_int (b3.flat R3 rfl : Rp X.K F3 (.int (-1)) w)
    refine ⟨i, j, -1, _, rfl, RgC.neg h.1 h.2.1 h.2.2.1 h.2.2.2, k F3 H3 _ (fun _ => True) ((e1.trans e2).trans e3) R3 ?_ fun _ _ => trivial⟩
    rw [dnTo_len]
    exact walk_rangeC.mono (fun _ h => h) fun n H x H' hn _ y => ⟨y.1, _, dnTo_get hn, by rw [y.2]; show Rp X.K F3 _ (V.int (i + (n : Int) * (-1))); rw [show i + (n : Int) * (-1) = i - (n : Int) by omega]; exact mk_int⟩⟩⟩⟩
end
end DL

namespace DL
open PySem PySem.Spec PyProof.Rows L2
/-! ### a tuple whose first is a new list -/
section
variable {X : Cx} {O : Hp} {W : WX} {ρ ρ' : List Sl} {e a b : Expr} {es : List Expr} {d : PyData} {ds d0 : List PyData} {pos pos' p' p2 cp : Pos} {D : Dk} {n m : Nat} {p : Addr} {st : Stmt} {rest : List Stmt}
/-- return (name, ..), the name's own list -/
theorem ds_retTN {x : Str} {x1 : Nat} (hr : ρ[n]? = some (.ow p d0)) (ha : AD X O ρ es ds) (h : D.rt (ρ.set n .no) (.tn d0 ds)) (hl : ds.length + 1 ≤ 16777216) (hN : X.N[n]? = some x := by rfl) (hv : Vis X.env.scope x := by first | exact Or.inl rfl | exact Or.inr (Or.inl rfl) | exact Or.inr (Or.inr rfl)) (hd : (x == ("__debug__" : Str)) = false := by decide)
    (hcd : (x == ("__classdict__" : Str)) = false := by decide) (hs : starEach (.Name x p2 :: es) X.env = (false, eval (.Name x p2) X.env) :: starEach es X.env := by rfl) : DS X O W ρ (.Return (some (.Tuple (.Name x p2 :: es) x1 pos)) pos') D :=
  ps_mono (ps_ret (pe_tup (pa_cons (re_ow hr hN hv hd hcd) ha hs))) fun E σ H ⟨F, R, q⟩ => ⟨F, R, fun F1 H1 v e1 R1 ev => ⟨F1, R1, fun F2 H2 vs e2 R2 rs => by
    cases (show v = V.ref p from ev)
    refine ⟨?_, fun z hz => ?_⟩
    · rw [List.length_cons, ← all_len rs]; exact sz_le hl
    · obtain ⟨es1, f, o, xs, hp, r⟩ := R2.ow hr
      have hzp : p ≠ z := fun w => by rw [w] at hp; rw [hz] at hp; cases hp
      have R3 := R2.new (o := .tup (.ref p :: vs)) hz
      have fz : F2 z = none := R2.fh.back hz
      have h3 := R3.ow hr
      refine q.rt (upd F2 z (.tup (.ref p :: vs))) _ _ _ (.tn d0 ds) _ ((e1.trans e2).trans (Ex.new fz)) R3.drop ⟨p, ⟨p, xs, rfl, h3.2.1, h3.2.2.1, fun m s w hq => ?_, by rw [upd_ne hzp]; exact hp, RpAll.mono (Ex.new fz) r⟩, z, vs, rfl, SqT.of upd_same, RpAll.mono (Ex.new fz) rs⟩ h
      rcases sets_get w with ⟨_, y⟩ | ⟨hm, w⟩
      · subst y; exact absurd hq List.not_mem_nil
      · exact R3.ap m n s _ p hm w hr hq (List.mem_singleton.mpr rfl)⟩⟩
/-- name = f(..)[0], the new list -/
theorem ds_asgTN {x g : Str} {gp : Pos} {l j : Nat} {S : List PyData → Out → Prop} {dd : List PyData} (hN : X.N.Nodup) (G : Has X.prog X.w X.K X.mg X.base g l S) (hrm : Room l X.A) (ha : AD X O ρ (a :: es) dd) (hS : S dd (.tn d0 ds)) (hk : ∀ p, Apart ρ p → D.nx (ρ.set n (.ow p d0)))
    (hg : Gl X g := by rfl) (hdb : (g == ("__debug__" : Str)) = false := by decide) (he : starEach (a :: es) X.env = (false, eval a X.env) :: starEach es X.env := by rfl) (hpl : (backTo cp (starEach es X.env)).any (·.1) = false := by rfl)
    (hix : PlainIx (.Constant (.int 0) j p2) := by exact fun _ _ => rfl) (hi : X.N[n]? = some x := by rfl) (hx : Loc X.env.scope x := by first | exact Or.inl rfl | exact Or.inr rfl)
    (hs : swapsWith (.Subscript (.Call (.Name g gp) (a :: es) [] cp) (.Constant (.int 0) j p2) pos) (some (.Name x p')) pos'.line X.env = pure false := by rfl) (hf : X.fn x = true := by rfl) :
    DS X O W ρ (.Assign [.Name x p'] (.Subscript (.Call (.Name g gp) (a :: es) [] cp) (.Constant (.int 0) j p2) pos) pos') D := by
  have hc : PE X (.Call (.Name g gp) (a :: es) [] cp) (tX X.K O ρ ρ fun σ F H v => ∃ q, NewL X.K O ρ F H (.ref q) d0 ∧ ∃ a us, v = .ref a ∧ SqT X.K F a (.ref q :: us) ∧ RpAll X.K F ds us) :=
    x_call G hrm ha hS nofun (fun σ F H F' H' v R _ rv => by
      obtain ⟨q, h1, h2⟩ := rv
      exact ⟨q, NewL.ofAll R h1, h2⟩) hg hdb he hpl
  refine ps_mono (ps_set hN hi hx (pe_ix ix_tup hc pe_int hix) hs (.inl hf)) fun E σ H ⟨F, R, q⟩ => ⟨F, R, fun F' H' v e' R' hv => ?_⟩
  obtain ⟨q1, ⟨p, xs, ev, f, o, ap, hp, r⟩, z, us, rfl, ht, _⟩ := hv
  cases ev
  show rIxT X.K _ _ H' _
  exact ⟨z, _, 0, .ref q1, rfl, rfl, ex_t R'.fh ht, atI_0, q.nx _ _ _ _ e' (R'.setOw hp r f o ap) (hk q1 ap)⟩
/-- a store's first list becomes the slot's own, another slot's value stays as data -/
theorem ds_unSt {μ : Sto} {u : V} {d2 : PyData} {p : Addr} (hr : ρ[n]? = some (.st (.ref p) ((p, .lst (d0.map .dat)) :: μ))) (hm : ρ[m]? = some (.pt u)) (hn : n ≠ m) (ht2 : Th μ (.adr u) d2) (h : DSs X O W ((ρ.set n (.ow p d0)).set m (.va d2)) rest D) : DSs X O W ρ rest D := ds_re h fun F σ H R => by
  obtain ⟨a, nd, all⟩ := R.st hr
  rw [List.map_cons, List.nodup_cons] at nd
  obtain ⟨f, o, xs, hp, hi⟩ := all p _ List.mem_cons_self
  have hlm : m < ρ.length := (List.getElem?_eq_some_iff.mp hm).1
  have R1 : Rel X.K O F (ρ.set n (.ow p d0)) σ H := R.set1 (i := n) (s := .ow p d0) rfl (fun _ _ => rfl) (fun _ => ⟨a, f, o, xs, hp, dat_it hi⟩) fun j t q hj e h1 h2 => by
    rw [List.mem_singleton.mp (show q ∈ [p] from h1)] at h2
    exact R.ap n j _ t p (Ne.symm hj) hr e List.mem_cons_self h2
  have h1 : (ρ.set n (.ow p d0))[m]? = some (.pt u) := by rw [List.getElem?_set_ne hn]; exact hm
  have R2 : Rel X.K O F ((ρ.set n (.ow p d0)).set m (.st u μ)) σ H := R1.set1 (i := m) (s := .st u μ) rfl (fun _ _ => rfl) (fun _ => ⟨(R1.sl m _ h1).1, nd.2, fun q c hq => all q c (List.mem_cons_of_mem _ hq)⟩) fun j t q hj e g1 g2 => by
    rcases sets_get e with ⟨_, y⟩ | ⟨hjn, e⟩
    · subst y
      rw [List.mem_singleton.mp (show q ∈ [p] from g2)] at g1
      exact nd.1 g1
    · exact R.ap n j _ t q (Ne.symm hjn) hr e (List.mem_cons_of_mem _ g1) g2
  have h2 : ((ρ.set n (.ow p d0)).set m (.st u μ))[m]? = some (.st u μ) := List.getElem?_set_self (by rw [List.length_set]; exact hlm)
  obtain ⟨e, R3, hc⟩ := R2.frzS h2
  have r2 : Rp X.K (addF μ F H) d2 u := th_rp hc e ht2 rfl
  have R4 := R3.set1 (i := m) (s := .va d2) rfl (fun _ _ => rfl) (fun _ => ⟨u, (R1.sl m _ h1).1, r2⟩) fun _ _ _ _ _ h => absurd h List.not_mem_nil
  rw [List.set_set, List.set_set] at R4
  exact ⟨addF μ F H, e, R4⟩
end
end DL

namespace L2
open PySem PySem.Spec PyProof.Rows DL
/-! ### an exception that is kept: its object is told of by the heap itself -/
def exk (a : Addr) (oe : Obj) : HO := .ext fun h => h.get? a = some oe
section
variable {X : Cx} {pins pn' : List (Addr × Obj)} {σ : St} {H : Hp} {s sI : Shared} {a : Addr} {oe : Obj}
/-- an object that nobody knew is told of -/
theorem Inv.tell (J : Inv X pins σ H sI) (I : Inv X pins σ H s) (ha : s.heap.get? a = some oe) (na : H a = none) (nL : a ≠ X.env.locals) (nI : sI.heap.get? a = none) : Inv X pins σ (upd H a (exk a oe)) s := by
  have ne : ∀ {b : Addr} {o : HO}, H b = some o → b ≠ a := fun e z => by rw [z, na] at e; cases e
  have nh : ∀ {b : Addr} {o : Obj}, sI.heap.get? b = some o → b ≠ a := fun e z => by rw [z, nI] at e; cases e
  refine ⟨I.ok, I.os, I.bare, ⟨I.base.keep, I.base.slot, fun b o e n hx => ?_, I.base.there, fun b xs e => ?_, fun b o u e => ?_, fun b ps e => ?_⟩, I.loc, I.cell, ?_, fun y c e => ?_, fun p hp => ?_, ?_, I.len⟩
  · obtain ⟨o', e'⟩ := J.base.there b o e hx
    rw [upd_ne (nh e')]; exact I.base.free b o e n hx
  · have h := I.base.tups b xs e
    rw [upd_ne (ne h)]; exact h
  · have h := I.base.frzs b o u e
    rw [upd_ne (ne h)]; exact h
  · obtain ⟨more, h⟩ := I.base.tbls b ps e
    exact ⟨more, by rw [upd_ne (ne h)]; exact h⟩
  · rw [upd_ne (Ne.symm nL)]; exact I.free
  · obtain ⟨v, hv⟩ := J.cell y c e
    obtain ⟨o, ho, _⟩ := hv
    rw [upd_ne (nh ho)]; exact I.freeC y c e
  · have h := I.pin p hp
    exact ⟨h.1, by rw [upd_ne (nh (J.pin p hp).1)]; exact h.2.1, h.2.2⟩
  · exact I.hok.laidN (fun _ _ z => z) na ⟨ha, ⟨_, ha⟩, fun h1 h2 h k => k _ h⟩
theorem Inv.inSuite (I : Inv X pins σ H s) : Inv (X.suite a (X.pn ++ pins)) [] σ H s :=
  ⟨I.ok.suite _ _, I.os, I.bare, I.base, I.loc, I.cell, I.free, I.freeC, fun p hp => I.pin p (by rw [List.append_nil] at hp; exact hp), I.hok, I.len⟩
theorem Inv.offSuite (I : Inv (X.suite a (X.pn ++ pins)) pn' σ H s) (ok : X.Ok) : Inv X pins σ H s :=
  ⟨ok, I.os, I.bare, I.base, I.loc, I.cell, I.free, I.freeC, fun p hp => I.pin p (List.mem_append_left _ hp), I.hok, I.len⟩
/-- what an exception has to bring: either it is the clause's, or it goes on -/
def wKeep (K : PySem.W.Frag) (c : Value) (i : Nat) (ts : Addr → Obj → TS) (Wout : WX) (D : Ends) : WX := fun cls d σ H => ∃ b, PySem.W.exmOne K cls c = some b ∧
  (b = true → ∀ a oe, H a = none → Zc cls d oe → (∃ vs, oe.data = .fields vs) → ts a oe { nx := fun σ' H' => D.nx (σ'.set i none) H', rt := D.rt, bk := fun σ' H' => D.bk (σ'.set i none) H', ct := fun σ' H' => D.ct (σ'.set i none) H' } (σ.set i (some (.ref a))) (upd H a (exk a oe))) ∧
  (b = false → Wout cls d σ H)
end
section
variable {X : Cx} {x n : Str} {c : Value} {i : Nat} {body suite : List Stmt} {b₀ : Stmt} {np pos pos' : Pos} {tb : WX → TS} {ts : Addr → Obj → TS} {Wout : WX}
/-- try: body / except x as n: suite, the exception's object told of from there on -/
theorem ps_keepEx (hs : X.stack = X.env :: X.outer) (hf : X.env.frame = some X.env.locals) (hN : X.N.Nodup) (hi : X.N[i]? = some n) (hln : X.env.kindOf n = some .local) (hc : Names X x c) (tk : Takes X Wout)
    (hb : ∀ (W : WX) (pn : List (Addr × Obj)) (xe : Value → Shared → Prop), Takes (X.tr pn xe) W → PassesOwn (model X.prog X.w) X.A X.env xe → PSs (X.tr pn xe) body (tb W))
    (hsu : ∀ (a : Addr) (oe : Obj) (pn : List (Addr × Obj)), PSs (X.suite a pn) (b₀ :: suite) (ts a oe)) :
    PS X (.Try body [.ExceptHandler (some (.Name x np)) (some n) (b₀ :: suite) pos'] [] [] pos) (fun D σ H => tb (wKeep X.K c i ts Wout D) D σ H) := by
  refine ⟨fun pins s σ H D I h => ?_⟩
  have ok := I.ok
  have hfr : X.A.frames = some (X.env :: X.outer) := by rw [ok.frames, hs]
  refine wpAny_Try_except (wpAny_mono ((hb (wKeep X.K c i ts Wout D) (X.pn ++ pins) _ (fun u s' xx => ?_) PassesOwn.looking).run [] s σ H D (I.toTry _) h) (fun f s1 hsp => ?_) (fun e s1 he => he))
  · obtain ⟨a, B, sI, pins', σ1, H1, cls, d, rfl, J0, nb, up, sky, na, os, ag, b, hb1, yes, no⟩ := xx
    have J : Inv X pins σ1 H1 sI := J0.ofTry ok
    have sky1 : Sky B (X.env :: X.outer) a (Zc cls d) X.env.locals s'.heap := by rw [← hs]; exact sky
    show wpAny (model X.prog X.w) X.A (noteFrame (.ref a) X.env) _ _ _
    refine Sky.land Zc.steady hfr hf sky1 fun h3 fl3 up3 => ?_
    have J3 : Inv X pins σ1 H1 { s' with heap := h3 } := J.landed nb fl3.1 (up.trans up3) os ag
    obtain ⟨oe3, vs3, he3, hz3, hd3⟩ := fl3.there
    have off : a ∉ frs (X.env :: X.outer) := fun hm => by
      obtain ⟨_, o', e', hnf⟩ := fl3.2.2.1.mem hm
      rw [he3] at e'; cases e'
      exact hnf _ hd3
    have nL : a ≠ X.env.locals := fun z => off (List.mem_filterMap.mpr ⟨X.env, List.mem_cons_self, by rw [hf, z]⟩)
    have nI : sI.heap.get? a = none := by
      cases q : sI.heap.get? a with
      | none => rfl
      | some o =>
        have := nb a o q (by rw [hs]; exact off)
        rw [fl3.2.1] at this; cases this
    have S3 := J3.inSuite (a := a)
    refine wpAny_handleBy_cons (codeAny_handlers_test ?_) (by intro q; cases q)
    have LM := PySem.W.exm_one (M := model X.prog X.w) J3.kIn (fun A Q E s k q => wpAny_typeOf_ref (k _ _ he3) (by rw [hz3.1]; exact q)) hb1
    have test : ∀ {Q : Value → Shared → Prop} {E : Value → Shared → Prop}, Q c { s' with heap := h3 } → wpAny (model X.prog X.w) (X.A.mark (some (.ref a))) (eval (.Name x np) X.env) Q E { s' with heap := h3 } := fun {Q E} q => by
      obtain ⟨hg, hdb, hm | ⟨hm, hv, hnn⟩⟩ := hc
      · exact ld_glob (X := X.suite a (X.pn ++ pins)) S3 hg hm q hdb
      · exact ld_blt (X := X.suite a (X.pn ++ pins)) S3 hg hm hv q hnn hdb
    refine test (LM.here ?_)
    cases b with
    | true =>
      refine codeAny_handlers_suite_as (HandSPX.lands_againZ fl3 fun h4 fl4 up4 => ?_)
      have J4 : Inv X pins σ1 H1 { s' with heap := h4 } := J.landed nb fl4.1 ((up.trans up3).trans up4) os ag
      obtain ⟨oe4, vs4, he4, hz4, hd4⟩ := fl4.there
      have S4 := (Inv.tell J J4 he4 na nL nI).inSuite (a := a)
      refine store_ok (X := X.suite a (X.pn ++ pins)) (v := .ref a) S4 hN hi (.inl hln) rfl (fun s5 S5 => ?_) (.inr hln)
      refine wpAny_mono ((hsu a oe4 (X.pn ++ pins)).run [] s5 _ _ _ S5 (yes rfl a oe4 na hz4 ⟨_, hd4⟩)) (fun f s6 q => ?_) (fun _ _ z => False.elim z)
      have fin : ∀ {σ6 : St} {H6 : Hp} {Q : Shared → Prop}, Inv (X.suite a (X.pn ++ pins)) [] σ6 H6 s6 → (∀ s7, Inv X pins (σ6.set i none) H6 s7 → Q s7) →
          wpAny (model X.prog X.w) X.A (do bindName X.env n .none; unbindBehindTheSuite X.env n pos') (fun _ s7 => Q s7) X.xe s6 := fun S6 hq => gone_ok (S6.offSuite ok) hN hi hln hq
      cases f with
      | next =>
        obtain ⟨σ6, H6, S6, q6⟩ := q
        exact fin S6 fun s7 J7 => ⟨_, _, J7, q6⟩
      | brk =>
        obtain ⟨σ6, H6, S6, q6⟩ := q
        exact fin S6 fun s7 J7 => ⟨_, _, J7, q6⟩
      | cont =>
        obtain ⟨σ6, H6, S6, q6⟩ := q
        exact fin S6 fun s7 J7 => ⟨_, _, J7, q6⟩
      | ret u =>
        obtain ⟨v6, σ6, H6, S6, r6, q6⟩ := q
        exact fin S6 fun s7 J7 => ⟨_, _, _, J7, r6, q6⟩
    | false =>
      show wpAny _ X.A (handleBy (.ref a) X.env []) _ _ _
      refine wpAny_handleBy_nil ?_
      obtain ⟨k1, k2, k3, oe, vs, T, oT, ts', he, hz, hd, h1, hr⟩ := id fl3
      unfold PySem.passOn
      refine wpAny_bind (wpAny_field he hd h1 ?_)
      rw [if_neg (show ¬ ((Value.ref T == Value.none) = true) from by simp)]
      have up1 : wpAny (model X.prog X.w) X.A (setFlight (.ref a) X.env.frame) (fun _ s4 => wpAny (model X.prog X.w) X.A (throw (.ref a) : Sem Flow) (SP X pins D) X.xe s4) X.xe { s' with heap := h3 } := by
        rw [hf]
        refine HandSPX.setFlight_upZ fl3 fun h4 hh4 up4 => wpAny_throw (tk _ _ ?_)
        exact ⟨a, B, sI, pins, σ1, H1, cls, d, rfl, J, nb, (up.trans up3).trans up4, .inr (.inr (by rw [hs]; exact hh4)), na, os, ag, no rfl⟩
      first
        | exact wpAny_bind (wpAny_pure (wpAny_bind up1))
        | exact wpAny_bind up1
  · cases f with
    | next =>
      obtain ⟨σ1, H1, J1, q⟩ := hsp
      exact wpAny_execs_nil ⟨σ1, H1, J1.ofTry ok, q⟩
    | brk =>
      obtain ⟨σ1, H1, J1, q⟩ := hsp
      exact ⟨σ1, H1, J1.ofTry ok, q⟩
    | cont =>
      obtain ⟨σ1, H1, J1, q⟩ := hsp
      exact ⟨σ1, H1, J1.ofTry ok, q⟩
    | ret u =>
      obtain ⟨v, σ1, H1, J1, r, q⟩ := hsp
      exact ⟨v, σ1, H1, J1.ofTry ok, r, q⟩
end
end L2

namespace L2
open PySem PySem.Spec PyProof.Rows DL
section
variable {X : Cx} {pins : List (Addr × Obj)} {σ : St} {H : Hp} {s : Shared} {a : Addr} {oe : Obj}
theorem Inv.kept_at (I : Inv X pins σ H s) (h : H a = some (exk a oe)) : s.heap.get? a = some oe := (show ObjOk X.prog X.w H s.heap a (exk a oe) from I.hok a _ h).1
/-- isinstance of a kept exception -/
def rIsK (K : PySem.W.Frag) : List V → Hp → VK → Prop := fun xs H Q => ∃ (a C : Addr) (oe : Obj) (od : Option Addr) (c : V) (cv : Value) (b : Bool), xs = [.ref a, c] ∧ H a = some (exk a oe) ∧ Zc (.ref C) od oe ∧ (∃ vs, oe.data = .fields vs) ∧ ExcC K C ∧ (∀ dd, od = some dd → ∃ fs, H dd = some (.xd fs)) ∧ (∀ u, RelV c u → u = cv) ∧ PySem.W.kitOne K (.ref C) cv = some b ∧ Q (.bl b) H
theorem call_isK : CallR X (.builtin "isinstance") (rIsK X.K) := by
  intro pins s σ H xs us Q I r h
  obtain ⟨a, C, oe, od, c, cv, b, rfl, ha, hz, ⟨vs, hv⟩, T, hd, hcv, e, q⟩ := h
  cases r with
  | cons rx rr =>
    cases rr with
    | cons rt rr =>
      cases rr
      cases rx
      have ec := hcv _ rt
      subst ec
      have hget := I.kept_at ha
      obtain ⟨oc, oD, oda, osl⟩ := oe
      obtain ⟨h1, h2⟩ := hz
      dsimp only at h1 h2 hv
      subst h1 h2 hv
      cases oD with
      | none =>
        have J : PySem.W.InstAt s.heap a _ C none := ⟨hget, rfl, rfl, trivial⟩
        exact PySem.W.kia_one (PySem.W.handS_kitx_exc T.hg T.hk T.hs T.hd T.ha T.hn T.ht T.hm) I.kIn J e (fun z => nomatch z) fun tk => ⟨.bl b, H, I.kept (t' := tk) fun _ _ z => z, rfl, q⟩
      | some dd =>
        obtain ⟨fs, hdd⟩ := hd dd rfl
        obtain ⟨mA, hns, _⟩ := (show ObjOk X.prog X.w H s.heap dd (.xd fs) from I.hok dd _ hdd)
        obtain ⟨od, ho, _⟩ := lookIn_ns hns
        have J : PySem.W.InstAt s.heap a _ C (some od) := ⟨hget, rfl, rfl, ho⟩
        exact PySem.W.kia_one (PySem.W.dlKit T) I.kIn J e (fun z => nomatch z) fun tk => ⟨.bl b, H, I.kept (t' := tk) fun _ _ z => z, rfl, q⟩
/-- its field -/
theorem pe_xfK {C : Addr} {e : Expr} {te : TE} {pos : Pos} {n : Str} (T : XfC X.K C) (hno : PySem.W.findIn X.K (.ref C) n = some none) (he : PE X e te) (hb : attributeBase e n X.env (eval e X.env) = eval e X.env := by rfl) :
    PE X (.Attribute e n pos) (fun σ H Q => te σ H fun x H1 => ∃ (a dd : Addr) (oe : Obj) (fs : List (Str × V)) (v : V), x = .ref a ∧ H1 a = some (exk a oe) ∧ Zc (.ref C) (some dd) oe ∧ (∃ vs, oe.data = .fields vs) ∧ H1 dd = some (.xd fs) ∧ fs.lookup n = some v ∧ Q v H1) := by
  refine ⟨fun pins s σ H Q I h => attr_of hb (thn (he.run pins s σ H _ I h) fun u s1 hh => ?_)⟩
  obtain ⟨x, H1, I1, rx, a, dd, oe, fs, v, rfl, ha, hz, ⟨vs, hd⟩, ea, l, q⟩ := hh
  obtain rfl : u = Value.ref a := rx
  have hget := I1.kept_at ha
  obtain ⟨mA, hns, hr⟩ := (show ObjOk X.prog X.w H1 s1.heap dd (.xd fs) from I1.hok dd _ ea)
  obtain ⟨od, ho, hl⟩ := lookIn_ns hns
  obtain ⟨u, hu, ru⟩ := RelO.some_of (v := v) (o := mA n) (by rw [← l]; exact hr n)
  have J : PySem.W.InstAt s1.heap a oe C (some od) := ⟨hget, hz.1, by unfold PySem.W.notCls; rw [hd] <;> rfl, by rw [hz.2]; exact ho⟩
  exact HandSPX.exc_get I1.kIn J T.ga T.gg T.exC (PySem.W.findObj_own T.hdC hno rfl (by rw [hl, hu])) (handed_of ru) ⟨v, H1, I1.tok _, ru, q⟩
end
end L2
namespace DL
open PySem PySem.Spec PyProof.Rows L2
/-- a kept exception: its object is told of -/
def ErK (er : Er) (a : Addr) (oe : Obj) (F : Hp) : Prop := ErZ er oe F ∧ F a = some (exk a oe) ∧ ∃ vs, oe.data = .fields vs
section
variable {X : Cx} {O : Hp} {W : WX} {ρ ρ' : List Sl} {e a b c tg : Expr} {es : List Expr} {d : PyData} {ds ds' : List PyData} {pos pos' np p p' p2 : Pos} {i j : Int} {k : Bool} {st : Stmt} {rest body els : List Stmt} {D : Dk} {er : Er} {o : Out} {n m : Nat} {f : Str} {C : Addr} {φ : Hp → Prop} {v : V}
/-- try: body / except X as n: suite, the exception kept -/
theorem ds_tryKeep (er : Er) {x nm : Str} {c : Value} {b₀ : Stmt} {suite : List Stmt} (hc : Names X x c) (tk : Takes X W) (hN : X.N.Nodup) (hm : PySem.W.exmOne X.K (.ref (erC er)) c = some true)
    (hb : ∀ (W' : WX) (pn : List (Addr × Obj)) (xe : Value → Shared → Prop), Takes (X.tr pn xe) W' → PassesOwn (model X.prog X.w) X.A X.env xe → DSs (X.tr pn xe) O W' ρ body { D with ex := fun ρ' er' => ρ' = ρ ∧ er' = er })
    (hsu : ∀ (a : Addr) (oe : Obj) (pn : List (Addr × Obj)), DSs (X.suite a pn) O W (ρ.set n (.rw (.ref a) (ErK er a oe))) (b₀ :: suite) (D.su n))
    (hs : X.stack = X.env :: X.outer := by rfl) (hf : X.env.frame = some X.env.locals := by rfl) (hi : X.N[n]? = some nm := by rfl) (hln : X.env.kindOf nm = some .local := by rfl) :
    DS X O W ρ (.Try body [.ExceptHandler (some (.Name x np)) (some nm) (b₀ :: suite) pos'] [] [] pos) D := by
  refine ps_mono (t := fun E σ H => tS X.K O (wKeep X.K c n (fun a oe => tS X.K O W (ρ.set n (.rw (.ref a) (ErK er a oe))) (D.su n)) W E) ρ { D with ex := fun ρ' er' => ρ' = ρ ∧ er' = er } E σ H) (ps_keepEx (Wout := W) (tb := fun W' => tS X.K O W' ρ { D with ex := fun ρ' er' => ρ' = ρ ∧ er' = er }) (ts := fun a oe => tS X.K O W (ρ.set n (.rw (.ref a) (ErK er a oe))) (D.su n)) hs hf hN hi hln hc tk (fun W' pn xe t1 t2 => hb W' pn xe t1 t2) (fun a oe pn => hsu a oe pn)) fun E σ H ⟨F, R, q⟩ => ?_
  refine ⟨F, R, q.nx, q.rt, q.bk, q.ct, fun F' ρ' σ' H' er' cls od e' R' ok hd => ?_⟩
  obtain ⟨rfl, rfl⟩ := hd
  have hcls : cls = .ref (erC er') := by cases er' <;> exact ok.1
  refine ⟨true, by rw [hcls]; exact hm, fun _ a oe na hz hdf => ?_, fun z => by cases z⟩
  have R2 := R'.new (o := exk a oe) na
  have ex2 : Ex F' (upd F' a (exk a oe)) := Ex.new (R'.fh.back na)
  refine ⟨upd F' a (exk a oe), R2.setRw fun F2 e2 => ⟨?_, e2 _ _ upd_same, hdf⟩, ?_⟩
  · cases er' with
    | pl C =>
      obtain ⟨rfl, rfl⟩ := ok
      exact hz
    | fl C f k =>
      obtain ⟨rfl, dd, rfl, h⟩ := ok
      exact ⟨dd, hz, e2 _ _ (ex2 _ _ h)⟩
  · exact ⟨fun F2 ρ2 σ2 H2 e2 R2 n2 => q.nx F2 _ _ H2 ((e'.trans ex2).trans e2) R2.unset n2, fun F2 ρ2 σ2 H2 o v e2 R2 rv n2 => q.rt F2 _ _ H2 o v ((e'.trans ex2).trans e2) R2.unset rv.drop n2,
      fun F2 ρ2 σ2 H2 e2 R2 n2 => q.bk F2 _ _ H2 ((e'.trans ex2).trans e2) R2.unset n2, fun F2 ρ2 σ2 H2 e2 R2 n2 => q.ct F2 _ _ H2 ((e'.trans ex2).trans e2) R2.unset n2, fun _ _ _ _ _ _ _ _ _ _ z => z.elim⟩
/-- name = name, a value as it is -/
theorem ds_asgRw {x y : Str} (hN : X.N.Nodup) (hr : ρ[m]? = some (.rw v φ)) (hk : D.nx (ρ.set n (.rw v φ))) (hi : X.N[n]? = some x := by rfl) (hx : Loc X.env.scope x := by first | exact Or.inl rfl | exact Or.inr rfl) (hj : X.N[m]? = some y := by rfl) (hv : Vis X.env.scope y := by first | exact Or.inl rfl | exact Or.inr (Or.inl rfl) | exact Or.inr (Or.inr rfl))
    (hd : (y == ("__debug__" : Str)) = false := by decide) (hcd : (y == ("__classdict__" : Str)) = false := by decide) (hs : swapsWith (.Name y p2) (some (.Name x p')) pos.line X.env = pure false := by rfl) (hf : X.fn x = true := by rfl) :
    DS X O W ρ (.Assign [.Name x p'] (.Name y p2) pos) D := ps_mono (ps_set hN hi hx (pe_var hj hv hd hcd) hs (.inl hf)) fun E σ H ⟨F, R, q⟩ => by
  obtain ⟨e1, e2⟩ : σ[m]? = some (some v) ∧ _ := R.sl m _ hr
  exact ⟨v, e1, q.nx _ _ _ _ (Ex.refl _) (R.setRw e2) hk⟩
/-- isinstance(name, Class) of a kept exception -/
theorem de_isK {C' a0 : Addr} {oe : Obj} {xc nm : Str} (T : ExI X.K (erC er)) (hr : ρ[n]? = some (.rw (.ref a0) (ErK er a0 oe))) (hm : X.mg "isinstance" = none)
    (hk : PySem.W.kitOne X.K (.ref (erC er)) (.ref C') = some k) (gC : X.mg xc = some (.ref C')) (hN : X.N[n]? = some nm := by rfl)
    (hv : Vis X.env.scope nm := by first | exact Or.inl rfl | exact Or.inr (Or.inl rfl) | exact Or.inr (Or.inr rfl)) (hd : (nm == ("__debug__" : Str)) = false := by decide) (hcd : (nm == ("__classdict__" : Str)) = false := by decide) (hg : Gl X "isinstance" := by rfl) (hg2 : Gl X xc := by rfl) (hd2 : (xc == ("__debug__" : Str)) = false := by decide) :
    DE X O ρ (.Call (.Name "isinstance" p) [.Name nm np, .Name xc p2] [] pos) (.bool k) := by
  refine ⟨fun pins s σ H Q I ⟨F, R, kk⟩ => ?_⟩
  obtain ⟨e1, e2⟩ : σ[n]? = some (some (.ref a0)) ∧ _ := R.sl n _ hr
  obtain ⟨hz, ha, hf⟩ := e2 F (Ex.refl _)
  refine (pe_callB call_isK hg hm (by decide +kernel) (pa_cons (pe_var (X := X) hN hv hd hcd) (pa_cons (pe_glob (X := X) (v := .ref C') (u := .ref C') hg2 gC rfl hd2) pa_nil))).run pins s σ H Q I ?_
  cases er with
  | pl C => exact ⟨_, e1, a0, C, oe, none, _, .ref C', k, rfl, R.fh _ _ ha, hz, hf, T.c, (fun dd z => nomatch z), (fun u h => h), hk, kk F H _ (Ex.refl _) R mk_bl⟩
  | fl C f i =>
    obtain ⟨dd, hz, hF⟩ := hz
    exact ⟨_, e1, a0, C, oe, some dd, _, .ref C', k, rfl, R.fh _ _ ha, hz, hf, T.c, (fun dd' z => by cases z; exact ⟨_, R.fh _ _ hF⟩), (fun u h => h), hk, kk F H _ (Ex.refl _) R mk_bl⟩
/-- its field -/
theorem de_xfK {P : Program} {w : World} {base : Heap} {x nm : Str} {a0 : Addr} {oe : Obj} (E : ExF P w X.K X.mg base x C f) (hr : ρ[n]? = some (.rw (.ref a0) (ErK (.fl C f i) a0 oe))) (hN : X.N[n]? = some nm := by rfl)
    (hv : Vis X.env.scope nm := by first | exact Or.inl rfl | exact Or.inr (Or.inl rfl) | exact Or.inr (Or.inr rfl)) (hd : (nm == ("__debug__" : Str)) = false := by decide) (hcd : (nm == ("__classdict__" : Str)) = false := by decide) :
    DE X O ρ (.Attribute (.Name nm np) f pos) (.int i) := by
  refine ⟨fun pins s σ H Q I ⟨F, R, kk⟩ => ?_⟩
  obtain ⟨e1, e2⟩ : σ[n]? = some (some (.ref a0)) ∧ _ := R.sl n _ hr
  obtain ⟨⟨dd, hz, hF⟩, ha, hf⟩ := e2 F (Ex.refl _)
  refine (pe_xfK (n := f) E.xf E.no (pe_var (X := X) hN hv hd hcd)).run pins s σ H Q I ?_
  exact ⟨_, e1, a0, dd, oe, _, .int i, rfl, R.fh _ _ ha, hz, hf, R.fh _ _ hF, by simp [List.lookup], kk F H _ (Ex.refl _) R mk_int⟩
/-- f(..), the arguments words that own nothing -/
theorem de_callW {x : Str} {q : Pos} {l : Nat} {S : List Sl → List Sl → Out → Prop} {ws : List Sl} (G : HasS X.prog X.w X.K X.mg X.base x l S) (hr : Room l X.A) (ha : AW X O ρ (a :: es) ws) (hS : S ws ws (.ok d)) (hg : Gl X x := by rfl) (hdb : (x == ("__debug__" : Str)) = false := by decide)
    (he : starEach (a :: es) X.env = (false, eval a X.env) :: starEach es X.env := by rfl) (hpl : (backTo pos (starEach es X.env)).any (·.1) = false := by rfl) : DE X O ρ (.Call (.Name x q) (a :: es) [] pos) d := by
  obtain ⟨fa, fd, ps, hm, hk, hb, F⟩ := G.ex
  refine pe_mono (pe_call F hr hg hm hk hb .nil (E := E0) passL' ha hdb he hpl) fun σ H Q ⟨F0, R, kk⟩ => ⟨F0, R, fun F1 H1 vs e1 R1 rs => ?_⟩
  show spF X.K S (vs ++ []) H1 Q E0
  rw [List.append_nil]
  refine ⟨allO ρ O H1, F1, ws, ws, .ok d, ⟨by rw [List.length_map, ws_len rs], R1.fh, R1.toAll.oh, R1.toAll.dis, fun i s z => (ws_sl rs z).1, fun i j s t q hn z1 z2 g1 g2 => by rw [(ws_sl (O := O) (H := H1) rs z1).2] at g1; exact absurd g1 List.not_mem_nil⟩, hS, fun F2 H2 v e2 R2 rv => ?_, fun e z => nomatch z⟩
  exact kk F2 H2 v (e1.trans e2) (R1.ofAll R2 e2) rv
theorem aw_rw {r : List Sl} {x : Str} (h : ρ[m]? = some (.rw v φ)) (hr : AW X O ρ es r) (hj : X.N[m]? = some x := by rfl) (hv : Vis X.env.scope x := by first | exact Or.inl rfl | exact Or.inr (Or.inl rfl) | exact Or.inr (Or.inr rfl)) (hd : (x == ("__debug__" : Str)) = false := by decide) (hcd : (x == ("__classdict__" : Str)) = false := by decide)
    (hs : starEach (.Name x p2 :: es) X.env = (false, eval (.Name x p2) X.env) :: starEach es X.env := by rfl) : AW X O ρ (.Name x p2 :: es) (.rw v φ :: r) :=
  pa_mono (pa_cons (pe_var hj hv hd hcd) hr hs) fun σ H Q ⟨F, R, k⟩ => by
    obtain ⟨e1, e2⟩ : σ[m]? = some (some v) ∧ _ := R.sl m _ h
    exact ⟨v, e1, F, R, fun F2 H2 vs e3 R2 rs => k F2 H2 _ e3 R2 ⟨vs, rfl, fun F' e' => e2 F' (e3.trans e'), rs⟩⟩
/-- name is not None -/
theorem dt_notNRw {jj : Nat} {x : Str} {a0 : Addr} (h : ρ[m]? = some (.rw (.ref a0) φ)) (hj : X.N[m]? = some x := by rfl) (hv : Vis X.env.scope x := by first | exact Or.inl rfl | exact Or.inr (Or.inl rfl) | exact Or.inr (Or.inr rfl)) (hd : (x == ("__debug__" : Str)) = false := by decide) (hcd : (x == ("__classdict__" : Str)) = false := by decide) : DT X O ρ (.Compare (.Name x p) [.IsNot] [.Constant .none jj p2] pos) true :=
  dt_notNR (p := a0) ⟨fun pins s σ H Q I ⟨F, R, k⟩ => (pe_var hj hv hd hcd).run pins s σ H Q I (by obtain ⟨e1, _⟩ : σ[m]? = some (some (.ref a0)) ∧ _ := R.sl m _ h; exact ⟨_, e1, k F H _ (Ex.refl _) R rfl⟩)⟩
/-- name is None -/
theorem dt_isNRw {jj : Nat} {x : Str} {a0 : Addr} (h : ρ[m]? = some (.rw (.ref a0) φ)) (hj : X.N[m]? = some x := by rfl) (hv : Vis X.env.scope x := by first | exact Or.inl rfl | exact Or.inr (Or.inl rfl) | exact Or.inr (Or.inr rfl)) (hd : (x == ("__debug__" : Str)) = false := by decide) (hcd : (x == ("__classdict__" : Str)) = false := by decide) : DT X O ρ (.Compare (.Name x p) [.Is] [.Constant .none jj p2] pos) false :=
  dt_isNR (p := a0) ⟨fun pins s σ H Q I ⟨F, R, k⟩ => (pe_var hj hv hd hcd).run pins s σ H Q I (by obtain ⟨e1, _⟩ : σ[m]? = some (some (.ref a0)) ∧ _ := R.sl m _ h; exact ⟨_, e1, k F H _ (Ex.refl _) R rfl⟩)⟩
end
end DL

namespace DL
open PySem PySem.Spec PyProof.Rows L2
/-! ### errors within an expression -/
theorem kit_own_f {K : Frg} {a C : Addr} (h2 : PySem.W.isClsIn K C = true) (h3 : PySem.W.typeIn K (.ref C) = some (.type "type")) (h4 : PySem.W.subIn K (.ref a) (.ref C) = some false) (h5 : PySem.W.subIn K (.ref C) (.ref C) = some true) : PySem.W.kitOne K (.ref a) (.ref C) = some false := by
  have ne : a ≠ C := fun e => by rw [e, h5] at h4; cases h4
  unfold PySem.W.kitOne
  rw [if_neg (show ¬ ((Value.ref a == Value.ref C) = true) from fun h => ne (by simpa using h)), kitCls_own h2 h3 h4]
section
variable {X : Cx} {O : Hp} {W : WX} {ρ : List Sl} {a b : Expr} {ds : List PyData} {pos : Pos} {er : Er}
theorem dr_ixL (ha : LE X O ρ a ds) (hb : DR X O W ρ b er) (hs : PlainIx b := by exact fun _ _ => rfl) : DR X O W ρ (.Subscript a b pos) er :=
  pe_mono (pe_ix ix_list ha hb hs) fun σ H Q ⟨F, R, k⟩ => ⟨F, R, fun F1 H1 x e1 R1 bx => ⟨F1, R1, fun F2 H2 cls od e2 R2 ok => k F2 H2 cls od (e1.trans e2) R2 ok⟩⟩
theorem dr_addL (ha : DR X O W ρ a er) : DR X O W ρ (.BinOp a .Add b pos) er :=
  pe_mono (pe_op op_cat ha (⟨fun _ _ _ _ _ _ z => False.elim z⟩ : PE X b fun _ _ _ => False)) fun σ H Q t => t
end
end DL

namespace DL
open PySem PySem.Spec PyProof.Rows L2
/-! ### a local's own dict, its keys texts, any data in it -/
theorem mergeK_nd : ∀ (l acc : List (Key × V)), ((acc ++ l).map Prod.fst).Nodup → mergeK acc l = acc ++ l
  | [], acc, _ => (List.append_nil acc).symm
  | p :: r, acc, h => by
    have hv : valV acc p.1 = none := by
      unfold valV
      rw [Option.map_eq_none_iff, List.find?_eq_none]
      intro x hx
      rw [decide_eq_true_eq]
      intro e
      rw [List.map_append, List.nodup_append] at h
      exact h.2.2 _ (List.mem_map.mpr ⟨x, hx, rfl⟩) _ (List.mem_map.mpr ⟨p, List.mem_cons_self, rfl⟩) e
    show mergeK (putK acc p.1 p.2) r = _
    rw [putK_new p.2 hv, mergeK_nd r (acc ++ [p]) (by rw [List.append_assoc]; exact h), List.append_assoc]; rfl
def zipK : List (Str × PyData) → List V → List (Key × V)
  | p :: r, v :: vs => (Sum.inr p.1, v) :: zipK r vs
  | _, _ => []
theorem zipK_len : ∀ {kvs : List (Str × PyData)} {vs : List V}, (kvs.map Prod.snd).length = vs.length → (zipK kvs vs).length = kvs.length
  | [], _, _ => rfl
  | p :: r, [], h => by cases h
  | p :: r, v :: vs, h => by
    show (zipK r vs).length + 1 = r.length + 1
    rw [zipK_len (by simpa using h)]
theorem zipK_fst : ∀ {kvs : List (Str × PyData)} {vs : List V}, (kvs.map Prod.snd).length = vs.length → (zipK kvs vs).map Prod.fst = kvs.map fun p => (Sum.inr p.1 : Key)
  | [], _, _ => rfl
  | p :: r, [], h => by cases h
  | p :: r, v :: vs, h => by
    show _ :: _ = _ :: _
    rw [zipK_fst (by simpa using h)]
theorem zipK_val {K : Frg} {F : Hp} {k : Str} {d : PyData} : ∀ {kvs : List (Str × PyData)} {vs : List V}, RpAll K F (kvs.map Prod.snd) vs → lookS kvs k = some d → ∃ v, valV (zipK kvs vs) (Sum.inr k) = some v ∧ Rp K F d v
  | [], _, _, h => by cases h
  | p :: r, vs, ha, h => by
    obtain ⟨v, us, rfl, h1, h2⟩ := all_cons ha
    unfold lookS at h
    rw [List.find?_cons] at h
    by_cases e : p.1 = k
    · rw [decide_eq_true e] at h
      cases h
      exact ⟨v, valV_pos (p := ((Sum.inr p.1 : Key), v)) (by rw [e]), h1⟩
    · rw [decide_eq_false e] at h
      obtain ⟨u, h3, h4⟩ := zipK_val h2 (show lookS r k = some d from h)
      exact ⟨u, by show valV ((Sum.inr p.1, v) :: zipK r us) _ = _; rw [valV_neg (fun z => e (Sum.inr.inj z))]; exact h3, h4⟩
abbrev slM (K : Frg) (p : Addr) (kvs : List (Str × PyData)) : Sl := .rw (.ref p) fun F => ∃ vs, F p = some (.dK (zipK kvs vs)) ∧ RpAll K F (kvs.map Prod.snd) vs
section
variable {X : Cx} {O : Hp} {W : WX} {ρ ρ' : List Sl} {D : Dk} {a b c e : Expr} {es : List Expr} {pos p2 p' : Pos} {n m k : Nat} {i j : Int} {x : Str} {p q : Addr} {d : PyData} {v u : V} {μ μ1 μ2 : Sto} {its : List Itm} {rest : List Stmt} {st : Stmt}
def tXO (K : Frg) (ρ : List Sl) (d : PyData) : TE := fun σ H Q => ∃ O, tX K O ρ ρ (PD K d) σ H Q
structure PMs (X : Cx) (ρ : List Sl) (pos : Pos) (ks : List (Option Expr)) (vs : List Expr) (kvs : List (Str × PyData)) : Prop where
  run : PPs X pos ks vs (kvs.map fun p => (tC (.str p.1), tXO X.K ρ p.2))
  all : ks.all (·.isSome) = true
  len : ks.length = kvs.length ∧ vs.length = kvs.length
theorem pm_nil : PMs X ρ pos [] [] [] := ⟨pps_nil, rfl, rfl, rfl⟩
theorem pm_cons {z : Str} {l : Nat} {ks : List (Option Expr)} {vs : List Expr} {kvs : List (Str × PyData)} (h : ∀ O, DE X O ρ e d) (hr : PMs X ρ pos ks vs kvs) : PMs X ρ pos (some (.Constant (.str z) l p2) :: ks) (e :: vs) ((z, d) :: kvs) :=
  ⟨pps_cons pe_str ⟨fun pins s σ H Q I ⟨O, q⟩ => (h O).run pins s σ H Q I q⟩ hr.run, by rw [List.all_cons, hr.all]; rfl, by rw [List.length_cons, List.length_cons, hr.len.1], by rw [List.length_cons, List.length_cons, hr.len.2]⟩
theorem tPairs_data {σ : Sg} : ∀ {kvs : List (Str × PyData)} {F H : Hp} {Q : List (V × V) → Hp → Prop}, Rel X.K O F ρ σ H → (∀ F' H' vs, Ex F F' → Rel X.K O F' ρ σ H' → RpAll X.K F' (kvs.map Prod.snd) vs → Q ((zipK kvs vs).map fun kv => (kV kv.1, kv.2)) H') → tPairs (kvs.map fun p => (tC (.str p.1), tXO X.K ρ p.2)) σ H Q
  | [], F, H, Q, R, k => k F H [] (Ex.refl _) R mk_nil
  | p :: r, F, H, Q, R, k => by
    show tXO X.K ρ p.2 σ H fun y H2 => tPairs (r.map fun p => (tC (.str p.1), tXO X.K ρ p.2)) σ H2 fun ps H3 => Q ((V.str p.1, y) :: ps) H3
    exact ⟨O, F, R, fun F1 H1 y e1 R1 ry => tPairs_data (kvs := r) R1 fun F2 H2 vs e2 R2 rs => k F2 H2 (y :: vs) (e1.trans e2) R2 (mk_cons (ry.mono e2) rs)⟩
/-- x = {"a": .., ..} -/
theorem ds_asgM {ks : List (Option Expr)} {vs : List Expr} {kvs : List (Str × PyData)} (hN : X.N.Nodup) (hd : PMs X ρ p2 ks vs kvs) (hnd : (kvs.map fun p => (Sum.inr p.1 : Key)).Nodup) (hk : ∀ p, D.nx (ρ.set n (slM X.K p kvs))) (h0 : ks ≠ [] := by exact List.cons_ne_nil _ _) (h15 : kvs.length ≤ 15 := by exact (by decide : _ ≤ 15)) (hi : X.N[n]? = some x := by rfl) (hx : Loc X.env.scope x := by first | exact Or.inl rfl | exact Or.inr rfl)
    (hs : swapsWith (.Dict ks vs p2) (some (.Name x p')) pos.line X.env = pure false := by rfl) (hf : X.fn x = true := by rfl) : DS X O W ρ (.Assign [.Name x p'] (.Dict ks vs p2) pos) D := by
  refine ps_mono (ps_set hN hi hx (pe_disp hd.run hd.all (hd.len.1.trans hd.len.2.symm) h0 (by rw [hd.len.1]; exact h15)) hs (.inl hf)) fun E σ H ⟨F, R, q⟩ => ?_
  intro p hp
  have ap := R.fresh_apart hp
  have op : O p = none := R.oh.back hp
  refine tPairs_data (R.addO (o := .dK []) hp) fun F2 H2 vs e2 R2 rs => ?_
  have hl := all_len rs
  have hm : mergeK [] (zipK kvs vs) = zipK kvs vs := mergeK_nd _ [] (by rw [List.nil_append, zipK_fst hl]; exact hnd)
  refine ⟨R2.oh _ _ upd_same, zipK kvs vs, rfl, by rw [zipK_len hl]; exact h15, ?_⟩
  rw [hm]
  have hF2 : F2 p = none := R2.dis p _ upd_same
  have R3 := (R2.oMut (o' := .dK (zipK kvs vs))).subO op
  have R4 : Rel X.K O (upd F2 p (.dK (zipK kvs vs))) ρ σ (upd H2 p (.dK (zipK kvs vs))) := R3.frz upd_same op ap hF2
  exact q.nx _ _ _ _ (e2.trans (Ex.new hF2)) (R4.setRw fun F' e' => ⟨vs, e' _ _ upd_same, RpAll.mono ((Ex.new hF2).trans e') rs⟩) (hk p)
theorem de_ixM {kvs : List (Str × PyData)} {k : Str} (hr : Room m X.A) (h : ρ[n]? = some (slM X.K p kvs)) (hb : BE X O ρ b (.str k)) (hl : lookS kvs k = some d) (hN : X.N[n]? = some x := by rfl) (hv : Vis X.env.scope x := by first | exact Or.inl rfl | exact Or.inr (Or.inl rfl) | exact Or.inr (Or.inr rfl)) (hd : (x == ("__debug__" : Str)) = false := by decide)
    (hcd : (x == ("__classdict__" : Str)) = false := by decide) (hs : NoSl b := by exact fun _ _ => rfl) : DE X O ρ (.Subscript (.Name x p2) b pos) d := by
  have hu : X.A.units + 1 < cLine := by have := hr.un; omega
  refine pe_mono (pe_dget hu (pe_var hN hv hd hcd) hb hs) fun σ H Q ⟨F, R, kk⟩ => ?_
  refine ⟨.ref p, R.val h rfl, F, R, fun F1 H1 y e1 R1 by' => ?_⟩
  obtain rfl := rp_str (by'.flat R1 rfl : Rp X.K F1 (.str k) y)
  obtain ⟨vs, hF, rs⟩ := (R1.sl n _ h).2 F1 (Ex.refl _)
  obtain ⟨w, hw, rw'⟩ := zipK_val rs hl
  have hg := DGet.k (k := .inr k) (R1.fh _ _ hF)
  rw [hw] at hg
  exact ⟨p, w, rfl, hg, kk F1 H1 w e1 R1 rw'⟩
/-! ### a list of a store, and .. -/
theorem de_andC (hr : ρ[n]? = some (.st v μ)) (hk : μ[k]? = some (q, .lst its)) (he : RE X O ρ a (.ref q)) (hne : its.isEmpty = false) (hb : DE X O ρ b d) : DE X O ρ (.BoolOp .And [a, b] pos) d :=
  pe_mono (pe_andT he (pe_one hb)) fun σ H Q ⟨F, R, kk⟩ => ⟨F, R, fun F1 H1 y e1 R1 ey => by
    cases (show y = V.ref q from ey)
    obtain ⟨_, _, xs, hx, rx⟩ := R1.cell hr hk
    refine ⟨true, .inl ⟨xs, SqL.of hx, by rw [isEmpty_it rx, hne]; rfl⟩, ?_⟩
    rw [if_pos rfl]
    exact ⟨F1, R1, fun F2 H2 z e2 R2 rz => kk F2 H2 z (e1.trans e2) R2 rz⟩⟩
theorem re_andC (hr : ρ[n]? = some (.st v μ)) (hk : μ[k]? = some (q, .lst its)) (he : RE X O ρ a (.ref q)) (hem : its.isEmpty = true) : RE X O ρ (.BoolOp .And [a, b] pos) (.ref q) :=
  pe_mono (pe_andT he (show PE X (.BoolOp .And [b] pos) (fun _ _ _ => False) from ⟨fun _ _ _ _ _ _ h => h.elim⟩)) fun σ H Q ⟨F, R, kk⟩ => ⟨F, R, fun F1 H1 y e1 R1 ey => by
    cases (show y = V.ref q from ey)
    obtain ⟨_, _, xs, hx, rx⟩ := R1.cell hr hk
    refine ⟨false, .inl ⟨xs, SqL.of hx, by rw [isEmpty_it rx, hem]; rfl⟩, ?_⟩
    rw [if_neg Bool.false_ne_true]
    exact kk F1 H1 _ e1 R1 rfl⟩
/-! ### a store behind three plain arguments -/
def tG3 (d0 d1 d2 : PyData) (K : Frg) (O : Hp) (ρ : List Sl) (n : Nat) (v u : V) (μ2 : Sto) (r : List Sl) (Po : List Sl → Out → Prop) : TE := fun σ H Q => ∃ F, Rel K O F ρ σ H ∧ ∀ μ' o F' H' w, Po (.va d0 :: .va d1 :: .va d2 :: .st u μ' :: r) o → Ex F F' → Rel K O F' (ρ.set n (.st v (μ' ++ μ2))) σ H' → RvOk K O (ρ.set n (.st v (μ' ++ μ2))) F' H' w o → Q w H'
theorem x_callG3 {a0 a1 a2 : Expr} {d0 d1 d2 : PyData} {g : Str} {gp : Pos} {l : Nat} {S : List Sl → (List Sl → Out → Prop) → Prop} {Po : List Sl → Out → Prop} {r : List Sl} (G : HasG X.prog X.w X.K X.mg X.base g l S) (hrm : Room l X.A) (hr : ρ[n]? = some (.st v (μ1 ++ μ2))) (h00 : DE X O ρ a0 d0) (h01 : DE X O ρ a1 d1) (h02 : DE X O ρ a2 d2) (h0 : RE X O ρ a u) (ha : AW X O ρ es r) (hS : S (.va d0 :: .va d1 :: .va d2 :: .st u μ1 :: r) Po) (hP : ∀ ρb o, Po ρb o → ∃ μ', ρb = .va d0 :: .va d1 :: .va d2 :: .st u μ' :: r) (ne : ∀ ρb e, ¬ Po ρb (.er e))
    (hg : Gl X g := by rfl) (hdb : (g == ("__debug__" : Str)) = false := by decide) (he0 : starEach (a0 :: a1 :: a2 :: a :: es) X.env = (false, eval a0 X.env) :: starEach (a1 :: a2 :: a :: es) X.env := by rfl) (he1 : starEach (a1 :: a2 :: a :: es) X.env = (false, eval a1 X.env) :: starEach (a2 :: a :: es) X.env := by rfl) (he2 : starEach (a2 :: a :: es) X.env = (false, eval a2 X.env) :: starEach (a :: es) X.env := by rfl) (he : starEach (a :: es) X.env = (false, eval a X.env) :: starEach es X.env := by rfl) (hpl : (backTo pos (starEach (a1 :: a2 :: a :: es) X.env)).any (·.1) = false := by rfl) : PE X (.Call (.Name g gp) (a0 :: a1 :: a2 :: a :: es) [] pos) (tG3 d0 d1 d2 X.K O ρ n v u μ2 r Po) := by
  obtain ⟨fa, fd, ps, hm, hk, hb, F⟩ := G.ex
  refine pe_mono (pe_call F hrm hg hm hk hb .nil (E := E0) passL' (pa_cons h00 (pa_cons h01 (pa_cons h02 (pa_cons h0 ha he) he2) he1) he0) hdb he0 hpl) fun σ H Q ⟨F0, R, kk⟩ => ⟨F0, R, fun Fa Ha wa ea Ra ra => ⟨Fa, Ra, fun Fb Hb wb eb Rb rb => ⟨Fb, Rb, fun Fc Hc wc ec Rc rc => ⟨Fc, Rc, fun F1 H1 w e1 R1 ew => ⟨F1, R1, fun F2 H2 vs e2 R2 rs => ?_⟩⟩⟩⟩⟩
  cases (show w = u from ew)
  show spG X.K S ((wa :: wb :: wc :: u :: vs) ++ []) H2 Q E0
  rw [List.append_nil]
  exact callGn_core (d0s := [d0, d1, d2]) (v0s := [wa, wb, wc]) R2 hr (mk_cons (ra.mono (eb.trans (ec.trans (e1.trans e2)))) (mk_cons (rb.mono (ec.trans (e1.trans e2))) (mk_cons (rc.mono (e1.trans e2)) mk_nil))) rs hS hP (fun μ' o F' H' w' po e R' rv => kk μ' o F' H' w' po (((((ea.trans eb).trans ec).trans e1).trans e2).trans e) R' rv) fun μ' e F' H' cls od po _ _ _ => absurd po (ne _ e)
theorem ce_callG3 {a0 a1 a2 : Expr} {d0 d1 d2 : PyData} {g : Str} {gp : Pos} {l : Nat} {S : List Sl → (List Sl → Out → Prop) → Prop} {r : List Sl} {μ' : Sto} (G : HasG X.prog X.w X.K X.mg X.base g l S) (hrm : Room l X.A) (hr : ρ[n]? = some (.st v μ1)) (h00 : DE X O ρ a0 d0) (h01 : DE X O ρ a1 d1) (h02 : DE X O ρ a2 d2) (h0 : RE X O ρ a u) (ha : AW X O ρ es r) (hS : S (.va d0 :: .va d1 :: .va d2 :: .st u μ1 :: r) fun ρb o => ρb = .va d0 :: .va d1 :: .va d2 :: .st u μ' :: r ∧ o = .ok d)
    (hg : Gl X g := by rfl) (hdb : (g == ("__debug__" : Str)) = false := by decide) (he0 : starEach (a0 :: a1 :: a2 :: a :: es) X.env = (false, eval a0 X.env) :: starEach (a1 :: a2 :: a :: es) X.env := by rfl) (he1 : starEach (a1 :: a2 :: a :: es) X.env = (false, eval a1 X.env) :: starEach (a2 :: a :: es) X.env := by rfl) (he2 : starEach (a2 :: a :: es) X.env = (false, eval a2 X.env) :: starEach (a :: es) X.env := by rfl) (he : starEach (a :: es) X.env = (false, eval a X.env) :: starEach es X.env := by rfl) (hpl : (backTo pos (starEach (a1 :: a2 :: a :: es) X.env)).any (·.1) = false := by rfl) : CE X O ρ (ρ.set n (.st v μ')) (.Call (.Name g gp) (a0 :: a1 :: a2 :: a :: es) [] pos) d :=
  pe_mono (x_callG3 (μ2 := []) G hrm (by rw [List.append_nil]; exact hr) h00 h01 h02 h0 ha hS (fun ρb o h => ⟨μ', h.1⟩) (fun ρb e h => nomatch h.2) hg hdb he0 he1 he2 he hpl) fun σ H Q ⟨F, R, kk⟩ => ⟨F, R, fun μ2' o F' H' w po e R' rv => by
    obtain ⟨h1, h2⟩ := po
    cases h1; cases h2
    rw [List.append_nil] at R' rv
    exact kk F' H' w e R' rv⟩
end
end DL

namespace Kx
open PySem PySem.Spec PyProof.Rows L2 DL
local macro_rules | `(tactic| walk_at "side") => `(tactic| first | decide | omega | assumption | (simp only [List.length_map, List.length_cons, List.length_nil, List.length_append, List.length_range, List.length_replicate]; omega))
local macro_rules | `(tactic| walk_at "sp") => `(tactic| first | exact ⟨_, rfl, rfl⟩ | exact ⟨_, _, rfl, rfl⟩ | exact ⟨_, _, _, rfl, rfl⟩ | exact ⟨_, rfl, by walk_at "side", rfl⟩ | exact ⟨_, _, rfl, by walk_at "side", rfl⟩)
local macro_rules | `(tactic| walk_at "kit") => `(tactic| decide +kernel)
local macro_rules | `(tactic| walk_at "leaf") => `(tactic| first | rfl | assumption)
local macro_rules | `(tactic| walk_at "ifs") => `(tactic| ((repeat (first | rw [if_pos (by omega)] | rw [if_neg (by omega)])) <;> (try rfl)))
local macro_rules | `(tactic| walk_at "lay") => `(tactic| first | exact lay_LI _ | exact lay_TI _ | exact (lay_LI _).c | exact (lay_TI _).c)
local macro_rules | `(tactic| walk_at "flat") => `(tactic| first | decide | (rw [List.all_map, List.all_eq_true]; intro _ _; rfl))
local macro_rules | `(tactic| walk_at "ifb") => `(tactic| ((repeat (first | rw [if_pos (by assumption)] | rw [if_neg (by (rw [Bool.not_eq_true]; assumption))])) <;> (try rfl)))
local macro_rules | `(tactic| walk_at "leafG") => `(tactic| (refine ⟨_, _, ⟨rfl, rfl⟩, kp_st 0 ?_, Or.inl ?_⟩ <;> first | rfl | walk_at "lg"))
local macro_rules | `(tactic| walk_at "pre") => `(tactic| first | assumption | omega)

def topS (i : Nat) : Stmt := PySem.Challenge.pw_plainglass_k07_whole_any_bytes.main.body.getD i (.Pass ⟨0, 0, 0, 0⟩)
section
variable {P : Program} {w : World} {K : Frg} {mg : Str → Option Value} {base : Heap} {a_Walker : Addr}
/-! J_mds -/
theorem md_value : (decide (("value" : Str) ∈ (["text", "escape", "hex", "half", "half u", "low hex", "sign"] : List Str)) = false) ∧ (decide (("value" : Str) ∈ (["minus", "zero", "whole", "point", "part", "power", "power sign", "powers"] : List Str)) = false) ∧ (decide (("value" : Str) ∈ (["done", "zero", "whole", "part", "powers"] : List Str)) = false) ∧ (decide (("value" : Str) ∈ (["value", "first", "member", "name"] : List Str)) = true) ∧ (decide (("value" : Str) ∈ (["minus", "point", "power", "power sign"] : List Str)) = false) ∧ (decide (("value" : Str) ∈ (["zero", "whole"] : List Str)) = false) ∧ (decide (("value" : Str) = "hex") = false) ∧ (decide (("value" : Str) = "low hex") = false) ∧ (decide (("value" : Str) = "value") = true) ∧ (decide (("value" : Str) = "first") = false) ∧ (decide (("value" : Str) = "member") = false) ∧ (decide (("value" : Str) = "name") = false) ∧ (decide (("value" : Str) = "colon") = false) ∧ (decide (("value" : Str) = "behind") = false) ∧ (decide (("value" : Str) = "text") = false) ∧ (decide (("value" : Str) = "sign") = false) ∧ (decide (("value" : Str) = "escape") = false) ∧ (decide (("value" : Str) = "half") = false) ∧ (decide (("value" : Str) = "half u") = false) ∧ (decide (("value" : Str) = "word") = false) ∧ (decide (("value" : Str) = "minus") = false) ∧ (decide (("value" : Str) = "point") = false) ∧ (decide (("value" : Str) = "power") = false) ∧ (decide (("value" : Str) = "power sign") = false) ∧ (decide (("value" : Str) = "zero") = false) ∧ (decide (("value" : Str) = "powers") = false) := by decide +kernel
theorem md_first : (decide (("first" : Str) ∈ (["text", "escape", "hex", "half", "half u", "low hex", "sign"] : List Str)) = false) ∧ (decide (("first" : Str) ∈ (["minus", "zero", "whole", "point", "part", "power", "power sign", "powers"] : List Str)) = false) ∧ (decide (("first" : Str) ∈ (["done", "zero", "whole", "part", "powers"] : List Str)) = false) ∧ (decide (("first" : Str) ∈ (["value", "first", "member", "name"] : List Str)) = true) ∧ (decide (("first" : Str) ∈ (["minus", "point", "power", "power sign"] : List Str)) = false) ∧ (decide (("first" : Str) ∈ (["zero", "whole"] : List Str)) = false) ∧ (decide (("first" : Str) = "hex") = false) ∧ (decide (("first" : Str) = "low hex") = false) ∧ (decide (("first" : Str) = "value") = false) ∧ (decide (("first" : Str) = "first") = true) ∧ (decide (("first" : Str) = "member") = false) ∧ (decide (("first" : Str) = "name") = false) ∧ (decide (("first" : Str) = "colon") = false) ∧ (decide (("first" : Str) = "behind") = false) ∧ (decide (("first" : Str) = "text") = false) ∧ (decide (("first" : Str) = "sign") = false) ∧ (decide (("first" : Str) = "escape") = false) ∧ (decide (("first" : Str) = "half") = false) ∧ (decide (("first" : Str) = "half u") = false) ∧ (decide (("first" : Str) = "word") = false) ∧ (decide (("first" : Str) = "minus") = false) ∧ (decide (("first" : Str) = "point") = false) ∧ (decide (("first" : Str) = "power") = false) ∧ (decide (("first" : Str) = "power sign") = false) ∧ (decide (("first" : Str) = "zero") = false) ∧ (decide (("first" : Str) = "powers") = false) := by decide +kernel
theorem md_member : (decide (("member" : Str) ∈ (["text", "escape", "hex", "half", "half u", "low hex", "sign"] : List Str)) = false) ∧ (decide (("member" : Str) ∈ (["minus", "zero", "whole", "point", "part", "power", "power sign", "powers"] : List Str)) = false) ∧ (decide (("member" : Str) ∈ (["done", "zero", "whole", "part", "powers"] : List Str)) = false) ∧ (decide (("member" : Str) ∈ (["value", "first", "member", "name"] : List Str)) = true) ∧ (decide (("member" : Str) ∈ (["minus", "point", "power", "power sign"] : List Str)) = false) ∧ (decide (("member" : Str) ∈ (["zero", "whole"] : List Str)) = false) ∧ (decide (("member" : Str) = "hex") = false) ∧ (decide (("member" : Str) = "low hex") = false) ∧ (decide (("member" : Str) = "value") = false) ∧ (decide (("member" : Str) = "first") = false) ∧ (decide (("member" : Str) = "member") = true) ∧ (decide (("member" : Str) = "name") = false) ∧ (decide (("member" : Str) = "colon") = false) ∧ (decide (("member" : Str) = "behind") = false) ∧ (decide (("member" : Str) = "text") = false) ∧ (decide (("member" : Str) = "sign") = false) ∧ (decide (("member" : Str) = "escape") = false) ∧ (decide (("member" : Str) = "half") = false) ∧ (decide (("member" : Str) = "half u") = false) ∧ (decide (("member" : Str) = "word") = false) ∧ (decide (("member" : Str) = "minus") = false) ∧ (decide (("member" : Str) = "point") = false) ∧ (decide (("member" : Str) = "power") = false) ∧ (decide (("member" : Str) = "power sign") = false) ∧ (decide (("member" : Str) = "zero") = false) ∧ (decide (("member" : Str) = "powers") = false) := by decide +kernel
theorem md_name : (decide (("name" : Str) ∈ (["text", "escape", "hex", "half", "half u", "low hex", "sign"] : List Str)) = false) ∧ (decide (("name" : Str) ∈ (["minus", "zero", "whole", "point", "part", "power", "power sign", "powers"] : List Str)) = false) ∧ (decide (("name" : Str) ∈ (["done", "zero", "whole", "part", "powers"] : List Str)) = false) ∧ (decide (("name" : Str) ∈ (["value", "first", "member", "name"] : List Str)) = true) ∧ (decide (("name" : Str) ∈ (["minus", "point", "power", "power sign"] : List Str)) = false) ∧ (decide (("name" : Str) ∈ (["zero", "whole"] : List Str)) = false) ∧ (decide (("name" : Str) = "hex") = false) ∧ (decide (("name" : Str) = "low hex") = false) ∧ (decide (("name" : Str) = "value") = false) ∧ (decide (("name" : Str) = "first") = false) ∧ (decide (("name" : Str) = "member") = false) ∧ (decide (("name" : Str) = "name") = true) ∧ (decide (("name" : Str) = "colon") = false) ∧ (decide (("name" : Str) = "behind") = false) ∧ (decide (("name" : Str) = "text") = false) ∧ (decide (("name" : Str) = "sign") = false) ∧ (decide (("name" : Str) = "escape") = false) ∧ (decide (("name" : Str) = "half") = false) ∧ (decide (("name" : Str) = "half u") = false) ∧ (decide (("name" : Str) = "word") = false) ∧ (decide (("name" : Str) = "minus") = false) ∧ (decide (("name" : Str) = "point") = false) ∧ (decide (("name" : Str) = "power") = false) ∧ (decide (("name" : Str) = "power sign") = false) ∧ (decide (("name" : Str) = "zero") = false) ∧ (decide (("name" : Str) = "powers") = false) := by decide +kernel
theorem md_colon : (decide (("colon" : Str) ∈ (["text", "escape", "hex", "half", "half u", "low hex", "sign"] : List Str)) = false) ∧ (decide (("colon" : Str) ∈ (["minus", "zero", "whole", "point", "part", "power", "power sign", "powers"] : List Str)) = false) ∧ (decide (("colon" : Str) ∈ (["done", "zero", "whole", "part", "powers"] : List Str)) = false) ∧ (decide (("colon" : Str) ∈ (["value", "first", "member", "name"] : List Str)) = false) ∧ (decide (("colon" : Str) ∈ (["minus", "point", "power", "power sign"] : List Str)) = false) ∧ (decide (("colon" : Str) ∈ (["zero", "whole"] : List Str)) = false) ∧ (decide (("colon" : Str) = "hex") = false) ∧ (decide (("colon" : Str) = "low hex") = false) ∧ (decide (("colon" : Str) = "value") = false) ∧ (decide (("colon" : Str) = "first") = false) ∧ (decide (("colon" : Str) = "member") = false) ∧ (decide (("colon" : Str) = "name") = false) ∧ (decide (("colon" : Str) = "colon") = true) ∧ (decide (("colon" : Str) = "behind") = false) ∧ (decide (("colon" : Str) = "text") = false) ∧ (decide (("colon" : Str) = "sign") = false) ∧ (decide (("colon" : Str) = "escape") = false) ∧ (decide (("colon" : Str) = "half") = false) ∧ (decide (("colon" : Str) = "half u") = false) ∧ (decide (("colon" : Str) = "word") = false) ∧ (decide (("colon" : Str) = "minus") = false) ∧ (decide (("colon" : Str) = "point") = false) ∧ (decide (("colon" : Str) = "power") = false) ∧ (decide (("colon" : Str) = "power sign") = false) ∧ (decide (("colon" : Str) = "zero") = false) ∧ (decide (("colon" : Str) = "powers") = false) := by decide +kernel
theorem md_behind : (decide (("behind" : Str) ∈ (["text", "escape", "hex", "half", "half u", "low hex", "sign"] : List Str)) = false) ∧ (decide (("behind" : Str) ∈ (["minus", "zero", "whole", "point", "part", "power", "power sign", "powers"] : List Str)) = false) ∧ (decide (("behind" : Str) ∈ (["done", "zero", "whole", "part", "powers"] : List Str)) = false) ∧ (decide (("behind" : Str) ∈ (["value", "first", "member", "name"] : List Str)) = false) ∧ (decide (("behind" : Str) ∈ (["minus", "point", "power", "power sign"] : List Str)) = false) ∧ (decide (("behind" : Str) ∈ (["zero", "whole"] : List Str)) = false) ∧ (decide (("behind" : Str) = "hex") = false) ∧ (decide (("behind" : Str) = "low hex") = false) ∧ (decide (("behind" : Str) = "value") = false) ∧ (decide (("behind" : Str) = "first") = false) ∧ (decide (("behind" : Str) = "member") = false) ∧ (decide (("behind" : Str) = "name") = false) ∧ (decide (("behind" : Str) = "colon") = false) ∧ (decide (("behind" : Str) = "behind") = true) ∧ (decide (("behind" : Str) = "text") = false) ∧ (decide (("behind" : Str) = "sign") = false) ∧ (decide (("behind" : Str) = "escape") = false) ∧ (decide (("behind" : Str) = "half") = false) ∧ (decide (("behind" : Str) = "half u") = false) ∧ (decide (("behind" : Str) = "word") = false) ∧ (decide (("behind" : Str) = "minus") = false) ∧ (decide (("behind" : Str) = "point") = false) ∧ (decide (("behind" : Str) = "power") = false) ∧ (decide (("behind" : Str) = "power sign") = false) ∧ (decide (("behind" : Str) = "zero") = false) ∧ (decide (("behind" : Str) = "powers") = false) := by decide +kernel
theorem md_done : (decide (("done" : Str) ∈ (["text", "escape", "hex", "half", "half u", "low hex", "sign"] : List Str)) = false) ∧ (decide (("done" : Str) ∈ (["minus", "zero", "whole", "point", "part", "power", "power sign", "powers"] : List Str)) = false) ∧ (decide (("done" : Str) ∈ (["done", "zero", "whole", "part", "powers"] : List Str)) = true) ∧ (decide (("done" : Str) ∈ (["value", "first", "member", "name"] : List Str)) = false) ∧ (decide (("done" : Str) ∈ (["minus", "point", "power", "power sign"] : List Str)) = false) ∧ (decide (("done" : Str) ∈ (["zero", "whole"] : List Str)) = false) ∧ (decide (("done" : Str) = "hex") = false) ∧ (decide (("done" : Str) = "low hex") = false) ∧ (decide (("done" : Str) = "value") = false) ∧ (decide (("done" : Str) = "first") = false) ∧ (decide (("done" : Str) = "member") = false) ∧ (decide (("done" : Str) = "name") = false) ∧ (decide (("done" : Str) = "colon") = false) ∧ (decide (("done" : Str) = "behind") = false) ∧ (decide (("done" : Str) = "text") = false) ∧ (decide (("done" : Str) = "sign") = false) ∧ (decide (("done" : Str) = "escape") = false) ∧ (decide (("done" : Str) = "half") = false) ∧ (decide (("done" : Str) = "half u") = false) ∧ (decide (("done" : Str) = "word") = false) ∧ (decide (("done" : Str) = "minus") = false) ∧ (decide (("done" : Str) = "point") = false) ∧ (decide (("done" : Str) = "power") = false) ∧ (decide (("done" : Str) = "power sign") = false) ∧ (decide (("done" : Str) = "zero") = false) ∧ (decide (("done" : Str) = "powers") = false) := by decide +kernel
theorem md_text : (decide (("text" : Str) ∈ (["text", "escape", "hex", "half", "half u", "low hex", "sign"] : List Str)) = true) ∧ (decide (("text" : Str) ∈ (["minus", "zero", "whole", "point", "part", "power", "power sign", "powers"] : List Str)) = false) ∧ (decide (("text" : Str) ∈ (["done", "zero", "whole", "part", "powers"] : List Str)) = false) ∧ (decide (("text" : Str) ∈ (["value", "first", "member", "name"] : List Str)) = false) ∧ (decide (("text" : Str) ∈ (["minus", "point", "power", "power sign"] : List Str)) = false) ∧ (decide (("text" : Str) ∈ (["zero", "whole"] : List Str)) = false) ∧ (decide (("text" : Str) = "hex") = false) ∧ (decide (("text" : Str) = "low hex") = false) ∧ (decide (("text" : Str) = "value") = false) ∧ (decide (("text" : Str) = "first") = false) ∧ (decide (("text" : Str) = "member") = false) ∧ (decide (("text" : Str) = "name") = false) ∧ (decide (("text" : Str) = "colon") = false) ∧ (decide (("text" : Str) = "behind") = false) ∧ (decide (("text" : Str) = "text") = true) ∧ (decide (("text" : Str) = "sign") = false) ∧ (decide (("text" : Str) = "escape") = false) ∧ (decide (("text" : Str) = "half") = false) ∧ (decide (("text" : Str) = "half u") = false) ∧ (decide (("text" : Str) = "word") = false) ∧ (decide (("text" : Str) = "minus") = false) ∧ (decide (("text" : Str) = "point") = false) ∧ (decide (("text" : Str) = "power") = false) ∧ (decide (("text" : Str) = "power sign") = false) ∧ (decide (("text" : Str) = "zero") = false) ∧ (decide (("text" : Str) = "powers") = false) := by decide +kernel
theorem md_escape : (decide (("escape" : Str) ∈ (["text", "escape", "hex", "half", "half u", "low hex", "sign"] : List Str)) = true) ∧ (decide (("escape" : Str) ∈ (["minus", "zero", "whole", "point", "part", "power", "power sign", "powers"] : List Str)) = false) ∧ (decide (("escape" : Str) ∈ (["done", "zero", "whole", "part", "powers"] : List Str)) = false) ∧ (decide (("escape" : Str) ∈ (["value", "first", "member", "name"] : List Str)) = false) ∧ (decide (("escape" : Str) ∈ (["minus", "point", "power", "power sign"] : List Str)) = false) ∧ (decide (("escape" : Str) ∈ (["zero", "whole"] : List Str)) = false) ∧ (decide (("escape" : Str) = "hex") = false) ∧ (decide (("escape" : Str) = "low hex") = false) ∧ (decide (("escape" : Str) = "value") = false) ∧ (decide (("escape" : Str) = "first") = false) ∧ (decide (("escape" : Str) = "member") = false) ∧ (decide (("escape" : Str) = "name") = false) ∧ (decide (("escape" : Str) = "colon") = false) ∧ (decide (("escape" : Str) = "behind") = false) ∧ (decide (("escape" : Str) = "text") = false) ∧ (decide (("escape" : Str) = "sign") = false) ∧ (decide (("escape" : Str) = "escape") = true) ∧ (decide (("escape" : Str) = "half") = false) ∧ (decide (("escape" : Str) = "half u") = false) ∧ (decide (("escape" : Str) = "word") = false) ∧ (decide (("escape" : Str) = "minus") = false) ∧ (decide (("escape" : Str) = "point") = false) ∧ (decide (("escape" : Str) = "power") = false) ∧ (decide (("escape" : Str) = "power sign") = false) ∧ (decide (("escape" : Str) = "zero") = false) ∧ (decide (("escape" : Str) = "powers") = false) := by decide +kernel
theorem md_hex : (decide (("hex" : Str) ∈ (["text", "escape", "hex", "half", "half u", "low hex", "sign"] : List Str)) = true) ∧ (decide (("hex" : Str) ∈ (["minus", "zero", "whole", "point", "part", "power", "power sign", "powers"] : List Str)) = false) ∧ (decide (("hex" : Str) ∈ (["done", "zero", "whole", "part", "powers"] : List Str)) = false) ∧ (decide (("hex" : Str) ∈ (["value", "first", "member", "name"] : List Str)) = false) ∧ (decide (("hex" : Str) ∈ (["minus", "point", "power", "power sign"] : List Str)) = false) ∧ (decide (("hex" : Str) ∈ (["zero", "whole"] : List Str)) = false) ∧ (decide (("hex" : Str) = "hex") = true) ∧ (decide (("hex" : Str) = "low hex") = false) ∧ (decide (("hex" : Str) = "value") = false) ∧ (decide (("hex" : Str) = "first") = false) ∧ (decide (("hex" : Str) = "member") = false) ∧ (decide (("hex" : Str) = "name") = false) ∧ (decide (("hex" : Str) = "colon") = false) ∧ (decide (("hex" : Str) = "behind") = false) ∧ (decide (("hex" : Str) = "text") = false) ∧ (decide (("hex" : Str) = "sign") = false) ∧ (decide (("hex" : Str) = "escape") = false) ∧ (decide (("hex" : Str) = "half") = false) ∧ (decide (("hex" : Str) = "half u") = false) ∧ (decide (("hex" : Str) = "word") = false) ∧ (decide (("hex" : Str) = "minus") = false) ∧ (decide (("hex" : Str) = "point") = false) ∧ (decide (("hex" : Str) = "power") = false) ∧ (decide (("hex" : Str) = "power sign") = false) ∧ (decide (("hex" : Str) = "zero") = false) ∧ (decide (("hex" : Str) = "powers") = false) := by decide +kernel
theorem md_half : (decide (("half" : Str) ∈ (["text", "escape", "hex", "half", "half u", "low hex", "sign"] : List Str)) = true) ∧ (decide (("half" : Str) ∈ (["minus", "zero", "whole", "point", "part", "power", "power sign", "powers"] : List Str)) = false) ∧ (decide (("half" : Str) ∈ (["done", "zero", "whole", "part", "powers"] : List Str)) = false) ∧ (decide (("half" : Str) ∈ (["value", "first", "member", "name"] : List Str)) = false) ∧ (decide (("half" : Str) ∈ (["minus", "point", "power", "power sign"] : List Str)) = false) ∧ (decide (("half" : Str) ∈ (["zero", "whole"] : List Str)) = false) ∧ (decide (("half" : Str) = "hex") = false) ∧ (decide (("half" : Str) = "low hex") = false) ∧ (decide (("half" : Str) = "value") = false) ∧ (decide (("half" : Str) = "first") = false) ∧ (decide (("half" : Str) = "member") = false) ∧ (decide (("half" : Str) = "name") = false) ∧ (decide (("half" : Str) = "colon") = false) ∧ (decide (("half" : Str) = "behind") = false) ∧ (decide (("half" : Str) = "text") = false) ∧ (decide (("half" : Str) = "sign") = false) ∧ (decide (("half" : Str) = "escape") = false) ∧ (decide (("half" : Str) = "half") = true) ∧ (decide (("half" : Str) = "half u") = false) ∧ (decide (("half" : Str) = "word") = false) ∧ (decide (("half" : Str) = "minus") = false) ∧ (decide (("half" : Str) = "point") = false) ∧ (decide (("half" : Str) = "power") = false) ∧ (decide (("half" : Str) = "power sign") = false) ∧ (decide (("half" : Str) = "zero") = false) ∧ (decide (("half" : Str) = "powers") = false) := by decide +kernel
theorem md_half_u : (decide (("half u" : Str) ∈ (["text", "escape", "hex", "half", "half u", "low hex", "sign"] : List Str)) = true) ∧ (decide (("half u" : Str) ∈ (["minus", "zero", "whole", "point", "part", "power", "power sign", "powers"] : List Str)) = false) ∧ (decide (("half u" : Str) ∈ (["done", "zero", "whole", "part", "powers"] : List Str)) = false) ∧ (decide (("half u" : Str) ∈ (["value", "first", "member", "name"] : List Str)) = false) ∧ (decide (("half u" : Str) ∈ (["minus", "point", "power", "power sign"] : List Str)) = false) ∧ (decide (("half u" : Str) ∈ (["zero", "whole"] : List Str)) = false) ∧ (decide (("half u" : Str) = "hex") = false) ∧ (decide (("half u" : Str) = "low hex") = false) ∧ (decide (("half u" : Str) = "value") = false) ∧ (decide (("half u" : Str) = "first") = false) ∧ (decide (("half u" : Str) = "member") = false) ∧ (decide (("half u" : Str) = "name") = false) ∧ (decide (("half u" : Str) = "colon") = false) ∧ (decide (("half u" : Str) = "behind") = false) ∧ (decide (("half u" : Str) = "text") = false) ∧ (decide (("half u" : Str) = "sign") = false) ∧ (decide (("half u" : Str) = "escape") = false) ∧ (decide (("half u" : Str) = "half") = false) ∧ (decide (("half u" : Str) = "half u") = true) ∧ (decide (("half u" : Str) = "word") = false) ∧ (decide (("half u" : Str) = "minus") = false) ∧ (decide (("half u" : Str) = "point") = false) ∧ (decide (("half u" : Str) = "power") = false) ∧ (decide (("half u" : Str) = "power sign") = false) ∧ (decide (("half u" : Str) = "zero") = false) ∧ (decide (("half u" : Str) = "powers") = false) := by decide +kernel
theorem md_low_hex : (decide (("low hex" : Str) ∈ (["text", "escape", "hex", "half", "half u", "low hex", "sign"] : List Str)) = true) ∧ (decide (("low hex" : Str) ∈ (["minus", "zero", "whole", "point", "part", "power", "power sign", "powers"] : List Str)) = false) ∧ (decide (("low hex" : Str) ∈ (["done", "zero", "whole", "part", "powers"] : List Str)) = false) ∧ (decide (("low hex" : Str) ∈ (["value", "first", "member", "name"] : List Str)) = false) ∧ (decide (("low hex" : Str) ∈ (["minus", "point", "power", "power sign"] : List Str)) = false) ∧ (decide (("low hex" : Str) ∈ (["zero", "whole"] : List Str)) = false) ∧ (decide (("low hex" : Str) = "hex") = false) ∧ (decide (("low hex" : Str) = "low hex") = true) ∧ (decide (("low hex" : Str) = "value") = false) ∧ (decide (("low hex" : Str) = "first") = false) ∧ (decide (("low hex" : Str) = "member") = false) ∧ (decide (("low hex" : Str) = "name") = false) ∧ (decide (("low hex" : Str) = "colon") = false) ∧ (decide (("low hex" : Str) = "behind") = false) ∧ (decide (("low hex" : Str) = "text") = false) ∧ (decide (("low hex" : Str) = "sign") = false) ∧ (decide (("low hex" : Str) = "escape") = false) ∧ (decide (("low hex" : Str) = "half") = false) ∧ (decide (("low hex" : Str) = "half u") = false) ∧ (decide (("low hex" : Str) = "word") = false) ∧ (decide (("low hex" : Str) = "minus") = false) ∧ (decide (("low hex" : Str) = "point") = false) ∧ (decide (("low hex" : Str) = "power") = false) ∧ (decide (("low hex" : Str) = "power sign") = false) ∧ (decide (("low hex" : Str) = "zero") = false) ∧ (decide (("low hex" : Str) = "powers") = false) := by decide +kernel
theorem md_sign : (decide (("sign" : Str) ∈ (["text", "escape", "hex", "half", "half u", "low hex", "sign"] : List Str)) = true) ∧ (decide (("sign" : Str) ∈ (["minus", "zero", "whole", "point", "part", "power", "power sign", "powers"] : List Str)) = false) ∧ (decide (("sign" : Str) ∈ (["done", "zero", "whole", "part", "powers"] : List Str)) = false) ∧ (decide (("sign" : Str) ∈ (["value", "first", "member", "name"] : List Str)) = false) ∧ (decide (("sign" : Str) ∈ (["minus", "point", "power", "power sign"] : List Str)) = false) ∧ (decide (("sign" : Str) ∈ (["zero", "whole"] : List Str)) = false) ∧ (decide (("sign" : Str) = "hex") = false) ∧ (decide (("sign" : Str) = "low hex") = false) ∧ (decide (("sign" : Str) = "value") = false) ∧ (decide (("sign" : Str) = "first") = false) ∧ (decide (("sign" : Str) = "member") = false) ∧ (decide (("sign" : Str) = "name") = false) ∧ (decide (("sign" : Str) = "colon") = false) ∧ (decide (("sign" : Str) = "behind") = false) ∧ (decide (("sign" : Str) = "text") = false) ∧ (decide (("sign" : Str) = "sign") = true) ∧ (decide (("sign" : Str) = "escape") = false) ∧ (decide (("sign" : Str) = "half") = false) ∧ (decide (("sign" : Str) = "half u") = false) ∧ (decide (("sign" : Str) = "word") = false) ∧ (decide (("sign" : Str) = "minus") = false) ∧ (decide (("sign" : Str) = "point") = false) ∧ (decide (("sign" : Str) = "power") = false) ∧ (decide (("sign" : Str) = "power sign") = false) ∧ (decide (("sign" : Str) = "zero") = false) ∧ (decide (("sign" : Str) = "powers") = false) := by decide +kernel
theorem md_minus : (decide (("minus" : Str) ∈ (["text", "escape", "hex", "half", "half u", "low hex", "sign"] : List Str)) = false) ∧ (decide (("minus" : Str) ∈ (["minus", "zero", "whole", "point", "part", "power", "power sign", "powers"] : List Str)) = true) ∧ (decide (("minus" : Str) ∈ (["done", "zero", "whole", "part", "powers"] : List Str)) = false) ∧ (decide (("minus" : Str) ∈ (["value", "first", "member", "name"] : List Str)) = false) ∧ (decide (("minus" : Str) ∈ (["minus", "point", "power", "power sign"] : List Str)) = true) ∧ (decide (("minus" : Str) ∈ (["zero", "whole"] : List Str)) = false) ∧ (decide (("minus" : Str) = "hex") = false) ∧ (decide (("minus" : Str) = "low hex") = false) ∧ (decide (("minus" : Str) = "value") = false) ∧ (decide (("minus" : Str) = "first") = false) ∧ (decide (("minus" : Str) = "member") = false) ∧ (decide (("minus" : Str) = "name") = false) ∧ (decide (("minus" : Str) = "colon") = false) ∧ (decide (("minus" : Str) = "behind") = false) ∧ (decide (("minus" : Str) = "text") = false) ∧ (decide (("minus" : Str) = "sign") = false) ∧ (decide (("minus" : Str) = "escape") = false) ∧ (decide (("minus" : Str) = "half") = false) ∧ (decide (("minus" : Str) = "half u") = false) ∧ (decide (("minus" : Str) = "word") = false) ∧ (decide (("minus" : Str) = "minus") = true) ∧ (decide (("minus" : Str) = "point") = false) ∧ (decide (("minus" : Str) = "power") = false) ∧ (decide (("minus" : Str) = "power sign") = false) ∧ (decide (("minus" : Str) = "zero") = false) ∧ (decide (("minus" : Str) = "powers") = false) := by decide +kernel
theorem md_zero : (decide (("zero" : Str) ∈ (["text", "escape", "hex", "half", "half u", "low hex", "sign"] : List Str)) = false) ∧ (decide (("zero" : Str) ∈ (["minus", "zero", "whole", "point", "part", "power", "power sign", "powers"] : List Str)) = true) ∧ (decide (("zero" : Str) ∈ (["done", "zero", "whole", "part", "powers"] : List Str)) = true) ∧ (decide (("zero" : Str) ∈ (["value", "first", "member", "name"] : List Str)) = false) ∧ (decide (("zero" : Str) ∈ (["minus", "point", "power", "power sign"] : List Str)) = false) ∧ (decide (("zero" : Str) ∈ (["zero", "whole"] : List Str)) = true) ∧ (decide (("zero" : Str) = "hex") = false) ∧ (decide (("zero" : Str) = "low hex") = false) ∧ (decide (("zero" : Str) = "value") = false) ∧ (decide (("zero" : Str) = "first") = false) ∧ (decide (("zero" : Str) = "member") = false) ∧ (decide (("zero" : Str) = "name") = false) ∧ (decide (("zero" : Str) = "colon") = false) ∧ (decide (("zero" : Str) = "behind") = false) ∧ (decide (("zero" : Str) = "text") = false) ∧ (decide (("zero" : Str) = "sign") = false) ∧ (decide (("zero" : Str) = "escape") = false) ∧ (decide (("zero" : Str) = "half") = false) ∧ (decide (("zero" : Str) = "half u") = false) ∧ (decide (("zero" : Str) = "word") = false) ∧ (decide (("zero" : Str) = "minus") = false) ∧ (decide (("zero" : Str) = "point") = false) ∧ (decide (("zero" : Str) = "power") = false) ∧ (decide (("zero" : Str) = "power sign") = false) ∧ (decide (("zero" : Str) = "zero") = true) ∧ (decide (("zero" : Str) = "powers") = false) := by decide +kernel
theorem md_whole : (decide (("whole" : Str) ∈ (["text", "escape", "hex", "half", "half u", "low hex", "sign"] : List Str)) = false) ∧ (decide (("whole" : Str) ∈ (["minus", "zero", "whole", "point", "part", "power", "power sign", "powers"] : List Str)) = true) ∧ (decide (("whole" : Str) ∈ (["done", "zero", "whole", "part", "powers"] : List Str)) = true) ∧ (decide (("whole" : Str) ∈ (["value", "first", "member", "name"] : List Str)) = false) ∧ (decide (("whole" : Str) ∈ (["minus", "point", "power", "power sign"] : List Str)) = false) ∧ (decide (("whole" : Str) ∈ (["zero", "whole"] : List Str)) = true) ∧ (decide (("whole" : Str) = "hex") = false) ∧ (decide (("whole" : Str) = "low hex") = false) ∧ (decide (("whole" : Str) = "value") = false) ∧ (decide (("whole" : Str) = "first") = false) ∧ (decide (("whole" : Str) = "member") = false) ∧ (decide (("whole" : Str) = "name") = false) ∧ (decide (("whole" : Str) = "colon") = false) ∧ (decide (("whole" : Str) = "behind") = false) ∧ (decide (("whole" : Str) = "text") = false) ∧ (decide (("whole" : Str) = "sign") = false) ∧ (decide (("whole" : Str) = "escape") = false) ∧ (decide (("whole" : Str) = "half") = false) ∧ (decide (("whole" : Str) = "half u") = false) ∧ (decide (("whole" : Str) = "word") = false) ∧ (decide (("whole" : Str) = "minus") = false) ∧ (decide (("whole" : Str) = "point") = false) ∧ (decide (("whole" : Str) = "power") = false) ∧ (decide (("whole" : Str) = "power sign") = false) ∧ (decide (("whole" : Str) = "zero") = false) ∧ (decide (("whole" : Str) = "powers") = false) := by decide +kernel
theorem md_point : (decide (("point" : Str) ∈ (["text", "escape", "hex", "half", "half u", "low hex", "sign"] : List Str)) = false) ∧ (decide (("point" : Str) ∈ (["minus", "zero", "whole", "point", "part", "power", "power sign", "powers"] : List Str)) = true) ∧ (decide (("point" : Str) ∈ (["done", "zero", "whole", "part", "powers"] : List Str)) = false) ∧ (decide (("point" : Str) ∈ (["value", "first", "member", "name"] : List Str)) = false) ∧ (decide (("point" : Str) ∈ (["minus", "point", "power", "power sign"] : List Str)) = true) ∧ (decide (("point" : Str) ∈ (["zero", "whole"] : List Str)) = false) ∧ (decide (("point" : Str) = "hex") = false) ∧ (decide (("point" : Str) = "low hex") = false) ∧ (decide (("point" : Str) = "value") = false) ∧ (decide (("point" : Str) = "first") = false) ∧ (decide (("point" : Str) = "member") = false) ∧ (decide (("point" : Str) = "name") = false) ∧ (decide (("point" : Str) = "colon") = false) ∧ (decide (("point" : Str) = "behind") = false) ∧ (decide (("point" : Str) = "text") = false) ∧ (decide (("point" : Str) = "sign") = false) ∧ (decide (("point" : Str) = "escape") = false) ∧ (decide (("point" : Str) = "half") = false) ∧ (decide (("point" : Str) = "half u") = false) ∧ (decide (("point" : Str) = "word") = false) ∧ (decide (("point" : Str) = "minus") = false) ∧ (decide (("point" : Str) = "point") = true) ∧ (decide (("point" : Str) = "power") = false) ∧ (decide (("point" : Str) = "power sign") = false) ∧ (decide (("point" : Str) = "zero") = false) ∧ (decide (("point" : Str) = "powers") = false) := by decide +kernel
theorem md_part : (decide (("part" : Str) ∈ (["text", "escape", "hex", "half", "half u", "low hex", "sign"] : List Str)) = false) ∧ (decide (("part" : Str) ∈ (["minus", "zero", "whole", "point", "part", "power", "power sign", "powers"] : List Str)) = true) ∧ (decide (("part" : Str) ∈ (["done", "zero", "whole", "part", "powers"] : List Str)) = true) ∧ (decide (("part" : Str) ∈ (["value", "first", "member", "name"] : List Str)) = false) ∧ (decide (("part" : Str) ∈ (["minus", "point", "power", "power sign"] : List Str)) = false) ∧ (decide (("part" : Str) ∈ (["zero", "whole"] : List Str)) = false) ∧ (decide (("part" : Str) = "hex") = false) ∧ (decide (("part" : Str) = "low hex") = false) ∧ (decide (("part" : Str) = "value") = false) ∧ (decide (("part" : Str) = "first") = false) ∧ (decide (("part" : Str) = "member") = false) ∧ (decide (("part" : Str) = "name") = false) ∧ (decide (("part" : Str) = "colon") = false) ∧ (decide (("part" : Str) = "behind") = false) ∧ (decide (("part" : Str) = "text") = false) ∧ (decide (("part" : Str) = "sign") = false) ∧ (decide (("part" : Str) = "escape") = false) ∧ (decide (("part" : Str) = "half") = false) ∧ (decide (("part" : Str) = "half u") = false) ∧ (decide (("part" : Str) = "word") = false) ∧ (decide (("part" : Str) = "minus") = false) ∧ (decide (("part" : Str) = "point") = false) ∧ (decide (("part" : Str) = "power") = false) ∧ (decide (("part" : Str) = "power sign") = false) ∧ (decide (("part" : Str) = "zero") = false) ∧ (decide (("part" : Str) = "powers") = false) := by decide +kernel
theorem md_power : (decide (("power" : Str) ∈ (["text", "escape", "hex", "half", "half u", "low hex", "sign"] : List Str)) = false) ∧ (decide (("power" : Str) ∈ (["minus", "zero", "whole", "point", "part", "power", "power sign", "powers"] : List Str)) = true) ∧ (decide (("power" : Str) ∈ (["done", "zero", "whole", "part", "powers"] : List Str)) = false) ∧ (decide (("power" : Str) ∈ (["value", "first", "member", "name"] : List Str)) = false) ∧ (decide (("power" : Str) ∈ (["minus", "point", "power", "power sign"] : List Str)) = true) ∧ (decide (("power" : Str) ∈ (["zero", "whole"] : List Str)) = false) ∧ (decide (("power" : Str) = "hex") = false) ∧ (decide (("power" : Str) = "low hex") = false) ∧ (decide (("power" : Str) = "value") = false) ∧ (decide (("power" : Str) = "first") = false) ∧ (decide (("power" : Str) = "member") = false) ∧ (decide (("power" : Str) = "name") = false) ∧ (decide (("power" : Str) = "colon") = false) ∧ (decide (("power" : Str) = "behind") = false) ∧ (decide (("power" : Str) = "text") = false) ∧ (decide (("power" : Str) = "sign") = false) ∧ (decide (("power" : Str) = "escape") = false) ∧ (decide (("power" : Str) = "half") = false) ∧ (decide (("power" : Str) = "half u") = false) ∧ (decide (("power" : Str) = "word") = false) ∧ (decide (("power" : Str) = "minus") = false) ∧ (decide (("power" : Str) = "point") = false) ∧ (decide (("power" : Str) = "power") = true) ∧ (decide (("power" : Str) = "power sign") = false) ∧ (decide (("power" : Str) = "zero") = false) ∧ (decide (("power" : Str) = "powers") = false) := by decide +kernel
theorem md_power_sign : (decide (("power sign" : Str) ∈ (["text", "escape", "hex", "half", "half u", "low hex", "sign"] : List Str)) = false) ∧ (decide (("power sign" : Str) ∈ (["minus", "zero", "whole", "point", "part", "power", "power sign", "powers"] : List Str)) = true) ∧ (decide (("power sign" : Str) ∈ (["done", "zero", "whole", "part", "powers"] : List Str)) = false) ∧ (decide (("power sign" : Str) ∈ (["value", "first", "member", "name"] : List Str)) = false) ∧ (decide (("power sign" : Str) ∈ (["minus", "point", "power", "power sign"] : List Str)) = true) ∧ (decide (("power sign" : Str) ∈ (["zero", "whole"] : List Str)) = false) ∧ (decide (("power sign" : Str) = "hex") = false) ∧ (decide (("power sign" : Str) = "low hex") = false) ∧ (decide (("power sign" : Str) = "value") = false) ∧ (decide (("power sign" : Str) = "first") = false) ∧ (decide (("power sign" : Str) = "member") = false) ∧ (decide (("power sign" : Str) = "name") = false) ∧ (decide (("power sign" : Str) = "colon") = false) ∧ (decide (("power sign" : Str) = "behind") = false) ∧ (decide (("power sign" : Str) = "text") = false) ∧ (decide (("power sign" : Str) = "sign") = false) ∧ (decide (("power sign" : Str) = "escape") = false) ∧ (decide (("power sign" : Str) = "half") = false) ∧ (decide (("power sign" : Str) = "half u") = false) ∧ (decide (("power sign" : Str) = "word") = false) ∧ (decide (("power sign" : Str) = "minus") = false) ∧ (decide (("power sign" : Str) = "point") = false) ∧ (decide (("power sign" : Str) = "power") = false) ∧ (decide (("power sign" : Str) = "power sign") = true) ∧ (decide (("power sign" : Str) = "zero") = false) ∧ (decide (("power sign" : Str) = "powers") = false) := by decide +kernel
theorem md_powers : (decide (("powers" : Str) ∈ (["text", "escape", "hex", "half", "half u", "low hex", "sign"] : List Str)) = false) ∧ (decide (("powers" : Str) ∈ (["minus", "zero", "whole", "point", "part", "power", "power sign", "powers"] : List Str)) = true) ∧ (decide (("powers" : Str) ∈ (["done", "zero", "whole", "part", "powers"] : List Str)) = true) ∧ (decide (("powers" : Str) ∈ (["value", "first", "member", "name"] : List Str)) = false) ∧ (decide (("powers" : Str) ∈ (["minus", "point", "power", "power sign"] : List Str)) = false) ∧ (decide (("powers" : Str) ∈ (["zero", "whole"] : List Str)) = false) ∧ (decide (("powers" : Str) = "hex") = false) ∧ (decide (("powers" : Str) = "low hex") = false) ∧ (decide (("powers" : Str) = "value") = false) ∧ (decide (("powers" : Str) = "first") = false) ∧ (decide (("powers" : Str) = "member") = false) ∧ (decide (("powers" : Str) = "name") = false) ∧ (decide (("powers" : Str) = "colon") = false) ∧ (decide (("powers" : Str) = "behind") = false) ∧ (decide (("powers" : Str) = "text") = false) ∧ (decide (("powers" : Str) = "sign") = false) ∧ (decide (("powers" : Str) = "escape") = false) ∧ (decide (("powers" : Str) = "half") = false) ∧ (decide (("powers" : Str) = "half u") = false) ∧ (decide (("powers" : Str) = "word") = false) ∧ (decide (("powers" : Str) = "minus") = false) ∧ (decide (("powers" : Str) = "point") = false) ∧ (decide (("powers" : Str) = "power") = false) ∧ (decide (("powers" : Str) = "power sign") = false) ∧ (decide (("powers" : Str) = "zero") = false) ∧ (decide (("powers" : Str) = "powers") = true) := by decide +kernel
theorem md_word : (decide (("word" : Str) ∈ (["text", "escape", "hex", "half", "half u", "low hex", "sign"] : List Str)) = false) ∧ (decide (("word" : Str) ∈ (["minus", "zero", "whole", "point", "part", "power", "power sign", "powers"] : List Str)) = false) ∧ (decide (("word" : Str) ∈ (["done", "zero", "whole", "part", "powers"] : List Str)) = false) ∧ (decide (("word" : Str) ∈ (["value", "first", "member", "name"] : List Str)) = false) ∧ (decide (("word" : Str) ∈ (["minus", "point", "power", "power sign"] : List Str)) = false) ∧ (decide (("word" : Str) ∈ (["zero", "whole"] : List Str)) = false) ∧ (decide (("word" : Str) = "hex") = false) ∧ (decide (("word" : Str) = "low hex") = false) ∧ (decide (("word" : Str) = "value") = false) ∧ (decide (("word" : Str) = "first") = false) ∧ (decide (("word" : Str) = "member") = false) ∧ (decide (("word" : Str) = "name") = false) ∧ (decide (("word" : Str) = "colon") = false) ∧ (decide (("word" : Str) = "behind") = false) ∧ (decide (("word" : Str) = "text") = false) ∧ (decide (("word" : Str) = "sign") = false) ∧ (decide (("word" : Str) = "escape") = false) ∧ (decide (("word" : Str) = "half") = false) ∧ (decide (("word" : Str) = "half u") = false) ∧ (decide (("word" : Str) = "word") = true) ∧ (decide (("word" : Str) = "minus") = false) ∧ (decide (("word" : Str) = "point") = false) ∧ (decide (("word" : Str) = "power") = false) ∧ (decide (("word" : Str) = "power sign") = false) ∧ (decide (("word" : Str) = "zero") = false) ∧ (decide (("word" : Str) = "powers") = false) := by decide +kernel

/-! hex_value -/
abbrev s_hex_value : Stmt := topS 16
abbrev n_hex_value : List Str := ["byte"]
theorem c_hex_value : FnScope n_hex_value ["byte"] (defScope s_hex_value) := ⟨rfl, rfl, rfl, by decide +kernel, rfl, by decide +kernel, by decide +kernel⟩

def f_hex_value (v_byte : Int) : Int :=
  (if (decide ((48) ≤ v_byte) && decide (v_byte ≤ (57))) = true then (v_byte - (48)) else (if (decide ((97) ≤ v_byte) && decide (v_byte ≤ (102))) = true then (v_byte - (87)) else (if (decide ((65) ≤ v_byte) && decide (v_byte ≤ (70))) = true then (v_byte - (55)) else (-1))))
def S_hex_value : List PyData → Out → Prop := fun ds o => ∃ v_byte, ds = [(.int v_byte)] ∧ o = .ok (.int (f_hex_value v_byte))
theorem h_hex_value (Df : Def K mg "hex_value" s_hex_value) (B : BI mg) : Has P w K mg base "hex_value" 1 (S_hex_value) := by
  have nd := c_hex_value.nd
  refine has_pu Df c_hex_value (fun _ _ _ _ _ _ us hl => match us, hl with | [_], _ => rfl) ?_ ?_
  · rintro ds o ⟨v_byte, rfl, rfl⟩; rfl
  rintro f cdv A outer s H E hr O ds out ⟨v_byte, rfl, rfl⟩
  refine ds_cons (ds_if (dt_lele (de_int).b (de_va (i := 0) rfl).b (de_int).b) (fun hc1_ => ?_) (fun hc1_ => ?_))
  · try dsimp only at hc1_
    refine ds_cons (ds_ret (de_sub (de_va (i := 0) rfl).b (de_int).b) (Or.inl ?_))
    first | rfl | (simp only [f_hex_value, hc1_, ↓reduceIte, Bool.false_eq_true, eq_self]; done) | (simp only [f_hex_value, hc1_, ↓reduceIte, Bool.false_eq_true, eq_self]; rfl)
  · try dsimp only at hc1_
    refine ds_nil ?_
    refine ds_cons (ds_if (dt_lele (de_int).b (de_va (i := 0) rfl).b (de_int).b) (fun hc2_ => ?_) (fun hc2_ => ?_))
    · try dsimp only at hc2_
      refine ds_cons (ds_ret (de_sub (de_va (i := 0) rfl).b (de_int).b) (Or.inl ?_))
      first | rfl | (simp only [f_hex_value, hc1_, hc2_, ↓reduceIte, Bool.false_eq_true, eq_self]; done) | (simp only [f_hex_value, hc1_, hc2_, ↓reduceIte, Bool.false_eq_true, eq_self]; rfl)
    · try dsimp only at hc2_
      refine ds_nil ?_
      refine ds_cons (ds_if (dt_lele (de_int).b (de_va (i := 0) rfl).b (de_int).b) (fun hc3_ => ?_) (fun hc3_ => ?_))
      · try dsimp only at hc3_
        refine ds_cons (ds_ret (de_sub (de_va (i := 0) rfl).b (de_int).b) (Or.inl ?_))
        first | rfl | (simp only [f_hex_value, hc1_, hc2_, hc3_, ↓reduceIte, Bool.false_eq_true, eq_self]; done) | (simp only [f_hex_value, hc1_, hc2_, hc3_, ↓reduceIte, Bool.false_eq_true, eq_self]; rfl)
      · try dsimp only at hc3_
        refine ds_nil ?_
        refine ds_cons (ds_ret (de_neg (de_int).b) (Or.inl ?_))
        first | rfl | (simp only [f_hex_value, hc1_, hc2_, hc3_, ↓reduceIte, Bool.false_eq_true, eq_self]; done) | (simp only [f_hex_value, hc1_, hc2_, hc3_, ↓reduceIte, Bool.false_eq_true, eq_self]; rfl)
/-! Walker_state -/
structure Wk where
  br : List Bool
  md : Str
  nm : Bool
  lf : Int
  lo : Int
  hi : Int
  nu : Int
  wd : List Int
abbrev WalkerK : List Str := ["brackets", "mode", "naming", "left", "low", "high", "number", "word"]
abbrev wst (C p dx pb : Addr) (w : Wk) : Sto := [(p, .ins C dx WalkerK [.adr (.ref pb), .dat (.str w.md), .dat (.bool w.nm), .dat (.int w.lf), .dat (.int w.lo), .dat (.int w.hi), .dat (.int w.nu), .dat (tupI w.wd)]), (pb, .lst ((w.br.map PyData.bool).map .dat))]
theorem pop_br {br : List Bool} (h : br ≠ []) : ((br.map PyData.bool).map Itm.dat)[((br.map PyData.bool).map Itm.dat).length - 1]? = some (.dat (.bool (br.getLastD false))) := by
  rw [List.length_map, List.length_map, List.getElem?_map, List.getElem?_map]
  rw [← List.getLast?_eq_getElem?, List.getLast?_eq_some_getLast h, List.getLastD_eq_getLast?, List.getLast?_eq_some_getLast h]
  rfl
theorem at_last {br : List Bool} (h : br ≠ []) : atI (br.map PyData.bool) (-1) = some (.bool (br.getLastD false)) := by
  have hl := List.length_pos_iff.mpr h
  unfold atI ixN
  rw [List.length_map, if_neg (by decide), if_pos (by omega)]
  show (br.map PyData.bool)[((-1 : Int) + (br.length : Int)).toNat]? = _
  rw [show ((-1 : Int) + (br.length : Int)).toNat = br.length - 1 by omega, List.getElem?_map, ← List.getLast?_eq_getElem?, List.getLast?_eq_some_getLast h, List.getLastD_eq_getLast?, List.getLast?_eq_some_getLast h]
  rfl
theorem app_br (br : List Bool) (k : Bool) : (br.map PyData.bool).map Itm.dat ++ [Itm.dat (PyData.bool k)] = ((br ++ [k]).map PyData.bool).map Itm.dat := by simp
theorem drop_br (br : List Bool) : ((br.map PyData.bool).map Itm.dat).dropLast = ((br.dropLast).map PyData.bool).map Itm.dat := by rw [List.map_dropLast, List.map_dropLast]
theorem tup_cut1 {wd : List Int} : PyData.tuple (DL.cutD (wd.map .int) (some 1) none) = tupI (wd.drop 1) := by
  cases wd with
  | nil => rfl
  | cons x r => rw [show ((1:Int)) = ((1 : Nat) : Int) from rfl, cut_from _ 1 (by simp), tupI, List.map_drop]
theorem empty_bools (l : List Bool) : (l.map PyData.bool).isEmpty = l.isEmpty := by cases l <;> rfl
theorem empty_ints (l : List Int) : (l.map PyData.int).isEmpty = l.isEmpty := by cases l <;> rfl
def w0 : Wk := ⟨[], "value", false, 0, 0, 0, 0, []⟩
def S_Walker (C : Addr) : List Sl → (List Sl → Out → Prop) → Prop := fun ρa Po => ∃ p dx, ρa = [.st (.ref p) [(p, .ins C dx [] [])]] ∧ Po = fun ρb o => ∃ pb, ρb = [.st (.ref p) (wst C p dx pb w0)] ∧ o = .ok .none

/-! in_hex -/
abbrev s_in_hex : Stmt := topS 38
abbrev n_in_hex : List Str := ["walker", "byte", "worth", "number", "left", "first_half"]
theorem c_in_hex : FnScope n_in_hex ["walker", "byte"] (defScope s_in_hex) := ⟨rfl, rfl, rfl, by decide +kernel, rfl, by decide +kernel, by decide +kernel⟩

def f_in_hex (w : Wk) (v_byte : Int) : Wk × Bool :=
  (if decide ((f_hex_value (v_byte)) < (0)) = true then (⟨w.br, w.md, w.nm, w.lf, w.lo, w.hi, w.nu, w.wd⟩, false) else (if (decide (w.md = "hex") && (decide ((w.lf - (1)) = (2)) && (decide ((220) ≤ ((w.nu * (16)) + (f_hex_value (v_byte)))) && decide (((w.nu * (16)) + (f_hex_value (v_byte))) ≤ (223))))) = true then (⟨w.br, w.md, w.nm, w.lf, w.lo, w.hi, w.nu, w.wd⟩, false) else (if (decide (w.md = "low hex") && ((decide ((w.lf - (1)) = (3)) && (!decide (((w.nu * (16)) + (f_hex_value (v_byte))) = (13)))) || (decide ((w.lf - (1)) = (2)) && decide (((w.nu * (16)) + (f_hex_value (v_byte))) < (220))))) = true then (⟨w.br, w.md, w.nm, w.lf, w.lo, w.hi, w.nu, w.wd⟩, false) else (if decide ((w.lf - (1)) = (0)) = true then (⟨w.br, (if (decide (w.md = "hex") && (decide ((55296) ≤ ((w.nu * (16)) + (f_hex_value (v_byte)))) && decide (((w.nu * (16)) + (f_hex_value (v_byte))) ≤ (56319)))) = true then "half" else "text"), w.nm, (w.lf - (1)), w.lo, w.hi, ((w.nu * (16)) + (f_hex_value (v_byte))), w.wd⟩, true) else (⟨w.br, w.md, w.nm, (w.lf - (1)), w.lo, w.hi, ((w.nu * (16)) + (f_hex_value (v_byte))), w.wd⟩, true)))))
def S_in_hex (a_Walker_ : Addr) : List Sl → (List Sl → Out → Prop) → Prop := fun ρa Po => ∃ p dx pb br md nm lf lo hi nu wd v_byte, ρa = [.st (.ref p) (wst a_Walker_ p dx pb ⟨br, md, nm, lf, lo, hi, nu, wd⟩), .va (.int v_byte)] ∧ Po = fun ρb o => ρb = [.st (.ref p) (wst a_Walker_ p dx pb (f_in_hex ⟨br, md, nm, lf, lo, hi, nu, wd⟩ v_byte).1), .va (.int v_byte)] ∧ o = .ok (.bool (f_in_hex ⟨br, md, nm, lf, lo, hi, nu, wd⟩ v_byte).2)
theorem h_in_hex (Df : Def K mg "in_hex" s_in_hex) (B : BI mg) (C_O_Walker : OCls K a_Walker WalkerK) (G_hex_value : Has P w K mg base "hex_value" 1 (S_hex_value)) : HasG P w K mg base "in_hex" 2 (S_in_hex a_Walker) := by
  have nd := c_in_hex.nd
  refine has_G Df c_in_hex (fun _ _ _ _ _ _ us hl => match us, hl with | [_, _], _ => rfl) ?_ ?_
  · rintro ρa Po ⟨p, dx, pb, br, md, nm, lf, lo, hi, nu, wd, v_byte, rfl, rfl⟩; rfl
  rintro f cdv A outer s H E hr O ρa Po ⟨p, dx, pb, br, md, nm, lf, lo, hi, nu, wd, v_byte, rfl, rfl⟩
  refine ds_cons (ds_asg (n := 2) nd (de_call G_hex_value (hr.mono (by first | decide | omega)) (ad_cons (de_va (i := 1) rfl) ad_nil) (⟨_, rfl, rfl⟩)) ?_)
  refine ds_cons (ds_if (dt_lt (de_va (i := 2) rfl).b (de_int).b) (fun hc1_ => ?_) (fun hc1_ => ?_))
  · try dsimp only at hc1_
    refine ds_cons (ds_ret (de_bl) ?_)
    refine ⟨_, _, ⟨rfl, rfl⟩, kp_st (u := .ref p) 0 ?_, Or.inl ?_⟩ <;> (first | rfl | (simp only [f_in_hex, hc1_, ↓reduceIte, Bool.false_eq_true, eq_self]; done) | (simp only [f_in_hex, hc1_, ↓reduceIte, Bool.false_eq_true, eq_self]; rfl))
  · try dsimp only at hc1_
    refine ds_nil ?_
    refine ds_cons (ds_asg (n := 3) nd (de_add (de_mul (de_fld C_O_Walker (n := 0) rfl (k := 0) rfl (re_nm (i := 0) rfl rfl) (m := 6) rfl rfl).b (de_int).b (by walk_at "side")).b (de_va (i := 2) rfl).b) ?_)
    refine ds_cons (ds_asg (n := 4) nd (de_sub (de_fld C_O_Walker (n := 0) rfl (k := 0) rfl (re_nm (i := 0) rfl rfl) (m := 3) rfl rfl).b (de_int).b) ?_)
    refine ds_cons (ds_if (dt_and3 (dt_eqS (de_fld C_O_Walker (n := 0) rfl (k := 0) rfl (re_nm (i := 0) rfl rfl) (m := 1) rfl rfl).b (de_str).b) (fun h1_ => dt_eqI (de_va (i := 4) rfl).b (de_int).b) (fun h1_ h2_ => dt_lele (de_int).b (de_va (i := 3) rfl).b (de_int).b)) (fun hc2_ => ?_) (fun hc2_ => ?_))
    · try dsimp only at hc2_
      refine ds_cons (ds_ret (de_bl) ?_)
      refine ⟨_, _, ⟨rfl, rfl⟩, kp_st (u := .ref p) 0 ?_, Or.inl ?_⟩ <;> (first | rfl | (simp only [f_in_hex, hc1_, hc2_, ↓reduceIte, Bool.false_eq_true, eq_self]; done) | (simp only [f_in_hex, hc1_, hc2_, ↓reduceIte, Bool.false_eq_true, eq_self]; rfl))
    · try dsimp only at hc2_
      refine ds_nil ?_
      refine ds_cons (ds_if (dt_and2 (dt_eqS (de_fld C_O_Walker (n := 0) rfl (k := 0) rfl (re_nm (i := 0) rfl rfl) (m := 1) rfl rfl).b (de_str).b) (fun h1_ => dt_or2 (dt_and2 (dt_eqI (de_va (i := 4) rfl).b (de_int).b) (fun h1_ => dt_neI (de_va (i := 3) rfl).b (de_int).b)) (fun h1_ => dt_and2 (dt_eqI (de_va (i := 4) rfl).b (de_int).b) (fun h1_ => dt_lt (de_va (i := 3) rfl).b (de_int).b)))) (fun hc3_ => ?_) (fun hc3_ => ?_))
      · try dsimp only at hc3_
        refine ds_cons (ds_ret (de_bl) ?_)
        refine ⟨_, _, ⟨rfl, rfl⟩, kp_st (u := .ref p) 0 ?_, Or.inl ?_⟩ <;> (first | rfl | (simp only [f_in_hex, hc1_, hc2_, hc3_, ↓reduceIte, Bool.false_eq_true, eq_self]; done) | (simp only [f_in_hex, hc1_, hc2_, hc3_, ↓reduceIte, Bool.false_eq_true, eq_self]; rfl))
      · try dsimp only at hc3_
        refine ds_nil ?_
        refine ds_cons (ds_fld C_O_Walker (n := 0) rfl (k := 0) rfl (re_nm (i := 0) rfl rfl) (de_va (i := 3) rfl) (m := 6) rfl (by decide) ?_)
        show DSs _ _ _ (.st (.ref p) (wst a_Walker p dx pb ⟨br, md, nm, lf, lo, hi, ((nu * (16)) + (f_hex_value (v_byte))), wd⟩) :: _) _ _
        refine ds_cons (ds_fld C_O_Walker (n := 0) rfl (k := 0) rfl (re_nm (i := 0) rfl rfl) (de_va (i := 4) rfl) (m := 3) rfl (by decide) ?_)
        show DSs _ _ _ (.st (.ref p) (wst a_Walker p dx pb ⟨br, md, nm, (lf - (1)), lo, hi, ((nu * (16)) + (f_hex_value (v_byte))), wd⟩) :: _) _ _
        refine ds_cons (ds_if (dt_eqI (de_va (i := 4) rfl).b (de_int).b) (fun hc4_ => ?_) (fun hc4_ => ?_))
        · try dsimp only at hc4_
          refine ds_cons (ds_asg (n := 5) nd (de_and2 (de_eqS (de_fld C_O_Walker (n := 0) rfl (k := 0) rfl (re_nm (i := 0) rfl rfl) (m := 1) rfl rfl).b (de_str).b) (fun h1_ => (de_lele (de_int).b (de_va (i := 3) rfl).b (de_int).b))) ?_)
          refine ds_cons (ds_fld C_O_Walker (n := 0) rfl (k := 0) rfl (re_nm (i := 0) rfl rfl) (de_ifS (dt_bl (de_va (i := 5) rfl).b) (de_str) (de_str)) (m := 1) rfl (by decide) ?_)
          show DSs _ _ _ (.st (.ref p) (wst a_Walker p dx pb ⟨br, (if (decide (md = "hex") && (decide ((55296) ≤ ((nu * (16)) + (f_hex_value (v_byte)))) && decide (((nu * (16)) + (f_hex_value (v_byte))) ≤ (56319)))) = true then "half" else "text"), nm, (lf - (1)), lo, hi, ((nu * (16)) + (f_hex_value (v_byte))), wd⟩) :: _) _ _
          refine ds_nil ?_
          refine ds_cons (ds_ret (de_bl) ?_)
          refine ⟨_, _, ⟨rfl, rfl⟩, kp_st (u := .ref p) 0 ?_, Or.inl ?_⟩ <;> (first | rfl | (simp only [f_in_hex, hc1_, hc2_, hc3_, hc4_, ↓reduceIte, Bool.false_eq_true, eq_self]; done) | (simp only [f_in_hex, hc1_, hc2_, hc3_, hc4_, ↓reduceIte, Bool.false_eq_true, eq_self]; rfl))
        · try dsimp only at hc4_
          refine ds_nil ?_
          refine ds_cons (ds_ret (de_bl) ?_)
          refine ⟨_, _, ⟨rfl, rfl⟩, kp_st (u := .ref p) 0 ?_, Or.inl ?_⟩ <;> (first | rfl | (simp only [f_in_hex, hc1_, hc2_, hc3_, hc4_, ↓reduceIte, Bool.false_eq_true, eq_self]; done) | (simp only [f_in_hex, hc1_, hc2_, hc3_, hc4_, ↓reduceIte, Bool.false_eq_true, eq_self]; rfl))
/-! follows -/
abbrev s_follows : Stmt := topS 18
abbrev n_follows : List Str := ["byte"]
theorem c_follows : FnScope n_follows ["byte"] (defScope s_follows) := ⟨rfl, rfl, rfl, by decide +kernel, rfl, by decide +kernel, by decide +kernel⟩
def f_follows (b : Int) : Option (Int × Int × Int) :=
  if decide (b < 128) = true then some (0, 0, 0)
  else if (decide (b < 194) || decide (244 < b)) = true then none
  else if decide (b < 224) = true then some (1, 128, 191)
  else if decide (b = 224) = true then some (2, 160, 191)
  else if decide (b = 237) = true then some (2, 128, 159)
  else if decide (b < 240) = true then some (2, 128, 191)
  else if decide (b = 240) = true then some (3, 144, 191)
  else if decide (b < 244) = true then some (3, 128, 191)
  else some (3, 128, 143)
def folD : Option (Int × Int × Int) → PyData
  | none => .none
  | some (n, l, h) => tupI [n, l, h]
def S_follows : List PyData → Out → Prop := fun ds o => ∃ b, ds = [.int b] ∧ o = .ok (folD (f_follows b))

theorem h_follows (Df : Def K mg "follows" s_follows) (B : BI mg) : Has P w K mg base "follows" 1 (S_follows) := by
  have nd := c_follows.nd
  refine has_pu Df c_follows (fun _ _ _ _ _ _ us hl => match us, hl with | [_], _ => rfl) ?_ ?_
  · rintro ds o ⟨b, rfl, rfl⟩; rfl
  rintro f cdv A outer s H E hr O ds out ⟨b, rfl, rfl⟩
  refine ds_cons (ds_if (dt_lt (de_va (i := 0) rfl).b (de_int).b) (fun hc1_ => ?_) (fun hc1_ => ?_))
  · try dsimp only at hc1_
    refine ds_cons (ds_ret (de_tup (ad_cons (de_int) (ad_cons (de_int) (ad_cons (de_int) ad_nil))) (by simp only [List.length_cons, List.length_nil]; omega)) (Or.inl ?_))
    first | rfl | (simp only [f_follows, hc1_, ↓reduceIte, Bool.false_eq_true, eq_self]; done) | (simp only [f_follows, hc1_, ↓reduceIte, Bool.false_eq_true, eq_self]; rfl)
  · try dsimp only at hc1_
    refine ds_nil ?_
    refine ds_cons (ds_if (dt_or2 (dt_lt (de_va (i := 0) rfl).b (de_int).b) (fun h1_ => dt_gt (de_va (i := 0) rfl).b (de_int).b)) (fun hc2_ => ?_) (fun hc2_ => ?_))
    · try dsimp only at hc2_
      refine ds_cons (ds_ret (de_non) (Or.inl ?_))
      simp only [f_follows, hc1_, hc2_, ↓reduceIte, Bool.false_eq_true]; rfl
    · try dsimp only at hc2_
      refine ds_nil ?_
      refine ds_cons (ds_if (dt_lt (de_va (i := 0) rfl).b (de_int).b) (fun hc3_ => ?_) (fun hc3_ => ?_))
      · try dsimp only at hc3_
        refine ds_cons (ds_ret (de_tup (ad_cons (de_int) (ad_cons (de_int) (ad_cons (de_int) ad_nil))) (by simp only [List.length_cons, List.length_nil]; omega)) (Or.inl ?_))
        first | rfl | (simp only [f_follows, hc1_, hc2_, hc3_, ↓reduceIte, Bool.false_eq_true, eq_self]; done) | (simp only [f_follows, hc1_, hc2_, hc3_, ↓reduceIte, Bool.false_eq_true, eq_self]; rfl)
      · try dsimp only at hc3_
        refine ds_nil ?_
        refine ds_cons (ds_if (dt_eqI (de_va (i := 0) rfl).b (de_int).b) (fun hc4_ => ?_) (fun hc4_ => ?_))
        · try dsimp only at hc4_
          refine ds_cons (ds_ret (de_tup (ad_cons (de_int) (ad_cons (de_int) (ad_cons (de_int) ad_nil))) (by simp only [List.length_cons, List.length_nil]; omega)) (Or.inl ?_))
          first | rfl | (simp only [f_follows, hc1_, hc2_, hc3_, hc4_, ↓reduceIte, Bool.false_eq_true, eq_self]; done) | (simp only [f_follows, hc1_, hc2_, hc3_, hc4_, ↓reduceIte, Bool.false_eq_true, eq_self]; rfl)
        · try dsimp only at hc4_
          refine ds_nil ?_
          refine ds_cons (ds_if (dt_eqI (de_va (i := 0) rfl).b (de_int).b) (fun hc5_ => ?_) (fun hc5_ => ?_))
          · try dsimp only at hc5_
            refine ds_cons (ds_ret (de_tup (ad_cons (de_int) (ad_cons (de_int) (ad_cons (de_int) ad_nil))) (by simp only [List.length_cons, List.length_nil]; omega)) (Or.inl ?_))
            first | rfl | (simp only [f_follows, hc1_, hc2_, hc3_, hc4_, hc5_, ↓reduceIte, Bool.false_eq_true, eq_self]; done) | (simp only [f_follows, hc1_, hc2_, hc3_, hc4_, hc5_, ↓reduceIte, Bool.false_eq_true, eq_self]; rfl)
          · try dsimp only at hc5_
            refine ds_nil ?_
            refine ds_cons (ds_if (dt_lt (de_va (i := 0) rfl).b (de_int).b) (fun hc6_ => ?_) (fun hc6_ => ?_))
            · try dsimp only at hc6_
              refine ds_cons (ds_ret (de_tup (ad_cons (de_int) (ad_cons (de_int) (ad_cons (de_int) ad_nil))) (by simp only [List.length_cons, List.length_nil]; omega)) (Or.inl ?_))
              first | rfl | (simp only [f_follows, hc1_, hc2_, hc3_, hc4_, hc5_, hc6_, ↓reduceIte, Bool.false_eq_true, eq_self]; done) | (simp only [f_follows, hc1_, hc2_, hc3_, hc4_, hc5_, hc6_, ↓reduceIte, Bool.false_eq_true, eq_self]; rfl)
            · try dsimp only at hc6_
              refine ds_nil ?_
              refine ds_cons (ds_if (dt_eqI (de_va (i := 0) rfl).b (de_int).b) (fun hc7_ => ?_) (fun hc7_ => ?_))
              · try dsimp only at hc7_
                refine ds_cons (ds_ret (de_tup (ad_cons (de_int) (ad_cons (de_int) (ad_cons (de_int) ad_nil))) (by simp only [List.length_cons, List.length_nil]; omega)) (Or.inl ?_))
                first | rfl | (simp only [f_follows, hc1_, hc2_, hc3_, hc4_, hc5_, hc6_, hc7_, ↓reduceIte, Bool.false_eq_true, eq_self]; done) | (simp only [f_follows, hc1_, hc2_, hc3_, hc4_, hc5_, hc6_, hc7_, ↓reduceIte, Bool.false_eq_true, eq_self]; rfl)
              · try dsimp only at hc7_
                refine ds_nil ?_
                refine ds_cons (ds_if (dt_lt (de_va (i := 0) rfl).b (de_int).b) (fun hc8_ => ?_) (fun hc8_ => ?_))
                · try dsimp only at hc8_
                  refine ds_cons (ds_ret (de_tup (ad_cons (de_int) (ad_cons (de_int) (ad_cons (de_int) ad_nil))) (by simp only [List.length_cons, List.length_nil]; omega)) (Or.inl ?_))
                  first | rfl | (simp only [f_follows, hc1_, hc2_, hc3_, hc4_, hc5_, hc6_, hc7_, hc8_, ↓reduceIte, Bool.false_eq_true, eq_self]; done) | (simp only [f_follows, hc1_, hc2_, hc3_, hc4_, hc5_, hc6_, hc7_, hc8_, ↓reduceIte, Bool.false_eq_true, eq_self]; rfl)
                · try dsimp only at hc8_
                  refine ds_nil ?_
                  refine ds_cons (ds_ret (de_tup (ad_cons (de_int) (ad_cons (de_int) (ad_cons (de_int) ad_nil))) (by simp only [List.length_cons, List.length_nil]; omega)) (Or.inl ?_))
                  first | rfl | (simp only [f_follows, hc1_, hc2_, hc3_, hc4_, hc5_, hc6_, hc7_, hc8_, ↓reduceIte, Bool.false_eq_true, eq_self]; done) | (simp only [f_follows, hc1_, hc2_, hc3_, hc4_, hc5_, hc6_, hc7_, hc8_, ↓reduceIte, Bool.false_eq_true, eq_self]; rfl)
/-! ended -/
abbrev s_ended : Stmt := topS 28
abbrev n_ended : List Str := ["walker"]
theorem c_ended : FnScope n_ended ["walker"] (defScope s_ended) := ⟨rfl, rfl, rfl, by decide +kernel, rfl, by decide +kernel, by decide +kernel⟩

def f_ended (w : Wk) : Wk × Bool :=
  (if (!(w.br.map PyData.bool).isEmpty) = true then (⟨w.br, "behind", w.nm, w.lf, w.lo, w.hi, w.nu, w.wd⟩, true) else (⟨w.br, "done", w.nm, w.lf, w.lo, w.hi, w.nu, w.wd⟩, true))
def S_ended (a_Walker_ : Addr) : List Sl → (List Sl → Out → Prop) → Prop := fun ρa Po => ∃ p dx pb br md nm lf lo hi nu wd, ρa = [.st (.ref p) (wst a_Walker_ p dx pb ⟨br, md, nm, lf, lo, hi, nu, wd⟩)] ∧ Po = fun ρb o => ρb = [.st (.ref p) (wst a_Walker_ p dx pb (f_ended ⟨br, md, nm, lf, lo, hi, nu, wd⟩).1)] ∧ o = .ok (.bool (f_ended ⟨br, md, nm, lf, lo, hi, nu, wd⟩).2)
theorem h_ended (Df : Def K mg "ended" s_ended) (B : BI mg) (C_O_Walker : OCls K a_Walker WalkerK) : HasG P w K mg base "ended" 1 (S_ended a_Walker) := by
  have nd := c_ended.nd
  refine has_G Df c_ended (fun _ _ _ _ _ _ us hl => match us, hl with | [_], _ => rfl) ?_ ?_
  · rintro ρa Po ⟨p, dx, pb, br, md, nm, lf, lo, hi, nu, wd, rfl, rfl⟩; rfl
  rintro f cdv A outer s H E hr O ρa Po ⟨p, dx, pb, br, md, nm, lf, lo, hi, nu, wd, rfl, rfl⟩
  refine ds_cons (ds_fld C_O_Walker (n := 0) rfl (k := 0) rfl (re_nm (i := 0) rfl rfl) (de_str) (m := 1) rfl (by decide) ?_)
  show DSs _ _ _ (.st (.ref p) (wst a_Walker p dx pb ⟨br, "done", nm, lf, lo, hi, nu, wd⟩) :: _) _ _
  refine ds_cons (ds_if (dt_lst (be_cell (n := 0) rfl (k := 1) rfl (re_fld C_O_Walker (n := 0) rfl (k := 0) rfl (re_nm (i := 0) rfl rfl) (m := 0) rfl rfl))) (fun hc1_ => ?_) (fun hc1_ => ?_))
  · try dsimp only at hc1_
    refine ds_cons (ds_fld C_O_Walker (n := 0) rfl (k := 0) rfl (re_nm (i := 0) rfl rfl) (de_str) (m := 1) rfl (by decide) ?_)
    show DSs _ _ _ (.st (.ref p) (wst a_Walker p dx pb ⟨br, "behind", nm, lf, lo, hi, nu, wd⟩) :: _) _ _
    refine ds_nil ?_
    refine ds_cons (ds_ret (de_bl) ?_)
    refine ⟨_, _, ⟨rfl, rfl⟩, kp_st (u := .ref p) 0 ?_, Or.inl ?_⟩ <;> (first | rfl | (simp only [f_ended, hc1_, ↓reduceIte, Bool.false_eq_true, eq_self]; done) | (simp only [f_ended, hc1_, ↓reduceIte, Bool.false_eq_true, eq_self]; rfl))
  · try dsimp only at hc1_
    refine ds_nil ?_
    refine ds_cons (ds_ret (de_bl) ?_)
    refine ⟨_, _, ⟨rfl, rfl⟩, kp_st (u := .ref p) 0 ?_, Or.inl ?_⟩ <;> (first | rfl | (simp only [f_ended, hc1_, ↓reduceIte, Bool.false_eq_true, eq_self]; done) | (simp only [f_ended, hc1_, ↓reduceIte, Bool.false_eq_true, eq_self]; rfl))
/-! in_plain -/
abbrev s_in_plain : Stmt := topS 36
abbrev n_in_plain : List Str := ["walker", "byte", "lead"]
theorem c_in_plain : FnScope n_in_plain ["walker", "byte"] (defScope s_in_plain) := ⟨rfl, rfl, rfl, by decide +kernel, rfl, by decide +kernel, by decide +kernel⟩
def f_in_plain (w : Wk) (b : Int) : Wk × Bool :=
  if decide (b = 34) = true then (if w.nm = true then ({ w with md := "colon" }, true) else f_ended w)
  else if decide (b = 92) = true then ({ w with md := "escape" }, true)
  else match f_follows b with
    | none => (w, false)
    | some (n, l, h) => if decide (b < 32) = true then (w, false) else if decide (0 < n) = true then ({ w with md := "sign", lf := n, lo := l, hi := h }, true) else (w, true)

def S_in_plain (a_Walker_ : Addr) : List Sl → (List Sl → Out → Prop) → Prop := fun ρa Po => ∃ p dx pb br md nm lf lo hi nu wd v_byte, ρa = [.st (.ref p) (wst a_Walker_ p dx pb ⟨br, md, nm, lf, lo, hi, nu, wd⟩), .va (.int v_byte)] ∧ Po = fun ρb o => ρb = [.st (.ref p) (wst a_Walker_ p dx pb (f_in_plain ⟨br, md, nm, lf, lo, hi, nu, wd⟩ v_byte).1), .va (.int v_byte)] ∧ o = .ok (.bool (f_in_plain ⟨br, md, nm, lf, lo, hi, nu, wd⟩ v_byte).2)
theorem h_in_plain (Df : Def K mg "in_plain" s_in_plain) (B : BI mg) (C_QUOTE : ∃ t, mg "QUOTE" = some (.int 34 t)) (C_BACKSLASH : ∃ t, mg "BACKSLASH" = some (.int 92 t)) (C_O_Walker : OCls K a_Walker WalkerK) (G_follows : Has P w K mg base "follows" 1 (S_follows)) (G_ended : HasG P w K mg base "ended" 1 (S_ended a_Walker)) : HasG P w K mg base "in_plain" 2 (S_in_plain a_Walker) := by
  have nd := c_in_plain.nd
  refine has_G Df c_in_plain (fun _ _ _ _ _ _ us hl => match us, hl with | [_, _], _ => rfl) ?_ ?_
  · rintro ρa Po ⟨p, dx, pb, br, md, nm, lf, lo, hi, nu, wd, v_byte, rfl, rfl⟩; rfl
  rintro f cdv A outer s H E hr O ρa Po ⟨p, dx, pb, br, md, nm, lf, lo, hi, nu, wd, v_byte, rfl, rfl⟩
  refine ds_cons (ds_if (dt_eqI (de_va (i := 1) rfl).b (de_glI C_QUOTE).b) (fun hc1_ => ?_) (fun hc1_ => ?_))
  · try dsimp only at hc1_
    refine ds_cons (ds_if (dt_bl (de_fld C_O_Walker (n := 0) rfl (k := 0) rfl (re_nm (i := 0) rfl rfl) (m := 2) rfl rfl).b) (fun hc2_ => ?_) (fun hc2_ => ?_))
    · try dsimp only at hc2_
      refine ds_cons (ds_fld C_O_Walker (n := 0) rfl (k := 0) rfl (re_nm (i := 0) rfl rfl) (de_str) (m := 1) rfl (by decide) ?_)
      show DSs _ _ _ (.st (.ref p) (wst a_Walker p dx pb ⟨br, "colon", nm, lf, lo, hi, nu, wd⟩) :: _) _ _
      refine ds_cons (ds_ret (de_bl) ?_)
      refine ⟨_, _, ⟨rfl, rfl⟩, kp_st (u := .ref p) 0 ?_, Or.inl ?_⟩ <;> (first | rfl | (simp only [f_in_plain, hc1_, hc2_, ↓reduceIte, Bool.false_eq_true, eq_self]; done) | (simp only [f_in_plain, hc1_, hc2_, ↓reduceIte, Bool.false_eq_true, eq_self]; rfl) | (simp only [f_in_plain, hc1_, hc2_, hf, ↓reduceIte, Bool.false_eq_true, eq_self]; done) | (simp only [f_in_plain, hc1_, hc2_, hf, ↓reduceIte, Bool.false_eq_true, eq_self]; rfl))
    · try dsimp only at hc2_
      refine ds_nil ?_
      refine ds_cons (ds_retC (ce_callG0 (n := 0) G_ended (hr.mono (by first | decide | omega)) rfl (re_nm (i := 0) rfl rfl) aw_nil (⟨_, _, _, _, _, _, _, _, _, _, _, rfl, rfl⟩)) ?_)
      refine ⟨_, _, ⟨rfl, rfl⟩, kp_st (u := .ref p) 0 ?_, Or.inl ?_⟩ <;> (first | rfl | (simp only [f_in_plain, hc1_, hc2_, ↓reduceIte, Bool.false_eq_true, eq_self]; done) | (simp only [f_in_plain, hc1_, hc2_, ↓reduceIte, Bool.false_eq_true, eq_self]; rfl) | (simp only [f_in_plain, hc1_, hc2_, hf, ↓reduceIte, Bool.false_eq_true, eq_self]; done) | (simp only [f_in_plain, hc1_, hc2_, hf, ↓reduceIte, Bool.false_eq_true, eq_self]; rfl))
  · try dsimp only at hc1_
    refine ds_nil ?_
    refine ds_cons (ds_if (dt_eqI (de_va (i := 1) rfl).b (de_glI C_BACKSLASH).b) (fun hc3_ => ?_) (fun hc3_ => ?_))
    · try dsimp only at hc3_
      refine ds_cons (ds_fld C_O_Walker (n := 0) rfl (k := 0) rfl (re_nm (i := 0) rfl rfl) (de_str) (m := 1) rfl (by decide) ?_)
      show DSs _ _ _ (.st (.ref p) (wst a_Walker p dx pb ⟨br, "escape", nm, lf, lo, hi, nu, wd⟩) :: _) _ _
      refine ds_cons (ds_ret (de_bl) ?_)
      refine ⟨_, _, ⟨rfl, rfl⟩, kp_st (u := .ref p) 0 ?_, Or.inl ?_⟩ <;> (first | rfl | (simp only [f_in_plain, hc1_, hc3_, ↓reduceIte, Bool.false_eq_true, eq_self]; done) | (simp only [f_in_plain, hc1_, hc3_, ↓reduceIte, Bool.false_eq_true, eq_self]; rfl) | (simp only [f_in_plain, hc1_, hc3_, hf, ↓reduceIte, Bool.false_eq_true, eq_self]; done) | (simp only [f_in_plain, hc1_, hc3_, hf, ↓reduceIte, Bool.false_eq_true, eq_self]; rfl))
    · try dsimp only at hc3_
      refine ds_nil ?_
      refine ds_cons (ds_asg (n := 2) nd (de_call G_follows (hr.mono (by first | decide | omega)) (ad_cons (de_va (i := 1) rfl) ad_nil) (⟨_, rfl, rfl⟩)) ?_)
      cases hf : f_follows v_byte with
      | none =>
        refine ds_cons (ds_if (dt_or2 (dt_lt (de_va (i := 1) rfl).b de_int.b) (fun _ => dt_isN (de_va (i := 2) rfl).b)) (fun hc => ?_) (fun hc => ?_))
        · refine ds_cons (ds_ret de_bl ?_)
          refine ⟨_, _, ⟨rfl, rfl⟩, kp_st (u := .ref p) 0 ?_, Or.inl ?_⟩ <;> (simp only [f_in_plain, hc1_, hc3_, hf, ↓reduceIte, Bool.false_eq_true]; try rfl)
        · exfalso; revert hc; show (decide (v_byte < 32) || true) = false → False; simp
      | some L =>
      obtain ⟨n0, l0, h0⟩ := L
      refine ds_cons (ds_if (dt_or2 (dt_lt (de_va (i := 1) rfl).b (de_int).b) (fun h1_ => dt_isN (de_va (i := 2) rfl).b)) (fun hc4_ => ?_) (fun hc4_ => ?_))
      · try dsimp only at hc4_
        rw [show (decide (v_byte < 32) || isNone (folD (some (n0, l0, h0)))) = decide (v_byte < 32) by show (_ || false) = _; rw [Bool.or_false]] at hc4_
        refine ds_cons (ds_ret (de_bl) ?_)
        refine ⟨_, _, ⟨rfl, rfl⟩, kp_st (u := .ref p) 0 ?_, Or.inl ?_⟩ <;> (first | rfl | (simp only [f_in_plain, hc1_, hc3_, hc4_, ↓reduceIte, Bool.false_eq_true, eq_self]; done) | (simp only [f_in_plain, hc1_, hc3_, hc4_, ↓reduceIte, Bool.false_eq_true, eq_self]; rfl) | (simp only [f_in_plain, hc1_, hc3_, hc4_, hf, ↓reduceIte, Bool.false_eq_true, eq_self]; done) | (simp only [f_in_plain, hc1_, hc3_, hc4_, hf, ↓reduceIte, Bool.false_eq_true, eq_self]; rfl))
      · try dsimp only at hc4_
        rw [show (decide (v_byte < 32) || isNone (folD (some (n0, l0, h0)))) = decide (v_byte < 32) by show (_ || false) = _; rw [Bool.or_false]] at hc4_
        refine ds_nil ?_
        refine ds_cons (ds_if (dt_gt (de_ixT (ds := [.int n0, .int l0, .int h0]) (de_va (i := 2) rfl) (de_int).b rfl).b (de_int).b) (fun hc5_ => ?_) (fun hc5_ => ?_))
        · try dsimp only at hc5_
          refine ds_cons (ds_fld C_O_Walker (n := 0) rfl (k := 0) rfl (re_nm (i := 0) rfl rfl) (de_str) (m := 1) rfl (by decide) ?_)
          show DSs _ _ _ (.st (.ref p) (wst a_Walker p dx pb ⟨br, "sign", nm, lf, lo, hi, nu, wd⟩) :: _) _ _
          refine ds_cons (ds_fld C_O_Walker (n := 0) rfl (k := 0) rfl (re_nm (i := 0) rfl rfl) (de_ixT (ds := [.int n0, .int l0, .int h0]) (de_va (i := 2) rfl) (de_int).b rfl) (m := 3) rfl (by decide) ?_)
          refine ds_cons (ds_fld C_O_Walker (n := 0) rfl (k := 0) rfl (re_nm (i := 0) rfl rfl) (de_ixT (ds := [.int n0, .int l0, .int h0]) (de_va (i := 2) rfl) (de_int).b rfl) (m := 4) rfl (by decide) ?_)
          refine ds_cons (ds_fld C_O_Walker (n := 0) rfl (k := 0) rfl (re_nm (i := 0) rfl rfl) (de_ixT (ds := [.int n0, .int l0, .int h0]) (de_va (i := 2) rfl) (de_int).b rfl) (m := 5) rfl (by decide) ?_)
          refine ds_nil ?_
          refine ds_cons (ds_ret (de_bl) ?_)
          refine ⟨_, _, ⟨rfl, rfl⟩, kp_st (u := .ref p) 0 ?_, Or.inl ?_⟩ <;> (first | rfl | (simp only [f_in_plain, hc1_, hc3_, hc4_, hc5_, ↓reduceIte, Bool.false_eq_true, eq_self]; done) | (simp only [f_in_plain, hc1_, hc3_, hc4_, hc5_, ↓reduceIte, Bool.false_eq_true, eq_self]; rfl) | (simp only [f_in_plain, hc1_, hc3_, hc4_, hc5_, hf, ↓reduceIte, Bool.false_eq_true, eq_self]; done) | (simp only [f_in_plain, hc1_, hc3_, hc4_, hc5_, hf, ↓reduceIte, Bool.false_eq_true, eq_self]; rfl))
        · try dsimp only at hc5_
          refine ds_nil ?_
          refine ds_cons (ds_ret (de_bl) ?_)
          refine ⟨_, _, ⟨rfl, rfl⟩, kp_st (u := .ref p) 0 ?_, Or.inl ?_⟩ <;> (first | rfl | (simp only [f_in_plain, hc1_, hc3_, hc4_, hc5_, ↓reduceIte, Bool.false_eq_true, eq_self]; done) | (simp only [f_in_plain, hc1_, hc3_, hc4_, hc5_, ↓reduceIte, Bool.false_eq_true, eq_self]; rfl) | (simp only [f_in_plain, hc1_, hc3_, hc4_, hc5_, hf, ↓reduceIte, Bool.false_eq_true, eq_self]; done) | (simp only [f_in_plain, hc1_, hc3_, hc4_, hc5_, hf, ↓reduceIte, Bool.false_eq_true, eq_self]; rfl))
/-! in_sign -/
abbrev s_in_sign : Stmt := topS 37
abbrev n_in_sign : List Str := ["walker", "byte"]
theorem c_in_sign : FnScope n_in_sign ["walker", "byte"] (defScope s_in_sign) := ⟨rfl, rfl, rfl, by decide +kernel, rfl, by decide +kernel, by decide +kernel⟩

def f_in_sign (w : Wk) (v_byte : Int) : Wk × Bool :=
  (if (!(decide (w.lo ≤ v_byte) && decide (v_byte ≤ w.hi))) = true then (⟨w.br, w.md, w.nm, w.lf, w.lo, w.hi, w.nu, w.wd⟩, false) else (if decide ((w.lf - (1)) = (0)) = true then (⟨w.br, "text", w.nm, (w.lf - (1)), (128), (191), w.nu, w.wd⟩, true) else (⟨w.br, w.md, w.nm, (w.lf - (1)), (128), (191), w.nu, w.wd⟩, true)))
def S_in_sign (a_Walker_ : Addr) : List Sl → (List Sl → Out → Prop) → Prop := fun ρa Po => ∃ p dx pb br md nm lf lo hi nu wd v_byte, ρa = [.st (.ref p) (wst a_Walker_ p dx pb ⟨br, md, nm, lf, lo, hi, nu, wd⟩), .va (.int v_byte)] ∧ Po = fun ρb o => ρb = [.st (.ref p) (wst a_Walker_ p dx pb (f_in_sign ⟨br, md, nm, lf, lo, hi, nu, wd⟩ v_byte).1), .va (.int v_byte)] ∧ o = .ok (.bool (f_in_sign ⟨br, md, nm, lf, lo, hi, nu, wd⟩ v_byte).2)
theorem h_in_sign (Df : Def K mg "in_sign" s_in_sign) (B : BI mg) (C_O_Walker : OCls K a_Walker WalkerK) : HasG P w K mg base "in_sign" 1 (S_in_sign a_Walker) := by
  have nd := c_in_sign.nd
  refine has_G Df c_in_sign (fun _ _ _ _ _ _ us hl => match us, hl with | [_, _], _ => rfl) ?_ ?_
  · rintro ρa Po ⟨p, dx, pb, br, md, nm, lf, lo, hi, nu, wd, v_byte, rfl, rfl⟩; rfl
  rintro f cdv A outer s H E hr O ρa Po ⟨p, dx, pb, br, md, nm, lf, lo, hi, nu, wd, v_byte, rfl, rfl⟩
  refine ds_cons (ds_if (dt_not (dt_lele (de_fld C_O_Walker (n := 0) rfl (k := 0) rfl (re_nm (i := 0) rfl rfl) (m := 4) rfl rfl).b (de_va (i := 1) rfl).b (de_fld C_O_Walker (n := 0) rfl (k := 0) rfl (re_nm (i := 0) rfl rfl) (m := 5) rfl rfl).b)) (fun hc1_ => ?_) (fun hc1_ => ?_))
  · try dsimp only at hc1_
    refine ds_cons (ds_ret (de_bl) ?_)
    refine ⟨_, _, ⟨rfl, rfl⟩, kp_st (u := .ref p) 0 ?_, Or.inl ?_⟩ <;> (first | rfl | (simp only [f_in_sign, hc1_, ↓reduceIte, Bool.false_eq_true, eq_self]; done) | (simp only [f_in_sign, hc1_, ↓reduceIte, Bool.false_eq_true, eq_self]; rfl))
  · try dsimp only at hc1_
    refine ds_nil ?_
    refine ds_cons (ds_fld C_O_Walker (n := 0) rfl (k := 0) rfl (re_nm (i := 0) rfl rfl) (de_sub (de_fld C_O_Walker (n := 0) rfl (k := 0) rfl (re_nm (i := 0) rfl rfl) (m := 3) rfl rfl).b (de_int).b) (m := 3) rfl (by decide) ?_)
    show DSs _ _ _ (.st (.ref p) (wst a_Walker p dx pb ⟨br, md, nm, (lf - (1)), lo, hi, nu, wd⟩) :: _) _ _
    refine ds_cons (ds_fld C_O_Walker (n := 0) rfl (k := 0) rfl (re_nm (i := 0) rfl rfl) (de_int) (m := 4) rfl (by decide) ?_)
    show DSs _ _ _ (.st (.ref p) (wst a_Walker p dx pb ⟨br, md, nm, (lf - (1)), (128), hi, nu, wd⟩) :: _) _ _
    refine ds_cons (ds_fld C_O_Walker (n := 0) rfl (k := 0) rfl (re_nm (i := 0) rfl rfl) (de_int) (m := 5) rfl (by decide) ?_)
    show DSs _ _ _ (.st (.ref p) (wst a_Walker p dx pb ⟨br, md, nm, (lf - (1)), (128), (191), nu, wd⟩) :: _) _ _
    refine ds_cons (ds_if (dt_eqI (de_fld C_O_Walker (n := 0) rfl (k := 0) rfl (re_nm (i := 0) rfl rfl) (m := 3) rfl rfl).b (de_int).b) (fun hc2_ => ?_) (fun hc2_ => ?_))
    · try dsimp only at hc2_
      refine ds_cons (ds_fld C_O_Walker (n := 0) rfl (k := 0) rfl (re_nm (i := 0) rfl rfl) (de_str) (m := 1) rfl (by decide) ?_)
      show DSs _ _ _ (.st (.ref p) (wst a_Walker p dx pb ⟨br, "text", nm, (lf - (1)), (128), (191), nu, wd⟩) :: _) _ _
      refine ds_nil ?_
      refine ds_cons (ds_ret (de_bl) ?_)
      refine ⟨_, _, ⟨rfl, rfl⟩, kp_st (u := .ref p) 0 ?_, Or.inl ?_⟩ <;> (first | rfl | (simp only [f_in_sign, hc1_, hc2_, ↓reduceIte, Bool.false_eq_true, eq_self]; done) | (simp only [f_in_sign, hc1_, hc2_, ↓reduceIte, Bool.false_eq_true, eq_self]; rfl))
    · try dsimp only at hc2_
      refine ds_nil ?_
      refine ds_cons (ds_ret (de_bl) ?_)
      refine ⟨_, _, ⟨rfl, rfl⟩, kp_st (u := .ref p) 0 ?_, Or.inl ?_⟩ <;> (first | rfl | (simp only [f_in_sign, hc1_, hc2_, ↓reduceIte, Bool.false_eq_true, eq_self]; done) | (simp only [f_in_sign, hc1_, hc2_, ↓reduceIte, Bool.false_eq_true, eq_self]; rfl))
/-! hex_begun -/
abbrev s_hex_begun : Stmt := topS 39
abbrev n_hex_begun : List Str := ["walker", "mode"]
theorem c_hex_begun : FnScope n_hex_begun ["walker", "mode"] (defScope s_hex_begun) := ⟨rfl, rfl, rfl, by decide +kernel, rfl, by decide +kernel, by decide +kernel⟩

def f_hex_begun (w : Wk) (v_mode : Str) : Wk × Bool :=
  (⟨w.br, v_mode, w.nm, (4), w.lo, w.hi, (0), w.wd⟩, true)
def S_hex_begun (a_Walker_ : Addr) : List Sl → (List Sl → Out → Prop) → Prop := fun ρa Po => ∃ p dx pb br md nm lf lo hi nu wd v_mode, ρa = [.st (.ref p) (wst a_Walker_ p dx pb ⟨br, md, nm, lf, lo, hi, nu, wd⟩), .va (.str v_mode)] ∧ Po = fun ρb o => ρb = [.st (.ref p) (wst a_Walker_ p dx pb (f_hex_begun ⟨br, md, nm, lf, lo, hi, nu, wd⟩ v_mode).1), .va (.str v_mode)] ∧ o = .ok (.bool (f_hex_begun ⟨br, md, nm, lf, lo, hi, nu, wd⟩ v_mode).2)
theorem h_hex_begun (Df : Def K mg "hex_begun" s_hex_begun) (B : BI mg) (C_O_Walker : OCls K a_Walker WalkerK) : HasG P w K mg base "hex_begun" 1 (S_hex_begun a_Walker) := by
  have nd := c_hex_begun.nd
  refine has_G Df c_hex_begun (fun _ _ _ _ _ _ us hl => match us, hl with | [_, _], _ => rfl) ?_ ?_
  · rintro ρa Po ⟨p, dx, pb, br, md, nm, lf, lo, hi, nu, wd, v_mode, rfl, rfl⟩; rfl
  rintro f cdv A outer s H E hr O ρa Po ⟨p, dx, pb, br, md, nm, lf, lo, hi, nu, wd, v_mode, rfl, rfl⟩
  refine ds_cons (ds_fld C_O_Walker (n := 0) rfl (k := 0) rfl (re_nm (i := 0) rfl rfl) (de_va (i := 1) rfl) (m := 1) rfl (by decide) ?_)
  show DSs _ _ _ (.st (.ref p) (wst a_Walker p dx pb ⟨br, v_mode, nm, lf, lo, hi, nu, wd⟩) :: _) _ _
  refine ds_cons (ds_fld C_O_Walker (n := 0) rfl (k := 0) rfl (re_nm (i := 0) rfl rfl) (de_int) (m := 3) rfl (by decide) ?_)
  show DSs _ _ _ (.st (.ref p) (wst a_Walker p dx pb ⟨br, v_mode, nm, (4), lo, hi, nu, wd⟩) :: _) _ _
  refine ds_cons (ds_fld C_O_Walker (n := 0) rfl (k := 0) rfl (re_nm (i := 0) rfl rfl) (de_int) (m := 6) rfl (by decide) ?_)
  show DSs _ _ _ (.st (.ref p) (wst a_Walker p dx pb ⟨br, v_mode, nm, (4), lo, hi, (0), wd⟩) :: _) _ _
  refine ds_cons (ds_ret (de_bl) ?_)
  refine ⟨_, _, ⟨rfl, rfl⟩, kp_st (u := .ref p) 0 ?_, Or.inl ?_⟩ <;> (first | rfl | (simp only [f_hex_begun, ↓reduceIte, Bool.false_eq_true, eq_self]; done) | (simp only [f_hex_begun, ↓reduceIte, Bool.false_eq_true, eq_self]; rfl))
/-! in_text -/
abbrev s_in_text : Stmt := topS 40
abbrev n_in_text : List Str := ["walker", "byte", "mode"]
theorem c_in_text : FnScope n_in_text ["walker", "byte"] (defScope s_in_text) := ⟨rfl, rfl, rfl, by decide +kernel, rfl, by decide +kernel, by decide +kernel⟩

def f_in_text (w : Wk) (v_byte : Int) : Wk × Bool :=
  (if decide (w.md = "text") = true then f_in_plain ⟨w.br, w.md, w.nm, w.lf, w.lo, w.hi, w.nu, w.wd⟩ (v_byte) else (if decide (w.md = "sign") = true then f_in_sign ⟨w.br, w.md, w.nm, w.lf, w.lo, w.hi, w.nu, w.wd⟩ (v_byte) else (if decide (w.md = "escape") = true then (if decide (v_byte = (117)) = true then f_hex_begun ⟨w.br, w.md, w.nm, w.lf, w.lo, w.hi, w.nu, w.wd⟩ ("hex") else (if (!decide (v_byte ∈ ([34, 92, 47, 98, 102, 110, 114, 116] : List Int))) = true then (⟨w.br, w.md, w.nm, w.lf, w.lo, w.hi, w.nu, w.wd⟩, false) else (⟨w.br, "text", w.nm, w.lf, w.lo, w.hi, w.nu, w.wd⟩, true))) else (if decide (w.md = "half") = true then (if (!decide (v_byte = (92))) = true then (⟨w.br, w.md, w.nm, w.lf, w.lo, w.hi, w.nu, w.wd⟩, false) else (⟨w.br, "half u", w.nm, w.lf, w.lo, w.hi, w.nu, w.wd⟩, true)) else (if decide (w.md = "half u") = true then (if decide (v_byte = (117)) = true then f_hex_begun ⟨w.br, w.md, w.nm, w.lf, w.lo, w.hi, w.nu, w.wd⟩ ("low hex") else (⟨w.br, w.md, w.nm, w.lf, w.lo, w.hi, w.nu, w.wd⟩, false)) else f_in_hex ⟨w.br, w.md, w.nm, w.lf, w.lo, w.hi, w.nu, w.wd⟩ (v_byte))))))
def S_in_text (a_Walker_ : Addr) : List Sl → (List Sl → Out → Prop) → Prop := fun ρa Po => ∃ p dx pb br md nm lf lo hi nu wd v_byte, ρa = [.st (.ref p) (wst a_Walker_ p dx pb ⟨br, md, nm, lf, lo, hi, nu, wd⟩), .va (.int v_byte)] ∧ Po = fun ρb o => ρb = [.st (.ref p) (wst a_Walker_ p dx pb (f_in_text ⟨br, md, nm, lf, lo, hi, nu, wd⟩ v_byte).1), .va (.int v_byte)] ∧ o = .ok (.bool (f_in_text ⟨br, md, nm, lf, lo, hi, nu, wd⟩ v_byte).2)
theorem h_in_text (Df : Def K mg "in_text" s_in_text) (B : BI mg) (C_LETTER_U : ∃ t, mg "LETTER_U" = some (.int 117 t)) (C_SHORT : Gt K mg "SHORT" (.tuple (([34, 92, 47, 98, 102, 110, 114, 116] : List Int).map .int))) (C_BACKSLASH : ∃ t, mg "BACKSLASH" = some (.int 92 t)) (C_O_Walker : OCls K a_Walker WalkerK) (G_in_hex : HasG P w K mg base "in_hex" 2 (S_in_hex a_Walker)) (G_in_plain : HasG P w K mg base "in_plain" 2 (S_in_plain a_Walker)) (G_in_sign : HasG P w K mg base "in_sign" 1 (S_in_sign a_Walker)) (G_hex_begun : HasG P w K mg base "hex_begun" 1 (S_hex_begun a_Walker)) : HasG P w K mg base "in_text" 3 (S_in_text a_Walker) := by
  have nd := c_in_text.nd
  refine has_G Df c_in_text (fun _ _ _ _ _ _ us hl => match us, hl with | [_, _], _ => rfl) ?_ ?_
  · rintro ρa Po ⟨p, dx, pb, br, md, nm, lf, lo, hi, nu, wd, v_byte, rfl, rfl⟩; rfl
  rintro f cdv A outer s H E hr O ρa Po ⟨p, dx, pb, br, md, nm, lf, lo, hi, nu, wd, v_byte, rfl, rfl⟩
  refine ds_cons (ds_asg (n := 2) nd (de_fld C_O_Walker (n := 0) rfl (k := 0) rfl (re_nm (i := 0) rfl rfl) (m := 1) rfl rfl) ?_)
  refine ds_cons (ds_if (dt_eqS (de_va (i := 2) rfl).b (de_str).b) (fun hc1_ => ?_) (fun hc1_ => ?_))
  · try dsimp only at hc1_
    refine ds_cons (ds_retC (ce_callG0 (n := 0) G_in_plain (hr.mono (by first | decide | omega)) rfl (re_nm (i := 0) rfl rfl) (aw_va (de_va (i := 1) rfl) aw_nil) (⟨_, _, _, _, _, _, _, _, _, _, _, _, rfl, rfl⟩)) ?_)
    refine ⟨_, _, ⟨rfl, rfl⟩, kp_st (u := .ref p) 0 ?_, Or.inl ?_⟩ <;> (first | rfl | (simp only [f_in_text, hc1_, ↓reduceIte, Bool.false_eq_true, eq_self]; done) | (simp only [f_in_text, hc1_, ↓reduceIte, Bool.false_eq_true, eq_self]; rfl))
  · try dsimp only at hc1_
    refine ds_nil ?_
    refine ds_cons (ds_if (dt_eqS (de_va (i := 2) rfl).b (de_str).b) (fun hc2_ => ?_) (fun hc2_ => ?_))
    · try dsimp only at hc2_
      refine ds_cons (ds_retC (ce_callG0 (n := 0) G_in_sign (hr.mono (by first | decide | omega)) rfl (re_nm (i := 0) rfl rfl) (aw_va (de_va (i := 1) rfl) aw_nil) (⟨_, _, _, _, _, _, _, _, _, _, _, _, rfl, rfl⟩)) ?_)
      refine ⟨_, _, ⟨rfl, rfl⟩, kp_st (u := .ref p) 0 ?_, Or.inl ?_⟩ <;> (first | rfl | (simp only [f_in_text, hc1_, hc2_, ↓reduceIte, Bool.false_eq_true, eq_self]; done) | (simp only [f_in_text, hc1_, hc2_, ↓reduceIte, Bool.false_eq_true, eq_self]; rfl))
    · try dsimp only at hc2_
      refine ds_nil ?_
      refine ds_cons (ds_if (dt_eqS (de_va (i := 2) rfl).b (de_str).b) (fun hc3_ => ?_) (fun hc3_ => ?_))
      · try dsimp only at hc3_
        refine ds_cons (ds_if (dt_eqI (de_va (i := 1) rfl).b (de_glI C_LETTER_U).b) (fun hc4_ => ?_) (fun hc4_ => ?_))
        · try dsimp only at hc4_
          refine ds_cons (ds_retC (ce_callG0 (n := 0) G_hex_begun (hr.mono (by first | decide | omega)) rfl (re_nm (i := 0) rfl rfl) (aw_va (de_str) aw_nil) (⟨_, _, _, _, _, _, _, _, _, _, _, _, rfl, rfl⟩)) ?_)
          refine ⟨_, _, ⟨rfl, rfl⟩, kp_st (u := .ref p) 0 ?_, Or.inl ?_⟩ <;> (first | rfl | (simp only [f_in_text, hc1_, hc2_, hc3_, hc4_, ↓reduceIte, Bool.false_eq_true, eq_self]; done) | (simp only [f_in_text, hc1_, hc2_, hc3_, hc4_, ↓reduceIte, Bool.false_eq_true, eq_self]; rfl))
        · try dsimp only at hc4_
          refine ds_nil ?_
          refine ds_cons (ds_if (dt_niI (de_va (i := 1) rfl).b (de_glT C_SHORT).b) (fun hc5_ => ?_) (fun hc5_ => ?_))
          · try dsimp only at hc5_
            refine ds_cons (ds_ret (de_bl) ?_)
            refine ⟨_, _, ⟨rfl, rfl⟩, kp_st (u := .ref p) 0 ?_, Or.inl ?_⟩ <;> (first | rfl | (simp only [f_in_text, hc1_, hc2_, hc3_, hc4_, hc5_, ↓reduceIte, Bool.false_eq_true, eq_self]; done) | (simp only [f_in_text, hc1_, hc2_, hc3_, hc4_, hc5_, ↓reduceIte, Bool.false_eq_true, eq_self]; rfl))
          · try dsimp only at hc5_
            refine ds_nil ?_
            refine ds_cons (ds_fld C_O_Walker (n := 0) rfl (k := 0) rfl (re_nm (i := 0) rfl rfl) (de_str) (m := 1) rfl (by decide) ?_)
            show DSs _ _ _ (.st (.ref p) (wst a_Walker p dx pb ⟨br, "text", nm, lf, lo, hi, nu, wd⟩) :: _) _ _
            refine ds_cons (ds_ret (de_bl) ?_)
            refine ⟨_, _, ⟨rfl, rfl⟩, kp_st (u := .ref p) 0 ?_, Or.inl ?_⟩ <;> (first | rfl | (simp only [f_in_text, hc1_, hc2_, hc3_, hc4_, hc5_, ↓reduceIte, Bool.false_eq_true, eq_self]; done) | (simp only [f_in_text, hc1_, hc2_, hc3_, hc4_, hc5_, ↓reduceIte, Bool.false_eq_true, eq_self]; rfl))
      · try dsimp only at hc3_
        refine ds_nil ?_
        refine ds_cons (ds_if (dt_eqS (de_va (i := 2) rfl).b (de_str).b) (fun hc6_ => ?_) (fun hc6_ => ?_))
        · try dsimp only at hc6_
          refine ds_cons (ds_if (dt_neI (de_va (i := 1) rfl).b (de_glI C_BACKSLASH).b) (fun hc7_ => ?_) (fun hc7_ => ?_))
          · try dsimp only at hc7_
            refine ds_cons (ds_ret (de_bl) ?_)
            refine ⟨_, _, ⟨rfl, rfl⟩, kp_st (u := .ref p) 0 ?_, Or.inl ?_⟩ <;> (first | rfl | (simp only [f_in_text, hc1_, hc2_, hc3_, hc6_, hc7_, ↓reduceIte, Bool.false_eq_true, eq_self]; done) | (simp only [f_in_text, hc1_, hc2_, hc3_, hc6_, hc7_, ↓reduceIte, Bool.false_eq_true, eq_self]; rfl))
          · try dsimp only at hc7_
            refine ds_nil ?_
            refine ds_cons (ds_fld C_O_Walker (n := 0) rfl (k := 0) rfl (re_nm (i := 0) rfl rfl) (de_str) (m := 1) rfl (by decide) ?_)
            show DSs _ _ _ (.st (.ref p) (wst a_Walker p dx pb ⟨br, "half u", nm, lf, lo, hi, nu, wd⟩) :: _) _ _
            refine ds_cons (ds_ret (de_bl) ?_)
            refine ⟨_, _, ⟨rfl, rfl⟩, kp_st (u := .ref p) 0 ?_, Or.inl ?_⟩ <;> (first | rfl | (simp only [f_in_text, hc1_, hc2_, hc3_, hc6_, hc7_, ↓reduceIte, Bool.false_eq_true, eq_self]; done) | (simp only [f_in_text, hc1_, hc2_, hc3_, hc6_, hc7_, ↓reduceIte, Bool.false_eq_true, eq_self]; rfl))
        · try dsimp only at hc6_
          refine ds_nil ?_
          refine ds_cons (ds_if (dt_eqS (de_va (i := 2) rfl).b (de_str).b) (fun hc8_ => ?_) (fun hc8_ => ?_))
          · try dsimp only at hc8_
            refine ds_cons (ds_ret_and (de_eqI (de_va (i := 1) rfl).b (de_glI C_LETTER_U).b) (fun hc9_ => ⟨ce_callG0 (n := 0) G_hex_begun (hr.mono (by first | decide | omega)) rfl (re_nm (i := 0) rfl rfl) (aw_va (de_str) aw_nil) (⟨_, _, _, _, _, _, _, _, _, _, _, _, rfl, rfl⟩), ?_⟩) (fun hc9_ => ?_))
            · refine ⟨_, _, ⟨rfl, rfl⟩, kp_st (u := .ref p) 0 ?_, Or.inl ?_⟩ <;> (first | rfl | (simp only [f_in_text, hc1_, hc2_, hc3_, hc6_, hc8_, hc9_, ↓reduceIte, Bool.false_eq_true, eq_self]; done) | (simp only [f_in_text, hc1_, hc2_, hc3_, hc6_, hc8_, hc9_, ↓reduceIte, Bool.false_eq_true, eq_self]; rfl))
            · refine ⟨_, _, ⟨rfl, rfl⟩, kp_st (u := .ref p) 0 ?_, Or.inl ?_⟩ <;> (first | rfl | (simp only [f_in_text, hc1_, hc2_, hc3_, hc6_, hc8_, hc9_, ↓reduceIte, Bool.false_eq_true, eq_self]; done) | (simp only [f_in_text, hc1_, hc2_, hc3_, hc6_, hc8_, hc9_, ↓reduceIte, Bool.false_eq_true, eq_self]; rfl))
          · try dsimp only at hc8_
            refine ds_nil ?_
            refine ds_cons (ds_retC (ce_callG0 (n := 0) G_in_hex (hr.mono (by first | decide | omega)) rfl (re_nm (i := 0) rfl rfl) (aw_va (de_va (i := 1) rfl) aw_nil) (⟨_, _, _, _, _, _, _, _, _, _, _, _, rfl, rfl⟩)) ?_)
            refine ⟨_, _, ⟨rfl, rfl⟩, kp_st (u := .ref p) 0 ?_, Or.inl ?_⟩ <;> (first | rfl | (simp only [f_in_text, hc1_, hc2_, hc3_, hc6_, hc8_, ↓reduceIte, Bool.false_eq_true, eq_self]; done) | (simp only [f_in_text, hc1_, hc2_, hc3_, hc6_, hc8_, ↓reduceIte, Bool.false_eq_true, eq_self]; rfl))
/-! is_white -/
abbrev s_is_white : Stmt := topS 14
abbrev n_is_white : List Str := ["byte"]
theorem c_is_white : FnScope n_is_white ["byte"] (defScope s_is_white) := ⟨rfl, rfl, rfl, by decide +kernel, rfl, by decide +kernel, by decide +kernel⟩

def f_is_white (v_byte : Int) : Bool :=
  decide (v_byte ∈ ([(32), (9), (10), (13)] : List Int))
def S_is_white : List PyData → Out → Prop := fun ds o => ∃ v_byte, ds = [(.int v_byte)] ∧ o = .ok (.bool (f_is_white v_byte))
theorem h_is_white (Df : Def K mg "is_white" s_is_white) (B : BI mg) : Has P w K mg base "is_white" 1 (S_is_white) := by
  have nd := c_is_white.nd
  refine has_pu Df c_is_white (fun _ _ _ _ _ _ us hl => match us, hl with | [_], _ => rfl) ?_ ?_
  · rintro ds o ⟨v_byte, rfl, rfl⟩; rfl
  rintro f cdv A outer s H E hr O ds out ⟨v_byte, rfl, rfl⟩
  refine ds_cons (ds_ret (de_inI (ns := [32, 9, 10, 13]) (de_va (i := 0) rfl).b (de_tup (ad_cons (de_int) (ad_cons (de_int) (ad_cons (de_int) (ad_cons (de_int) ad_nil)))) (by simp only [List.length_cons, List.length_nil]; omega)).b) (Or.inl ?_))
  first | rfl | (simp only [f_is_white, ↓reduceIte, Bool.false_eq_true, eq_self]; done) | (simp only [f_is_white, ↓reduceIte, Bool.false_eq_true, eq_self]; rfl)
/-! closed -/
abbrev s_closed : Stmt := topS 29
abbrev n_closed : List Str := ["walker"]
theorem c_closed : FnScope n_closed ["walker"] (defScope s_closed) := ⟨rfl, rfl, rfl, by decide +kernel, rfl, by decide +kernel, by decide +kernel⟩

def f_closed (w : Wk) : Wk × Bool :=
  f_ended ⟨w.br.dropLast, w.md, w.nm, w.lf, w.lo, w.hi, w.nu, w.wd⟩
def S_closed (a_Walker_ : Addr) : List Sl → (List Sl → Out → Prop) → Prop := fun ρa Po => ∃ p dx pb br md nm lf lo hi nu wd, ρa = [.st (.ref p) (wst a_Walker_ p dx pb ⟨br, md, nm, lf, lo, hi, nu, wd⟩)] ∧ (br ≠ []) ∧ Po = fun ρb o => ρb = [.st (.ref p) (wst a_Walker_ p dx pb (f_closed ⟨br, md, nm, lf, lo, hi, nu, wd⟩).1)] ∧ o = .ok (.bool (f_closed ⟨br, md, nm, lf, lo, hi, nu, wd⟩).2)
theorem h_closed (Df : Def K mg "closed" s_closed) (B : BI mg) (C_O_Walker : OCls K a_Walker WalkerK) (G_ended : HasG P w K mg base "ended" 1 (S_ended a_Walker)) : HasG P w K mg base "closed" 2 (S_closed a_Walker) := by
  have nd := c_closed.nd
  refine has_G Df c_closed (fun _ _ _ _ _ _ us hl => match us, hl with | [_], _ => rfl) ?_ ?_
  · rintro ρa Po ⟨p, dx, pb, br, md, nm, lf, lo, hi, nu, wd, rfl, hpre, rfl⟩; rfl
  rintro f cdv A outer s H E hr O ρa Po ⟨p, dx, pb, br, md, nm, lf, lo, hi, nu, wd, rfl, hpre, rfl⟩
  refine ds_cons (ds_exprC (ce_popC (n := 0) rfl (k := 1) rfl (re_fld C_O_Walker (n := 0) rfl (k := 0) rfl (re_nm (i := 0) rfl rfl) (m := 0) rfl rfl) (pop_br hpre)) ?_)
  rw [drop_br]
  show DSs _ _ _ (.st (.ref p) (wst a_Walker p dx pb ⟨br.dropLast, md, nm, lf, lo, hi, nu, wd⟩) :: _) _ _
  refine ds_cons (ds_retC (ce_callG0 (n := 0) G_ended (hr.mono (by first | decide | omega)) rfl (re_nm (i := 0) rfl rfl) aw_nil (⟨_, _, _, _, _, _, _, _, _, _, _, rfl, rfl⟩)) ?_)
  refine ⟨_, _, ⟨rfl, rfl⟩, kp_st (u := .ref p) 0 ?_, Or.inl ?_⟩ <;> (first | rfl | (simp only [f_closed, ↓reduceIte, Bool.false_eq_true, eq_self]; done) | (simp only [f_closed, ↓reduceIte, Bool.false_eq_true, eq_self]; rfl))
/-! behind -/
abbrev s_behind : Stmt := topS 31
abbrev n_behind : List Str := ["walker", "byte", "fields"]
theorem c_behind : FnScope n_behind ["walker", "byte"] (defScope s_behind) := ⟨rfl, rfl, rfl, by decide +kernel, rfl, by decide +kernel, by decide +kernel⟩

def f_behind (w : Wk) (v_byte : Int) : Wk × Bool :=
  (if decide (v_byte = (44)) = true then (⟨w.br, (if (w.br.getLastD false) = true then "name" else "value"), w.nm, w.lf, w.lo, w.hi, w.nu, w.wd⟩, true) else (if ((decide (v_byte = (125)) && (w.br.getLastD false)) || (decide (v_byte = (93)) && (!(w.br.getLastD false)))) = true then f_closed ⟨w.br, w.md, w.nm, w.lf, w.lo, w.hi, w.nu, w.wd⟩ else (⟨w.br, w.md, w.nm, w.lf, w.lo, w.hi, w.nu, w.wd⟩, false)))
def S_behind (a_Walker_ : Addr) : List Sl → (List Sl → Out → Prop) → Prop := fun ρa Po => ∃ p dx pb br md nm lf lo hi nu wd v_byte, ρa = [.st (.ref p) (wst a_Walker_ p dx pb ⟨br, md, nm, lf, lo, hi, nu, wd⟩), .va (.int v_byte)] ∧ (br ≠ []) ∧ Po = fun ρb o => ρb = [.st (.ref p) (wst a_Walker_ p dx pb (f_behind ⟨br, md, nm, lf, lo, hi, nu, wd⟩ v_byte).1), .va (.int v_byte)] ∧ o = .ok (.bool (f_behind ⟨br, md, nm, lf, lo, hi, nu, wd⟩ v_byte).2)
theorem h_behind (Df : Def K mg "behind" s_behind) (B : BI mg) (C_COMMA : ∃ t, mg "COMMA" = some (.int 44 t)) (C_FIELDS_END : ∃ t, mg "FIELDS_END" = some (.int 125 t)) (C_ROW_END : ∃ t, mg "ROW_END" = some (.int 93 t)) (C_O_Walker : OCls K a_Walker WalkerK) (G_closed : HasG P w K mg base "closed" 2 (S_closed a_Walker)) : HasG P w K mg base "behind" 3 (S_behind a_Walker) := by
  have nd := c_behind.nd
  refine has_G Df c_behind (fun _ _ _ _ _ _ us hl => match us, hl with | [_, _], _ => rfl) ?_ ?_
  · rintro ρa Po ⟨p, dx, pb, br, md, nm, lf, lo, hi, nu, wd, v_byte, rfl, hpre, rfl⟩; rfl
  rintro f cdv A outer s H E hr O ρa Po ⟨p, dx, pb, br, md, nm, lf, lo, hi, nu, wd, v_byte, rfl, hpre, rfl⟩
  refine ds_cons (ds_asg (n := 2) nd (de_ixL (le_cell (n := 0) rfl (k := 1) rfl (re_fld C_O_Walker (n := 0) rfl (k := 0) rfl (re_nm (i := 0) rfl rfl) (m := 0) rfl rfl)) (de_neg (de_int).b).b (at_last hpre)) ?_)
  refine ds_cons (ds_if (dt_eqI (de_va (i := 1) rfl).b (de_glI C_COMMA).b) (fun hc1_ => ?_) (fun hc1_ => ?_))
  · try dsimp only at hc1_
    refine ds_cons (ds_fld C_O_Walker (n := 0) rfl (k := 0) rfl (re_nm (i := 0) rfl rfl) (de_ifS (dt_bl (de_va (i := 2) rfl).b) (de_str) (de_str)) (m := 1) rfl (by decide) ?_)
    show DSs _ _ _ (.st (.ref p) (wst a_Walker p dx pb ⟨br, (if (br.getLastD false) = true then "name" else "value"), nm, lf, lo, hi, nu, wd⟩) :: _) _ _
    refine ds_cons (ds_ret (de_bl) ?_)
    refine ⟨_, _, ⟨rfl, rfl⟩, kp_st (u := .ref p) 0 ?_, Or.inl ?_⟩ <;> (first | rfl | (simp only [f_behind, hc1_, ↓reduceIte, Bool.false_eq_true, eq_self]; done) | (simp only [f_behind, hc1_, ↓reduceIte, Bool.false_eq_true, eq_self]; rfl))
  · try dsimp only at hc1_
    refine ds_nil ?_
    refine ds_cons (ds_if (dt_or2 (dt_and2 (dt_eqI (de_va (i := 1) rfl).b (de_glI C_FIELDS_END).b) (fun h1_ => dt_bl (de_va (i := 2) rfl).b)) (fun h1_ => dt_and2 (dt_eqI (de_va (i := 1) rfl).b (de_glI C_ROW_END).b) (fun h1_ => dt_not (dt_bl (de_va (i := 2) rfl).b)))) (fun hc2_ => ?_) (fun hc2_ => ?_))
    · try dsimp only at hc2_
      refine ds_cons (ds_retC (ce_callG0 (n := 0) G_closed (hr.mono (by first | decide | omega)) rfl (re_nm (i := 0) rfl rfl) aw_nil (⟨_, _, _, _, _, _, _, _, _, _, _, rfl, by walk_at "pre", rfl⟩)) ?_)
      refine ⟨_, _, ⟨rfl, rfl⟩, kp_st (u := .ref p) 0 ?_, Or.inl ?_⟩ <;> (first | rfl | (simp only [f_behind, hc1_, hc2_, ↓reduceIte, Bool.false_eq_true, eq_self]; done) | (simp only [f_behind, hc1_, hc2_, ↓reduceIte, Bool.false_eq_true, eq_self]; rfl))
    · try dsimp only at hc2_
      refine ds_nil ?_
      refine ds_cons (ds_ret (de_bl) ?_)
      refine ⟨_, _, ⟨rfl, rfl⟩, kp_st (u := .ref p) 0 ?_, Or.inl ?_⟩ <;> (first | rfl | (simp only [f_behind, hc1_, hc2_, ↓reduceIte, Bool.false_eq_true, eq_self]; done) | (simp only [f_behind, hc1_, hc2_, ↓reduceIte, Bool.false_eq_true, eq_self]; rfl))
/-! number_over -/
abbrev s_number_over : Stmt := topS 34
abbrev n_number_over : List Str := ["walker", "byte", "kept"]
theorem c_number_over : FnScope n_number_over ["walker", "byte"] (defScope s_number_over) := ⟨rfl, rfl, rfl, by decide +kernel, rfl, by decide +kernel, by decide +kernel⟩
def f_number_over (w : Wk) (b : Int) : Wk × Bool :=
  if f_is_white b = true then ((f_ended w).1, true)
  else if decide ((f_ended w).1.md = "behind") = true then (if (f_behind (f_ended w).1 b).2 = true then ((f_behind (f_ended w).1 b).1, true) else ({ (f_behind (f_ended w).1 b).1 with md := w.md }, false))
  else ({ (f_ended w).1 with md := w.md }, false)
theorem ended_br (w : Wk) : (f_ended w).1.br = w.br := by unfold f_ended; split <;> rfl
theorem ended_md {w : Wk} (h : (f_ended w).1.md = "behind") : w.br ≠ [] := by
  unfold f_ended at h
  split at h
  · rename_i hc
    intro e
    rw [e] at hc
    simp at hc
  · exact absurd (show ("done" : Str) = "behind" from h) (by decide +kernel)

def S_number_over (a_Walker_ : Addr) : List Sl → (List Sl → Out → Prop) → Prop := fun ρa Po => ∃ p dx pb br md nm lf lo hi nu wd v_byte, ρa = [.st (.ref p) (wst a_Walker_ p dx pb ⟨br, md, nm, lf, lo, hi, nu, wd⟩), .va (.int v_byte)] ∧ Po = fun ρb o => ρb = [.st (.ref p) (wst a_Walker_ p dx pb (f_number_over ⟨br, md, nm, lf, lo, hi, nu, wd⟩ v_byte).1), .va (.int v_byte)] ∧ o = .ok (.bool (f_number_over ⟨br, md, nm, lf, lo, hi, nu, wd⟩ v_byte).2)
theorem h_number_over (Df : Def K mg "number_over" s_number_over) (B : BI mg) (C_O_Walker : OCls K a_Walker WalkerK) (G_ended : HasG P w K mg base "ended" 1 (S_ended a_Walker)) (G_is_white : Has P w K mg base "is_white" 1 (S_is_white)) (G_behind : HasG P w K mg base "behind" 3 (S_behind a_Walker)) : HasG P w K mg base "number_over" 4 (S_number_over a_Walker) := by
  have nd := c_number_over.nd
  refine has_G Df c_number_over (fun _ _ _ _ _ _ us hl => match us, hl with | [_, _], _ => rfl) ?_ ?_
  · rintro ρa Po ⟨p, dx, pb, br, md, nm, lf, lo, hi, nu, wd, v_byte, rfl, rfl⟩; rfl
  rintro f cdv A outer s H E hr O ρa Po ⟨p, dx, pb, br, md, nm, lf, lo, hi, nu, wd, v_byte, rfl, rfl⟩
  refine ds_cons (ds_asg (n := 2) nd (de_fld C_O_Walker (n := 0) rfl (k := 0) rfl (re_nm (i := 0) rfl rfl) (m := 1) rfl rfl) ?_)
  refine ds_cons (ds_exprC (ce_callG0 (n := 0) G_ended (hr.mono (by first | decide | omega)) rfl (re_nm (i := 0) rfl rfl) aw_nil (⟨_, _, _, _, _, _, _, _, _, _, _, rfl, rfl⟩)) ?_)
  generalize hW : f_ended ⟨br, md, nm, lf, lo, hi, nu, wd⟩ = W
  cases hw : f_is_white v_byte with
  | true =>
    refine ds_cons (ds_if (k := true) (dt_or2 (k := true) (k' := false) ((dt_bl (de_call G_is_white (hr.mono (by decide)) (ad_cons (de_va (i := 1) rfl) ad_nil) ⟨_, rfl, rfl⟩).b).is hw) (fun h => by cases h)) (fun _ => ?_) (fun h => by cases h))
    refine ds_cons (ds_ret de_bl ?_)
    refine ⟨_, _, ⟨rfl, rfl⟩, kp_st (u := .ref p) 0 ?_, Or.inl ?_⟩
    · rw [f_number_over, if_pos hw, hW]; rfl
    · rw [f_number_over, if_pos hw]
  | false =>
    cases hm : decide (W.1.md = "behind") with
    | true =>
      have hb : W.1.br ≠ [] := by
        subst hW
        rw [ended_br]
        exact ended_md (of_decide_eq_true hm)
      refine ds_cons (ds_ifC (ct_or ((dt_bl (de_call G_is_white (hr.mono (by decide)) (ad_cons (de_va (i := 1) rfl) ad_nil) ⟨_, rfl, rfl⟩).b).is hw) (ct_and ((dt_eqS (de_fld C_O_Walker (n := 0) rfl (k := 0) rfl (re_nm (i := 0) rfl rfl) (m := 1) rfl rfl).b de_str.b).is hm) (CE.t (ce_callG0 (n := 0) G_behind (hr.mono (by decide)) rfl (re_nm (i := 0) rfl rfl) (aw_va (de_va (i := 1) rfl) aw_nil) ⟨p, dx, pb, W.1.br, W.1.md, W.1.nm, W.1.lf, W.1.lo, W.1.hi, W.1.nu, W.1.wd, _, rfl, hb, rfl⟩)))) (fun hc => ?_) (fun hc => ?_))
      · refine ds_cons (ds_ret de_bl ?_)
        refine ⟨_, _, ⟨rfl, rfl⟩, kp_st (u := .ref p) 0 ?_, Or.inl ?_⟩
        · rw [f_number_over, hW, if_neg (by rw [hw]; exact Bool.false_ne_true), if_pos hm, if_pos (show (f_behind W.1 v_byte).2 = true from hc)]; rfl
        · rw [f_number_over, hW, if_neg (by rw [hw]; exact Bool.false_ne_true), if_pos hm, if_pos (show (f_behind W.1 v_byte).2 = true from hc)]
      · refine ds_nil ?_
        refine ds_cons (ds_fld C_O_Walker (n := 0) rfl (k := 0) rfl (re_nm (i := 0) rfl rfl) (de_va (i := 2) rfl) (m := 1) rfl (by decide) ?_)
        refine ds_cons (ds_ret de_bl ?_)
        refine ⟨_, _, ⟨rfl, rfl⟩, kp_st (u := .ref p) 0 ?_, Or.inl ?_⟩
        · rw [f_number_over, hW, if_neg (by rw [hw]; exact Bool.false_ne_true), if_pos hm, if_neg (show ¬ (f_behind W.1 v_byte).2 = true by rw [show (f_behind W.1 v_byte).2 = false from hc]; exact Bool.false_ne_true)]; rfl
        · rw [f_number_over, hW, if_neg (by rw [hw]; exact Bool.false_ne_true), if_pos hm, if_neg (show ¬ (f_behind W.1 v_byte).2 = true by rw [show (f_behind W.1 v_byte).2 = false from hc]; exact Bool.false_ne_true)]
    | false =>
      refine ds_cons (ds_if (k := false) (dt_or2 (k := false) (k' := false) ((dt_bl (de_call G_is_white (hr.mono (by decide)) (ad_cons (de_va (i := 1) rfl) ad_nil) ⟨_, rfl, rfl⟩).b).is hw) (fun _ => dt_and2 (k := false) (k' := false) ((dt_eqS (de_fld C_O_Walker (n := 0) rfl (k := 0) rfl (re_nm (i := 0) rfl rfl) (m := 1) rfl rfl).b de_str.b).is hm) (fun h => by cases h))) (fun h => by cases h) (fun _ => ?_))
      refine ds_nil ?_
      refine ds_cons (ds_fld C_O_Walker (n := 0) rfl (k := 0) rfl (re_nm (i := 0) rfl rfl) (de_va (i := 2) rfl) (m := 1) rfl (by decide) ?_)
      refine ds_cons (ds_ret de_bl ?_)
      refine ⟨_, _, ⟨rfl, rfl⟩, kp_st (u := .ref p) 0 ?_, Or.inl ?_⟩
      · rw [f_number_over, hW, if_neg (by rw [hw]; exact Bool.false_ne_true), if_neg (by rw [hm]; exact Bool.false_ne_true)]; rfl
      · rw [f_number_over, hW, if_neg (by rw [hw]; exact Bool.false_ne_true), if_neg (by rw [hm]; exact Bool.false_ne_true)]
/-! is_figure -/
abbrev s_is_figure : Stmt := topS 15
abbrev n_is_figure : List Str := ["byte"]
theorem c_is_figure : FnScope n_is_figure ["byte"] (defScope s_is_figure) := ⟨rfl, rfl, rfl, by decide +kernel, rfl, by decide +kernel, by decide +kernel⟩

def f_is_figure (v_byte : Int) : Bool :=
  (decide ((48) ≤ v_byte) && decide (v_byte ≤ (57)))
def S_is_figure : List PyData → Out → Prop := fun ds o => ∃ v_byte, ds = [(.int v_byte)] ∧ o = .ok (.bool (f_is_figure v_byte))
theorem h_is_figure (Df : Def K mg "is_figure" s_is_figure) (B : BI mg) : Has P w K mg base "is_figure" 1 (S_is_figure) := by
  have nd := c_is_figure.nd
  refine has_pu Df c_is_figure (fun _ _ _ _ _ _ us hl => match us, hl with | [_], _ => rfl) ?_ ?_
  · rintro ds o ⟨v_byte, rfl, rfl⟩; rfl
  rintro f cdv A outer s H E hr O ds out ⟨v_byte, rfl, rfl⟩
  refine ds_cons (ds_ret (de_lele (de_int).b (de_va (i := 0) rfl).b (de_int).b) (Or.inl ?_))
  first | rfl | (simp only [f_is_figure, ↓reduceIte, Bool.false_eq_true, eq_self]; done) | (simp only [f_is_figure, ↓reduceIte, Bool.false_eq_true, eq_self]; rfl)
/-! in_number -/
abbrev s_in_number : Stmt := topS 35
abbrev n_in_number : List Str := ["walker", "byte", "mode"]
theorem c_in_number : FnScope n_in_number ["walker", "byte"] (defScope s_in_number) := ⟨rfl, rfl, rfl, by decide +kernel, rfl, by decide +kernel, by decide +kernel⟩

def f_in_number (w : Wk) (v_byte : Int) : Wk × Bool :=
  (if ((f_is_figure (v_byte)) && (!decide (w.md = "zero"))) = true then (if decide (w.md = "minus") = true then (⟨w.br, (if decide (v_byte = (48)) = true then "zero" else "whole"), w.nm, w.lf, w.lo, w.hi, w.nu, w.wd⟩, true) else (if decide (w.md = "point") = true then (⟨w.br, "part", w.nm, w.lf, w.lo, w.hi, w.nu, w.wd⟩, true) else (if (decide (w.md = "power") || decide (w.md = "power sign")) = true then (⟨w.br, "powers", w.nm, w.lf, w.lo, w.hi, w.nu, w.wd⟩, true) else (⟨w.br, w.md, w.nm, w.lf, w.lo, w.hi, w.nu, w.wd⟩, true)))) else (if (decide (w.md = "power") && (decide (v_byte = (43)) || decide (v_byte = (45)))) = true then (⟨w.br, "power sign", w.nm, w.lf, w.lo, w.hi, w.nu, w.wd⟩, true) else (if decide (w.md ∈ (["minus", "point", "power", "power sign"] : List Str)) = true then (⟨w.br, w.md, w.nm, w.lf, w.lo, w.hi, w.nu, w.wd⟩, false) else (if (decide (v_byte = (46)) && decide (w.md ∈ (["zero", "whole"] : List Str))) = true then (⟨w.br, "point", w.nm, w.lf, w.lo, w.hi, w.nu, w.wd⟩, true) else (if (decide (v_byte ∈ ([(101), (69)] : List Int)) && (!decide (w.md = "powers"))) = true then (⟨w.br, "power", w.nm, w.lf, w.lo, w.hi, w.nu, w.wd⟩, true) else f_number_over ⟨w.br, w.md, w.nm, w.lf, w.lo, w.hi, w.nu, w.wd⟩ (v_byte))))))
def S_in_number (a_Walker_ : Addr) : List Sl → (List Sl → Out → Prop) → Prop := fun ρa Po => ∃ p dx pb br md nm lf lo hi nu wd v_byte, ρa = [.st (.ref p) (wst a_Walker_ p dx pb ⟨br, md, nm, lf, lo, hi, nu, wd⟩), .va (.int v_byte)] ∧ Po = fun ρb o => ρb = [.st (.ref p) (wst a_Walker_ p dx pb (f_in_number ⟨br, md, nm, lf, lo, hi, nu, wd⟩ v_byte).1), .va (.int v_byte)] ∧ o = .ok (.bool (f_in_number ⟨br, md, nm, lf, lo, hi, nu, wd⟩ v_byte).2)
theorem h_in_number (Df : Def K mg "in_number" s_in_number) (B : BI mg) (C_POINT : ∃ t, mg "POINT" = some (.int 46 t)) (C_PLUS : ∃ t, mg "PLUS" = some (.int 43 t)) (C_MINUS : ∃ t, mg "MINUS" = some (.int 45 t)) (C_NOUGHT : ∃ t, mg "NOUGHT" = some (.int 48 t)) (C_O_Walker : OCls K a_Walker WalkerK) (G_number_over : HasG P w K mg base "number_over" 4 (S_number_over a_Walker)) (G_is_figure : Has P w K mg base "is_figure" 1 (S_is_figure)) : HasG P w K mg base "in_number" 5 (S_in_number a_Walker) := by
  have nd := c_in_number.nd
  refine has_G Df c_in_number (fun _ _ _ _ _ _ us hl => match us, hl with | [_, _], _ => rfl) ?_ ?_
  · rintro ρa Po ⟨p, dx, pb, br, md, nm, lf, lo, hi, nu, wd, v_byte, rfl, rfl⟩; rfl
  rintro f cdv A outer s H E hr O ρa Po ⟨p, dx, pb, br, md, nm, lf, lo, hi, nu, wd, v_byte, rfl, rfl⟩
  refine ds_cons (ds_asg (n := 2) nd (de_fld C_O_Walker (n := 0) rfl (k := 0) rfl (re_nm (i := 0) rfl rfl) (m := 1) rfl rfl) ?_)
  refine ds_cons (ds_if (dt_and2 (dt_bl (de_call G_is_figure (hr.mono (by first | decide | omega)) (ad_cons (de_va (i := 1) rfl) ad_nil) (⟨_, rfl, rfl⟩)).b) (fun h1_ => dt_neS (de_va (i := 2) rfl).b (de_str).b)) (fun hc1_ => ?_) (fun hc1_ => ?_))
  · try dsimp only at hc1_
    refine ds_cons (ds_if (dt_eqS (de_va (i := 2) rfl).b (de_str).b) (fun hc2_ => ?_) (fun hc2_ => ?_))
    · try dsimp only at hc2_
      refine ds_cons (ds_fld C_O_Walker (n := 0) rfl (k := 0) rfl (re_nm (i := 0) rfl rfl) (de_ifS (dt_eqI (de_va (i := 1) rfl).b (de_glI C_NOUGHT).b) (de_str) (de_str)) (m := 1) rfl (by decide) ?_)
      show DSs _ _ _ (.st (.ref p) (wst a_Walker p dx pb ⟨br, (if decide (v_byte = (48)) = true then "zero" else "whole"), nm, lf, lo, hi, nu, wd⟩) :: _) _ _
      refine ds_nil ?_
      refine ds_cons (ds_ret (de_bl) ?_)
      refine ⟨_, _, ⟨rfl, rfl⟩, kp_st (u := .ref p) 0 ?_, Or.inl ?_⟩ <;> (first | rfl | (simp only [f_in_number, hc1_, hc2_, ↓reduceIte, Bool.false_eq_true, eq_self]; done) | (simp only [f_in_number, hc1_, hc2_, ↓reduceIte, Bool.false_eq_true, eq_self]; rfl))
    · try dsimp only at hc2_
      refine ds_cons (ds_if (dt_eqS (de_va (i := 2) rfl).b (de_str).b) (fun hc3_ => ?_) (fun hc3_ => ?_))
      · try dsimp only at hc3_
        refine ds_cons (ds_fld C_O_Walker (n := 0) rfl (k := 0) rfl (re_nm (i := 0) rfl rfl) (de_str) (m := 1) rfl (by decide) ?_)
        show DSs _ _ _ (.st (.ref p) (wst a_Walker p dx pb ⟨br, "part", nm, lf, lo, hi, nu, wd⟩) :: _) _ _
        refine ds_nil ?_
        refine ds_nil ?_
        refine ds_cons (ds_ret (de_bl) ?_)
        refine ⟨_, _, ⟨rfl, rfl⟩, kp_st (u := .ref p) 0 ?_, Or.inl ?_⟩ <;> (first | rfl | (simp only [f_in_number, hc1_, hc2_, hc3_, ↓reduceIte, Bool.false_eq_true, eq_self]; done) | (simp only [f_in_number, hc1_, hc2_, hc3_, ↓reduceIte, Bool.false_eq_true, eq_self]; rfl))
      · try dsimp only at hc3_
        refine ds_cons (ds_if (dt_or2 (dt_eqS (de_va (i := 2) rfl).b (de_str).b) (fun h1_ => dt_eqS (de_va (i := 2) rfl).b (de_str).b)) (fun hc4_ => ?_) (fun hc4_ => ?_))
        · try dsimp only at hc4_
          refine ds_cons (ds_fld C_O_Walker (n := 0) rfl (k := 0) rfl (re_nm (i := 0) rfl rfl) (de_str) (m := 1) rfl (by decide) ?_)
          show DSs _ _ _ (.st (.ref p) (wst a_Walker p dx pb ⟨br, "powers", nm, lf, lo, hi, nu, wd⟩) :: _) _ _
          refine ds_nil ?_
          refine ds_nil ?_
          refine ds_nil ?_
          refine ds_cons (ds_ret (de_bl) ?_)
          refine ⟨_, _, ⟨rfl, rfl⟩, kp_st (u := .ref p) 0 ?_, Or.inl ?_⟩ <;> (first | rfl | (simp only [f_in_number, hc1_, hc2_, hc3_, hc4_, ↓reduceIte, Bool.false_eq_true, eq_self]; done) | (simp only [f_in_number, hc1_, hc2_, hc3_, hc4_, ↓reduceIte, Bool.false_eq_true, eq_self]; rfl))
        · try dsimp only at hc4_
          refine ds_nil ?_
          refine ds_nil ?_
          refine ds_nil ?_
          refine ds_cons (ds_ret (de_bl) ?_)
          refine ⟨_, _, ⟨rfl, rfl⟩, kp_st (u := .ref p) 0 ?_, Or.inl ?_⟩ <;> (first | rfl | (simp only [f_in_number, hc1_, hc2_, hc3_, hc4_, ↓reduceIte, Bool.false_eq_true, eq_self]; done) | (simp only [f_in_number, hc1_, hc2_, hc3_, hc4_, ↓reduceIte, Bool.false_eq_true, eq_self]; rfl))
  · try dsimp only at hc1_
    refine ds_nil ?_
    refine ds_cons (ds_if (dt_and2 (dt_eqS (de_va (i := 2) rfl).b (de_str).b) (fun h1_ => dt_or2 (dt_eqI (de_va (i := 1) rfl).b (de_glI C_PLUS).b) (fun h1_ => dt_eqI (de_va (i := 1) rfl).b (de_glI C_MINUS).b))) (fun hc5_ => ?_) (fun hc5_ => ?_))
    · try dsimp only at hc5_
      refine ds_cons (ds_fld C_O_Walker (n := 0) rfl (k := 0) rfl (re_nm (i := 0) rfl rfl) (de_str) (m := 1) rfl (by decide) ?_)
      show DSs _ _ _ (.st (.ref p) (wst a_Walker p dx pb ⟨br, "power sign", nm, lf, lo, hi, nu, wd⟩) :: _) _ _
      refine ds_cons (ds_ret (de_bl) ?_)
      refine ⟨_, _, ⟨rfl, rfl⟩, kp_st (u := .ref p) 0 ?_, Or.inl ?_⟩ <;> (first | rfl | (simp only [f_in_number, hc1_, hc5_, ↓reduceIte, Bool.false_eq_true, eq_self]; done) | (simp only [f_in_number, hc1_, hc5_, ↓reduceIte, Bool.false_eq_true, eq_self]; rfl))
    · try dsimp only at hc5_
      refine ds_nil ?_
      refine ds_cons (ds_if (dt_inS (ns := ["minus", "point", "power", "power sign"]) (de_va (i := 2) rfl).b (de_tup (ad_cons (de_str) (ad_cons (de_str) (ad_cons (de_str) (ad_cons (de_str) ad_nil)))) (by simp only [List.length_cons, List.length_nil]; omega)).b) (fun hc6_ => ?_) (fun hc6_ => ?_))
      · try dsimp only at hc6_
        refine ds_cons (ds_ret (de_bl) ?_)
        refine ⟨_, _, ⟨rfl, rfl⟩, kp_st (u := .ref p) 0 ?_, Or.inl ?_⟩ <;> (first | rfl | (simp only [f_in_number, hc1_, hc5_, hc6_, ↓reduceIte, Bool.false_eq_true, eq_self]; done) | (simp only [f_in_number, hc1_, hc5_, hc6_, ↓reduceIte, Bool.false_eq_true, eq_self]; rfl))
      · try dsimp only at hc6_
        refine ds_nil ?_
        refine ds_cons (ds_if (dt_and2 (dt_eqI (de_va (i := 1) rfl).b (de_glI C_POINT).b) (fun h1_ => dt_inS (ns := ["zero", "whole"]) (de_va (i := 2) rfl).b (de_tup (ad_cons (de_str) (ad_cons (de_str) ad_nil)) (by simp only [List.length_cons, List.length_nil]; omega)).b)) (fun hc7_ => ?_) (fun hc7_ => ?_))
        · try dsimp only at hc7_
          refine ds_cons (ds_fld C_O_Walker (n := 0) rfl (k := 0) rfl (re_nm (i := 0) rfl rfl) (de_str) (m := 1) rfl (by decide) ?_)
          show DSs _ _ _ (.st (.ref p) (wst a_Walker p dx pb ⟨br, "point", nm, lf, lo, hi, nu, wd⟩) :: _) _ _
          refine ds_cons (ds_ret (de_bl) ?_)
          refine ⟨_, _, ⟨rfl, rfl⟩, kp_st (u := .ref p) 0 ?_, Or.inl ?_⟩ <;> (first | rfl | (simp only [f_in_number, hc1_, hc5_, hc6_, hc7_, ↓reduceIte, Bool.false_eq_true, eq_self]; done) | (simp only [f_in_number, hc1_, hc5_, hc6_, hc7_, ↓reduceIte, Bool.false_eq_true, eq_self]; rfl))
        · try dsimp only at hc7_
          refine ds_nil ?_
          refine ds_cons (ds_if (dt_and2 (dt_inI (ns := [101, 69]) (de_va (i := 1) rfl).b (de_tup (ad_cons (de_int) (ad_cons (de_int) ad_nil)) (by simp only [List.length_cons, List.length_nil]; omega)).b) (fun h1_ => dt_neS (de_va (i := 2) rfl).b (de_str).b)) (fun hc8_ => ?_) (fun hc8_ => ?_))
          · try dsimp only at hc8_
            refine ds_cons (ds_fld C_O_Walker (n := 0) rfl (k := 0) rfl (re_nm (i := 0) rfl rfl) (de_str) (m := 1) rfl (by decide) ?_)
            show DSs _ _ _ (.st (.ref p) (wst a_Walker p dx pb ⟨br, "power", nm, lf, lo, hi, nu, wd⟩) :: _) _ _
            refine ds_cons (ds_ret (de_bl) ?_)
            refine ⟨_, _, ⟨rfl, rfl⟩, kp_st (u := .ref p) 0 ?_, Or.inl ?_⟩ <;> (first | rfl | (simp only [f_in_number, hc1_, hc5_, hc6_, hc7_, hc8_, ↓reduceIte, Bool.false_eq_true, eq_self]; done) | (simp only [f_in_number, hc1_, hc5_, hc6_, hc7_, hc8_, ↓reduceIte, Bool.false_eq_true, eq_self]; rfl))
          · try dsimp only at hc8_
            refine ds_nil ?_
            refine ds_cons (ds_retC (ce_callG0 (n := 0) G_number_over (hr.mono (by first | decide | omega)) rfl (re_nm (i := 0) rfl rfl) (aw_va (de_va (i := 1) rfl) aw_nil) (⟨_, _, _, _, _, _, _, _, _, _, _, _, rfl, rfl⟩)) ?_)
            refine ⟨_, _, ⟨rfl, rfl⟩, kp_st (u := .ref p) 0 ?_, Or.inl ?_⟩ <;> (first | rfl | (simp only [f_in_number, hc1_, hc5_, hc6_, hc7_, hc8_, ↓reduceIte, Bool.false_eq_true, eq_self]; done) | (simp only [f_in_number, hc1_, hc5_, hc6_, hc7_, hc8_, ↓reduceIte, Bool.false_eq_true, eq_self]; rfl))
/-! in_word -/
abbrev s_in_word : Stmt := topS 33
abbrev n_in_word : List Str := ["walker", "byte"]
theorem c_in_word : FnScope n_in_word ["walker", "byte"] (defScope s_in_word) := ⟨rfl, rfl, rfl, by decide +kernel, rfl, by decide +kernel, by decide +kernel⟩

def f_in_word (w : Wk) (v_byte : Int) : Wk × Bool :=
  (if (!decide (v_byte = (w.wd.getD 0 0))) = true then (⟨w.br, w.md, w.nm, w.lf, w.lo, w.hi, w.nu, w.wd⟩, false) else (if (!(!((w.wd.drop 1).map PyData.int).isEmpty)) = true then f_ended ⟨w.br, w.md, w.nm, w.lf, w.lo, w.hi, w.nu, (w.wd.drop 1)⟩ else (⟨w.br, w.md, w.nm, w.lf, w.lo, w.hi, w.nu, (w.wd.drop 1)⟩, true)))
def S_in_word (a_Walker_ : Addr) : List Sl → (List Sl → Out → Prop) → Prop := fun ρa Po => ∃ p dx pb br md nm lf lo hi nu wd v_byte, ρa = [.st (.ref p) (wst a_Walker_ p dx pb ⟨br, md, nm, lf, lo, hi, nu, wd⟩), .va (.int v_byte)] ∧ (wd ≠ []) ∧ Po = fun ρb o => ρb = [.st (.ref p) (wst a_Walker_ p dx pb (f_in_word ⟨br, md, nm, lf, lo, hi, nu, wd⟩ v_byte).1), .va (.int v_byte)] ∧ o = .ok (.bool (f_in_word ⟨br, md, nm, lf, lo, hi, nu, wd⟩ v_byte).2)
theorem h_in_word (Df : Def K mg "in_word" s_in_word) (B : BI mg) (C_O_Walker : OCls K a_Walker WalkerK) (G_ended : HasG P w K mg base "ended" 1 (S_ended a_Walker)) : HasG P w K mg base "in_word" 2 (S_in_word a_Walker) := by
  have nd := c_in_word.nd
  refine has_G Df c_in_word (fun _ _ _ _ _ _ us hl => match us, hl with | [_, _], _ => rfl) ?_ ?_
  · rintro ρa Po ⟨p, dx, pb, br, md, nm, lf, lo, hi, nu, wd, v_byte, rfl, hpre, rfl⟩; rfl
  rintro f cdv A outer s H E hr O ρa Po ⟨p, dx, pb, br, md, nm, lf, lo, hi, nu, wd, v_byte, rfl, hpre, rfl⟩
  refine ds_cons (ds_if (dt_neI (de_va (i := 1) rfl).b (de_ixT (de_fld C_O_Walker (n := 0) rfl (k := 0) rfl (re_nm (i := 0) rfl rfl) (m := 7) rfl rfl) (de_int).b (atI_nat (ns := wd) (k := 0) (List.length_pos_iff.mpr hpre))).b) (fun hc1_ => ?_) (fun hc1_ => ?_))
  · try dsimp only at hc1_
    refine ds_cons (ds_ret (de_bl) ?_)
    refine ⟨_, _, ⟨rfl, rfl⟩, kp_st (u := .ref p) 0 ?_, Or.inl ?_⟩ <;> (first | rfl | (simp only [f_in_word, hc1_, ↓reduceIte, Bool.false_eq_true, eq_self]; done) | (simp only [f_in_word, hc1_, ↓reduceIte, Bool.false_eq_true, eq_self]; rfl))
  · try dsimp only at hc1_
    refine ds_nil ?_
    refine ds_cons (ds_fld C_O_Walker (n := 0) rfl (k := 0) rfl (re_nm (i := 0) rfl rfl) ((de_cutT (de_fld C_O_Walker (n := 0) rfl (k := 0) rfl (re_nm (i := 0) rfl rfl) (m := 7) rfl rfl) (pd_some (de_int).b) pd_none).is tup_cut1) (m := 7) rfl (by decide) ?_)
    show DSs _ _ _ (.st (.ref p) (wst a_Walker p dx pb ⟨br, md, nm, lf, lo, hi, nu, (wd.drop 1)⟩) :: _) _ _
    refine ds_cons (ds_if (dt_not (dt_tup (de_fld C_O_Walker (n := 0) rfl (k := 0) rfl (re_nm (i := 0) rfl rfl) (m := 7) rfl rfl).b)) (fun hc2_ => ?_) (fun hc2_ => ?_))
    · try dsimp only at hc2_
      refine ds_cons (ds_retC (ce_callG0 (n := 0) G_ended (hr.mono (by first | decide | omega)) rfl (re_nm (i := 0) rfl rfl) aw_nil (⟨_, _, _, _, _, _, _, _, _, _, _, rfl, rfl⟩)) ?_)
      refine ⟨_, _, ⟨rfl, rfl⟩, kp_st (u := .ref p) 0 ?_, Or.inl ?_⟩ <;> (first | rfl | (simp only [f_in_word, hc1_, hc2_, ↓reduceIte, Bool.false_eq_true, eq_self]; done) | (simp only [f_in_word, hc1_, hc2_, ↓reduceIte, Bool.false_eq_true, eq_self]; rfl))
    · try dsimp only at hc2_
      refine ds_nil ?_
      refine ds_cons (ds_ret (de_bl) ?_)
      refine ⟨_, _, ⟨rfl, rfl⟩, kp_st (u := .ref p) 0 ?_, Or.inl ?_⟩ <;> (first | rfl | (simp only [f_in_word, hc1_, hc2_, ↓reduceIte, Bool.false_eq_true, eq_self]; done) | (simp only [f_in_word, hc1_, hc2_, ↓reduceIte, Bool.false_eq_true, eq_self]; rfl))
/-! begun -/
abbrev s_begun : Stmt := topS 30
abbrev n_begun : List Str := ["walker", "byte", "word"]
theorem c_begun : FnScope n_begun ["walker", "byte"] (defScope s_begun) := ⟨rfl, rfl, rfl, by decide +kernel, rfl, by decide +kernel, by decide +kernel⟩
def f_begun (w : Wk) (b : Int) : Wk × Bool :=
  if (decide (b = 91) || decide (b = 123)) = true then
    (if decide (((w.br.map PyData.bool).length : Int) = 64) = true then (w, false) else (⟨w.br ++ [decide (b = 123)], if decide (b = 123) = true then "member" else "first", w.nm, w.lf, w.lo, w.hi, w.nu, w.wd⟩, true))
  else if decide (b = 34) = true then ({ w with md := "text", nm := false }, true)
  else if decide (b = 45) = true then ({ w with md := "minus" }, true)
  else if f_is_figure b = true then (⟨w.br, if decide (b = 48) = true then "zero" else "whole", w.nm, w.lf, w.lo, w.hi, w.nu, w.wd⟩, true)
  else if b = 110 then (⟨w.br, "word", w.nm, w.lf, w.lo, w.hi, w.nu, [117, 108, 108]⟩, true)
  else if b = 116 then (⟨w.br, "word", w.nm, w.lf, w.lo, w.hi, w.nu, [114, 117, 101]⟩, true)
  else if b = 102 then (⟨w.br, "word", w.nm, w.lf, w.lo, w.hi, w.nu, [97, 108, 115, 101]⟩, true)
  else (w, false)
def wordsL : List (List Int) := [[110, 117, 108, 108], [116, 114, 117, 101], [102, 97, 108, 115, 101]]
theorem begun_word {w : Wk} {b : Int} {m : Nat} {l : List Int} (h1 : (decide (b = 91) || decide (b = 123)) = false) (h2 : decide (b = 34) = false) (h3 : decide (b = 45) = false) (h4 : f_is_figure b = false) (hl : wordsL[m]? = some l) (hb : b = l.getD 0 0) (hn : ∀ j l', j < m → wordsL[j]? = some l' → b ≠ l'.getD 0 0) :
    f_begun w b = (⟨w.br, "word", w.nm, w.lf, w.lo, w.hi, w.nu, l.drop 1⟩, true) := by
  rw [f_begun, if_neg (by rw [h1]; exact Bool.false_ne_true), if_neg (by rw [h2]; exact Bool.false_ne_true), if_neg (by rw [h3]; exact Bool.false_ne_true), if_neg (by rw [h4]; exact Bool.false_ne_true)]
  match m, hl with
  | 0, hl => cases hl; rw [if_pos (show b = 110 from hb)]; rfl
  | 1, hl => cases hl; rw [if_neg (show ¬ b = 110 from hn 0 _ (by decide) rfl), if_pos (show b = 116 from hb)]; rfl
  | 2, hl => cases hl; rw [if_neg (show ¬ b = 110 from hn 0 _ (by decide) rfl), if_neg (show ¬ b = 116 from hn 1 _ (by decide) rfl), if_pos (show b = 102 from hb)]; rfl
  | m + 3, hl => cases hl
theorem begun_no {w : Wk} {b : Int} (h1 : (decide (b = 91) || decide (b = 123)) = false) (h2 : decide (b = 34) = false) (h3 : decide (b = 45) = false) (h4 : f_is_figure b = false) (hn : ∀ j l', j < 3 → wordsL[j]? = some l' → b ≠ l'.getD 0 0) : f_begun w b = (w, false) := by
  rw [f_begun, if_neg (by rw [h1]; exact Bool.false_ne_true), if_neg (by rw [h2]; exact Bool.false_ne_true), if_neg (by rw [h3]; exact Bool.false_ne_true), if_neg (by rw [h4]; exact Bool.false_ne_true), if_neg (show ¬ b = 110 from hn 0 _ (by decide) rfl), if_neg (show ¬ b = 116 from hn 1 _ (by decide) rfl), if_neg (show ¬ b = 102 from hn 2 _ (by decide) rfl)]
theorem words_len {l : List Int} {m : Nat} (h : wordsL[m]? = some l) : 0 < l.length := by
  match m, h with
  | 0, h => cases h; decide
  | 1, h => cases h; decide
  | 2, h => cases h; decide
  | m + 3, h => cases h

def S_begun (a_Walker_ : Addr) : List Sl → (List Sl → Out → Prop) → Prop := fun ρa Po => ∃ p dx pb br md nm lf lo hi nu wd v_byte, ρa = [.st (.ref p) (wst a_Walker_ p dx pb ⟨br, md, nm, lf, lo, hi, nu, wd⟩), .va (.int v_byte)] ∧ (br.length ≤ 1000) ∧ Po = fun ρb o => ρb = [.st (.ref p) (wst a_Walker_ p dx pb (f_begun ⟨br, md, nm, lf, lo, hi, nu, wd⟩ v_byte).1), .va (.int v_byte)] ∧ o = .ok (.bool (f_begun ⟨br, md, nm, lf, lo, hi, nu, wd⟩ v_byte).2)
theorem h_begun (Df : Def K mg "begun" s_begun) (B : BI mg) (C_WORDS : Gt K mg "WORDS" (.tuple (([[110, 117, 108, 108], [116, 114, 117, 101], [102, 97, 108, 115, 101]] : List (List Int)).map tupI))) (C_QUOTE : ∃ t, mg "QUOTE" = some (.int 34 t)) (C_MINUS : ∃ t, mg "MINUS" = some (.int 45 t)) (C_ROW_BEGIN : ∃ t, mg "ROW_BEGIN" = some (.int 91 t)) (C_FIELDS_BEGIN : ∃ t, mg "FIELDS_BEGIN" = some (.int 123 t)) (C_MOST_BRACKETS : ∃ t, mg "MOST_BRACKETS" = some (.int 64 t)) (C_NOUGHT : ∃ t, mg "NOUGHT" = some (.int 48 t)) (C_O_Walker : OCls K a_Walker WalkerK) (G_is_figure : Has P w K mg base "is_figure" 1 (S_is_figure)) : HasG P w K mg base "begun" 2 (S_begun a_Walker) := by
  have nd := c_begun.nd
  refine has_G Df c_begun (fun _ _ _ _ _ _ us hl => match us, hl with | [_, _], _ => rfl) ?_ ?_
  · rintro ρa Po ⟨p, dx, pb, br, md, nm, lf, lo, hi, nu, wd, v_byte, rfl, hpre, rfl⟩; rfl
  rintro f cdv A outer s H E hr O ρa Po ⟨p, dx, pb, br, md, nm, lf, lo, hi, nu, wd, v_byte, rfl, hpre, rfl⟩
  refine ds_cons (ds_if (dt_or2 (dt_eqI (de_va (i := 1) rfl).b (de_glI C_ROW_BEGIN).b) (fun h1_ => dt_eqI (de_va (i := 1) rfl).b (de_glI C_FIELDS_BEGIN).b)) (fun hc1_ => ?_) (fun hc1_ => ?_))
  · try dsimp only at hc1_
    refine ds_cons (ds_if (dt_eqI (de_lenL B.len (le_cell (n := 0) rfl (k := 1) rfl (re_fld C_O_Walker (n := 0) rfl (k := 0) rfl (re_nm (i := 0) rfl rfl) (m := 0) rfl rfl))).b (de_glI C_MOST_BRACKETS).b) (fun hc2_ => ?_) (fun hc2_ => ?_))
    · try dsimp only at hc2_
      refine ds_cons (ds_ret (de_bl) ?_)
      refine ⟨_, _, ⟨rfl, rfl⟩, kp_st (u := .ref p) 0 ?_, Or.inl ?_⟩ <;> (first | rfl | (simp only [f_begun, hc1_, hc2_, ↓reduceIte, Bool.false_eq_true, eq_self]; done) | (simp only [f_begun, hc1_, hc2_, ↓reduceIte, Bool.false_eq_true, eq_self]; rfl))
    · try dsimp only at hc2_
      refine ds_nil ?_
      refine ds_cons (ds_exprC (ce_appC (n := 0) rfl (k := 1) rfl (re_fld C_O_Walker (n := 0) rfl (k := 0) rfl (re_nm (i := 0) rfl rfl) (m := 0) rfl rfl) (de_eqI (de_va (i := 1) rfl).b (de_glI C_FIELDS_BEGIN).b) (by rw [List.length_map, List.length_map]; show br.length < _; omega)) ?_)
      rw [app_br]
      show DSs _ _ _ (.st (.ref p) (wst a_Walker p dx pb ⟨(br ++ [decide (v_byte = (123))]), md, nm, lf, lo, hi, nu, wd⟩) :: _) _ _
      refine ds_cons (ds_fld C_O_Walker (n := 0) rfl (k := 0) rfl (re_nm (i := 0) rfl rfl) (de_ifS (dt_eqI (de_va (i := 1) rfl).b (de_glI C_FIELDS_BEGIN).b) (de_str) (de_str)) (m := 1) rfl (by decide) ?_)
      show DSs _ _ _ (.st (.ref p) (wst a_Walker p dx pb ⟨(br ++ [decide (v_byte = (123))]), (if decide (v_byte = (123)) = true then "member" else "first"), nm, lf, lo, hi, nu, wd⟩) :: _) _ _
      refine ds_cons (ds_ret (de_bl) ?_)
      refine ⟨_, _, ⟨rfl, rfl⟩, kp_st (u := .ref p) 0 ?_, Or.inl ?_⟩ <;> (first | rfl | (simp only [f_begun, hc1_, hc2_, ↓reduceIte, Bool.false_eq_true, eq_self]; done) | (simp only [f_begun, hc1_, hc2_, ↓reduceIte, Bool.false_eq_true, eq_self]; rfl))
  · try dsimp only at hc1_
    refine ds_nil ?_
    refine ds_cons (ds_if (dt_eqI (de_va (i := 1) rfl).b (de_glI C_QUOTE).b) (fun hc3_ => ?_) (fun hc3_ => ?_))
    · try dsimp only at hc3_
      refine ds_cons (ds_fld C_O_Walker (n := 0) rfl (k := 0) rfl (re_nm (i := 0) rfl rfl) (de_str) (m := 1) rfl (by decide) ?_)
      show DSs _ _ _ (.st (.ref p) (wst a_Walker p dx pb ⟨br, "text", nm, lf, lo, hi, nu, wd⟩) :: _) _ _
      refine ds_cons (ds_fld C_O_Walker (n := 0) rfl (k := 0) rfl (re_nm (i := 0) rfl rfl) (de_bl) (m := 2) rfl (by decide) ?_)
      show DSs _ _ _ (.st (.ref p) (wst a_Walker p dx pb ⟨br, "text", false, lf, lo, hi, nu, wd⟩) :: _) _ _
      refine ds_cons (ds_ret (de_bl) ?_)
      refine ⟨_, _, ⟨rfl, rfl⟩, kp_st (u := .ref p) 0 ?_, Or.inl ?_⟩ <;> (first | rfl | (simp only [f_begun, hc1_, hc3_, ↓reduceIte, Bool.false_eq_true, eq_self]; done) | (simp only [f_begun, hc1_, hc3_, ↓reduceIte, Bool.false_eq_true, eq_self]; rfl))
    · try dsimp only at hc3_
      refine ds_nil ?_
      refine ds_cons (ds_if (dt_eqI (de_va (i := 1) rfl).b (de_glI C_MINUS).b) (fun hc4_ => ?_) (fun hc4_ => ?_))
      · try dsimp only at hc4_
        refine ds_cons (ds_fld C_O_Walker (n := 0) rfl (k := 0) rfl (re_nm (i := 0) rfl rfl) (de_str) (m := 1) rfl (by decide) ?_)
        show DSs _ _ _ (.st (.ref p) (wst a_Walker p dx pb ⟨br, "minus", nm, lf, lo, hi, nu, wd⟩) :: _) _ _
        refine ds_cons (ds_ret (de_bl) ?_)
        refine ⟨_, _, ⟨rfl, rfl⟩, kp_st (u := .ref p) 0 ?_, Or.inl ?_⟩ <;> (first | rfl | (simp only [f_begun, hc1_, hc3_, hc4_, ↓reduceIte, Bool.false_eq_true, eq_self]; done) | (simp only [f_begun, hc1_, hc3_, hc4_, ↓reduceIte, Bool.false_eq_true, eq_self]; rfl))
      · try dsimp only at hc4_
        refine ds_nil ?_
        refine ds_cons (ds_if (dt_bl (de_call G_is_figure (hr.mono (by first | decide | omega)) (ad_cons (de_va (i := 1) rfl) ad_nil) (⟨_, rfl, rfl⟩)).b) (fun hc5_ => ?_) (fun hc5_ => ?_))
        · try dsimp only at hc5_
          refine ds_cons (ds_fld C_O_Walker (n := 0) rfl (k := 0) rfl (re_nm (i := 0) rfl rfl) (de_ifS (dt_eqI (de_va (i := 1) rfl).b (de_glI C_NOUGHT).b) (de_str) (de_str)) (m := 1) rfl (by decide) ?_)
          show DSs _ _ _ (.st (.ref p) (wst a_Walker p dx pb ⟨br, (if decide (v_byte = (48)) = true then "zero" else "whole"), nm, lf, lo, hi, nu, wd⟩) :: _) _ _
          refine ds_cons (ds_ret (de_bl) ?_)
          refine ⟨_, _, ⟨rfl, rfl⟩, kp_st (u := .ref p) 0 ?_, Or.inl ?_⟩ <;> (first | rfl | (simp only [f_begun, hc1_, hc3_, hc4_, hc5_, ↓reduceIte, Bool.false_eq_true, eq_self]; done) | (simp only [f_begun, hc1_, hc3_, hc4_, hc5_, ↓reduceIte, Bool.false_eq_true, eq_self]; rfl))
        · try dsimp only at hc5_
          refine ds_nil ?_
          refine ds_cons (ds_for (n := 2) (passes_of rfl) rfl nd (ie_tup (de_glT C_WORDS)) (fun m ρ => ∃ b2, ρ = [.st (.ref p) (wst a_Walker p dx pb ⟨br, md, nm, lf, lo, hi, nu, wd⟩), .va (.int v_byte), b2] ∧ ∀ j l', j < m → wordsL[j]? = some l' → v_byte ≠ l'.getD 0 0) (⟨_, rfl, fun j l' h => absurd h (Nat.not_lt_zero _)⟩) ?_ ?_)
          · rintro m d ρ' hd ⟨b2, rfl, hn⟩
            obtain ⟨l, hb, rfl, hm⟩ := map_at (xs := wordsL) hd
            have hl := words_len hb
            refine ds_cons (ds_if (dt_eqI (de_va (i := 1) rfl).b (de_ixT (ds := l.map .int) (de_va (i := 2) rfl) (de_int).b (atI_nat (k := 0) hl)).b) (fun hc6_ => ?_) (fun hc6_ => ?_))
            · try dsimp only at hc6_
              refine ds_cons (ds_fld C_O_Walker (n := 0) rfl (k := 0) rfl (re_nm (i := 0) rfl rfl) (de_str) (m := 1) rfl (by decide) ?_)
              show DSs _ _ _ (.st (.ref p) (wst a_Walker p dx pb ⟨br, "word", nm, lf, lo, hi, nu, wd⟩) :: _) _ _
              refine ds_cons (ds_fld C_O_Walker (n := 0) rfl (k := 0) rfl (re_nm (i := 0) rfl rfl) ((de_cutT (ds := l.map .int) (de_va (i := 2) rfl) (pd_some (de_int).b) pd_none).is tup_cut1) (m := 7) rfl (by decide) ?_)
              refine ds_cons (ds_ret (de_bl) ?_)
              refine ⟨_, _, ⟨rfl, rfl⟩, kp_st (u := .ref p) 0 ?_, Or.inl ?_⟩
              · rw [begun_word hc1_ hc3_ hc4_ hc5_ hb (of_decide_eq_true hc6_) hn]; rfl
              · rw [begun_word hc1_ hc3_ hc4_ hc5_ hb (of_decide_eq_true hc6_) hn]
            · try dsimp only at hc6_
              refine ds_nil ?_
              exact ds_nil ⟨_, rfl, fun j l' hj hl' => by
                by_cases h : j < m
                · exact hn j l' h hl'
                · rw [show j = m by omega, hb] at hl'; cases hl'; exact of_decide_eq_false hc6_⟩
          · rintro ρ' ⟨b2, rfl, hn⟩
            refine ds_cons (ds_ret (de_bl) ?_)
            refine ⟨_, _, ⟨rfl, rfl⟩, kp_st (u := .ref p) 0 ?_, Or.inl ?_⟩
            · rw [begun_no hc1_ hc3_ hc4_ hc5_ hn]; rfl
            · rw [begun_no hc1_ hc3_ hc4_ hc5_ hn]
/-! between -/
abbrev s_between : Stmt := topS 32
abbrev n_between : List Str := ["walker", "byte", "mode"]
theorem c_between : FnScope n_between ["walker", "byte"] (defScope s_between) := ⟨rfl, rfl, rfl, by decide +kernel, rfl, by decide +kernel, by decide +kernel⟩

def f_between (w : Wk) (v_byte : Int) : Wk × Bool :=
  (if (decide (w.md = "value") || (decide (w.md = "first") && (!decide (v_byte = (93))))) = true then f_begun ⟨w.br, w.md, w.nm, w.lf, w.lo, w.hi, w.nu, w.wd⟩ (v_byte) else (if (decide (w.md = "first") || (decide (w.md = "member") && decide (v_byte = (125)))) = true then f_closed ⟨w.br, w.md, w.nm, w.lf, w.lo, w.hi, w.nu, w.wd⟩ else (if (decide (w.md = "member") || decide (w.md = "name")) = true then (if (!decide (v_byte = (34))) = true then (⟨w.br, w.md, w.nm, w.lf, w.lo, w.hi, w.nu, w.wd⟩, false) else (⟨w.br, "text", true, w.lf, w.lo, w.hi, w.nu, w.wd⟩, true)) else (if decide (w.md = "colon") = true then (if (!decide (v_byte = (58))) = true then (⟨w.br, w.md, w.nm, w.lf, w.lo, w.hi, w.nu, w.wd⟩, false) else (⟨w.br, "value", w.nm, w.lf, w.lo, w.hi, w.nu, w.wd⟩, true)) else (if decide (w.md = "behind") = true then f_behind ⟨w.br, w.md, w.nm, w.lf, w.lo, w.hi, w.nu, w.wd⟩ (v_byte) else (⟨w.br, w.md, w.nm, w.lf, w.lo, w.hi, w.nu, w.wd⟩, false))))))
def S_between (a_Walker_ : Addr) : List Sl → (List Sl → Out → Prop) → Prop := fun ρa Po => ∃ p dx pb br md nm lf lo hi nu wd v_byte, ρa = [.st (.ref p) (wst a_Walker_ p dx pb ⟨br, md, nm, lf, lo, hi, nu, wd⟩), .va (.int v_byte)] ∧ ((md = "first" ∨ md = "member" ∨ md = "behind" → br ≠ []) ∧ br.length ≤ 1000) ∧ Po = fun ρb o => ρb = [.st (.ref p) (wst a_Walker_ p dx pb (f_between ⟨br, md, nm, lf, lo, hi, nu, wd⟩ v_byte).1), .va (.int v_byte)] ∧ o = .ok (.bool (f_between ⟨br, md, nm, lf, lo, hi, nu, wd⟩ v_byte).2)
theorem h_between (Df : Def K mg "between" s_between) (B : BI mg) (C_QUOTE : ∃ t, mg "QUOTE" = some (.int 34 t)) (C_COLON : ∃ t, mg "COLON" = some (.int 58 t)) (C_ROW_END : ∃ t, mg "ROW_END" = some (.int 93 t)) (C_FIELDS_END : ∃ t, mg "FIELDS_END" = some (.int 125 t)) (C_O_Walker : OCls K a_Walker WalkerK) (G_begun : HasG P w K mg base "begun" 2 (S_begun a_Walker)) (G_closed : HasG P w K mg base "closed" 2 (S_closed a_Walker)) (G_behind : HasG P w K mg base "behind" 3 (S_behind a_Walker)) : HasG P w K mg base "between" 4 (S_between a_Walker) := by
  have nd := c_between.nd
  refine has_G Df c_between (fun _ _ _ _ _ _ us hl => match us, hl with | [_, _], _ => rfl) ?_ ?_
  · rintro ρa Po ⟨p, dx, pb, br, md, nm, lf, lo, hi, nu, wd, v_byte, rfl, hpre, rfl⟩; rfl
  rintro f cdv A outer s H E hr O ρa Po ⟨p, dx, pb, br, md, nm, lf, lo, hi, nu, wd, v_byte, rfl, hpre, rfl⟩
  obtain ⟨hp1, hp2⟩ := hpre
  refine ds_cons (ds_asg (n := 2) nd (de_fld C_O_Walker (n := 0) rfl (k := 0) rfl (re_nm (i := 0) rfl rfl) (m := 1) rfl rfl) ?_)
  refine ds_cons (ds_if (dt_or2 (dt_eqS (de_va (i := 2) rfl).b (de_str).b) (fun h1_ => dt_and2 (dt_eqS (de_va (i := 2) rfl).b (de_str).b) (fun h1_ => dt_neI (de_va (i := 1) rfl).b (de_glI C_ROW_END).b))) (fun hc1_ => ?_) (fun hc1_ => ?_))
  · try dsimp only at hc1_
    refine ds_cons (ds_retC (ce_callG0 (n := 0) G_begun (hr.mono (by first | decide | omega)) rfl (re_nm (i := 0) rfl rfl) (aw_va (de_va (i := 1) rfl) aw_nil) (⟨_, _, _, _, _, _, _, _, _, _, _, _, rfl, by walk_at "pre", rfl⟩)) ?_)
    refine ⟨_, _, ⟨rfl, rfl⟩, kp_st (u := .ref p) 0 ?_, Or.inl ?_⟩ <;> (first | rfl | (simp only [f_between, hc1_, ↓reduceIte, Bool.false_eq_true, eq_self]; done) | (simp only [f_between, hc1_, ↓reduceIte, Bool.false_eq_true, eq_self]; rfl))
  · try dsimp only at hc1_
    refine ds_nil ?_
    refine ds_cons (ds_if (dt_or2 (dt_eqS (de_va (i := 2) rfl).b (de_str).b) (fun h1_ => dt_and2 (dt_eqS (de_va (i := 2) rfl).b (de_str).b) (fun h1_ => dt_eqI (de_va (i := 1) rfl).b (de_glI C_FIELDS_END).b))) (fun hc2_ => ?_) (fun hc2_ => ?_))
    · try dsimp only at hc2_
      refine ds_cons (ds_retC (ce_callG0 (n := 0) G_closed (hr.mono (by first | decide | omega)) rfl (re_nm (i := 0) rfl rfl) aw_nil (⟨_, _, _, _, _, _, _, _, _, _, _, rfl, hp1 (by simp only [Bool.or_eq_true, Bool.and_eq_true, decide_eq_true_eq] at hc2_; rcases hc2_ with h | h; exact .inl h; exact .inr (.inl h.1)), rfl⟩)) ?_)
      refine ⟨_, _, ⟨rfl, rfl⟩, kp_st (u := .ref p) 0 ?_, Or.inl ?_⟩ <;> (first | rfl | (simp only [f_between, hc1_, hc2_, ↓reduceIte, Bool.false_eq_true, eq_self]; done) | (simp only [f_between, hc1_, hc2_, ↓reduceIte, Bool.false_eq_true, eq_self]; rfl))
    · try dsimp only at hc2_
      refine ds_nil ?_
      refine ds_cons (ds_if (dt_or2 (dt_eqS (de_va (i := 2) rfl).b (de_str).b) (fun h1_ => dt_eqS (de_va (i := 2) rfl).b (de_str).b)) (fun hc3_ => ?_) (fun hc3_ => ?_))
      · try dsimp only at hc3_
        refine ds_cons (ds_if (dt_neI (de_va (i := 1) rfl).b (de_glI C_QUOTE).b) (fun hc4_ => ?_) (fun hc4_ => ?_))
        · try dsimp only at hc4_
          refine ds_cons (ds_ret (de_bl) ?_)
          refine ⟨_, _, ⟨rfl, rfl⟩, kp_st (u := .ref p) 0 ?_, Or.inl ?_⟩ <;> (first | rfl | (simp only [f_between, hc1_, hc2_, hc3_, hc4_, ↓reduceIte, Bool.false_eq_true, eq_self]; done) | (simp only [f_between, hc1_, hc2_, hc3_, hc4_, ↓reduceIte, Bool.false_eq_true, eq_self]; rfl))
        · try dsimp only at hc4_
          refine ds_nil ?_
          refine ds_cons (ds_fld C_O_Walker (n := 0) rfl (k := 0) rfl (re_nm (i := 0) rfl rfl) (de_str) (m := 1) rfl (by decide) ?_)
          show DSs _ _ _ (.st (.ref p) (wst a_Walker p dx pb ⟨br, "text", nm, lf, lo, hi, nu, wd⟩) :: _) _ _
          refine ds_cons (ds_fld C_O_Walker (n := 0) rfl (k := 0) rfl (re_nm (i := 0) rfl rfl) (de_bl) (m := 2) rfl (by decide) ?_)
          show DSs _ _ _ (.st (.ref p) (wst a_Walker p dx pb ⟨br, "text", true, lf, lo, hi, nu, wd⟩) :: _) _ _
          refine ds_cons (ds_ret (de_bl) ?_)
          refine ⟨_, _, ⟨rfl, rfl⟩, kp_st (u := .ref p) 0 ?_, Or.inl ?_⟩ <;> (first | rfl | (simp only [f_between, hc1_, hc2_, hc3_, hc4_, ↓reduceIte, Bool.false_eq_true, eq_self]; done) | (simp only [f_between, hc1_, hc2_, hc3_, hc4_, ↓reduceIte, Bool.false_eq_true, eq_self]; rfl))
      · try dsimp only at hc3_
        refine ds_nil ?_
        refine ds_cons (ds_if (dt_eqS (de_va (i := 2) rfl).b (de_str).b) (fun hc5_ => ?_) (fun hc5_ => ?_))
        · try dsimp only at hc5_
          refine ds_cons (ds_if (dt_neI (de_va (i := 1) rfl).b (de_glI C_COLON).b) (fun hc6_ => ?_) (fun hc6_ => ?_))
          · try dsimp only at hc6_
            refine ds_cons (ds_ret (de_bl) ?_)
            refine ⟨_, _, ⟨rfl, rfl⟩, kp_st (u := .ref p) 0 ?_, Or.inl ?_⟩ <;> (first | rfl | (simp only [f_between, hc1_, hc2_, hc3_, hc5_, hc6_, ↓reduceIte, Bool.false_eq_true, eq_self]; done) | (simp only [f_between, hc1_, hc2_, hc3_, hc5_, hc6_, ↓reduceIte, Bool.false_eq_true, eq_self]; rfl))
          · try dsimp only at hc6_
            refine ds_nil ?_
            refine ds_cons (ds_fld C_O_Walker (n := 0) rfl (k := 0) rfl (re_nm (i := 0) rfl rfl) (de_str) (m := 1) rfl (by decide) ?_)
            show DSs _ _ _ (.st (.ref p) (wst a_Walker p dx pb ⟨br, "value", nm, lf, lo, hi, nu, wd⟩) :: _) _ _
            refine ds_cons (ds_ret (de_bl) ?_)
            refine ⟨_, _, ⟨rfl, rfl⟩, kp_st (u := .ref p) 0 ?_, Or.inl ?_⟩ <;> (first | rfl | (simp only [f_between, hc1_, hc2_, hc3_, hc5_, hc6_, ↓reduceIte, Bool.false_eq_true, eq_self]; done) | (simp only [f_between, hc1_, hc2_, hc3_, hc5_, hc6_, ↓reduceIte, Bool.false_eq_true, eq_self]; rfl))
        · try dsimp only at hc5_
          refine ds_nil ?_
          refine ds_cons (ds_ret_and (de_eqS (de_va (i := 2) rfl).b (de_str).b) (fun hc7_ => ⟨ce_callG0 (n := 0) G_behind (hr.mono (by first | decide | omega)) rfl (re_nm (i := 0) rfl rfl) (aw_va (de_va (i := 1) rfl) aw_nil) (⟨_, _, _, _, _, _, _, _, _, _, _, _, rfl, hp1 (.inr (.inr (of_decide_eq_true (by assumption)))), rfl⟩), ?_⟩) (fun hc7_ => ?_))
          · refine ⟨_, _, ⟨rfl, rfl⟩, kp_st (u := .ref p) 0 ?_, Or.inl ?_⟩ <;> (first | rfl | (simp only [f_between, hc1_, hc2_, hc3_, hc5_, hc7_, ↓reduceIte, Bool.false_eq_true, eq_self]; done) | (simp only [f_between, hc1_, hc2_, hc3_, hc5_, hc7_, ↓reduceIte, Bool.false_eq_true, eq_self]; rfl))
          · refine ⟨_, _, ⟨rfl, rfl⟩, kp_st (u := .ref p) 0 ?_, Or.inl ?_⟩ <;> (first | rfl | (simp only [f_between, hc1_, hc2_, hc3_, hc5_, hc7_, ↓reduceIte, Bool.false_eq_true, eq_self]; done) | (simp only [f_between, hc1_, hc2_, hc3_, hc5_, hc7_, ↓reduceIte, Bool.false_eq_true, eq_self]; rfl))
/-! stepped -/
abbrev s_stepped : Stmt := topS 41
abbrev n_stepped : List Str := ["walker", "byte"]
theorem c_stepped : FnScope n_stepped ["walker", "byte"] (defScope s_stepped) := ⟨rfl, rfl, rfl, by decide +kernel, rfl, by decide +kernel, by decide +kernel⟩

def f_stepped (w : Wk) (v_byte : Int) : Wk × Bool :=
  (if decide (w.md ∈ (["text", "escape", "hex", "half", "half u", "low hex", "sign"] : List Str)) = true then f_in_text ⟨w.br, w.md, w.nm, w.lf, w.lo, w.hi, w.nu, w.wd⟩ (v_byte) else (if decide (w.md ∈ (["minus", "zero", "whole", "point", "part", "power", "power sign", "powers"] : List Str)) = true then f_in_number ⟨w.br, w.md, w.nm, w.lf, w.lo, w.hi, w.nu, w.wd⟩ (v_byte) else (if decide (w.md = "word") = true then f_in_word ⟨w.br, w.md, w.nm, w.lf, w.lo, w.hi, w.nu, w.wd⟩ (v_byte) else (if (f_is_white (v_byte)) = true then (⟨w.br, w.md, w.nm, w.lf, w.lo, w.hi, w.nu, w.wd⟩, true) else f_between ⟨w.br, w.md, w.nm, w.lf, w.lo, w.hi, w.nu, w.wd⟩ (v_byte)))))
def S_stepped (a_Walker_ : Addr) : List Sl → (List Sl → Out → Prop) → Prop := fun ρa Po => ∃ p dx pb br md nm lf lo hi nu wd v_byte, ρa = [.st (.ref p) (wst a_Walker_ p dx pb ⟨br, md, nm, lf, lo, hi, nu, wd⟩), .va (.int v_byte)] ∧ ((md = "first" ∨ md = "member" ∨ md = "behind" → br ≠ []) ∧ (md = "word" → wd ≠ []) ∧ br.length ≤ 1000) ∧ Po = fun ρb o => ρb = [.st (.ref p) (wst a_Walker_ p dx pb (f_stepped ⟨br, md, nm, lf, lo, hi, nu, wd⟩ v_byte).1), .va (.int v_byte)] ∧ o = .ok (.bool (f_stepped ⟨br, md, nm, lf, lo, hi, nu, wd⟩ v_byte).2)
theorem h_stepped (Df : Def K mg "stepped" s_stepped) (B : BI mg) (C_TEXT_MODES : Gt K mg "TEXT_MODES" (.tuple ((["text", "escape", "hex", "half", "half u", "low hex", "sign"] : List Str).map .str))) (C_NUMBER_MODES : Gt K mg "NUMBER_MODES" (.tuple ((["minus", "zero", "whole", "point", "part", "power", "power sign", "powers"] : List Str).map .str))) (C_O_Walker : OCls K a_Walker WalkerK) (G_in_text : HasG P w K mg base "in_text" 3 (S_in_text a_Walker)) (G_in_number : HasG P w K mg base "in_number" 5 (S_in_number a_Walker)) (G_in_word : HasG P w K mg base "in_word" 2 (S_in_word a_Walker)) (G_is_white : Has P w K mg base "is_white" 1 (S_is_white)) (G_between : HasG P w K mg base "between" 4 (S_between a_Walker)) : HasG P w K mg base "stepped" 6 (S_stepped a_Walker) := by
  have nd := c_stepped.nd
  refine has_G Df c_stepped (fun _ _ _ _ _ _ us hl => match us, hl with | [_, _], _ => rfl) ?_ ?_
  · rintro ρa Po ⟨p, dx, pb, br, md, nm, lf, lo, hi, nu, wd, v_byte, rfl, hpre, rfl⟩; rfl
  rintro f cdv A outer s H E hr O ρa Po ⟨p, dx, pb, br, md, nm, lf, lo, hi, nu, wd, v_byte, rfl, hpre, rfl⟩
  obtain ⟨hp1, hp2, hp3⟩ := hpre
  refine ds_cons (ds_if (dt_inS (de_fld C_O_Walker (n := 0) rfl (k := 0) rfl (re_nm (i := 0) rfl rfl) (m := 1) rfl rfl).b (de_glT C_TEXT_MODES).b) (fun hc1_ => ?_) (fun hc1_ => ?_))
  · try dsimp only at hc1_
    refine ds_cons (ds_retC (ce_callG0 (n := 0) G_in_text (hr.mono (by first | decide | omega)) rfl (re_nm (i := 0) rfl rfl) (aw_va (de_va (i := 1) rfl) aw_nil) (⟨_, _, _, _, _, _, _, _, _, _, _, _, rfl, rfl⟩)) ?_)
    refine ⟨_, _, ⟨rfl, rfl⟩, kp_st (u := .ref p) 0 ?_, Or.inl ?_⟩ <;> (first | rfl | (simp only [f_stepped, hc1_, ↓reduceIte, Bool.false_eq_true, eq_self]; done) | (simp only [f_stepped, hc1_, ↓reduceIte, Bool.false_eq_true, eq_self]; rfl))
  · try dsimp only at hc1_
    refine ds_nil ?_
    refine ds_cons (ds_if (dt_inS (de_fld C_O_Walker (n := 0) rfl (k := 0) rfl (re_nm (i := 0) rfl rfl) (m := 1) rfl rfl).b (de_glT C_NUMBER_MODES).b) (fun hc2_ => ?_) (fun hc2_ => ?_))
    · try dsimp only at hc2_
      refine ds_cons (ds_retC (ce_callG0 (n := 0) G_in_number (hr.mono (by first | decide | omega)) rfl (re_nm (i := 0) rfl rfl) (aw_va (de_va (i := 1) rfl) aw_nil) (⟨_, _, _, _, _, _, _, _, _, _, _, _, rfl, rfl⟩)) ?_)
      refine ⟨_, _, ⟨rfl, rfl⟩, kp_st (u := .ref p) 0 ?_, Or.inl ?_⟩ <;> (first | rfl | (simp only [f_stepped, hc1_, hc2_, ↓reduceIte, Bool.false_eq_true, eq_self]; done) | (simp only [f_stepped, hc1_, hc2_, ↓reduceIte, Bool.false_eq_true, eq_self]; rfl))
    · try dsimp only at hc2_
      refine ds_nil ?_
      refine ds_cons (ds_if (dt_eqS (de_fld C_O_Walker (n := 0) rfl (k := 0) rfl (re_nm (i := 0) rfl rfl) (m := 1) rfl rfl).b (de_str).b) (fun hc3_ => ?_) (fun hc3_ => ?_))
      · try dsimp only at hc3_
        refine ds_cons (ds_retC (ce_callG0 (n := 0) G_in_word (hr.mono (by first | decide | omega)) rfl (re_nm (i := 0) rfl rfl) (aw_va (de_va (i := 1) rfl) aw_nil) (⟨_, _, _, _, _, _, _, _, _, _, _, _, rfl, hp2 (of_decide_eq_true hc3_), rfl⟩)) ?_)
        refine ⟨_, _, ⟨rfl, rfl⟩, kp_st (u := .ref p) 0 ?_, Or.inl ?_⟩ <;> (first | rfl | (simp only [f_stepped, hc1_, hc2_, hc3_, ↓reduceIte, Bool.false_eq_true, eq_self]; done) | (simp only [f_stepped, hc1_, hc2_, hc3_, ↓reduceIte, Bool.false_eq_true, eq_self]; rfl))
      · try dsimp only at hc3_
        refine ds_nil ?_
        refine ds_cons (ds_ret_or (de_call G_is_white (hr.mono (by first | decide | omega)) (ad_cons (de_va (i := 1) rfl) ad_nil) (⟨_, rfl, rfl⟩)) (fun hc4_ => ⟨ce_callG0 (n := 0) G_between (hr.mono (by first | decide | omega)) rfl (re_nm (i := 0) rfl rfl) (aw_va (de_va (i := 1) rfl) aw_nil) (⟨_, _, _, _, _, _, _, _, _, _, _, _, rfl, ⟨hp1, hp3⟩, rfl⟩), ?_⟩) (fun hc4_ => ?_))
        · refine ⟨_, _, ⟨rfl, rfl⟩, kp_st (u := .ref p) 0 ?_, Or.inl ?_⟩ <;> (first | rfl | (simp only [f_stepped, hc1_, hc2_, hc3_, hc4_, ↓reduceIte, Bool.false_eq_true, eq_self]; done) | (simp only [f_stepped, hc1_, hc2_, hc3_, hc4_, ↓reduceIte, Bool.false_eq_true, eq_self]; rfl))
        · refine ⟨_, _, ⟨rfl, rfl⟩, kp_st (u := .ref p) 0 ?_, Or.inl ?_⟩ <;> (first | rfl | (simp only [f_stepped, hc1_, hc2_, hc3_, hc4_, ↓reduceIte, Bool.false_eq_true, eq_self]; done) | (simp only [f_stepped, hc1_, hc2_, hc3_, hc4_, ↓reduceIte, Bool.false_eq_true, eq_self]; rfl))
/-! over -/
abbrev s_over : Stmt := topS 27
abbrev n_over : List Str := ["walker"]
theorem c_over : FnScope n_over ["walker"] (defScope s_over) := ⟨rfl, rfl, rfl, by decide +kernel, rfl, by decide +kernel, by decide +kernel⟩

def f_over (w : Wk) : Wk × Bool :=
  (⟨w.br, w.md, w.nm, w.lf, w.lo, w.hi, w.nu, w.wd⟩, ((!(!(w.br.map PyData.bool).isEmpty)) && decide (w.md ∈ (["done", "zero", "whole", "part", "powers"] : List Str))))
def S_over (a_Walker_ : Addr) : List Sl → (List Sl → Out → Prop) → Prop := fun ρa Po => ∃ p dx pb br md nm lf lo hi nu wd, ρa = [.st (.ref p) (wst a_Walker_ p dx pb ⟨br, md, nm, lf, lo, hi, nu, wd⟩)] ∧ Po = fun ρb o => ρb = [.st (.ref p) (wst a_Walker_ p dx pb (f_over ⟨br, md, nm, lf, lo, hi, nu, wd⟩).1)] ∧ o = .ok (.bool (f_over ⟨br, md, nm, lf, lo, hi, nu, wd⟩).2)
theorem h_over (Df : Def K mg "over" s_over) (B : BI mg) (C_WHOLE_MODES : Gt K mg "WHOLE_MODES" (.tuple ((["done", "zero", "whole", "part", "powers"] : List Str).map .str))) (C_O_Walker : OCls K a_Walker WalkerK) : HasG P w K mg base "over" 1 (S_over a_Walker) := by
  have nd := c_over.nd
  refine has_G Df c_over (fun _ _ _ _ _ _ us hl => match us, hl with | [_], _ => rfl) ?_ ?_
  · rintro ρa Po ⟨p, dx, pb, br, md, nm, lf, lo, hi, nu, wd, rfl, rfl⟩; rfl
  rintro f cdv A outer s H E hr O ρa Po ⟨p, dx, pb, br, md, nm, lf, lo, hi, nu, wd, rfl, rfl⟩
  refine ds_cons (ds_ret (de_and2 (de_notL (be_cell (n := 0) rfl (k := 1) rfl (re_fld C_O_Walker (n := 0) rfl (k := 0) rfl (re_nm (i := 0) rfl rfl) (m := 0) rfl rfl))) (fun h1_ => (de_inS (de_fld C_O_Walker (n := 0) rfl (k := 0) rfl (re_nm (i := 0) rfl rfl) (m := 1) rfl rfl).b (de_glT C_WHOLE_MODES).b))) ?_)
  refine ⟨_, _, ⟨rfl, rfl⟩, kp_st (u := .ref p) 0 ?_, Or.inl ?_⟩ <;> (first | rfl | (simp only [f_over, ↓reduceIte, Bool.false_eq_true, eq_self]; done) | (simp only [f_over, ↓reduceIte, Bool.false_eq_true, eq_self]; rfl))
/-! J_ok -/
def okW (w : Wk) : Prop := (w.md = "first" ∨ w.md = "member" ∨ w.md = "behind" → w.br ≠ []) ∧ (w.md = "word" → w.wd ≠ []) ∧ w.br.length ≤ 64
theorem ok_w0 : okW w0 := ⟨fun h => by rcases h with h | h | h <;> exact absurd h (by decide +kernel), fun h => absurd h (by decide +kernel), Nat.zero_le _⟩
theorem ok_lit {w : Wk} {m : Str} {nm : Bool} {lf lo hi nu : Int} {wd : List Int} (h : okW w) (hm : decide (m ∈ (["first", "member", "behind", "word"] : List Str)) = false) : okW ⟨w.br, m, nm, lf, lo, hi, nu, wd⟩ := by
  have hm := of_decide_eq_false hm
  simp only [List.mem_cons, List.not_mem_nil, or_false, not_or] at hm
  exact ⟨fun z => by rcases z with z | z | z; exact absurd z hm.1; exact absurd z hm.2.1; exact absurd z hm.2.2.1, fun z => absurd z hm.2.2.2, h.2.2⟩
theorem ok_ended {w : Wk} (h : w.br.length ≤ 64) : okW (f_ended w).1 := by
  unfold f_ended
  split
  · rename_i hc
    refine ⟨fun _ e => ?_, fun z => absurd (show ("behind" : Str) = "word" from z) (by decide +kernel), h⟩
    rw [show w.br = [] from e] at hc
    simp at hc
  · exact ⟨fun z => by rcases z with z | z | z <;> exact absurd (show ("done" : Str) = _ from z) (by decide +kernel), fun z => absurd (show ("done" : Str) = "word" from z) (by decide +kernel), h⟩
theorem ok_closed {w : Wk} (h : okW w) : okW (f_closed w).1 := by
  unfold f_closed
  exact ok_ended (by show w.br.dropLast.length ≤ 64; rw [List.length_dropLast]; have := h.2.2; omega)
theorem ok_behind {w : Wk} (b : Int) (h : okW w) : okW (f_behind w b).1 := by
  unfold f_behind
  split
  · dsimp only
    split <;> exact ok_lit h (by decide +kernel)
  · split
    · exact ok_closed h
    · exact h
theorem ok_begun {w : Wk} (b : Int) (h : okW w) : okW (f_begun w b).1 := by
  unfold f_begun
  split
  · split
    · exact h
    · rename_i hc
      rw [List.length_map, decide_eq_true_eq] at hc
      refine ⟨fun _ e => ?_, fun z => ?_, ?_⟩
      · have := congrArg List.length (show w.br ++ [decide (b = 123)] = [] from e)
        simp at this
      · dsimp only at z
        split at z <;> exact absurd z (by decide +kernel)
      · show (w.br ++ [decide (b = 123)]).length ≤ 64
        rw [List.length_append]
        show w.br.length + 1 ≤ 64
        have := h.2.2
        omega
  · split
    · exact ok_lit h (by decide +kernel)
    · split
      · exact ok_lit h (by decide +kernel)
      · split
        · dsimp only
          split <;> exact ok_lit h (by decide +kernel)
        · have hw : ∀ l : List Int, l ≠ [] → okW ⟨w.br, "word", w.nm, w.lf, w.lo, w.hi, w.nu, l⟩ := fun l hl => ⟨fun z => by rcases z with z | z | z <;> exact absurd (show ("word" : Str) = _ from z) (by decide +kernel), fun _ => hl, h.2.2⟩
          split
          · exact hw _ (by decide)
          · split
            · exact hw _ (by decide)
            · split
              · exact hw _ (by decide)
              · exact h
theorem ok_between {w : Wk} (b : Int) (h : okW w) : okW (f_between w b).1 := by
  unfold f_between
  split
  · exact ok_begun b h
  · split
    · exact ok_closed h
    · split
      · split
        · exact h
        · exact ok_lit h (by decide +kernel)
      · split
        · split
          · exact h
          · exact ok_lit h (by decide +kernel)
        · split
          · exact ok_behind b h
          · exact h
theorem ok_word {w : Wk} (b : Int) (h : okW w) : okW (f_in_word w b).1 := by
  unfold f_in_word
  split
  · exact h
  · split
    · exact ok_ended h.2.2
    · rename_i h1 hc
      refine ⟨h.1, fun _ e => hc ?_, h.2.2⟩
      rw [show w.wd.drop 1 = [] from e]; rfl
theorem ok_plain {w : Wk} (b : Int) (h : okW w) : okW (f_in_plain w b).1 := by
  unfold f_in_plain
  split
  · split
    · exact ok_lit h (by decide +kernel)
    · exact ok_ended h.2.2
  · split
    · exact ok_lit h (by decide +kernel)
    · split
      · exact h
      · split
        · exact h
        · split
          · exact ok_lit h (by decide +kernel)
          · exact h
theorem ok_sign {w : Wk} (b : Int) (h : okW w) : okW (f_in_sign w b).1 := by
  unfold f_in_sign
  split
  · exact h
  · split
    · exact ok_lit h (by decide +kernel)
    · exact h
theorem ok_hex {w : Wk} (b : Int) (h : okW w) : okW (f_in_hex w b).1 := by
  unfold f_in_hex
  split
  · exact h
  · split
    · exact h
    · split
      · exact h
      · split
        · dsimp only
          split <;> exact ok_lit h (by decide +kernel)
        · exact h
theorem ok_text {w : Wk} (b : Int) (h : okW w) : okW (f_in_text w b).1 := by
  unfold f_in_text
  split
  · exact ok_plain b h
  · split
    · exact ok_sign b h
    · split
      · split
        · unfold f_hex_begun; exact ok_lit h (by decide +kernel)
        · split
          · exact h
          · exact ok_lit h (by decide +kernel)
      · split
        · split
          · exact h
          · exact ok_lit h (by decide +kernel)
        · split
          · split
            · unfold f_hex_begun; exact ok_lit h (by decide +kernel)
            · exact h
          · exact ok_hex b h
theorem behind_no {w : Wk} {b : Int} (h : (f_behind w b).2 = false) : (f_behind w b).1 = w := by
  unfold f_behind at h ⊢
  split at h
  · cases h
  · split at h
    · unfold f_closed f_ended at h
      split at h <;> cases h
    · rename_i h1 h2
      rw [if_neg h1, if_neg h2]
theorem over_no {w : Wk} {b : Int} (h : (f_number_over w b).2 = false) : (f_number_over w b).1 = w := by
  have he : ∀ e : Wk, e = (f_ended w).1 → (⟨e.br, w.md, e.nm, e.lf, e.lo, e.hi, e.nu, e.wd⟩ : Wk) = w := fun e h => by
    subst h
    unfold f_ended
    split <;> rfl
  unfold f_number_over at h ⊢
  split at h
  · cases h
  · rename_i h1
    rw [if_neg h1]
    split at h
    · rename_i h2
      rw [if_pos h2]
      split at h
      · cases h
      · rename_i h3
        rw [if_neg h3]
        exact he _ (behind_no (Bool.eq_false_iff.mpr h3))
    · rename_i h2
      rw [if_neg h2]
      exact he _ rfl
theorem ok_over {w : Wk} (b : Int) (h : okW w) : okW (f_number_over w b).1 := by
  cases hk : (f_number_over w b).2 with
  | false => rw [over_no hk]; exact h
  | true =>
    have h1 : okW (f_ended w).1 := ok_ended h.2.2
    unfold f_number_over at hk ⊢
    split
    · exact h1
    · rename_i h2
      rw [if_neg h2] at hk
      split
      · rename_i h3
        rw [if_pos h3] at hk
        split
        · exact ok_behind b h1
        · rename_i h4
          rw [if_neg h4] at hk
          cases hk
      · rename_i h3
        rw [if_neg h3] at hk
        cases hk
theorem ok_number {w : Wk} (b : Int) (h : okW w) : okW (f_in_number w b).1 := by
  unfold f_in_number
  repeat (first | exact h | exact ok_over b h | exact ok_lit h (by decide +kernel) | split)
theorem ok_step {w : Wk} (b : Int) (h : okW w) : okW (f_stepped w b).1 := by
  unfold f_stepped
  split
  · exact ok_text b h
  · split
    · exact ok_number b h
    · split
      · exact ok_word b h
      · split
        · exact h
        · exact ok_between b h
def runW (w : Wk) : List Int → Option Wk
  | [] => some w
  | b :: r => if (f_stepped w b).2 = true then runW (f_stepped w b).1 r else none

/-! _law_white -/
def lwhite (n : Int) : List Int := if 0 < n % 4 then [] else (List.range (n / 64 % 3 + 1).toNat).map fun (j : Nat) => ([32, 9, 10, 13] : List Int).getD (n / 4 / (1 + 3 * (j : Int)) % 4).toNat 0
def isWh (b : Int) : Bool := decide (b ∈ ([32, 9, 10, 13] : List Int))
theorem wh_menu : ∀ n : Nat, n < 4 → isWh (([32, 9, 10, 13] : List Int).getD n 0) = true := by decide
theorem lwhite_wh {n b : Int} (h : b ∈ lwhite n) : isWh b = true := by
  unfold lwhite at h
  split at h
  · exact absurd h List.not_mem_nil
  · obtain ⟨j, _, rfl⟩ := List.mem_map.mp h
    exact wh_menu _ (by omega)
theorem lwhite_len (n : Int) : (lwhite n).length ≤ 3 := by
  unfold lwhite
  split
  · decide
  · rw [List.length_map, List.length_range]; omega
def S_l_white : List PyData → Out → Prop := fun ds o => ∃ n, ds = [.int n] ∧ 0 ≤ n ∧ o = .nw ((lwhite n).map .int)

/-! _law_hex -/
def hxit (n : Int) (g : Bool) : Nat → Int × List Int
  | 0 => (n, [])
  | m + 1 => ((hxit n g m).1 / 16, (if (hxit n g m).1 % 16 < 10 then 48 + (hxit n g m).1 % 16 else (if g = true then 55 else 87) + (hxit n g m).1 % 16) :: (hxit n g m).2)
def lhex (n : Int) (g : Bool) : List Int := 92 :: 117 :: (hxit n g 4).2
theorem hxit_len (n : Int) (g : Bool) : ∀ m, (hxit n g m).2.length = m
  | 0 => rfl
  | m + 1 => by show (hxit n g m).2.length + 1 = _; rw [hxit_len n g m]
theorem lhex_len (n : Int) (g : Bool) : (lhex n g).length = 6 := by unfold lhex; rw [List.length_cons, List.length_cons, hxit_len]
theorem hxit_lo {n : Int} {g : Bool} {m : Nat} (h : (hxit n g m).1 % 16 < 10) : (hxit n g (m + 1)).2 = (48 + (hxit n g m).1 % 16) :: (hxit n g m).2 := by show (_ :: _ : List Int) = _; rw [if_pos h]
theorem hxit_hi {n : Int} {g : Bool} {m : Nat} (h : ¬ (hxit n g m).1 % 16 < 10) : (hxit n g (m + 1)).2 = ((if g = true then 55 else 87) + (hxit n g m).1 % 16) :: (hxit n g m).2 := by show (_ :: _ : List Int) = _; rw [if_neg h]
def S_l_hex : List PyData → Out → Prop := fun ds o => ∃ n g, ds = [.int n, .bool g] ∧ o = .nw ((lhex n g).map .int)

/-! _law_eight -/
def l8it (p : Int) : Nat → Int × List Int
  | 0 => (p, [])
  | m + 1 => ((l8it p m).1 / 64, (128 + (l8it p m).1 % 64) :: (l8it p m).2)
def l8n (p : Int) : Int := 1 + (if 2048 ≤ p then 1 else 0) + (if 65536 ≤ p then 1 else 0)
theorem l8n_le (p : Int) : 1 ≤ l8n p ∧ l8n p ≤ 3 := by unfold l8n; split <;> split <;> omega
def lenc (p : Int) : List Int := if p < 128 then [p] else (([192, 224, 240] : List Int).getD (l8n p - 1).toNat 0 + (l8it p (l8n p).toNat).1) :: (l8it p (l8n p).toNat).2
theorem l8it_len (p : Int) : ∀ m, (l8it p m).2.length = m
  | 0 => rfl
  | m + 1 => by show (l8it p m).2.length + 1 = _; rw [l8it_len p m]
def S_l_eight : List PyData → Out → Prop := fun ds o => ∃ p, ds = [.int p] ∧ o = .nw ((lenc p).map .int)

/-! _law_sign -/
def shortK : List (Int × Int) := [(34, 34), (92, 92), (47, 47), (8, 98), (12, 102), (10, 110), (13, 114), (9, 116)]
def lsign (p n : Int) : List Int :=
  if n % 5 = 0 ∧ (lookI shortK p).isSome = true then [92, (lookI shortK p).getD 0]
  else if 1 < n % 5 ∧ 32 ≤ p ∧ p ≠ 34 ∧ p ≠ 92 then lenc p
  else if p < 65536 then lhex p (decide (n % 5 = 1))
  else lhex (55296 + (p - 65536) / 1024) (decide (n % 5 = 1)) ++ lhex (56320 + (p - 65536) % 1024) (decide (n % 5 = 0))
theorem lenc_len (p : Int) : (lenc p).length ≤ 4 := by
  unfold lenc
  split
  · show 1 ≤ 4; decide
  · rw [List.length_cons, l8it_len]; have := l8n_le p; omega
theorem lsign_len (p n : Int) : (lsign p n).length ≤ 12 := by
  unfold lsign
  split
  · show 2 ≤ 12; decide
  · split
    · have := lenc_len p; omega
    · split
      · rw [lhex_len]; decide
      · rw [List.length_append, lhex_len, lhex_len]; decide
def S_l_sign : List PyData → Out → Prop := fun ds o => ∃ p n, ds = [.int p, .int n] ∧ o = .nw ((lsign p n).map .int)

/-! _law_text -/
def ltxI (n : Int) : Nat → List Int → List Int
  | _, [] => []
  | j, p :: r => lsign p (n / (1 + (j : Int) % 7) + (j : Int)) ++ ltxI n (j + 1) r
def ltext (ps : List Int) (n : Int) : List Int := 34 :: (ltxI n 0 ps ++ [34])
theorem ltxI_len (n : Int) : ∀ (ps : List Int) (j : Nat), (ltxI n j ps).length ≤ 12 * ps.length
  | [], _ => Nat.le_refl _
  | p :: r, j => by
    rw [ltxI, List.length_append, List.length_cons]
    have h1 := lsign_len p (n / (1 + (j : Int) % 7) + (j : Int))
    have h2 := ltxI_len n r (j + 1)
    omega
theorem ltxI_app (n : Int) : ∀ (ps qs : List Int) (j : Nat), ltxI n j (ps ++ qs) = ltxI n j ps ++ ltxI n (j + ps.length) qs
  | [], qs, j => rfl
  | p :: r, qs, j => by rw [List.cons_append, ltxI, ltxI, ltxI_app n r qs (j + 1), List.append_assoc, List.length_cons, show j + 1 + r.length = j + (r.length + 1) by omega]
theorem ltext_len (ps : List Int) (n : Int) : (ltext ps n).length ≤ 12 * ps.length + 2 := by
  unfold ltext; rw [List.length_cons, List.length_append]; have := ltxI_len n ps 0; show _ + 1 + 1 ≤ _; omega
def S_l_text : List PyData → Out → Prop := fun ds o => ∃ ps n, ds = [.list (ps.map .int), .int n] ∧ ps.length ≤ 1000 ∧ o = .nw ((ltext ps n).map .int)

/-! _law_cell -/
abbrev s_l_cell : Stmt := topS 45
abbrev n_l_cell : List Str := ["_law_script", "_law_k"]
theorem c_l_cell : FnScope n_l_cell ["_law_script", "_law_k"] (defScope s_l_cell) := ⟨rfl, rfl, rfl, by decide +kernel, rfl, by decide +kernel, by decide +kernel⟩
def cell (ns : List Int) (k : Int) : Int := if ns = [] then 0 else ns.getD (k % (ns.length : Int)).toNat 0
def S_l_cell : List PyData → Out → Prop := fun ds o => ∃ ns k, ds = [scr ns, .int k] ∧ o = .ok (.int (cell ns k))

theorem h_l_cell (Df : Def K mg "_law_cell" s_l_cell) (B : BI mg) : Has P w K mg base "_law_cell" 1 (S_l_cell) := by
  have nd := c_l_cell.nd
  refine has_pu Df c_l_cell (fun _ _ _ _ _ _ us hl => match us, hl with | [_, _], _ => rfl) ?_ ?_
  · rintro ds o ⟨ns, k, rfl, _⟩; rfl
  rintro f cdv A outer s H E hr O ds out ⟨ns, k, rfl, rfl⟩
  refine ds_cons (ds_if (dt_scr (de_va (i := 0) rfl).b) (fun hc => ?_) (fun hc => ?_))
  · have hn : ns ≠ [] := by cases ns with | nil => cases hc | cons => exact nofun
    refine ds_cons (ds_ret (de_ixS (de_va (i := 0) rfl).b (de_mod (de_va (i := 1) rfl).b (de_lenS B.len (de_va (i := 0) rfl).b).b ?_).b (atI_mod hn k 0)) (Or.inl ?_))
    · have := List.length_pos_iff.mpr hn; omega
    · rw [cell, if_neg hn]
  · have hn : ns = [] := by cases ns with | nil => rfl | cons => cases hc
    refine ds_nil (ds_cons (ds_ret de_int (Or.inl ?_)))
    rw [cell, if_pos hn]
/-! _law_mix -/
abbrev s_l_mix : Stmt := topS 46
abbrev n_l_mix : List Str := ["_law_script", "_law_k", "_law_number"]
theorem c_l_mix : FnScope n_l_mix ["_law_script", "_law_k"] (defScope s_l_mix) := ⟨rfl, rfl, rfl, by decide +kernel, rfl, by decide +kernel, by decide +kernel⟩
def mix (ns : List Int) (k : Int) : Int :=
  let n := (cell ns k + 104729 * (k + 1)) % 4294967291
  let n := n * 48271 % 4294967279
  (n / 64 * 69621 + n) % 4294967231
theorem mix_nn (ns : List Int) (k : Int) : 0 ≤ mix ns k := Int.emod_nonneg _ (by decide)
theorem mix_lt (ns : List Int) (k : Int) : mix ns k < 4294967231 := Int.emod_lt_of_pos _ (by decide)
def S_l_mix : List PyData → Out → Prop := fun ds o => ∃ ns k, ds = [scr ns, .int k] ∧ o = .ok (.int (mix ns k))

theorem h_l_mix (Df : Def K mg "_law_mix" s_l_mix) (B : BI mg) (G_l_cell : Has P w K mg base "_law_cell" 1 (S_l_cell)) : Has P w K mg base "_law_mix" 2 (S_l_mix) := by
  have nd := c_l_mix.nd
  refine has_pu Df c_l_mix (fun _ _ _ _ _ _ us hl => match us, hl with | [_, _], _ => rfl) ?_ ?_
  · rintro ds o ⟨ns, k, rfl, _⟩; rfl
  rintro f cdv A outer s H E hr O ds out ⟨ns, k, rfl, rfl⟩
  refine ds_cons (ds_asg (n := 2) nd (de_mod (de_add (de_call G_l_cell hr (ad_cons (de_va (i := 0) rfl) (ad_cons (de_va (i := 1) rfl) ad_nil)) ⟨_, _, rfl, rfl⟩).b (de_mul de_int.b (de_add (de_va (i := 1) rfl).b de_int.b).b (by omega)).b).b de_int.b (by decide)) ?_)
  refine ds_cons (ds_asg (n := 2) nd (de_mod (de_mul (de_va (i := 2) rfl).b de_int.b (by omega)).b de_int.b (by decide)) ?_)
  exact ds_cons (ds_ret (de_mod (de_add (de_mul (de_div (de_va (i := 2) rfl).b de_int.b (by decide)).b de_int.b (by omega)).b (de_va (i := 2) rfl).b).b de_int.b (by decide)) (Or.inl rfl))
/-! is_point -/
def isPt (p : Int) : Bool := (decide (0 ≤ p) && decide (p ≤ 1114111)) && !(decide (55296 ≤ p) && decide (p ≤ 57343))
theorem isPt_iff {p : Int} : isPt p = true ↔ 0 ≤ p ∧ p ≤ 1114111 ∧ ¬ (55296 ≤ p ∧ p ≤ 57343) := by
  unfold isPt
  simp only [Bool.and_eq_true, decide_eq_true_eq, Bool.not_eq_true', Bool.and_eq_false_iff, decide_eq_false_iff_not]
  omega
def S_is_point : List PyData → Out → Prop := fun ds o => ∃ p, ds = [.int p] ∧ o = .ok (.bool (isPt p))

/-! _law_point -/
def lpoint (z : Int) : Int :=
  if z % 8 < 2 then 32 + z / 8 % 95
  else if z % 8 < 4 then ([34, 92, 47, 8, 12, 10, 13, 9, 0, 31, 127] : List Int).getD (z / 8 % 11).toNat 0
  else if z % 8 = 4 then 128 + z / 8 % 1920
  else if z % 8 = 5 then 2048 + z / 8 % 53248
  else if z % 8 = 6 then 57344 + z / 8 % 8192
  else 65536 + z / 8 % 1048576
theorem lpoint_pt (z : Int) : isPt (lpoint z) = true := by
  rw [isPt_iff]
  have menu : ∀ n : Nat, n < 11 → 0 ≤ ([34, 92, 47, 8, 12, 10, 13, 9, 0, 31, 127] : List Int).getD n 0 ∧ ([34, 92, 47, 8, 12, 10, 13, 9, 0, 31, 127] : List Int).getD n 0 ≤ 127 := by decide
  have h := menu (z / 8 % 11).toNat (by omega)
  unfold lpoint
  split
  · omega
  · split
    · omega
    · split
      · omega
      · split
        · omega
        · split <;> omega
def S_l_point : List PyData → Out → Prop := fun ds o => ∃ z, ds = [.int z] ∧ o = .ok (.int (lpoint z))

/-! _law_points -/
def lsize (ns : List Int) (k : Int) : Int := if mix ns k / 5 % 8 = 3 then mix ns k / 40 % 14 else mix ns k % 5
theorem lsize_le (ns : List Int) (k : Int) : 0 ≤ lsize ns k ∧ lsize ns k ≤ 13 := by unfold lsize; split <;> omega
def lpoints (ns : List Int) (k : Int) : List Int := (List.range (lsize ns k).toNat).map fun (j : Nat) => lpoint (mix ns (k + 1 + (j : Int)))
theorem lpoints_len (ns : List Int) (k : Int) : (lpoints ns k).length ≤ 13 := by unfold lpoints; rw [List.length_map, List.length_range]; have := lsize_le ns k; omega
theorem lpoints_pt {ns : List Int} {k p : Int} (h : p ∈ lpoints ns k) : isPt p = true := by obtain ⟨j, _, rfl⟩ := List.mem_map.mp h; exact lpoint_pt _
def S_l_points : List PyData → Out → Prop := fun ds o => ∃ ns k, ds = [scr ns, .int k] ∧ o = .nw ((lpoints ns k).map .int)

/-! _law_name -/
def lname (ns : List Int) (n : Int) : List Int := if n % 2 = 0 then [97 + n / 2 % 3] else lpoints ns (11 + n / 2 % 37)
theorem lname_len (ns : List Int) (n : Int) : (lname ns n).length ≤ 13 := by unfold lname; split; show 1 ≤ 13; decide; exact lpoints_len _ _
theorem lname_pt {ns : List Int} {n p : Int} (h : p ∈ lname ns n) : isPt p = true := by
  unfold lname at h
  split at h
  · rw [List.mem_singleton.mp h, isPt_iff]; omega
  · exact lpoints_pt h
def S_l_name : List PyData → Out → Prop := fun ds o => ∃ ns n, ds = [scr ns, .int n] ∧ o = .nw ((lname ns n).map .int)

/-! J_bld -/
structure Nd where
  k : Str
  a : Int
  b : Int
  c : Int
def ndT (d : Nd) : PyData := .tuple [.str d.k, .int d.a, .int d.b, .int d.c]
structure Fm where
  fl : Bool
  vs : List PyData
  ix : Nat
  nm : List Int
def kst (g : Bool) : Str := if g = true then "fields" else "row"
theorem kst_row (g : Bool) : decide (kst g = "row") = !g := by cases g <;> decide +kernel
theorem kst_fl (g : Bool) : decide (kst g = "fields") = g := by cases g <;> decide +kernel
abbrev NdA := Addr × Nd
abbrev FmA := Addr × Addr × Fm
def ndI (d : Nd) : List Itm := [.dat (.str d.k), .dat (.int d.a), .dat (.int d.b), .dat (.int d.c)]
def ndC (p : NdA) : Addr × Cell := (p.1, .lst (ndI p.2))
def fmC (p : FmA) : Sto := [(p.1, .lst [.dat (.str (kst p.2.2.fl)), .adr (.ref p.2.1), .dat (.int (p.2.2.ix : Int)), .dat (tupI p.2.2.nm)]), (p.2.1, .lst (p.2.2.vs.map .dat))]
/-- the store of the builder: the row, the nodes, the frames; the frames' cells, the nodes' cells -/
def gSto (pr pn pf : Addr) (row : List Int) (nds : List NdA) (fl fc : List FmA) : Sto :=
  (pr, .lst ((row.map PyData.int).map .dat)) :: (pn, .lst (nds.map fun p => .adr (.ref p.1))) :: (pf, .lst (fl.reverse.map fun p => .adr (.ref p.1))) :: (fc.flatMap fmC ++ nds.map ndC)
section
variable {pr pn pf pa pb : Addr} {row xs : List Int} {nds : List NdA} {fl fc r : List FmA} {F G : FmA} {p : NdA} {x : Int} {i : Nat} {v : PyData}
theorem fc_len : ∀ fc : List FmA, (fc.flatMap fmC).length = 2 * fc.length
  | [] => rfl
  | F :: r => by rw [List.flatMap_cons, List.length_append, fc_len r, List.length_cons]; show 2 + _ = _; omega
theorem g_nd (h : nds[i]? = some p) : (gSto pr pn pf row nds fl fc)[3 + 2 * fc.length + i]? = some (p.1, .lst (ndI p.2)) := by
  unfold gSto
  rw [show 3 + 2 * fc.length + i = (2 * fc.length + i) + 1 + 1 + 1 by omega, List.getElem?_cons_succ, List.getElem?_cons_succ, List.getElem?_cons_succ, List.getElem?_append_right (by rw [fc_len]; omega), fc_len, Nat.add_sub_cancel_left, List.getElem?_map, h]
  rfl
theorem g_app : (gSto pr pn pf row nds fl fc).set 0 (pr, .lst ((row.map PyData.int).map Itm.dat ++ [Itm.dat (.int x)])) = gSto pr pn pf (row ++ [x]) nds fl fc := by
  unfold gSto; rw [List.map_append, List.map_append]; rfl
theorem g_ext : (gSto pr pn pf row nds fl fc).set 0 (pr, .lst ((row.map PyData.int).map Itm.dat ++ (xs.map PyData.int).map Itm.dat)) = gSto pr pn pf (row ++ xs) nds fl fc := by
  unfold gSto; rw [List.map_append, List.map_append]; rfl
theorem g_last : ((F :: r).reverse.map fun p => Itm.adr (.ref p.1))[((F :: r).reverse.map fun p => Itm.adr (.ref p.1)).length - 1]? = some (.adr (.ref F.1)) := by
  rw [List.reverse_cons, List.map_append, List.length_append, List.map_cons, List.map_nil, List.length_singleton, Nat.add_sub_cancel, List.getElem?_append_right (Nat.le_refl _), Nat.sub_self]; rfl
theorem g_lastI : atI ((F :: r).reverse.map fun p => Itm.adr (.ref p.1)) (-1) = some (.adr (.ref F.1)) := by
  have h := g_last (F := F) (r := r)
  have hl : 0 < ((F :: r).reverse.map fun p => Itm.adr (.ref p.1)).length := by rw [List.length_map, List.length_reverse]; exact Nat.zero_lt_succ _
  unfold atI ixN
  rw [if_neg (by decide), if_pos (by omega)]
  show (_)[((-1 : Int) + (_ : Int)).toNat]? = _
  rw [show ((-1 : Int) + (((F :: r).reverse.map fun p => Itm.adr (.ref p.1)).length : Int)).toNat = ((F :: r).reverse.map fun p => Itm.adr (.ref p.1)).length - 1 by omega]
  exact h
theorem g_pop : (gSto pr pn pf row nds (F :: r) fc).set 2 (pf, .lst ((F :: r).reverse.map fun p => Itm.adr (.ref p.1)).dropLast) = gSto pr pn pf row nds r fc := by
  unfold gSto
  rw [List.reverse_cons, List.map_append, List.map_cons, List.map_nil, List.dropLast_concat]; rfl
theorem set_app {α : Type} : ∀ {l m : List α} {i : Nat} {a : α}, (l ++ m).set (l.length + i) a = l ++ m.set i a
  | [], _, i, _ => by rw [List.nil_append, List.length_nil, Nat.zero_add, List.nil_append]
  | x :: l, m, i, a => by rw [List.cons_append, List.length_cons, show l.length + 1 + i = (l.length + i) + 1 by omega, List.set_cons_succ, set_app, List.cons_append]
theorem map_set' {α β : Type} (f : α → β) : ∀ (l : List α) (i : Nat) (a : α), (l.set i a).map f = (l.map f).set i (f a)
  | [], _, _ => rfl
  | x :: l, 0, a => rfl
  | x :: l, i + 1, a => by rw [List.set_cons_succ, List.map_cons, map_set' f l i a]; rfl
theorem set_self {α : Type} : ∀ {l : List α} {i : Nat} {a : α}, l[i]? = some a → l.set i a = l
  | x :: l, 0, a, h => by cases h; rfl
  | x :: l, i + 1, a, h => by rw [List.set_cons_succ, set_self (l := l) h]
theorem g_setN {d : Nd} (h : nds[i]? = some p) : (gSto pr pn pf row nds fl fc).set (3 + 2 * fc.length + i) (p.1, .lst (ndI d)) = gSto pr pn pf row (nds.set i (p.1, d)) fl fc := by
  unfold gSto
  rw [show 3 + 2 * fc.length + i = (2 * fc.length + i) + 1 + 1 + 1 by omega, List.set_cons_succ, List.set_cons_succ, List.set_cons_succ, ← fc_len fc, set_app, map_set' ndC, map_set' (fun p : NdA => Itm.adr (.ref p.1))]
  rw [set_self (l := nds.map fun p : NdA => Itm.adr (.ref p.1)) (by rw [List.getElem?_map, h]; rfl)]
  rfl
theorem g_val : (gSto pr pn pf row nds fl (F :: G :: r)).set 6 (G.2.1, .lst (G.2.2.vs.map Itm.dat ++ [Itm.dat v])) = gSto pr pn pf row nds fl (F :: (G.1, G.2.1, ⟨G.2.2.fl, G.2.2.vs ++ [v], G.2.2.ix, G.2.2.nm⟩) :: r) := by
  unfold gSto
  simp only [List.flatMap_cons, fmC, List.cons_append, List.nil_append, List.set_cons_succ, List.set_cons_zero, List.map_append, List.map_cons, List.map_nil]
theorem g_val0 : (gSto pr pn pf row nds fl (G :: r)).set 4 (G.2.1, .lst (G.2.2.vs.map Itm.dat ++ [Itm.dat v])) = gSto pr pn pf row nds fl ((G.1, G.2.1, ⟨G.2.2.fl, G.2.2.vs ++ [v], G.2.2.ix, G.2.2.nm⟩) :: r) := by
  unfold gSto
  simp only [List.flatMap_cons, fmC, List.cons_append, List.nil_append, List.set_cons_succ, List.set_cons_zero, List.map_append, List.map_cons, List.map_nil]
theorem g_less : (gSto pr pn pf row nds fl fc).Sublist (gSto pr pn pf row nds fl (F :: fc)) := by
  unfold gSto
  refine List.Sublist.cons₂ _ (List.Sublist.cons₂ _ (List.Sublist.cons₂ _ ?_))
  rw [List.flatMap_cons, List.append_assoc]
  exact List.sublist_append_right _ _
theorem g_fr {ga gb : Addr} {g : Fm} (g' : Fm) : (gSto pr pn pf row nds ((ga, gb, g') :: r) ((ga, gb, g') :: r)).Sublist (gSto pr pn pf row nds ((ga, gb, g) :: r) (F :: (ga, gb, g') :: r)) := by
  have h := g_less (pr := pr) (pn := pn) (pf := pf) (row := row) (nds := nds) (fl := (ga, gb, g') :: r) (fc := (ga, gb, g') :: r) (F := F)
  unfold gSto at h ⊢
  rw [List.reverse_cons, List.map_append] at h ⊢
  rw [List.reverse_cons, List.map_append]
  exact h
theorem g_node {d : Nd} : ((gSto pr pn pf row nds fl fc).set 1 (pn, .lst (nds.map (fun p => Itm.adr (.ref p.1)) ++ [Itm.adr (.ref pa)])) ++ [(pa, .lst (ndI d))]) = gSto pr pn pf row (nds ++ [(pa, d)]) fl fc := by
  unfold gSto
  rw [List.map_append, List.map_append]
  show _ :: _ :: _ :: (_ ++ _) = _
  rw [List.append_assoc]; rfl
/-- a new frame -/
theorem g_frame {f : Fm} (hv : f.vs = []) : (gSto pr pn pf row nds ((pa, pb, f) :: fc) ((pa, pb, f) :: fc)).Perm ((gSto pr pn pf row nds fc fc).set 2 (pf, .lst (fc.reverse.map (fun p => Itm.adr (.ref p.1)) ++ [Itm.adr (.ref pa)])) ++ [(pb, .lst []), (pa, .lst [.dat (.str (kst f.fl)), .adr (.ref pb), .dat (.int (f.ix : Int)), .dat (tupI f.nm)])]) := by
  unfold gSto
  rw [List.reverse_cons, List.map_append, List.flatMap_cons]
  refine List.Perm.cons _ (List.Perm.cons _ (List.Perm.cons _ ?_))
  show ((pa, _) :: (pb, Cell.lst (f.vs.map Itm.dat)) :: (fc.flatMap fmC ++ nds.map ndC)).Perm ((fc.flatMap fmC ++ nds.map ndC) ++ _)
  rw [hv]
  exact (List.Perm.swap _ _ _).trans (List.perm_append_comm (l₁ := [(pb, Cell.lst []), (pa, _)]))
end
/-- what a node's entry becomes -/
def mdA (g : Nd → Nd) (i : Nat) (nds : List NdA) : List NdA := match nds[i]? with
  | some p => nds.set i (p.1, g p.2)
  | none => nds
def mdN (g : Nd → Nd) (i : Nat) (nds : List Nd) : List Nd := match nds[i]? with
  | some p => nds.set i (g p)
  | none => nds
theorem md_map (g : Nd → Nd) (i : Nat) (nds : List NdA) : (mdA g i nds).map Prod.snd = mdN g i (nds.map Prod.snd) := by
  unfold mdA mdN
  rw [List.getElem?_map]
  cases nds[i]? with
  | none => rfl
  | some p => show (nds.set i _).map _ = _; rw [map_set']; rfl
theorem mdA_len (g : Nd → Nd) (i : Nat) (nds : List NdA) : (mdA g i nds).length = nds.length := by
  unfold mdA
  cases nds[i]? with
  | none => rfl
  | some p => exact List.length_set
theorem mdN_len (g : Nd → Nd) (i : Nat) (nds : List Nd) : (mdN g i nds).length = nds.length := by
  unfold mdN
  cases nds[i]? with
  | none => rfl
  | some p => exact List.length_set
theorem mdA_eq {g : Nd → Nd} {i : Nat} {nds : List NdA} {p : NdA} (h : nds[i]? = some p) : mdA g i nds = nds.set i (p.1, g p.2) := by unfold mdA; rw [h]
theorem atI_nd {nds : List NdA} {i : Nat} {p : NdA} (h : nds[i]? = some p) : atI (nds.map fun p : NdA => Itm.adr (.ref p.1)) (i : Int) = some (.adr (.ref p.1)) := by
  have hi := (List.getElem?_eq_some_iff.mp h).1
  unfold atI ixN
  rw [if_pos (by omega), List.length_map, if_pos (by omega), Option.bind_some]
  show (_)[((i : Nat) : Int).toNat]? = _
  rw [Int.toNat_natCast, List.getElem?_map, h]; rfl
theorem nd_at {nds : List NdA} {i : Nat} (h : i < nds.length) : ∃ p, nds[i]? = some p := ⟨nds[i], List.getElem?_eq_getElem h⟩
def sB (x : Int) (d : Nd) : Nd := ⟨d.k, d.a, x, d.c⟩
def sC (x : Int) (d : Nd) : Nd := ⟨d.k, d.a, d.b, x⟩
section
variable {pr pn pf : Addr} {row : List Int} {nds : List NdA} {fl fc : List FmA} {p : NdA} {i : Nat} {x : Int}
theorem g_setB (h : nds[i]? = some p) : (gSto pr pn pf row nds fl fc).set (3 + 2 * fc.length + i) (p.1, .lst ((ndI p.2).set 2 (.dat (.int x)))) = gSto pr pn pf row (mdA (sB x) i nds) fl fc := by
  rw [show (ndI p.2).set 2 (.dat (.int x)) = ndI (sB x p.2) from rfl, g_setN h, mdA_eq h]
theorem g_setC (h : nds[i]? = some p) : (gSto pr pn pf row nds fl fc).set (3 + 2 * fc.length + i) (p.1, .lst ((ndI p.2).set 3 (.dat (.int x)))) = gSto pr pn pf row (mdA (sC x) i nds) fl fc := by
  rw [show (ndI p.2).set 3 (.dat (.int x)) = ndI (sC x p.2) from rfl, g_setN h, mdA_eq h]
end
structure BS where
  row : List Int
  nds : List Nd
  fr : List Fm
  v : PyData
def clV (f : Fm) : PyData := .tuple [.str (kst f.fl), .tuple f.vs]
def clW (g : Bool) (nm : List Int) (v : PyData) : PyData := if g = true then .tuple [tupI nm, v] else v
def clR (row : List Int) (f : Fm) : List Int := row ++ [if f.fl = true then 125 else 93]
def vsA (v : PyData) (f : Fm) : Fm := ⟨f.fl, f.vs ++ [v], f.ix, f.nm⟩
def clFA (f : Fm) : List FmA → List FmA
  | [] => []
  | G :: r => (G.1, G.2.1, vsA (clW G.2.2.fl f.nm (clV f)) G.2.2) :: r
def clF (f : Fm) : List Fm → List Fm
  | [] => []
  | g :: r => vsA (clW g.fl f.nm (clV f)) g :: r
def clNA (L : Int) (f : Fm) (fr : List FmA) (nds : List NdA) : List NdA :=
  let n2 := mdA (sC nds.length) f.ix (mdA (sB L) f.ix nds)
  match fr with
  | [] => n2
  | G :: _ => if G.2.2.fl = true then mdA (sC nds.length) (f.ix - 1) n2 else n2
def clN (L : Int) (f : Fm) (fr : List Fm) (nds : List Nd) : List Nd :=
  let n2 := mdN (sC nds.length) f.ix (mdN (sB L) f.ix nds)
  match fr with
  | [] => n2
  | g :: _ => if g.fl = true then mdN (sC nds.length) (f.ix - 1) n2 else n2
def frP (fr : List FmA) : List Fm := fr.map fun F => F.2.2
theorem clF_map (f : Fm) (fr : List FmA) : frP (clFA f fr) = clF f (frP fr) := by cases fr <;> rfl
theorem clN_map (L : Int) (f : Fm) (fr : List FmA) (nds : List NdA) : (clNA L f fr nds).map Prod.snd = clN L f (frP fr) (nds.map Prod.snd) := by
  unfold clNA clN
  cases fr with
  | nil => show (mdA _ _ _).map _ = _; rw [md_map, md_map, List.length_map]; rfl
  | cons G r =>
    show (if G.2.2.fl = true then _ else _ : List NdA).map _ = if G.2.2.fl = true then _ else _
    by_cases h : G.2.2.fl = true
    · rw [if_pos h, if_pos h, md_map, md_map, md_map, List.length_map]
    · rw [if_neg h, if_neg h, md_map, md_map, List.length_map]
theorem clNA_len (L : Int) (f : Fm) (fr : List FmA) (nds : List NdA) : (clNA L f fr nds).length = nds.length := by
  unfold clNA
  cases fr with
  | nil => show (mdA _ _ _).length = _; rw [mdA_len, mdA_len]
  | cons G r => show (if G.2.2.fl = true then _ else _ : List NdA).length = _; split; rw [mdA_len, mdA_len, mdA_len]; rw [mdA_len, mdA_len]
def bClose (s : BS) : BS := match s.fr with
  | [] => s
  | f :: fr => ⟨clR s.row f, clN (clR s.row f).length f fr s.nds, clF f fr, clV f⟩
def topNe (fr : List Fm) : Bool := match fr with
  | [] => false
  | f :: _ => !f.vs.isEmpty
def topFl (fr : List Fm) : Bool := match fr with
  | [] => false
  | f :: _ => f.fl
def bSep (n : Int) (ne : Bool) : List Int := lwhite (n / 3) ++ (if ne = true then 44 :: lwhite (n / 11) else [])
def bCol (n : Int) : List Int := lwhite (n / 19) ++ 58 :: lwhite (n / 23)
def bNm (ns : List Int) (n : Int) (fl : Bool) : List Int := if fl = true then lname ns (n / 13) else []
def bTx (ns : List Int) (n : Int) : List Int := ltext (lname ns (n / 13)) (n / 17)
def bgR (ns : List Int) (n : Int) (fr : List Fm) (row : List Int) : List Int := row ++ bSep n (topNe fr) ++ (if topFl fr = true then bTx ns n ++ bCol n else [])
def bgNd (ns : List Int) (n : Int) (fr : List Fm) (row : List Int) : Nd := ⟨"name", (row ++ bSep n (topNe fr)).length, (row ++ bSep n (topNe fr) ++ bTx ns n).length, 0⟩
def bgN (ns : List Int) (n : Int) (fr : List Fm) (row : List Int) (nds : List Nd) : List Nd := if topFl fr = true then nds ++ [bgNd ns n fr row] else nds
theorem bSep_len (n : Int) (k : Bool) : (bSep n k).length ≤ 7 := by
  unfold bSep
  rw [List.length_append]
  have h1 := lwhite_len (n / 3)
  have h2 := lwhite_len (n / 11)
  cases k
  · show _ + 0 ≤ _; omega
  · show _ + (_ + 1) ≤ _; omega
theorem bTx_len (ns : List Int) (n : Int) : (bTx ns n).length ≤ 200 := by
  unfold bTx
  have h1 := ltext_len (lname ns (n / 13)) (n / 17)
  have h2 := lname_len ns (n / 13)
  omega

/-! J_nod -/
/-- a node of the program's: kind, beginning, and when ended: end, the next one -/
structure Nn where
  k : Str
  a : Int
  r : Option (Int × Int)
structure NS where
  fd : List Nn
  wt : List Nat
def finN (e : Int) (s : NS) : Option NS := match s.wt with
  | [] => none
  | i :: r => match s.fd[i]? with
    | some ⟨k, a, none⟩ => some ⟨s.fd.set i ⟨k, a, some (e, (s.fd.length : Int))⟩, r⟩
    | _ => none
def txL : List Str := ["text", "escape", "hex", "half", "half u", "low hex", "sign"]
def nuL : List Str := ["minus", "zero", "whole", "point", "part", "power", "power sign", "powers"]
def bgL : List Str := ["value", "first", "member", "name"]
def kindsD : List (Int × PyData) := [(91, .str "row"), (123, .str "fields"), (34, .str "text"), (110, .str "null"), (116, .str "true"), (102, .str "false")]
def kindOf (b : Int) : Str := if b = 91 then "row" else if b = 123 then "fields" else if b = 34 then "text" else if b = 110 then "null" else if b = 116 then "true" else if b = 102 then "false" else "number"
theorem kinds_of (b : Int) : (lookD kindsD b).getD (.str "number") = .str (kindOf b) := by
  unfold lookD kindsD kindOf
  by_cases h1 : b = 91
  · subst h1; rfl
  by_cases h2 : b = 123
  · subst h2; rfl
  by_cases h3 : b = 34
  · subst h3; rfl
  by_cases h4 : b = 110
  · subst h4; rfl
  by_cases h5 : b = 116
  · subst h5; rfl
  by_cases h6 : b = 102
  · subst h6; rfl
  rw [if_neg h1, if_neg h2, if_neg h3, if_neg h4, if_neg h5, if_neg h6]
  simp only [List.find?_cons, List.find?_nil]
  rw [decide_eq_false (fun z => h1 z.symm), decide_eq_false (fun z => h2 z.symm), decide_eq_false (fun z => h3 z.symm), decide_eq_false (fun z => h4 z.symm), decide_eq_false (fun z => h5 z.symm), decide_eq_false (fun z => h6 z.symm)]
  rfl
def cloN (was : Str) (b : Int) : Bool := (!decide (was ∈ (["text", "escape", "hex", "half", "half u", "low hex", "sign"] : List Str))) && (decide (b = 93) || decide (b = 125))
def note2 (was md : Str) (n b : Int) (s : NS) : Option NS :=
  if (decide (was ∈ (["value", "first", "member", "name"] : List Str)) && ((!cloN was b) && (!f_is_white b))) = true then
    some ⟨s.fd ++ [⟨if (decide (was = "member") || decide (was = "name")) = true then "name" else kindOf b, n, none⟩], s.fd.length :: s.wt⟩
  else if (cloN was b || ((decide (was = "text") && decide (b = 34)) || (decide (was = "word") && (!decide (md = "word"))))) = true then finN (n + 1) s
  else some s
def noteN (was md : Str) (n b : Int) (s : NS) : Option NS :=
  if decide (was ∈ (["minus", "zero", "whole", "point", "part", "power", "power sign", "powers"] : List Str)) = true then
    (if decide (md ∈ (["minus", "zero", "whole", "point", "part", "power", "power sign", "powers"] : List Str)) = true then some s else (finN n s).bind (note2 was md n b))
  else note2 was md n b s
/-- the nodes as told: a name's next one is that of its value -/
def wholeN : List Nn → Option (List Nd)
  | [] => some []
  | ⟨k, a, some (e, x)⟩ :: r => if k = "name" then (match r with
      | ⟨_, _, some (_, y)⟩ :: _ => (wholeN r).map (⟨k, a, e, y⟩ :: ·)
      | _ => none)
    else (wholeN r).map (⟨k, a, e, x⟩ :: ·)
  | ⟨_, _, none⟩ :: _ => none
def endN (n : Int) (s : NS) : Option NS := if s.wt = [] then some s else finN n s
def nGo (w : Wk) (s : NS) : List Int → Int → Option (Sum Int (List Nd))
  | [], n => if (f_over w).2 = true then (endN n s).bind fun s => (wholeN s.fd).map .inr else some (.inl n)
  | b :: r, n => if (f_stepped w b).2 = true then (noteN w.md (f_stepped w b).1.md n b s).bind fun s' => nGo (f_stepped w b).1 s' r (n + 1) else some (.inl n)
def f_nodes (row : List Int) : Option (Sum Int (List Nd)) := nGo w0 ⟨[], []⟩ row 0
/-! in the heap -/
abbrev NnA := Addr × Nn
def nnL (d : Nn) : List PyData := match d.r with
  | none => [.str d.k, .int d.a]
  | some (e, x) => [.str d.k, .int d.a, .int e, .int x]
def nnC (p : NnA) : Addr × Cell := (p.1, .lst ((nnL p.2).map .dat))
def fSto (pf pt : Addr) (nds : List NnA) (wt : List Nat) : Sto := (pf, .lst (nds.map fun p => .adr (.ref p.1))) :: (pt, .lst ((wt.reverse.map fun i : Nat => PyData.int (i : Int)).map .dat)) :: nds.map nnC
section
variable {pf pt pa : Addr} {nds : List NnA} {wt : List Nat} {p : NnA} {i : Nat}
theorem f_nd (h : nds[i]? = some p) : (fSto pf pt nds wt)[2 + i]? = some (p.1, .lst ((nnL p.2).map .dat)) := by
  unfold fSto
  rw [show 2 + i = i + 1 + 1 by omega, List.getElem?_cons_succ, List.getElem?_cons_succ, List.getElem?_map, h]; rfl
theorem f_last : ((((i :: wt).reverse.map fun i : Nat => PyData.int (i : Int)).map Itm.dat))[((((i :: wt).reverse.map fun i : Nat => PyData.int (i : Int)).map Itm.dat)).length - 1]? = some (.dat (.int (i : Int))) := by
  rw [List.reverse_cons, List.map_append, List.map_append, List.length_append, List.map_cons, List.map_nil, List.map_cons, List.map_nil, List.length_singleton, Nat.add_sub_cancel, List.getElem?_append_right (Nat.le_refl _), Nat.sub_self]; rfl
theorem f_pop : (((i :: wt).reverse.map fun i : Nat => PyData.int (i : Int)).map Itm.dat).dropLast = (wt.reverse.map fun i : Nat => PyData.int (i : Int)).map Itm.dat := by
  rw [List.reverse_cons, List.map_append, List.map_append, List.map_cons, List.map_nil, List.map_cons, List.map_nil, List.dropLast_concat]
theorem f_atI (h : nds[i]? = some p) : atI (nds.map fun p : NnA => Itm.adr (.ref p.1)) (i : Int) = some (.adr (.ref p.1)) := by
  have hi := (List.getElem?_eq_some_iff.mp h).1
  unfold atI ixN
  rw [if_pos (by omega), List.length_map, if_pos (by omega), Option.bind_some]
  show (_)[((i : Nat) : Int).toNat]? = _
  rw [Int.toNat_natCast, List.getElem?_map, h]; rfl
theorem f_set {d : Nn} (h : nds[i]? = some p) : (fSto pf pt nds wt).set (2 + i) (p.1, .lst ((nnL d).map .dat)) = fSto pf pt (nds.set i (p.1, d)) wt := by
  unfold fSto
  rw [show 2 + i = i + 1 + 1 by omega, List.set_cons_succ, List.set_cons_succ, map_set' nnC, map_set' (fun p : NnA => Itm.adr (.ref p.1))]
  rw [set_self (l := nds.map fun p : NnA => Itm.adr (.ref p.1)) (by rw [List.getElem?_map, h]; rfl)]
  rfl
theorem f_add {d : Nn} : ((fSto pf pt nds wt).set 0 (pf, .lst (nds.map (fun p => Itm.adr (.ref p.1)) ++ [Itm.adr (.ref pa)])) ++ [(pa, .lst ((nnL d).map .dat))]) = fSto pf pt (nds ++ [(pa, d)]) wt := by
  unfold fSto
  rw [List.map_append, List.map_append]; rfl
theorem f_push : (fSto pf pt nds wt).set 1 (pt, .lst ((wt.reverse.map fun i : Nat => PyData.int (i : Int)).map Itm.dat ++ [Itm.dat (.int (i : Int))])) = fSto pf pt nds (i :: wt) := by
  unfold fSto
  rw [List.reverse_cons, List.map_append, List.map_append]; rfl
end
theorem finN_len {e : Int} {s s' : NS} (h : finN e s = some s') : s'.fd.length = s.fd.length ∧ s.wt ≠ [] ∧ s'.wt.length + 1 = s.wt.length := by
  unfold finN at h
  split at h
  · cases h
  · rename_i i r hw
    split at h
    · cases h; exact ⟨List.length_set, by rw [hw]; exact List.cons_ne_nil _ _, by rw [hw]; rfl⟩
    · cases h
def nnD (d : Nn) : PyData := .list (nnL d)
theorem noteN_len {was md : Str} {n b : Int} {s s' : NS} (h : noteN was md n b s = some s') : s'.fd.length ≤ s.fd.length + 1 ∧ s'.wt.length ≤ s.wt.length + 1 := by
  have h2 : ∀ {s s' : NS}, note2 was md n b s = some s' → s'.fd.length ≤ s.fd.length + 1 ∧ s'.wt.length ≤ s.wt.length + 1 := fun {s s'} h => by
    unfold note2 at h
    split at h
    · cases h; exact ⟨by rw [List.length_append]; exact Nat.le_refl _, Nat.le_refl _⟩
    · split at h
      · have := finN_len h; omega
      · cases h; omega
  unfold noteN at h
  split at h
  · split at h
    · cases h; omega
    · obtain ⟨s1, h1, h3⟩ := Option.bind_eq_some_iff.mp h
      have := finN_len h1
      have := h2 h3
      omega
  · exact h2 h
theorem wholeN_at : ∀ {fd : List Nn} {nds : List Nd}, wholeN fd = some nds → fd.length = nds.length ∧ ∀ j : Nat, j < fd.length → ∃ k a e x y, fd[j]? = some ⟨k, a, some (e, x)⟩ ∧ nds[j]? = some ⟨k, a, e, y⟩ ∧ (k = "name" → ∃ k2 a2 e2, fd[j + 1]? = some ⟨k2, a2, some (e2, y)⟩) ∧ (k ≠ "name" → y = x)
  | [], nds, h => by cases h; exact ⟨rfl, fun j hj => absurd hj (Nat.not_lt_zero _)⟩
  | ⟨k, a, none⟩ :: r, nds, h => by cases h
  | ⟨k, a, some (e, x)⟩ :: r, nds, h => by
    unfold wholeN at h
    by_cases hk : k = "name"
    · rw [if_pos hk] at h
      cases r with
      | nil => cases h
      | cons z r =>
        obtain ⟨k2, a2, r2⟩ := z
        cases r2 with
        | none => cases h
        | some q =>
          obtain ⟨e2, y⟩ := q
          obtain ⟨nds', h1, rfl⟩ := Option.map_eq_some_iff.mp h
          obtain ⟨hl, ih⟩ := wholeN_at h1
          refine ⟨congrArg (· + 1) hl, fun j hj => ?_⟩
          cases j with
          | zero => exact ⟨k, a, e, x, y, rfl, rfl, fun _ => ⟨k2, a2, e2, rfl⟩, fun z => absurd hk z⟩
          | succ j => exact ih j (by rw [List.length_cons] at hj; omega)
    · rw [if_neg hk] at h
      obtain ⟨nds', h1, rfl⟩ := Option.map_eq_some_iff.mp h
      obtain ⟨hl, ih⟩ := wholeN_at h1
      refine ⟨congrArg (· + 1) hl, fun j hj => ?_⟩
      cases j with
      | zero => exact ⟨k, a, e, x, x, rfl, rfl, fun z => absurd z hk, fun _ => rfl⟩
      | succ j => exact ih j (by rw [List.length_cons] at hj; omega)
theorem atI_get {α : Type} {l : List α} {k : Nat} {d : α} (h : l[k]? = some d) : atI l (k : Int) = some d := by
  have hi := (List.getElem?_eq_some_iff.mp h).1
  unfold atI ixN
  rw [if_pos (by omega), if_pos (by omega), Option.bind_some]
  show l[((k : Nat) : Int).toNat]? = _
  rw [Int.toNat_natCast, h]
theorem fnd_th {μ : Sto} : ∀ {nds : List NnA}, (∀ p ∈ nds, nnC p ∈ μ) → ThAll μ (nds.map fun p : NnA => Itm.adr (.ref p.1)) (nds.map fun p => nnD p.2)
  | [], _ => .nil
  | p :: r, h => .cons (Th.flat (ds := nnL p.2) (h p List.mem_cons_self)) (fnd_th fun q hq => h q (List.mem_cons_of_mem _ hq))
theorem f_th {c0 c1 : Addr × Cell} {pf pt : Addr} {nds : List NnA} {wt : List Nat} : Th (c0 :: c1 :: fSto pf pt nds wt) (.adr (.ref pf)) (.list (nds.map fun p => nnD p.2)) :=
  .lst (List.mem_cons_of_mem _ (List.mem_cons_of_mem _ List.mem_cons_self)) (fnd_th fun p hp => List.mem_cons_of_mem _ (List.mem_cons_of_mem _ (List.mem_cons_of_mem _ (List.mem_cons_of_mem _ (List.mem_map.mpr ⟨p, hp, rfl⟩)))))

/-! J_wk -/
section
variable {br : List Bool} {nm : Bool} {lf lo hi nu : Int} {wd : List Int} {b n : Int} {md : Str} {s : NS}
theorem st_value : f_stepped ⟨br, "value", nm, lf, lo, hi, nu, wd⟩ b = if f_is_white b = true then (⟨br, "value", nm, lf, lo, hi, nu, wd⟩, true) else f_begun ⟨br, "value", nm, lf, lo, hi, nu, wd⟩ b := by
  simp only [f_stepped, f_between, f_in_text, f_in_number, md_value, decide_true, ↓reduceIte, Bool.false_eq_true, Bool.true_and, Bool.false_and, Bool.and_true, Bool.and_false, Bool.true_or, Bool.false_or, Bool.or_false, Bool.or_true, Bool.not_true, Bool.not_false]
theorem st_first : f_stepped ⟨br, "first", nm, lf, lo, hi, nu, wd⟩ b = if f_is_white b = true then (⟨br, "first", nm, lf, lo, hi, nu, wd⟩, true) else if (!decide (b = 93)) = true then f_begun ⟨br, "first", nm, lf, lo, hi, nu, wd⟩ b else f_closed ⟨br, "first", nm, lf, lo, hi, nu, wd⟩ := by
  simp only [f_stepped, f_between, f_in_text, f_in_number, md_first, decide_true, ↓reduceIte, Bool.false_eq_true, Bool.true_and, Bool.false_and, Bool.and_true, Bool.and_false, Bool.true_or, Bool.false_or, Bool.or_false, Bool.or_true, Bool.not_true, Bool.not_false]
theorem st_member : f_stepped ⟨br, "member", nm, lf, lo, hi, nu, wd⟩ b = if f_is_white b = true then (⟨br, "member", nm, lf, lo, hi, nu, wd⟩, true) else if decide (b = 125) = true then f_closed ⟨br, "member", nm, lf, lo, hi, nu, wd⟩ else if (!decide (b = 34)) = true then (⟨br, "member", nm, lf, lo, hi, nu, wd⟩, false) else (⟨br, "text", true, lf, lo, hi, nu, wd⟩, true) := by
  simp only [f_stepped, f_between, f_in_text, f_in_number, md_member, decide_true, ↓reduceIte, Bool.false_eq_true, Bool.true_and, Bool.false_and, Bool.and_true, Bool.and_false, Bool.true_or, Bool.false_or, Bool.or_false, Bool.or_true, Bool.not_true, Bool.not_false]
theorem st_name : f_stepped ⟨br, "name", nm, lf, lo, hi, nu, wd⟩ b = if f_is_white b = true then (⟨br, "name", nm, lf, lo, hi, nu, wd⟩, true) else if (!decide (b = 34)) = true then (⟨br, "name", nm, lf, lo, hi, nu, wd⟩, false) else (⟨br, "text", true, lf, lo, hi, nu, wd⟩, true) := by
  simp only [f_stepped, f_between, f_in_text, f_in_number, md_name, decide_true, ↓reduceIte, Bool.false_eq_true, Bool.true_and, Bool.false_and, Bool.and_true, Bool.and_false, Bool.true_or, Bool.false_or, Bool.or_false, Bool.or_true, Bool.not_true, Bool.not_false]
theorem st_colon : f_stepped ⟨br, "colon", nm, lf, lo, hi, nu, wd⟩ b = if f_is_white b = true then (⟨br, "colon", nm, lf, lo, hi, nu, wd⟩, true) else if (!decide (b = 58)) = true then (⟨br, "colon", nm, lf, lo, hi, nu, wd⟩, false) else (⟨br, "value", nm, lf, lo, hi, nu, wd⟩, true) := by
  simp only [f_stepped, f_between, f_in_text, f_in_number, md_colon, decide_true, ↓reduceIte, Bool.false_eq_true, Bool.true_and, Bool.false_and, Bool.and_true, Bool.and_false, Bool.true_or, Bool.false_or, Bool.or_false, Bool.or_true, Bool.not_true, Bool.not_false]
theorem st_behind : f_stepped ⟨br, "behind", nm, lf, lo, hi, nu, wd⟩ b = if f_is_white b = true then (⟨br, "behind", nm, lf, lo, hi, nu, wd⟩, true) else f_behind ⟨br, "behind", nm, lf, lo, hi, nu, wd⟩ b := by
  simp only [f_stepped, f_between, f_in_text, f_in_number, md_behind, decide_true, ↓reduceIte, Bool.false_eq_true, Bool.true_and, Bool.false_and, Bool.and_true, Bool.and_false, Bool.true_or, Bool.false_or, Bool.or_false, Bool.or_true, Bool.not_true, Bool.not_false]
theorem st_done : f_stepped ⟨br, "done", nm, lf, lo, hi, nu, wd⟩ b = if f_is_white b = true then (⟨br, "done", nm, lf, lo, hi, nu, wd⟩, true) else (⟨br, "done", nm, lf, lo, hi, nu, wd⟩, false) := by
  simp only [f_stepped, f_between, f_in_text, f_in_number, md_done, decide_true, ↓reduceIte, Bool.false_eq_true, Bool.true_and, Bool.false_and, Bool.and_true, Bool.and_false, Bool.true_or, Bool.false_or, Bool.or_false, Bool.or_true, Bool.not_true, Bool.not_false]
theorem st_text : f_stepped ⟨br, "text", nm, lf, lo, hi, nu, wd⟩ b = f_in_plain ⟨br, "text", nm, lf, lo, hi, nu, wd⟩ b := by
  simp only [f_stepped, f_between, f_in_text, f_in_number, md_text, decide_true, ↓reduceIte, Bool.false_eq_true, Bool.true_and, Bool.false_and, Bool.and_true, Bool.and_false, Bool.true_or, Bool.false_or, Bool.or_false, Bool.or_true, Bool.not_true, Bool.not_false]
theorem st_sign : f_stepped ⟨br, "sign", nm, lf, lo, hi, nu, wd⟩ b = f_in_sign ⟨br, "sign", nm, lf, lo, hi, nu, wd⟩ b := by
  simp only [f_stepped, f_between, f_in_text, f_in_number, md_sign, decide_true, ↓reduceIte, Bool.false_eq_true, Bool.true_and, Bool.false_and, Bool.and_true, Bool.and_false, Bool.true_or, Bool.false_or, Bool.or_false, Bool.or_true, Bool.not_true, Bool.not_false]
theorem st_escape : f_stepped ⟨br, "escape", nm, lf, lo, hi, nu, wd⟩ b = if decide (b = 117) = true then f_hex_begun ⟨br, "escape", nm, lf, lo, hi, nu, wd⟩ "hex" else if (!decide (b ∈ ([34, 92, 47, 98, 102, 110, 114, 116] : List Int))) = true then (⟨br, "escape", nm, lf, lo, hi, nu, wd⟩, false) else (⟨br, "text", nm, lf, lo, hi, nu, wd⟩, true) := by
  simp only [f_stepped, f_between, f_in_text, f_in_number, md_escape, decide_true, ↓reduceIte, Bool.false_eq_true, Bool.true_and, Bool.false_and, Bool.and_true, Bool.and_false, Bool.true_or, Bool.false_or, Bool.or_false, Bool.or_true, Bool.not_true, Bool.not_false]
theorem st_half : f_stepped ⟨br, "half", nm, lf, lo, hi, nu, wd⟩ b = if (!decide (b = 92)) = true then (⟨br, "half", nm, lf, lo, hi, nu, wd⟩, false) else (⟨br, "half u", nm, lf, lo, hi, nu, wd⟩, true) := by
  simp only [f_stepped, f_between, f_in_text, f_in_number, md_half, decide_true, ↓reduceIte, Bool.false_eq_true, Bool.true_and, Bool.false_and, Bool.and_true, Bool.and_false, Bool.true_or, Bool.false_or, Bool.or_false, Bool.or_true, Bool.not_true, Bool.not_false]
theorem st_half_u : f_stepped ⟨br, "half u", nm, lf, lo, hi, nu, wd⟩ b = if decide (b = 117) = true then f_hex_begun ⟨br, "half u", nm, lf, lo, hi, nu, wd⟩ "low hex" else (⟨br, "half u", nm, lf, lo, hi, nu, wd⟩, false) := by
  simp only [f_stepped, f_between, f_in_text, f_in_number, md_half_u, decide_true, ↓reduceIte, Bool.false_eq_true, Bool.true_and, Bool.false_and, Bool.and_true, Bool.and_false, Bool.true_or, Bool.false_or, Bool.or_false, Bool.or_true, Bool.not_true, Bool.not_false]
theorem st_hex : f_stepped ⟨br, "hex", nm, lf, lo, hi, nu, wd⟩ b = f_in_hex ⟨br, "hex", nm, lf, lo, hi, nu, wd⟩ b := by
  simp only [f_stepped, f_between, f_in_text, f_in_number, md_hex, decide_true, ↓reduceIte, Bool.false_eq_true, Bool.true_and, Bool.false_and, Bool.and_true, Bool.and_false, Bool.true_or, Bool.false_or, Bool.or_false, Bool.or_true, Bool.not_true, Bool.not_false]
theorem st_low_hex : f_stepped ⟨br, "low hex", nm, lf, lo, hi, nu, wd⟩ b = f_in_hex ⟨br, "low hex", nm, lf, lo, hi, nu, wd⟩ b := by
  simp only [f_stepped, f_between, f_in_text, f_in_number, md_low_hex, decide_true, ↓reduceIte, Bool.false_eq_true, Bool.true_and, Bool.false_and, Bool.and_true, Bool.and_false, Bool.true_or, Bool.false_or, Bool.or_false, Bool.or_true, Bool.not_true, Bool.not_false]
theorem st_word : f_stepped ⟨br, "word", nm, lf, lo, hi, nu, wd⟩ b = f_in_word ⟨br, "word", nm, lf, lo, hi, nu, wd⟩ b := by
  simp only [f_stepped, f_between, f_in_text, f_in_number, md_word, decide_true, ↓reduceIte, Bool.false_eq_true, Bool.true_and, Bool.false_and, Bool.and_true, Bool.and_false, Bool.true_or, Bool.false_or, Bool.or_false, Bool.or_true, Bool.not_true, Bool.not_false]
theorem st_minus : f_stepped ⟨br, "minus", nm, lf, lo, hi, nu, wd⟩ b = if f_is_figure b = true then (⟨br, if decide (b = 48) = true then "zero" else "whole", nm, lf, lo, hi, nu, wd⟩, true) else (⟨br, "minus", nm, lf, lo, hi, nu, wd⟩, false) := by
  simp only [f_stepped, f_between, f_in_text, f_in_number, md_minus, decide_true, ↓reduceIte, Bool.false_eq_true, Bool.true_and, Bool.false_and, Bool.and_true, Bool.and_false, Bool.true_or, Bool.false_or, Bool.or_false, Bool.or_true, Bool.not_true, Bool.not_false]
theorem st_point : f_stepped ⟨br, "point", nm, lf, lo, hi, nu, wd⟩ b = if f_is_figure b = true then (⟨br, "part", nm, lf, lo, hi, nu, wd⟩, true) else (⟨br, "point", nm, lf, lo, hi, nu, wd⟩, false) := by
  simp only [f_stepped, f_between, f_in_text, f_in_number, md_point, decide_true, ↓reduceIte, Bool.false_eq_true, Bool.true_and, Bool.false_and, Bool.and_true, Bool.and_false, Bool.true_or, Bool.false_or, Bool.or_false, Bool.or_true, Bool.not_true, Bool.not_false]
theorem st_power : f_stepped ⟨br, "power", nm, lf, lo, hi, nu, wd⟩ b = if f_is_figure b = true then (⟨br, "powers", nm, lf, lo, hi, nu, wd⟩, true) else if (decide (b = 43) || decide (b = 45)) = true then (⟨br, "power sign", nm, lf, lo, hi, nu, wd⟩, true) else (⟨br, "power", nm, lf, lo, hi, nu, wd⟩, false) := by
  simp only [f_stepped, f_between, f_in_text, f_in_number, md_power, decide_true, ↓reduceIte, Bool.false_eq_true, Bool.true_and, Bool.false_and, Bool.and_true, Bool.and_false, Bool.true_or, Bool.false_or, Bool.or_false, Bool.or_true, Bool.not_true, Bool.not_false]
theorem st_power_sign : f_stepped ⟨br, "power sign", nm, lf, lo, hi, nu, wd⟩ b = if f_is_figure b = true then (⟨br, "powers", nm, lf, lo, hi, nu, wd⟩, true) else (⟨br, "power sign", nm, lf, lo, hi, nu, wd⟩, false) := by
  simp only [f_stepped, f_between, f_in_text, f_in_number, md_power_sign, decide_true, ↓reduceIte, Bool.false_eq_true, Bool.true_and, Bool.false_and, Bool.and_true, Bool.and_false, Bool.true_or, Bool.false_or, Bool.or_false, Bool.or_true, Bool.not_true, Bool.not_false]
theorem st_zero : f_stepped ⟨br, "zero", nm, lf, lo, hi, nu, wd⟩ b = if decide (b = 46) = true then (⟨br, "point", nm, lf, lo, hi, nu, wd⟩, true) else if decide (b ∈ ([101, 69] : List Int)) = true then (⟨br, "power", nm, lf, lo, hi, nu, wd⟩, true) else f_number_over ⟨br, "zero", nm, lf, lo, hi, nu, wd⟩ b := by
  simp only [f_stepped, f_between, f_in_text, f_in_number, md_zero, decide_true, ↓reduceIte, Bool.false_eq_true, Bool.true_and, Bool.false_and, Bool.and_true, Bool.and_false, Bool.true_or, Bool.false_or, Bool.or_false, Bool.or_true, Bool.not_true, Bool.not_false]
theorem st_whole : f_stepped ⟨br, "whole", nm, lf, lo, hi, nu, wd⟩ b = if f_is_figure b = true then (⟨br, "whole", nm, lf, lo, hi, nu, wd⟩, true) else if decide (b = 46) = true then (⟨br, "point", nm, lf, lo, hi, nu, wd⟩, true) else if decide (b ∈ ([101, 69] : List Int)) = true then (⟨br, "power", nm, lf, lo, hi, nu, wd⟩, true) else f_number_over ⟨br, "whole", nm, lf, lo, hi, nu, wd⟩ b := by
  simp only [f_stepped, f_between, f_in_text, f_in_number, md_whole, decide_true, ↓reduceIte, Bool.false_eq_true, Bool.true_and, Bool.false_and, Bool.and_true, Bool.and_false, Bool.true_or, Bool.false_or, Bool.or_false, Bool.or_true, Bool.not_true, Bool.not_false]
theorem st_part : f_stepped ⟨br, "part", nm, lf, lo, hi, nu, wd⟩ b = if f_is_figure b = true then (⟨br, "part", nm, lf, lo, hi, nu, wd⟩, true) else if decide (b ∈ ([101, 69] : List Int)) = true then (⟨br, "power", nm, lf, lo, hi, nu, wd⟩, true) else f_number_over ⟨br, "part", nm, lf, lo, hi, nu, wd⟩ b := by
  simp only [f_stepped, f_between, f_in_text, f_in_number, md_part, decide_true, ↓reduceIte, Bool.false_eq_true, Bool.true_and, Bool.false_and, Bool.and_true, Bool.and_false, Bool.true_or, Bool.false_or, Bool.or_false, Bool.or_true, Bool.not_true, Bool.not_false]
theorem st_powers : f_stepped ⟨br, "powers", nm, lf, lo, hi, nu, wd⟩ b = if f_is_figure b = true then (⟨br, "powers", nm, lf, lo, hi, nu, wd⟩, true) else f_number_over ⟨br, "powers", nm, lf, lo, hi, nu, wd⟩ b := by
  simp only [f_stepped, f_between, f_in_text, f_in_number, md_powers, decide_true, ↓reduceIte, Bool.false_eq_true, Bool.true_and, Bool.false_and, Bool.and_true, Bool.and_false, Bool.true_or, Bool.false_or, Bool.or_false, Bool.or_true, Bool.not_true, Bool.not_false]
theorem nt_value : noteN "value" md n b s = if (decide (b = 93) || decide (b = 125)) = true then finN (n + 1) s else if f_is_white b = true then some s else some ⟨s.fd ++ [⟨kindOf b, n, none⟩], s.fd.length :: s.wt⟩ := by
  cases h1 : (decide (b = 93) || decide (b = 125)) <;> cases h2 : f_is_white b <;> simp only [noteN, note2, cloN, md_value, h1, h2, decide_true, ↓reduceIte, Bool.false_eq_true, Bool.true_and, Bool.false_and, Bool.and_true, Bool.and_false, Bool.true_or, Bool.false_or, Bool.or_false, Bool.or_true, Bool.not_true, Bool.not_false]
theorem nt_first : noteN "first" md n b s = if (decide (b = 93) || decide (b = 125)) = true then finN (n + 1) s else if f_is_white b = true then some s else some ⟨s.fd ++ [⟨kindOf b, n, none⟩], s.fd.length :: s.wt⟩ := by
  cases h1 : (decide (b = 93) || decide (b = 125)) <;> cases h2 : f_is_white b <;> simp only [noteN, note2, cloN, md_first, h1, h2, decide_true, ↓reduceIte, Bool.false_eq_true, Bool.true_and, Bool.false_and, Bool.and_true, Bool.and_false, Bool.true_or, Bool.false_or, Bool.or_false, Bool.or_true, Bool.not_true, Bool.not_false]
theorem nt_member : noteN "member" md n b s = if (decide (b = 93) || decide (b = 125)) = true then finN (n + 1) s else if f_is_white b = true then some s else some ⟨s.fd ++ [⟨"name", n, none⟩], s.fd.length :: s.wt⟩ := by
  cases h1 : (decide (b = 93) || decide (b = 125)) <;> cases h2 : f_is_white b <;> simp only [noteN, note2, cloN, md_member, h1, h2, decide_true, ↓reduceIte, Bool.false_eq_true, Bool.true_and, Bool.false_and, Bool.and_true, Bool.and_false, Bool.true_or, Bool.false_or, Bool.or_false, Bool.or_true, Bool.not_true, Bool.not_false]
theorem nt_name : noteN "name" md n b s = if (decide (b = 93) || decide (b = 125)) = true then finN (n + 1) s else if f_is_white b = true then some s else some ⟨s.fd ++ [⟨"name", n, none⟩], s.fd.length :: s.wt⟩ := by
  cases h1 : (decide (b = 93) || decide (b = 125)) <;> cases h2 : f_is_white b <;> simp only [noteN, note2, cloN, md_name, h1, h2, decide_true, ↓reduceIte, Bool.false_eq_true, Bool.true_and, Bool.false_and, Bool.and_true, Bool.and_false, Bool.true_or, Bool.false_or, Bool.or_false, Bool.or_true, Bool.not_true, Bool.not_false]
theorem nt_colon : noteN "colon" md n b s = if (decide (b = 93) || decide (b = 125)) = true then finN (n + 1) s else some s := by
  simp only [noteN, note2, cloN, md_colon, decide_true, ↓reduceIte, Bool.false_eq_true, Bool.true_and, Bool.false_and, Bool.and_true, Bool.and_false, Bool.true_or, Bool.false_or, Bool.or_false, Bool.or_true, Bool.not_true, Bool.not_false]
theorem nt_behind : noteN "behind" md n b s = if (decide (b = 93) || decide (b = 125)) = true then finN (n + 1) s else some s := by
  simp only [noteN, note2, cloN, md_behind, decide_true, ↓reduceIte, Bool.false_eq_true, Bool.true_and, Bool.false_and, Bool.and_true, Bool.and_false, Bool.true_or, Bool.false_or, Bool.or_false, Bool.or_true, Bool.not_true, Bool.not_false]
theorem nt_done : noteN "done" md n b s = if (decide (b = 93) || decide (b = 125)) = true then finN (n + 1) s else some s := by
  simp only [noteN, note2, cloN, md_done, decide_true, ↓reduceIte, Bool.false_eq_true, Bool.true_and, Bool.false_and, Bool.and_true, Bool.and_false, Bool.true_or, Bool.false_or, Bool.or_false, Bool.or_true, Bool.not_true, Bool.not_false]
theorem nt_text : noteN "text" md n b s = if decide (b = 34) = true then finN (n + 1) s else some s := by
  simp only [noteN, note2, cloN, md_text, decide_true, ↓reduceIte, Bool.false_eq_true, Bool.true_and, Bool.false_and, Bool.and_true, Bool.and_false, Bool.true_or, Bool.false_or, Bool.or_false, Bool.or_true, Bool.not_true, Bool.not_false]
theorem nt_escape : noteN "escape" md n b s = some s := by
  simp only [noteN, note2, cloN, md_escape, decide_true, ↓reduceIte, Bool.false_eq_true, Bool.true_and, Bool.false_and, Bool.and_true, Bool.and_false, Bool.true_or, Bool.false_or, Bool.or_false, Bool.or_true, Bool.not_true, Bool.not_false]
theorem nt_hex : noteN "hex" md n b s = some s := by
  simp only [noteN, note2, cloN, md_hex, decide_true, ↓reduceIte, Bool.false_eq_true, Bool.true_and, Bool.false_and, Bool.and_true, Bool.and_false, Bool.true_or, Bool.false_or, Bool.or_false, Bool.or_true, Bool.not_true, Bool.not_false]
theorem nt_half : noteN "half" md n b s = some s := by
  simp only [noteN, note2, cloN, md_half, decide_true, ↓reduceIte, Bool.false_eq_true, Bool.true_and, Bool.false_and, Bool.and_true, Bool.and_false, Bool.true_or, Bool.false_or, Bool.or_false, Bool.or_true, Bool.not_true, Bool.not_false]
theorem nt_half_u : noteN "half u" md n b s = some s := by
  simp only [noteN, note2, cloN, md_half_u, decide_true, ↓reduceIte, Bool.false_eq_true, Bool.true_and, Bool.false_and, Bool.and_true, Bool.and_false, Bool.true_or, Bool.false_or, Bool.or_false, Bool.or_true, Bool.not_true, Bool.not_false]
theorem nt_low_hex : noteN "low hex" md n b s = some s := by
  simp only [noteN, note2, cloN, md_low_hex, decide_true, ↓reduceIte, Bool.false_eq_true, Bool.true_and, Bool.false_and, Bool.and_true, Bool.and_false, Bool.true_or, Bool.false_or, Bool.or_false, Bool.or_true, Bool.not_true, Bool.not_false]
theorem nt_sign : noteN "sign" md n b s = some s := by
  simp only [noteN, note2, cloN, md_sign, decide_true, ↓reduceIte, Bool.false_eq_true, Bool.true_and, Bool.false_and, Bool.and_true, Bool.and_false, Bool.true_or, Bool.false_or, Bool.or_false, Bool.or_true, Bool.not_true, Bool.not_false]
theorem nt_word : noteN "word" md n b s = if ((decide (b = 93) || decide (b = 125)) || (!decide (md = "word"))) = true then finN (n + 1) s else some s := by
  simp only [noteN, note2, cloN, md_word, decide_true, ↓reduceIte, Bool.false_eq_true, Bool.true_and, Bool.false_and, Bool.and_true, Bool.and_false, Bool.true_or, Bool.false_or, Bool.or_false, Bool.or_true, Bool.not_true, Bool.not_false]
theorem nt_minus (h : decide (md ∈ (["minus", "zero", "whole", "point", "part", "power", "power sign", "powers"] : List Str)) = true) : noteN "minus" md n b s = some s := by
  simp only [noteN, md_minus, h, ↓reduceIte]
theorem no_minus (h : decide (md ∈ (["minus", "zero", "whole", "point", "part", "power", "power sign", "powers"] : List Str)) = false) : noteN "minus" md n b s = (finN n s).bind fun s => if (decide (b = 93) || decide (b = 125)) = true then finN (n + 1) s else some s := by
  simp only [noteN, md_minus, h, decide_true, ↓reduceIte, Bool.false_eq_true, Bool.true_and, Bool.false_and, Bool.and_true, Bool.and_false, Bool.true_or, Bool.false_or, Bool.or_false, Bool.or_true, Bool.not_true, Bool.not_false]
  cases finN n s with
  | none => rfl
  | some s => simp only [Option.bind_some, note2, cloN, md_minus, decide_true, ↓reduceIte, Bool.false_eq_true, Bool.true_and, Bool.false_and, Bool.and_true, Bool.and_false, Bool.true_or, Bool.false_or, Bool.or_false, Bool.or_true, Bool.not_true, Bool.not_false]
theorem nt_zero (h : decide (md ∈ (["minus", "zero", "whole", "point", "part", "power", "power sign", "powers"] : List Str)) = true) : noteN "zero" md n b s = some s := by
  simp only [noteN, md_zero, h, ↓reduceIte]
theorem no_zero (h : decide (md ∈ (["minus", "zero", "whole", "point", "part", "power", "power sign", "powers"] : List Str)) = false) : noteN "zero" md n b s = (finN n s).bind fun s => if (decide (b = 93) || decide (b = 125)) = true then finN (n + 1) s else some s := by
  simp only [noteN, md_zero, h, decide_true, ↓reduceIte, Bool.false_eq_true, Bool.true_and, Bool.false_and, Bool.and_true, Bool.and_false, Bool.true_or, Bool.false_or, Bool.or_false, Bool.or_true, Bool.not_true, Bool.not_false]
  cases finN n s with
  | none => rfl
  | some s => simp only [Option.bind_some, note2, cloN, md_zero, decide_true, ↓reduceIte, Bool.false_eq_true, Bool.true_and, Bool.false_and, Bool.and_true, Bool.and_false, Bool.true_or, Bool.false_or, Bool.or_false, Bool.or_true, Bool.not_true, Bool.not_false]
theorem nt_whole (h : decide (md ∈ (["minus", "zero", "whole", "point", "part", "power", "power sign", "powers"] : List Str)) = true) : noteN "whole" md n b s = some s := by
  simp only [noteN, md_whole, h, ↓reduceIte]
theorem no_whole (h : decide (md ∈ (["minus", "zero", "whole", "point", "part", "power", "power sign", "powers"] : List Str)) = false) : noteN "whole" md n b s = (finN n s).bind fun s => if (decide (b = 93) || decide (b = 125)) = true then finN (n + 1) s else some s := by
  simp only [noteN, md_whole, h, decide_true, ↓reduceIte, Bool.false_eq_true, Bool.true_and, Bool.false_and, Bool.and_true, Bool.and_false, Bool.true_or, Bool.false_or, Bool.or_false, Bool.or_true, Bool.not_true, Bool.not_false]
  cases finN n s with
  | none => rfl
  | some s => simp only [Option.bind_some, note2, cloN, md_whole, decide_true, ↓reduceIte, Bool.false_eq_true, Bool.true_and, Bool.false_and, Bool.and_true, Bool.and_false, Bool.true_or, Bool.false_or, Bool.or_false, Bool.or_true, Bool.not_true, Bool.not_false]
theorem nt_point (h : decide (md ∈ (["minus", "zero", "whole", "point", "part", "power", "power sign", "powers"] : List Str)) = true) : noteN "point" md n b s = some s := by
  simp only [noteN, md_point, h, ↓reduceIte]
theorem no_point (h : decide (md ∈ (["minus", "zero", "whole", "point", "part", "power", "power sign", "powers"] : List Str)) = false) : noteN "point" md n b s = (finN n s).bind fun s => if (decide (b = 93) || decide (b = 125)) = true then finN (n + 1) s else some s := by
  simp only [noteN, md_point, h, decide_true, ↓reduceIte, Bool.false_eq_true, Bool.true_and, Bool.false_and, Bool.and_true, Bool.and_false, Bool.true_or, Bool.false_or, Bool.or_false, Bool.or_true, Bool.not_true, Bool.not_false]
  cases finN n s with
  | none => rfl
  | some s => simp only [Option.bind_some, note2, cloN, md_point, decide_true, ↓reduceIte, Bool.false_eq_true, Bool.true_and, Bool.false_and, Bool.and_true, Bool.and_false, Bool.true_or, Bool.false_or, Bool.or_false, Bool.or_true, Bool.not_true, Bool.not_false]
theorem nt_part (h : decide (md ∈ (["minus", "zero", "whole", "point", "part", "power", "power sign", "powers"] : List Str)) = true) : noteN "part" md n b s = some s := by
  simp only [noteN, md_part, h, ↓reduceIte]
theorem no_part (h : decide (md ∈ (["minus", "zero", "whole", "point", "part", "power", "power sign", "powers"] : List Str)) = false) : noteN "part" md n b s = (finN n s).bind fun s => if (decide (b = 93) || decide (b = 125)) = true then finN (n + 1) s else some s := by
  simp only [noteN, md_part, h, decide_true, ↓reduceIte, Bool.false_eq_true, Bool.true_and, Bool.false_and, Bool.and_true, Bool.and_false, Bool.true_or, Bool.false_or, Bool.or_false, Bool.or_true, Bool.not_true, Bool.not_false]
  cases finN n s with
  | none => rfl
  | some s => simp only [Option.bind_some, note2, cloN, md_part, decide_true, ↓reduceIte, Bool.false_eq_true, Bool.true_and, Bool.false_and, Bool.and_true, Bool.and_false, Bool.true_or, Bool.false_or, Bool.or_false, Bool.or_true, Bool.not_true, Bool.not_false]
theorem nt_power (h : decide (md ∈ (["minus", "zero", "whole", "point", "part", "power", "power sign", "powers"] : List Str)) = true) : noteN "power" md n b s = some s := by
  simp only [noteN, md_power, h, ↓reduceIte]
theorem no_power (h : decide (md ∈ (["minus", "zero", "whole", "point", "part", "power", "power sign", "powers"] : List Str)) = false) : noteN "power" md n b s = (finN n s).bind fun s => if (decide (b = 93) || decide (b = 125)) = true then finN (n + 1) s else some s := by
  simp only [noteN, md_power, h, decide_true, ↓reduceIte, Bool.false_eq_true, Bool.true_and, Bool.false_and, Bool.and_true, Bool.and_false, Bool.true_or, Bool.false_or, Bool.or_false, Bool.or_true, Bool.not_true, Bool.not_false]
  cases finN n s with
  | none => rfl
  | some s => simp only [Option.bind_some, note2, cloN, md_power, decide_true, ↓reduceIte, Bool.false_eq_true, Bool.true_and, Bool.false_and, Bool.and_true, Bool.and_false, Bool.true_or, Bool.false_or, Bool.or_false, Bool.or_true, Bool.not_true, Bool.not_false]
theorem nt_power_sign (h : decide (md ∈ (["minus", "zero", "whole", "point", "part", "power", "power sign", "powers"] : List Str)) = true) : noteN "power sign" md n b s = some s := by
  simp only [noteN, md_power_sign, h, ↓reduceIte]
theorem no_power_sign (h : decide (md ∈ (["minus", "zero", "whole", "point", "part", "power", "power sign", "powers"] : List Str)) = false) : noteN "power sign" md n b s = (finN n s).bind fun s => if (decide (b = 93) || decide (b = 125)) = true then finN (n + 1) s else some s := by
  simp only [noteN, md_power_sign, h, decide_true, ↓reduceIte, Bool.false_eq_true, Bool.true_and, Bool.false_and, Bool.and_true, Bool.and_false, Bool.true_or, Bool.false_or, Bool.or_false, Bool.or_true, Bool.not_true, Bool.not_false]
  cases finN n s with
  | none => rfl
  | some s => simp only [Option.bind_some, note2, cloN, md_power_sign, decide_true, ↓reduceIte, Bool.false_eq_true, Bool.true_and, Bool.false_and, Bool.and_true, Bool.and_false, Bool.true_or, Bool.false_or, Bool.or_false, Bool.or_true, Bool.not_true, Bool.not_false]
theorem nt_powers (h : decide (md ∈ (["minus", "zero", "whole", "point", "part", "power", "power sign", "powers"] : List Str)) = true) : noteN "powers" md n b s = some s := by
  simp only [noteN, md_powers, h, ↓reduceIte]
theorem no_powers (h : decide (md ∈ (["minus", "zero", "whole", "point", "part", "power", "power sign", "powers"] : List Str)) = false) : noteN "powers" md n b s = (finN n s).bind fun s => if (decide (b = 93) || decide (b = 125)) = true then finN (n + 1) s else some s := by
  simp only [noteN, md_powers, h, decide_true, ↓reduceIte, Bool.false_eq_true, Bool.true_and, Bool.false_and, Bool.and_true, Bool.and_false, Bool.true_or, Bool.false_or, Bool.or_false, Bool.or_true, Bool.not_true, Bool.not_false]
  cases finN n s with
  | none => rfl
  | some s => simp only [Option.bind_some, note2, cloN, md_powers, decide_true, ↓reduceIte, Bool.false_eq_true, Bool.true_and, Bool.false_and, Bool.and_true, Bool.and_false, Bool.true_or, Bool.false_or, Bool.or_false, Bool.or_true, Bool.not_true, Bool.not_false]
end

/-! eight -/
def enc (p : Int) : List Int := if p < 128 then [p] else if p < 2048 then [192 + p / 64, 128 + p % 64] else if p < 65536 then [224 + p / 4096, 128 + p / 64 % 64, 128 + p % 64] else [240 + p / 262144, 128 + p / 4096 % 64, 128 + p / 64 % 64, 128 + p % 64]
theorem enc_len (p : Int) : 1 ≤ (enc p).length ∧ (enc p).length ≤ 4 := by unfold enc; split; simp; split; simp; split <;> simp
def S_eight (C : Addr) : List PyData → Out → Prop := fun ds o => ∃ p, ds = [.int p] ∧ ((isPt p = true ∧ o = .nw ((enc p).map .int)) ∨ (isPt p = false ∧ o = .er (.pl C)))

/-! J_tok -/
/-- the machine of `nodes`, byte by byte; P holds wherever a byte is taken from -/
inductive Run (P : Wk → Prop) : Wk → NS → Int → List Int → Wk → NS → Prop
  | nil {w : Wk} {s : NS} {n : Int} : Run P w s n [] w s
  | cons {w w1 w' : Wk} {s s1 s' : NS} {n b : Int} {r : List Int} (hp : P w) (h1 : f_stepped w b = (w1, true)) (h2 : noteN w.md w1.md n b s = some s1) (h3 : Run P w1 s1 (n + 1) r w' s') : Run P w s n (b :: r) w' s'
theorem Run.app {P : Wk → Prop} {w w1 w2 : Wk} {s s1 s2 : NS} {n m : Int} {r r2 : List Int} (h : Run P w s n r w1 s1) (hm : m = n + r.length) (h2 : Run P w1 s1 m r2 w2 s2) : Run P w s n (r ++ r2) w2 s2 := by
  induction h with
  | nil => rw [show m = _ + 0 from hm] at h2; rw [Int.add_zero] at h2; exact h2
  | cons hp e1 e2 e3 ih => exact .cons hp e1 e2 (ih (by rw [hm, List.length_cons]; omega) h2)
theorem Run.mono {P Q : Wk → Prop} {w w1 : Wk} {s s1 : NS} {n : Int} {r : List Int} (h : Run P w s n r w1 s1) (hq : ∀ w, P w → Q w) : Run Q w s n r w1 s1 := by
  induction h with
  | nil => exact .nil
  | cons hp e1 e2 e3 ih => exact .cons (hq _ hp) e1 e2 ih
theorem Run.one {P : Wk → Prop} {w w1 : Wk} {s s1 : NS} {n b : Int} (hp : P w) (h1 : f_stepped w b = (w1, true)) (h2 : noteN w.md w1.md n b s = some s1) : Run P w s n [b] w1 s1 := .cons hp h1 h2 .nil
theorem Run.go {P : Wk → Prop} {w w1 : Wk} {s s1 : NS} {n : Int} {r : List Int} (h : Run P w s n r w1 s1) (r2 : List Int) : nGo w s (r ++ r2) n = nGo w1 s1 r2 (n + r.length) := by
  induction h with
  | nil => show _ = nGo _ _ _ (_ + 0); rw [Int.add_zero]; rfl
  | @cons w w1 w' s s1 s' n b r hp e1 e2 e3 ih =>
    rw [List.cons_append, nGo, e1, if_pos rfl]
    dsimp only
    rw [e2, Option.bind_some, ih, List.length_cons]
    congr 1
    omega
theorem Run.split {P : Wk → Prop} : ∀ {r1 r2 : List Int} {w w2 : Wk} {s s2 : NS} {n : Int}, Run P w s n (r1 ++ r2) w2 s2 → ∃ w1 s1, Run P w s n r1 w1 s1 ∧ Run P w1 s1 (n + r1.length) r2 w2 s2
  | [], r2, w, w2, s, s2, n, h => ⟨w, s, .nil, by show Run P w s (n + 0) r2 w2 s2; rw [Int.add_zero]; exact h⟩
  | b :: r1, r2, w, w2, s, s2, n, h => by
    cases h with
    | cons hp e1 e2 e3 =>
      obtain ⟨w1, s1, h1, h2⟩ := Run.split e3
      exact ⟨w1, s1, .cons hp e1 e2 h1, by rw [List.length_cons]; have e : n + 1 + (r1.length : Int) = n + ((r1.length + 1 : Nat) : Int) := by omega
                                           rw [e] at h2; exact h2⟩
theorem Run.hd {P : Wk → Prop} {w w2 : Wk} {s s2 : NS} {n : Int} {r : List Int} (h : Run P w s n r w2 s2) (hr : r ≠ []) : P w := by
  cases h with
  | nil => exact absurd rfl hr
  | cons hp _ _ _ => exact hp
/-- P holds at every state of these brackets within a token that is no whole one yet -/
def PT (P : Wk → Prop) (br : List Bool) : Prop := ∀ w : Wk, w.br = br → decide (w.md ∈ (["done", "zero", "whole", "part", "powers"] : List Str)) = false → P w
/-- in a text -/
def Tx (br : List Bool) (nm : Bool) (w : Wk) : Prop := w.br = br ∧ w.md = "text" ∧ w.nm = nm
section
variable {P : Wk → Prop} {br : List Bool} {nm : Bool} {w : Wk} {s : NS} {n : Int}
/-- a byte of a text, as it is -/
theorem run_ascii {b : Int} (hP : PT P br) (h : Tx br nm w) (h1 : 32 ≤ b) (h2 : b < 128) (h3 : b ≠ 34) (h4 : b ≠ 92) : ∃ w', Tx br nm w' ∧ Run P w s n [b] w' s := by
  obtain ⟨b0, md, n0, lf, lo, hi, nu, wd⟩ := w
  obtain ⟨rfl, rfl, rfl⟩ := h
  refine ⟨⟨b0, "text", n0, lf, lo, hi, nu, wd⟩, ⟨rfl, rfl, rfl⟩, .one (hP _ rfl md_text.2.2.1) (w1 := ⟨b0, "text", n0, lf, lo, hi, nu, wd⟩) ?_ ?_⟩
  · rw [st_text]
    unfold f_in_plain f_follows
    rw [if_neg (by rw [decide_eq_false h3]; exact Bool.false_ne_true), if_neg (by rw [decide_eq_false h4]; exact Bool.false_ne_true), if_pos (decide_eq_true h2)]
    dsimp only
    rw [if_neg (by rw [decide_eq_false (by omega)]; exact Bool.false_ne_true), if_neg (by decide)]
  · show noteN "text" _ _ _ _ = _
    rw [nt_text, if_neg (by rw [decide_eq_false h3]; exact Bool.false_ne_true)]
/-- within a character of several -/
def Sn (br : List Bool) (nm : Bool) (lf lo hi : Int) (w : Wk) : Prop := w.br = br ∧ w.md = "sign" ∧ w.nm = nm ∧ w.lf = lf ∧ w.lo = lo ∧ w.hi = hi
theorem run_lead {b : Int} {k lo hi : Int} (hP : PT P br) (h : Tx br nm w) (hf : f_follows b = some (k, lo, hi)) (hk : 0 < k) (h1 : 128 ≤ b) : ∃ w', Sn br nm k lo hi w' ∧ Run P w s n [b] w' s := by
  obtain ⟨b0, md, n0, lf, lo0, hi0, nu, wd⟩ := w
  obtain ⟨rfl, rfl, rfl⟩ := h
  refine ⟨⟨b0, "sign", n0, k, lo, hi, nu, wd⟩, ⟨rfl, rfl, rfl, rfl, rfl, rfl⟩, .one (hP _ rfl md_text.2.2.1) (w1 := ⟨b0, "sign", n0, k, lo, hi, nu, wd⟩) ?_ ?_⟩
  · rw [st_text]
    unfold f_in_plain
    rw [if_neg (by rw [decide_eq_false (by omega)]; exact Bool.false_ne_true), if_neg (by rw [decide_eq_false (by omega)]; exact Bool.false_ne_true), hf]
    dsimp only
    rw [if_neg (by rw [decide_eq_false (by omega)]; exact Bool.false_ne_true), if_pos (decide_eq_true hk)]
  · show noteN "text" _ _ _ _ = _
    rw [nt_text, if_neg (by rw [decide_eq_false (by omega)]; exact Bool.false_ne_true)]
theorem run_cont {b : Int} {k lo hi : Int} (hP : PT P br) (h : Sn br nm k lo hi w) (hk : k ≠ 1) (h1 : lo ≤ b) (h2 : b ≤ hi) : ∃ w', Sn br nm (k - 1) 128 191 w' ∧ Run P w s n [b] w' s := by
  obtain ⟨b0, md, n0, lf, lo0, hi0, nu, wd⟩ := w
  obtain ⟨rfl, rfl, rfl, rfl, rfl, rfl⟩ := h
  refine ⟨⟨b0, "sign", n0, lf - 1, 128, 191, nu, wd⟩, ⟨rfl, rfl, rfl, rfl, rfl, rfl⟩, .one (hP _ rfl md_sign.2.2.1) (w1 := ⟨b0, "sign", n0, lf - 1, 128, 191, nu, wd⟩) ?_ ?_⟩
  · rw [st_sign]
    unfold f_in_sign
    dsimp only at h1 h2 hk ⊢
    rw [decide_eq_true h1, decide_eq_true h2, if_neg (by decide), if_neg (by rw [decide_eq_false (by omega)]; exact Bool.false_ne_true)]
  · exact nt_sign
theorem run_last {b : Int} {lo hi : Int} (hP : PT P br) (h : Sn br nm 1 lo hi w) (h1 : lo ≤ b) (h2 : b ≤ hi) : ∃ w', Tx br nm w' ∧ Run P w s n [b] w' s := by
  obtain ⟨b0, md, n0, lf, lo0, hi0, nu, wd⟩ := w
  obtain ⟨rfl, rfl, rfl, hk, rfl, rfl⟩ := h
  dsimp only at hk
  subst hk
  refine ⟨⟨b0, "text", n0, 1 - 1, 128, 191, nu, wd⟩, ⟨rfl, rfl, rfl⟩, .one (hP _ rfl md_sign.2.2.1) (w1 := ⟨b0, "text", n0, 1 - 1, 128, 191, nu, wd⟩) ?_ ?_⟩
  · rw [st_sign]
    unfold f_in_sign
    dsimp only at h1 h2 ⊢
    rw [decide_eq_true h1, decide_eq_true h2, if_neg (by decide), if_pos (by simp)]
  · exact nt_sign
theorem fol_2 {b : Int} (h1 : 194 ≤ b) (h2 : b < 224) : f_follows b = some (1, 128, 191) := by
  unfold f_follows
  rw [if_neg (by simp; omega), if_neg (by simp; omega), if_pos (by simp; omega)]
theorem fol_3 {b : Int} (h1 : 224 ≤ b) (h2 : b < 240) : f_follows b = some (2, if b = 224 then 160 else 128, if b = 237 then 159 else 191) := by
  unfold f_follows
  rw [if_neg (by simp; omega), if_neg (by simp; omega), if_neg (by simp; omega)]
  by_cases h : b = 224
  · subst h; rfl
  · rw [if_neg (by simp; omega), if_neg h]
    by_cases h' : b = 237
    · subst h'; rfl
    · rw [if_neg (by simp; omega), if_neg h', if_pos (by simp; omega)]
theorem fol_4 {b : Int} (h1 : 240 ≤ b) (h2 : b ≤ 244) : f_follows b = some (3, if b = 240 then 144 else 128, if b = 244 then 143 else 191) := by
  unfold f_follows
  rw [if_neg (by simp; omega), if_neg (by simp; omega), if_neg (by simp; omega), if_neg (by simp; omega), if_neg (by simp; omega), if_neg (by simp; omega)]
  by_cases h : b = 240
  · subst h; rfl
  · rw [if_neg (by simp; omega), if_neg h]
    by_cases h' : b = 244
    · subst h'; rfl
    · rw [if_neg h', if_pos (by simp; omega)]
theorem run_enc {p : Int} (hP : PT P br) (h : Tx br nm w) (hp : isPt p = true) (h1 : 32 ≤ p) (h3 : p ≠ 34) (h4 : p ≠ 92) : ∃ w', Tx br nm w' ∧ Run P w s n (enc p) w' s := by
  rw [isPt_iff] at hp
  unfold enc
  by_cases c1 : p < 128
  · rw [if_pos c1]; exact run_ascii hP h h1 c1 h3 h4
  rw [if_neg c1]
  by_cases c2 : p < 2048
  · rw [if_pos c2]
    obtain ⟨w1, a1, r1⟩ := run_lead (s := s) (n := n) hP h (fol_2 (b := 192 + p / 64) (by omega) (by omega)) (by decide) (by omega)
    obtain ⟨w2, a2, r2⟩ := run_last (s := s) (n := n + 1) (b := 128 + p % 64) hP a1 (by omega) (by omega)
    exact ⟨w2, a2, r1.app rfl r2⟩
  rw [if_neg c2]
  by_cases c3 : p < 65536
  · rw [if_pos c3]
    obtain ⟨w1, a1, r1⟩ := run_lead (s := s) (n := n) hP h (fol_3 (b := 224 + p / 4096) (by omega) (by omega)) (by decide) (by omega)
    obtain ⟨w2, a2, r2⟩ := run_cont (s := s) (n := n + 1) (b := 128 + p / 64 % 64) hP a1 (by decide) (by split <;> omega) (by split <;> omega)
    obtain ⟨w3, a3, r3⟩ := run_last (s := s) (n := n + 1 + 1) (b := 128 + p % 64) hP a2 (by omega) (by omega)
    exact ⟨w3, a3, r1.app rfl (r2.app rfl r3)⟩
  · rw [if_neg c3]
    obtain ⟨w1, a1, r1⟩ := run_lead (s := s) (n := n) hP h (fol_4 (b := 240 + p / 262144) (by omega) (by omega)) (by decide) (by omega)
    obtain ⟨w2, a2, r2⟩ := run_cont (s := s) (n := n + 1) (b := 128 + p / 4096 % 64) hP a1 (by decide) (by split <;> omega) (by split <;> omega)
    obtain ⟨w3, a3, r3⟩ := run_cont (s := s) (n := n + 1 + 1) (b := 128 + p / 64 % 64) hP a2 (by decide) (by omega) (by omega)
    obtain ⟨w4, a4, r4⟩ := run_last (s := s) (n := n + 1 + 1 + 1) (b := 128 + p % 64) hP a3 (by omega) (by omega)
    exact ⟨w4, a4, r1.app rfl (r2.app rfl (r3.app rfl r4))⟩
/-! escapes -/
def Md (br : List Bool) (nm : Bool) (md : Str) (w : Wk) : Prop := w.br = br ∧ w.md = md ∧ w.nm = nm
theorem run_esc (hP : PT P br) (h : Tx br nm w) : ∃ w', Md br nm "escape" w' ∧ Run P w s n [92] w' s := by
  obtain ⟨b0, md, n0, lf, lo0, hi0, nu, wd⟩ := w
  obtain ⟨rfl, rfl, rfl⟩ := h
  refine ⟨⟨b0, "escape", n0, lf, lo0, hi0, nu, wd⟩, ⟨rfl, rfl, rfl⟩, .one (hP _ rfl md_text.2.2.1) (w1 := ⟨b0, "escape", n0, lf, lo0, hi0, nu, wd⟩) ?_ ?_⟩
  · rw [st_text]; rfl
  · show noteN "text" _ _ _ _ = _
    rw [nt_text]; rfl
theorem run_short {b : Int} (hP : PT P br) (h : Tx br nm w) (hb : b ∈ ([34, 92, 47, 98, 102, 110, 114, 116] : List Int)) : ∃ w', Tx br nm w' ∧ Run P w s n [92, b] w' s := by
  obtain ⟨w1, a1, r1⟩ := run_esc (s := s) (n := n) hP h
  obtain ⟨b0, md, n0, lf, lo0, hi0, nu, wd⟩ := w1
  obtain ⟨rfl, rfl, rfl⟩ := a1
  refine ⟨⟨b0, "text", n0, lf, lo0, hi0, nu, wd⟩, ⟨rfl, rfl, rfl⟩, r1.app (m := n + 1) rfl (.one (hP _ rfl md_escape.2.2.1) (w1 := ⟨b0, "text", n0, lf, lo0, hi0, nu, wd⟩) ?_ nt_escape)⟩
  rw [st_escape, if_neg, if_neg (by rw [decide_eq_true hb]; decide)]
  simp only [List.mem_cons, List.not_mem_nil, or_false] at hb
  rw [decide_eq_false (by omega)]
  exact Bool.false_ne_true
/-- in an escape of figures -/
def Hx (br : List Bool) (nm : Bool) (md : Str) (lf nu : Int) (w : Wk) : Prop := w.br = br ∧ w.md = md ∧ w.nm = nm ∧ w.lf = lf ∧ w.nu = nu
theorem run_u (hP : PT P br) (h : Md br nm "escape" w) : ∃ w', Hx br nm "hex" 4 0 w' ∧ Run P w s n [117] w' s := by
  obtain ⟨b0, md, n0, lf, lo0, hi0, nu, wd⟩ := w
  obtain ⟨rfl, rfl, rfl⟩ := h
  refine ⟨⟨b0, "hex", n0, 4, lo0, hi0, 0, wd⟩, ⟨rfl, rfl, rfl, rfl, rfl⟩, .one (hP _ rfl md_escape.2.2.1) (w1 := ⟨b0, "hex", n0, 4, lo0, hi0, 0, wd⟩) ?_ nt_escape⟩
  rw [st_escape]; rfl
theorem run_hex {b v lf nu : Int} (hP : PT P br) (h : Hx br nm "hex" lf nu w) (hb : f_hex_value b = v) (hv : 0 ≤ v) (hl : lf ≠ 1) (hc : lf = 3 → ¬ (220 ≤ nu * 16 + v ∧ nu * 16 + v ≤ 223)) : ∃ w', Hx br nm "hex" (lf - 1) (nu * 16 + v) w' ∧ Run P w s n [b] w' s := by
  obtain ⟨b0, md, n0, lf, lo0, hi0, nu, wd⟩ := w
  obtain ⟨rfl, rfl, rfl, rfl, rfl⟩ := h
  refine ⟨⟨b0, "hex", n0, lf - 1, lo0, hi0, nu * 16 + v, wd⟩, ⟨rfl, rfl, rfl, rfl, rfl⟩, .one (hP _ rfl md_hex.2.2.1) (w1 := ⟨b0, "hex", n0, lf - 1, lo0, hi0, nu * 16 + v, wd⟩) ?_ nt_hex⟩
  dsimp only at hl hc
  rw [st_hex]
  unfold f_in_hex
  rw [hb]
  simp only [md_hex, decide_true, Bool.true_and, Bool.false_and, Bool.false_eq_true, if_false]
  rw [if_neg (by simp; omega), if_neg (by simp; omega), if_neg (by simp; omega)]
theorem run_hexL {b v nu : Int} (hP : PT P br) (h : Hx br nm "hex" 1 nu w) (hb : f_hex_value b = v) (hv : 0 ≤ v) : ∃ w', Md br nm (if 55296 ≤ nu * 16 + v ∧ nu * 16 + v ≤ 56319 then "half" else "text") w' ∧ Run P w s n [b] w' s := by
  obtain ⟨b0, md, n0, lf, lo0, hi0, nu, wd⟩ := w
  obtain ⟨rfl, rfl, rfl, hl, rfl⟩ := h
  dsimp only at hl
  subst hl
  refine ⟨⟨b0, if 55296 ≤ nu * 16 + v ∧ nu * 16 + v ≤ 56319 then "half" else "text", n0, 1 - 1, lo0, hi0, nu * 16 + v, wd⟩, ⟨rfl, rfl, rfl⟩, .one (hP _ rfl md_hex.2.2.1) (w1 := ⟨b0, if 55296 ≤ nu * 16 + v ∧ nu * 16 + v ≤ 56319 then "half" else "text", n0, 1 - 1, lo0, hi0, nu * 16 + v, wd⟩) ?_ nt_hex⟩
  rw [st_hex]
  unfold f_in_hex
  rw [hb]
  simp only [md_hex, decide_true, Bool.true_and, Bool.false_and, Bool.false_eq_true, if_false]
  rw [if_neg (by simp; omega), if_neg (by simp), if_pos (by simp)]
  simp only [Bool.and_eq_true, decide_eq_true_eq]
theorem run_low {b v lf nu : Int} (hP : PT P br) (h : Hx br nm "low hex" lf nu w) (hb : f_hex_value b = v) (hv : 0 ≤ v) (hl : lf ≠ 1) (hc : lf = 4 → nu * 16 + v = 13) (hd : lf = 3 → 220 ≤ nu * 16 + v) : ∃ w', Hx br nm "low hex" (lf - 1) (nu * 16 + v) w' ∧ Run P w s n [b] w' s := by
  obtain ⟨b0, md, n0, lf, lo0, hi0, nu, wd⟩ := w
  obtain ⟨rfl, rfl, rfl, rfl, rfl⟩ := h
  refine ⟨⟨b0, "low hex", n0, lf - 1, lo0, hi0, nu * 16 + v, wd⟩, ⟨rfl, rfl, rfl, rfl, rfl⟩, .one (hP _ rfl md_low_hex.2.2.1) (w1 := ⟨b0, "low hex", n0, lf - 1, lo0, hi0, nu * 16 + v, wd⟩) ?_ nt_low_hex⟩
  dsimp only at hl hc hd
  rw [st_low_hex]
  unfold f_in_hex
  rw [hb]
  simp only [md_low_hex, decide_true, Bool.true_and, Bool.false_and, Bool.false_eq_true, if_false]
  rw [if_neg (by simp; omega), if_neg (by simp; omega), if_neg (by simp; omega)]
theorem run_lowL {b v nu : Int} (hP : PT P br) (h : Hx br nm "low hex" 1 nu w) (hb : f_hex_value b = v) (hv : 0 ≤ v) : ∃ w', Tx br nm w' ∧ Run P w s n [b] w' s := by
  obtain ⟨b0, md, n0, lf, lo0, hi0, nu, wd⟩ := w
  obtain ⟨rfl, rfl, rfl, hl, rfl⟩ := h
  dsimp only at hl
  subst hl
  refine ⟨⟨b0, "text", n0, 1 - 1, lo0, hi0, nu * 16 + v, wd⟩, ⟨rfl, rfl, rfl⟩, .one (hP _ rfl md_low_hex.2.2.1) (w1 := ⟨b0, "text", n0, 1 - 1, lo0, hi0, nu * 16 + v, wd⟩) ?_ nt_low_hex⟩
  rw [st_low_hex]
  unfold f_in_hex
  rw [hb]
  simp only [md_low_hex, decide_true, Bool.true_and, Bool.false_and, Bool.false_eq_true, if_false]
  rw [if_neg (by simp; omega), if_neg (by simp), if_pos (by simp)]
theorem run_half (hP : PT P br) (h : Md br nm "half" w) : ∃ w', Hx br nm "low hex" 4 0 w' ∧ Run P w s n [92, 117] w' s := by
  obtain ⟨b0, md, n0, lf, lo0, hi0, nu, wd⟩ := w
  obtain ⟨rfl, rfl, rfl⟩ := h
  refine ⟨⟨b0, "low hex", n0, 4, lo0, hi0, 0, wd⟩, ⟨rfl, rfl, rfl, rfl, rfl⟩, .cons (hP _ rfl md_half.2.2.1) (w1 := ⟨b0, "half u", n0, lf, lo0, hi0, nu, wd⟩) ?_ nt_half (.one (hP _ rfl md_half_u.2.2.1) (w1 := ⟨b0, "low hex", n0, 4, lo0, hi0, 0, wd⟩) ?_ nt_half_u)⟩
  · rw [st_half]; rfl
  · rw [st_half_u]; rfl
end
/-- how a text writes a character -/
inductive Sg : List Int → Int → Prop
  | raw {p : Int} (h : isPt p = true) (h1 : 32 ≤ p) (h2 : p ≠ 34) (h3 : p ≠ 92) : Sg (enc p) p
  | short {c p : Int} (h : (c, p) ∈ ([(34, 34), (92, 92), (47, 47), (98, 8), (102, 12), (110, 10), (114, 13), (116, 9)] : List (Int × Int))) : Sg [92, c] p
  | hex {a b c d : Int} {p : Int} (ha : 0 ≤ f_hex_value a) (hb : 0 ≤ f_hex_value b) (hc : 0 ≤ f_hex_value c) (hd : 0 ≤ f_hex_value d) (hp : p = ((f_hex_value a * 16 + f_hex_value b) * 16 + f_hex_value c) * 16 + f_hex_value d) (h : isPt p = true) : Sg [92, 117, a, b, c, d] p
  | pair {a b c d a' b' c' d' : Int} {p q r : Int} (ha : 0 ≤ f_hex_value a) (hb : 0 ≤ f_hex_value b) (hc : 0 ≤ f_hex_value c) (hd : 0 ≤ f_hex_value d) (ha' : 0 ≤ f_hex_value a') (hb' : 0 ≤ f_hex_value b') (hc' : 0 ≤ f_hex_value c') (hd' : 0 ≤ f_hex_value d')
      (hp : p = ((f_hex_value a * 16 + f_hex_value b) * 16 + f_hex_value c) * 16 + f_hex_value d) (hq : q = ((f_hex_value a' * 16 + f_hex_value b') * 16 + f_hex_value c') * 16 + f_hex_value d')
      (h1 : 55296 ≤ p) (h2 : p ≤ 56319) (h3 : 56320 ≤ q) (h4 : q ≤ 57343) (hr : r = 65536 + (p - 55296) * 1024 + q - 56320) : Sg [92, 117, a, b, c, d, 92, 117, a', b', c', d'] r
theorem hexv_lt (b : Int) : f_hex_value b < 16 := by
  unfold f_hex_value
  simp only [Bool.and_eq_true, decide_eq_true_eq]
  split
  · omega
  · split
    · omega
    · split <;> omega
theorem Sg.run {P : Wk → Prop} {br : List Bool} {nm : Bool} {w : Wk} {s : NS} {n : Int} {bs : List Int} {p : Int} (h : Sg bs p) (hP : PT P br) (ht : Tx br nm w) : ∃ w', Tx br nm w' ∧ Run P w s n bs w' s := by
  cases h with
  | raw h h1 h2 h3 => exact run_enc hP ht h h1 h2 h3
  | short h =>
    refine run_short hP ht ?_
    simp only [List.mem_cons, Prod.mk.injEq, List.not_mem_nil, or_false] at h ⊢
    omega
  | @hex a b c d p ha hb hc hd hp h =>
    have l1 := hexv_lt a
    have l2 := hexv_lt b
    have l3 := hexv_lt c
    have l4 := hexv_lt d
    rw [isPt_iff] at h
    generalize hva : f_hex_value a = va at *
    generalize hvb : f_hex_value b = vb at *
    generalize hvc : f_hex_value c = vc at *
    generalize hvd : f_hex_value d = vd at *
    obtain ⟨w0, a0, r0⟩ := run_esc (s := s) (n := n) hP ht
    obtain ⟨w1, a1, r1⟩ := run_u (s := s) (n := n + 1) hP a0
    obtain ⟨w2, a2, r2⟩ := run_hex (s := s) (n := n + 1 + 1) hP a1 hva ha (by decide) (by omega)
    obtain ⟨w3, a3, r3⟩ := run_hex (s := s) (n := n + 1 + 1 + 1) hP a2 hvb hb (by decide) (by omega)
    obtain ⟨w4, a4, r4⟩ := run_hex (s := s) (n := n + 1 + 1 + 1 + 1) hP a3 hvc hc (by decide) (by omega)
    obtain ⟨w5, a5, r5⟩ := run_hexL (s := s) (n := n + 1 + 1 + 1 + 1 + 1) hP a4 hvd hd
    rw [if_neg (by omega)] at a5
    exact ⟨w5, a5, r0.app rfl (r1.app rfl (r2.app rfl (r3.app rfl (r4.app rfl r5))))⟩
  | @pair a b c d a' b' c' d' p q r ha hb hc hd ha' hb' hc' hd' hp hq h1 h2 h3 h4 hr =>
    have l1 := hexv_lt a
    have l2 := hexv_lt b
    have l3 := hexv_lt c
    have l4 := hexv_lt d
    have l1' := hexv_lt a'
    have l2' := hexv_lt b'
    have l3' := hexv_lt c'
    have l4' := hexv_lt d'
    generalize hva : f_hex_value a = va at *
    generalize hvb : f_hex_value b = vb at *
    generalize hvc : f_hex_value c = vc at *
    generalize hvd : f_hex_value d = vd at *
    generalize hva' : f_hex_value a' = va' at *
    generalize hvb' : f_hex_value b' = vb' at *
    generalize hvc' : f_hex_value c' = vc' at *
    generalize hvd' : f_hex_value d' = vd' at *
    obtain ⟨w0, a0, r0⟩ := run_esc (s := s) (n := n) hP ht
    obtain ⟨w1, a1, r1⟩ := run_u (s := s) (n := n + 1) hP a0
    obtain ⟨w2, a2, r2⟩ := run_hex (s := s) (n := n + 1 + 1) hP a1 hva ha (by decide) (by omega)
    obtain ⟨w3, a3, r3⟩ := run_hex (s := s) (n := n + 1 + 1 + 1) hP a2 hvb hb (by decide) (by omega)
    obtain ⟨w4, a4, r4⟩ := run_hex (s := s) (n := n + 1 + 1 + 1 + 1) hP a3 hvc hc (by decide) (by omega)
    obtain ⟨w5, a5, r5⟩ := run_hexL (s := s) (n := n + 1 + 1 + 1 + 1 + 1) hP a4 hvd hd
    rw [if_pos (by omega)] at a5
    obtain ⟨w6, a6, r6⟩ := run_half (s := s) (n := n + 1 + 1 + 1 + 1 + 1 + 1) hP a5
    obtain ⟨x2, b2, q2⟩ := run_low (s := s) (n := n + 1 + 1 + 1 + 1 + 1 + 1 + 2) hP a6 hva' ha' (by decide) (by omega) (by omega)
    obtain ⟨x3, b3, q3⟩ := run_low (s := s) (n := n + 1 + 1 + 1 + 1 + 1 + 1 + 2 + 1) hP b2 hvb' hb' (by decide) (by omega) (by omega)
    obtain ⟨x4, b4, q4⟩ := run_low (s := s) (n := n + 1 + 1 + 1 + 1 + 1 + 1 + 2 + 1 + 1) hP b3 hvc' hc' (by decide) (by omega) (by omega)
    obtain ⟨x5, b5, q5⟩ := run_lowL (s := s) (n := n + 1 + 1 + 1 + 1 + 1 + 1 + 2 + 1 + 1 + 1) hP b4 hvd' hd'
    exact ⟨x5, b5, r0.app rfl (r1.app rfl (r2.app rfl (r3.app rfl (r4.app rfl (r5.app rfl (r6.app rfl (q2.app rfl (q3.app rfl (q4.app rfl q5)))))))))⟩
/-- what stands between a text's quotes, and its characters -/
inductive Tb : List Int → List Int → Prop
  | nil : Tb [] []
  | cons {bs r : List Int} {p : Int} {ps : List Int} (h : Sg bs p) (t : Tb r ps) : Tb (bs ++ r) (p :: ps)
theorem Tb.run {P : Wk → Prop} {br : List Bool} {nm : Bool} {bs ps : List Int} (h : Tb bs ps) (hP : PT P br) : ∀ {w : Wk} {s : NS} {n : Int}, Tx br nm w → ∃ w', Tx br nm w' ∧ Run P w s n bs w' s := by
  induction h with
  | nil => exact fun {w s n} ht => ⟨w, ht, .nil⟩
  | cons h t ih =>
    intro w s n ht
    obtain ⟨w1, a1, r1⟩ := h.run (s := s) (n := n) hP ht
    obtain ⟨w2, a2, r2⟩ := ih (s := s) (n := n + _) a1
    exact ⟨w2, a2, r1.app rfl r2⟩

/-! plain -/
def plainN : Nat → Int → Int → Int × Int
  | 0, n, p => (n, p)
  | f + 1, n, p => if n % 10 = 0 then plainN f (n / 10) (p + 1) else (n, p)
def plain (n p : Int) : Int × Int := if n = 0 then (0, 0) else plainN n.natAbs n p
theorem plainN_step {f : Nat} {n p : Int} (h : n % 10 = 0) : plainN (f + 1) n p = plainN f (n / 10) (p + 1) := if_pos h
theorem plainN_end : ∀ {f : Nat} {n p : Int}, ¬ n % 10 = 0 → plainN f n p = (n, p)
  | 0, _, _, _ => rfl
  | _ + 1, _, _, h => if_neg h
theorem plainN_more : ∀ {f g : Nat} {n p : Int}, n ≠ 0 → n.natAbs ≤ f → f ≤ g → plainN f n p = plainN g n p
  | 0, _, n, _, h0, h, _ => by omega
  | f + 1, 0, _, _, _, _, h => by omega
  | f + 1, g + 1, n, p, h0, h1, h2 => by
    by_cases h : n % 10 = 0
    · rw [plainN_step h, plainN_step h]; exact plainN_more (by omega) (by omega) (by omega)
    · rw [plainN_end h, plainN_end h]
theorem plain_step {n p : Int} (h0 : n ≠ 0) (h : n % 10 = 0) : plain n p = plain (n / 10) (p + 1) := by
  unfold plain
  rw [if_neg h0, if_neg (by omega)]
  have : n.natAbs = (n.natAbs - 1) + 1 := by omega
  rw [this, plainN_step h]
  exact (plainN_more (by omega) (by omega) (by omega)).symm
theorem plain_end {n p : Int} (h : ¬ n % 10 = 0) : plain n p = (n, p) := by
  unfold plain
  rw [if_neg (by omega), plainN_end h]
def S_plain : List PyData → Out → Prop := fun ds o => ∃ n p, ds = [.int n, .int p] ∧ o = .ok (.tuple [.int (plain n p).1, .int (plain n p).2])

/-! J_tree -/
/-! numbers -/
structure NumF where
  g : Bool
  ip : List Int
  fr : List Int
  eb : Int
  es : Int
  ed : List Int
def NumF.bs (x : NumF) : List Int := (if x.g = true then [45] else []) ++ (x.ip ++ ((if x.fr = [] then [] else 46 :: x.fr) ++ (if x.ed = [] then [] else x.eb :: ((if x.es = 0 then [] else [x.es]) ++ x.ed))))
def Fig (l : List Int) : Prop := ∀ b ∈ l, 48 ≤ b ∧ b ≤ 57
structure NumF.Ok (x : NumF) : Prop where
  hi : x.ip = [48] ∨ ∃ d r, x.ip = d :: r ∧ 49 ≤ d ∧ d ≤ 57 ∧ Fig r
  hf : Fig x.fr
  he : Fig x.ed
  hb : x.eb = 101 ∨ x.eb = 69
  hs : x.es = 0 ∨ x.es = 43 ∨ x.es = 45
def dvb (a : Int) (l : List Int) : Int := l.foldl (fun a b => a * 10 + b - 48) a
def NumF.wo (x : NumF) : Int := dvb 0 (x.ip ++ x.fr)
def NumF.pw (x : NumF) : Int := -(x.fr.length : Int) + (if x.es = 45 then -dvb 0 x.ed else dvb 0 x.ed)
def NumF.val (x : NumF) : Int × Int := plain (if x.g = true then -x.wo else x.wo) x.pw
/-- a token: its kind, its bytes, its value -/
inductive OkK : Str → List Int → PyData → Prop
  | nul : OkK "null" [110, 117, 108, 108] .none
  | tru : OkK "true" [116, 114, 117, 101] (.bool true)
  | fls : OkK "false" [102, 97, 108, 115, 101] (.bool false)
  | text {b ps : List Int} (h : Tb b ps) : OkK "text" (34 :: (b ++ [34])) (.tuple [.str "text", tupI ps])
  | num {x : NumF} (h : x.Ok) : OkK "number" x.bs (.tuple [.str "number", .int x.val.1, .int x.val.2])
/-! trees -/
mutual
inductive T where
  | tok (k : Str) (bs : List Int) (v : PyData) : T
  | br (f : Bool) (w : List Int) (es : Es) : T
inductive Es where
  | nil : Es
  | cons (s q p c : List Int) (t : T) (es : Es) : Es
end
def isNil : Es → Bool
  | .nil => true
  | _ => false
mutual
def pr : T → List Int
  | .tok _ bs _ => bs
  | .br f w es => (if f = true then 123 else 91) :: (prE es ++ (w ++ [if f = true then 125 else 93]))
def prE : Es → List Int
  | .nil => []
  | .cons s q _ c t es => s ++ (q ++ (c ++ (pr t ++ prE es)))
end
mutual
def cnt : T → Nat
  | .tok _ _ _ => 1
  | .br f _ es => 1 + cntE f es
def cntE (f : Bool) : Es → Nat
  | .nil => 0
  | .cons _ _ _ _ t es => (if f = true then 1 else 0) + cnt t + cntE f es
end
mutual
def ndsT (g : Bool) : T → Int → Int → List Nd
  | .tok k bs _, n, i => [⟨k, n, n + (bs.length : Int), i + 1⟩]
  | .br f w es, n, i => ⟨kst f, n, n + 2 + ((prE es).length : Int) + (w.length : Int), i + 1 + (cntE f es : Int)⟩ :: ndsE g f es (n + 1) (i + 1)
def ndsE (g f : Bool) : Es → Int → Int → List Nd
  | .nil, _, _ => []
  | .cons s q _ c t es, n, i => (if f = true then [⟨"name", n + (s.length : Int), n + (s.length : Int) + (q.length : Int), if g = true then i + 1 + (cnt t : Int) else i + 1⟩] else [])
      ++ (ndsT g t (n + (s.length : Int) + (q.length : Int) + (c.length : Int)) (i + (if f = true then 1 else 0))
      ++ ndsE g f es (n + (s.length : Int) + (q.length : Int) + (c.length : Int) + ((pr t).length : Int)) (i + (if f = true then 1 else 0) + (cnt t : Int)))
end
mutual
def val : T → PyData
  | .tok _ _ v => v
  | .br f _ es => .tuple [.str (kst f), .tuple (valE f es)]
def valE (f : Bool) : Es → List PyData
  | .nil => []
  | .cons _ _ p _ t es => clW f p (val t) :: valE f es
end
mutual
def dpT : T → Nat
  | .tok _ _ _ => 0
  | .br _ _ es => 1 + dpE es
def dpE : Es → Nat
  | .nil => 0
  | .cons _ _ _ _ t es => max (dpT t) (dpE es)
end
def Wh (l : List Int) : Prop := ∀ b ∈ l, f_is_white b = true
def SepO (z : Bool) (s : List Int) : Prop := if z = true then Wh s else ∃ a b, s = a ++ 44 :: b ∧ Wh a ∧ Wh b
def ColO (c : List Int) : Prop := ∃ a b, c = a ++ 58 :: b ∧ Wh a ∧ Wh b
def NmO (f : Bool) (q p c : List Int) : Prop := if f = true then (∃ b, q = 34 :: (b ++ [34]) ∧ Tb b p) ∧ ColO c else q = [] ∧ p = [] ∧ c = []
mutual
def OkT : T → Prop
  | .tok k bs v => OkK k bs v
  | .br f w es => Wh w ∧ OkE f es true
def OkE (f : Bool) : Es → Bool → Prop
  | .nil, _ => True
  | .cons s q p c t es, z => SepO z s ∧ NmO f q p c ∧ OkT t ∧ OkE f es false
end
mutual
theorem nds_len (g : Bool) : ∀ (t : T) (n i : Int), (ndsT g t n i).length = cnt t
  | .tok _ _ _, _, _ => by rw [ndsT, cnt]; rfl
  | .br f w es, n, i => by rw [ndsT, cnt, List.length_cons, ndsE_len g f es]; omega
theorem ndsE_len (g f : Bool) : ∀ (es : Es) (n i : Int), (ndsE g f es n i).length = cntE f es
  | .nil, _, _ => by rw [ndsE, cntE]; rfl
  | .cons s q p c t es, n, i => by
    rw [ndsE, cntE, List.length_append, List.length_append, nds_len g t, ndsE_len g f es]
    cases f <;> simp <;> omega
end
theorem pr_len_br (f : Bool) (w : List Int) (es : Es) : ((pr (.br f w es)).length : Int) = 2 + ((prE es).length : Int) + (w.length : Int) := by
  unfold pr
  rw [List.length_cons, List.length_append, List.length_append, List.length_singleton]
  omega
def mkN (d : Nd) : Nn := ⟨d.k, d.a, some (d.b, d.c)⟩
/-- told, a name's next one is its value's -/
theorem whole_no {l : List Nn} {m : List Nd} {d : Nd} (hk : d.k ≠ "name") (h : wholeN l = some m) : wholeN (mkN d :: l) = some (d :: m) := by
  have e : wholeN (mkN d :: l) = (wholeN l).map (d :: ·) := by
    unfold mkN
    cases l with
    | nil => exact if_neg hk
    | cons z r =>
      obtain ⟨k, a, x⟩ := z
      cases x with
      | none => rw [wholeN, if_neg hk]; intro _ _ _ _ _ z; cases z
      | some q => obtain ⟨e, y⟩ := q; rw [wholeN, if_neg hk]
  rw [e, h]; rfl
theorem kst_nn (f : Bool) : kst f ≠ "name" := by cases f <;> decide +kernel
theorem whole_nm {l l' : List Nn} {m : List Nd} {d : Nd} {k : Str} {a e y : Int} (hk : d.k = "name") (hl : l = ⟨k, a, some (e, y)⟩ :: l') (h : wholeN l = some m) : wholeN (mkN d :: l) = some (⟨d.k, d.a, d.b, y⟩ :: m) := by
  subst hl
  unfold mkN
  rw [wholeN, if_pos hk, h]; rfl
mutual
theorem whole_T : ∀ (t : T) (n i : Int) {l : List Nn} {m : List Nd}, OkT t → wholeN l = some m → wholeN ((ndsT false t n i).map mkN ++ l) = some (ndsT true t n i ++ m) ∧ ∃ k a e l', (ndsT false t n i).map mkN ++ l = ⟨k, a, some (e, i + (cnt t : Int))⟩ :: l'
  | .tok k bs v, n, i, l, m, ho, h => by
    have hk : k ≠ "name" := by
      unfold OkT at ho
      cases ho <;> decide +kernel
    rw [ndsT, ndsT, cnt]
    refine ⟨whole_no (d := ⟨k, n, n + (bs.length : Int), i + 1⟩) hk h, k, n, n + (bs.length : Int), l, rfl⟩
  | .br f w es, n, i, l, m, ho, h => by
    unfold OkT at ho
    have h2 := whole_E f es true (n + 1) (i + 1) ho.2 h
    rw [ndsT, ndsT, cnt]
    refine ⟨whole_no (kst_nn f) h2, kst f, n, n + 2 + ((prE es).length : Int) + (w.length : Int), (ndsE false f es (n + 1) (i + 1)).map mkN ++ l, ?_⟩
    rw [List.map_cons, List.cons_append]
    unfold mkN
    dsimp only
    rw [show i + ((1 + cntE f es : Nat) : Int) = i + 1 + (cntE f es : Int) by omega]
theorem whole_E (f : Bool) : ∀ (es : Es) (z : Bool) (n i : Int) {l : List Nn} {m : List Nd}, OkE f es z → wholeN l = some m → wholeN ((ndsE false f es n i).map mkN ++ l) = some (ndsE true f es n i ++ m)
  | .nil, z, n, i, l, m, ho, h => by rw [ndsE, ndsE]; exact h
  | .cons s q p c t es, z, n, i, l, m, ho, h => by
    unfold OkE at ho
    have h1 := whole_E f es false (n + (s.length : Int) + (q.length : Int) + (c.length : Int) + ((pr t).length : Int)) (i + (if f = true then 1 else 0) + (cnt t : Int)) ho.2.2.2 h
    obtain ⟨h2, k, a, e, l', h3⟩ := whole_T t (n + (s.length : Int) + (q.length : Int) + (c.length : Int)) (i + (if f = true then 1 else 0)) ho.2.2.1 h1
    rw [ndsE, ndsE, List.map_append, List.map_append, List.append_assoc, List.append_assoc, List.append_assoc, List.append_assoc]
    cases f with
    | false => exact h2
    | true => exact whole_nm (d := ⟨"name", n + (s.length : Int), n + (s.length : Int) + (q.length : Int), i + 1⟩) rfl h3 h2
end
theorem bs_pos {k : Str} {bs : List Int} {v : PyData} (h : OkK k bs v) : 1 ≤ bs.length := by
  cases h with
  | nul => decide
  | tru => decide
  | fls => decide
  | text _ => rw [List.length_cons]; omega
  | @num x hx =>
    unfold NumF.bs
    simp only [List.length_append]
    have : 1 ≤ x.ip.length := by rcases hx.hi with h | ⟨d, r, h, _⟩ <;> rw [h] <;> simp
    omega
mutual
theorem cnt_le : ∀ t : T, OkT t → cnt t ≤ (pr t).length
  | .tok k bs v, ho => by unfold OkT at ho; rw [cnt, pr]; exact bs_pos ho
  | .br f w es, ho => by
    unfold OkT at ho
    have := cntE_le f es true ho.2
    have h2 := pr_len_br f w es
    rw [cnt]
    omega
theorem cntE_le (f : Bool) : ∀ (es : Es) (z : Bool), OkE f es z → cntE f es ≤ (prE es).length
  | .nil, _, _ => Nat.le_refl _
  | .cons s q p c t es, z, ho => by
    unfold OkE at ho
    have h1 := cnt_le t ho.2.2.1
    have h2 := cntE_le f es false ho.2.2.2
    have h3 : (if f = true then 1 else 0 : Nat) ≤ q.length := by
      cases f with
      | false => exact Nat.zero_le _
      | true => obtain ⟨⟨b, hq, _⟩, _⟩ := ho.2.1; rw [hq, if_pos rfl, List.length_cons]; omega
    rw [cntE, prE]
    simp only [List.length_append]
    omega
end
theorem Sg.pos {bs : List Int} {p : Int} (h : Sg bs p) : 1 ≤ bs.length := by
  cases h with
  | raw _ _ _ _ => exact (enc_len p).1
  | short _ => exact Nat.le_of_ble_eq_true rfl
  | hex _ _ _ _ _ _ => simp
  | pair _ _ _ _ _ _ _ _ _ _ _ _ _ _ _ => simp
theorem Tb.len {bs ps : List Int} (h : Tb bs ps) : ps.length ≤ bs.length := by
  induction h with
  | nil => exact Nat.le_refl _
  | cons h t ih => have := h.pos; rw [List.length_cons, List.length_append]; omega

/-! J_runt -/
def endM (br : List Bool) : Str := if br = [] then "done" else "behind"
def fmM (f : Bool) : Str := if f = true then "member" else "first"
def opB (f : Bool) : Int := if f = true then 123 else 91
def clB (f : Bool) : Int := if f = true then 125 else 93
def PA (P : Wk → Prop) (br : List Bool) : Prop := ∀ w : Wk, w.br = br → P w
theorem wh_mem {b : Int} (h : f_is_white b = true) : b = 32 ∨ b = 9 ∨ b = 10 ∨ b = 13 := by
  unfold f_is_white at h
  have := of_decide_eq_true h
  simpa using this
theorem wh_cl {b : Int} (h : f_is_white b = true) : (decide (b = 93) || decide (b = 125)) = false := by
  have := wh_mem h
  rw [decide_eq_false (by omega), decide_eq_false (by omega)]; rfl
theorem ended_eq {br : List Bool} {md : Str} {nm : Bool} {lf lo hi nu : Int} {wd : List Int} : f_ended ⟨br, md, nm, lf, lo, hi, nu, wd⟩ = (⟨br, endM br, nm, lf, lo, hi, nu, wd⟩, true) := by
  unfold f_ended endM
  cases br with
  | nil => rfl
  | cons x r => rfl
def StM (m : Str) : Prop := m = "value" ∨ m = "first" ∨ m = "member" ∨ m = "name" ∨ m = "colon" ∨ m = "behind" ∨ m = "done"
theorem endM_st (br : List Bool) : StM (endM br) := by
  unfold endM
  split
  · exact .inr (.inr (.inr (.inr (.inr (.inr rfl)))))
  · exact .inr (.inr (.inr (.inr (.inr (.inl rfl)))))
theorem endM_or (br : List Bool) : endM br = "done" ∨ endM br = "behind" := by
  unfold endM
  split
  · exact .inl rfl
  · exact .inr rfl
theorem endM_no (br : List Bool) : decide (endM br ∈ (["minus", "zero", "whole", "point", "part", "power", "power sign", "powers"] : List Str)) = false := by
  unfold endM
  split
  · exact md_done.2.1
  · exact md_behind.2.1
section
variable {P : Wk → Prop} {br : List Bool} {nm f : Bool} {w : Wk} {s S S' : NS} {n : Int} {ws : List Int}
theorem white_one {b : Int} (hm : StM w.md) (h : f_is_white b = true) : f_stepped w b = (w, true) ∧ noteN w.md w.md n b s = some s := by
  obtain ⟨b0, md, n0, lf, lo, hi, nu, wd⟩ := w
  dsimp only at hm ⊢
  have hc := wh_cl h
  rcases hm with rfl | rfl | rfl | rfl | rfl | rfl | rfl
  · exact ⟨by rw [st_value, if_pos h], by rw [nt_value, if_neg (by rw [hc]; exact Bool.false_ne_true), if_pos h]⟩
  · exact ⟨by rw [st_first, if_pos h], by rw [nt_first, if_neg (by rw [hc]; exact Bool.false_ne_true), if_pos h]⟩
  · exact ⟨by rw [st_member, if_pos h], by rw [nt_member, if_neg (by rw [hc]; exact Bool.false_ne_true), if_pos h]⟩
  · exact ⟨by rw [st_name, if_pos h], by rw [nt_name, if_neg (by rw [hc]; exact Bool.false_ne_true), if_pos h]⟩
  · exact ⟨by rw [st_colon, if_pos h], by rw [nt_colon, if_neg (by rw [hc]; exact Bool.false_ne_true)]⟩
  · exact ⟨by rw [st_behind, if_pos h], by rw [nt_behind, if_neg (by rw [hc]; exact Bool.false_ne_true)]⟩
  · exact ⟨by rw [st_done, if_pos h], by rw [nt_done, if_neg (by rw [hc]; exact Bool.false_ne_true)]⟩
theorem run_white (hm : StM w.md) (hP : P w) : ∀ {ws : List Int} {n : Int}, Wh ws → Run P w s n ws w s
  | [], _, _ => .nil
  | b :: r, n, h => .cons hP (white_one (s := s) (n := n) hm (h b List.mem_cons_self)).1 (white_one hm (h b List.mem_cons_self)).2 (run_white hm hP fun b hb => h b (List.mem_cons_of_mem _ hb))
/-- behind a value: a number may still wait for the byte behind it -/
def NuW (m : Str) : Prop := m = "zero" ∨ m = "whole" ∨ m = "part" ∨ m = "powers"
def Post (br : List Bool) (S : NS) (n : Int) (w : Wk) (s : NS) : Prop := w.br = br ∧ ((w.md = endM br ∧ s = S) ∨ (NuW w.md ∧ finN n s = some S))
def StopB (b : Int) : Prop := f_is_white b = true ∨ b = 44 ∨ b = 93 ∨ b = 125
theorem stop_no {b : Int} (h : StopB b) : f_is_figure b = false ∧ decide (b = 46) = false ∧ decide (b ∈ ([101, 69] : List Int)) = false := by
  have : b = 32 ∨ b = 9 ∨ b = 10 ∨ b = 13 ∨ b = 44 ∨ b = 93 ∨ b = 125 := by
    rcases h with h | h | h | h
    · have := wh_mem h; omega
    all_goals omega
  rcases this with rfl | rfl | rfl | rfl | rfl | rfl | rfl <;> decide
theorem over_end {b : Int} {md : Str} {lf lo hi nu : Int} {wd : List Int} {w1 : Wk} (h : f_stepped ⟨br, endM br, nm, lf, lo, hi, nu, wd⟩ b = (w1, true)) : f_number_over ⟨br, md, nm, lf, lo, hi, nu, wd⟩ b = (w1, true) := by
  unfold f_number_over
  rw [ended_eq]
  dsimp only
  cases br with
  | nil =>
    rw [show endM [] = "done" from rfl] at h ⊢
    rw [st_done] at h
    by_cases hw : f_is_white b = true
    · rw [if_pos hw] at h ⊢; exact h
    · rw [if_neg hw] at h; cases h
  | cons x r =>
    rw [show endM (x :: r) = "behind" from rfl] at h ⊢
    rw [st_behind] at h
    by_cases hw : f_is_white b = true
    · rw [if_pos hw] at h ⊢; exact h
    · rw [if_neg hw] at h ⊢
      rw [if_pos md_behind.2.2.2.2.2.2.2.2.2.2.2.2.2.1, h]
      rfl
theorem post_one {b : Int} {w1 : Wk} {s1 : NS} (h : Post br S n w s) (hb : StopB b) (h1 : f_stepped ⟨br, endM br, w.nm, w.lf, w.lo, w.hi, w.nu, w.wd⟩ b = (w1, true)) (h2 : noteN (endM br) w1.md n b S = some s1) (h3 : decide (w1.md ∈ (["minus", "zero", "whole", "point", "part", "power", "power sign", "powers"] : List Str)) = false) :
    f_stepped w b = (w1, true) ∧ noteN w.md w1.md n b s = some s1 := by
  obtain ⟨b0, md, n0, lf, lo, hi, nu, wd⟩ := w
  obtain ⟨rfl, h⟩ := h
  dsimp only at h h1 ⊢
  rcases h with ⟨rfl, rfl⟩ | ⟨hm, hf⟩
  · exact ⟨h1, h2⟩
  have ho := fun md => over_end (md := md) h1
  have hn : (if (decide (b = 93) || decide (b = 125)) = true then finN (n + 1) S else some S) = some s1 := by
    rw [← h2]
    rcases endM_or b0 with e | e
    · rw [e, nt_done]
    · rw [e, nt_behind]
  obtain ⟨e1, e2, e3⟩ := stop_no hb
  rcases hm with rfl | rfl | rfl | rfl
  · refine ⟨?_, by rw [no_zero h3, hf]; exact hn⟩
    rw [st_zero, e2, e3, if_neg Bool.false_ne_true, if_neg Bool.false_ne_true]; exact ho _
  · refine ⟨?_, by rw [no_whole h3, hf]; exact hn⟩
    rw [st_whole, e1, e2, e3, if_neg Bool.false_ne_true, if_neg Bool.false_ne_true, if_neg Bool.false_ne_true]; exact ho _
  · refine ⟨?_, by rw [no_part h3, hf]; exact hn⟩
    rw [st_part, e1, e3, if_neg Bool.false_ne_true, if_neg Bool.false_ne_true]; exact ho _
  · refine ⟨?_, by rw [no_powers h3, hf]; exact hn⟩
    rw [st_powers, e1, if_neg Bool.false_ne_true]; exact ho _
theorem post_white (h : Post br S n w s) (hw : Wh ws) (hP : PA P br) : ∃ w' s', Run P w s n ws w' s' ∧ Post br S (n + (ws.length : Int)) w' s' := by
  cases ws with
  | nil => exact ⟨w, s, .nil, by show Post br S (n + 0) w s; rw [Int.add_zero]; exact h⟩
  | cons b r =>
    have hb := hw b List.mem_cons_self
    have hst := endM_st br
    have h0 := white_one (w := ⟨br, endM br, w.nm, w.lf, w.lo, w.hi, w.nu, w.wd⟩) (s := S) (n := n) hst hb
    obtain ⟨h1, h2⟩ := post_one h (.inl hb) h0.1 h0.2 (endM_no br)
    exact ⟨_, S, .cons (hP w h.1) h1 h2 (run_white hst (hP _ rfl) fun b hb => hw b (List.mem_cons_of_mem _ hb)), rfl, .inl ⟨rfl, rfl⟩⟩
theorem post_comma (h : Post (br ++ [f]) S n w s) (hP : P w) : ∃ w', Run P w s n [44] w' S ∧ w'.br = br ++ [f] ∧ w'.md = (if f = true then ("name" : Str) else "value") := by
  have e : endM (br ++ [f]) = "behind" := if_neg (by simp)
  have hl : (br ++ [f]).getLastD false = f := by rw [List.getLastD_eq_getLast?, List.getLast?_append]; rfl
  obtain ⟨h1, h2⟩ := post_one (b := 44) (w1 := ⟨br ++ [f], if f = true then "name" else "value", w.nm, w.lf, w.lo, w.hi, w.nu, w.wd⟩) (s1 := S) h (.inr (.inl rfl)) (by
    rw [e, st_behind, if_neg (by decide)]
    unfold f_behind
    rw [if_pos (by decide)]
    dsimp only
    rw [hl]) (by rw [e, nt_behind, if_neg (by decide)]) (by cases f; exact md_value.2.1; exact md_name.2.1)
  exact ⟨_, .one hP h1 h2, rfl, rfl⟩
theorem closed_eq {md : Str} {lf lo hi nu : Int} {wd : List Int} : f_closed ⟨br ++ [f], md, nm, lf, lo, hi, nu, wd⟩ = (⟨br, endM br, nm, lf, lo, hi, nu, wd⟩, true) := by
  unfold f_closed
  dsimp only
  rw [List.dropLast_concat, ended_eq]
theorem cl_no : f_is_white (clB f) = false ∧ (decide (clB f = 93) || decide (clB f = 125)) = true ∧ StopB (clB f) := by
  cases f
  · exact ⟨by decide, by decide, .inr (.inr (.inl rfl))⟩
  · exact ⟨by decide, by decide, .inr (.inr (.inr rfl))⟩
theorem post_close (h : Post (br ++ [f]) S n w s) (hP : P w) (hS : finN (n + 1) S = some S') : ∃ w', Run P w s n [clB f] w' S' ∧ w'.br = br ∧ w'.md = endM br := by
  have e : endM (br ++ [f]) = "behind" := if_neg (by simp)
  have hl : (br ++ [f]).getLastD false = f := by rw [List.getLastD_eq_getLast?, List.getLast?_append]; rfl
  obtain ⟨h1, h2⟩ := post_one (b := clB f) (w1 := ⟨br, endM br, w.nm, w.lf, w.lo, w.hi, w.nu, w.wd⟩) (s1 := S') h cl_no.2.2 (by
    rw [e, st_behind, if_neg (by rw [cl_no.1]; exact Bool.false_ne_true)]
    unfold f_behind
    dsimp only
    rw [hl, closed_eq]
    cases f <;> rfl) (by rw [e, nt_behind, if_pos cl_no.2.1]; exact hS) (endM_no br)
  exact ⟨_, .one hP h1 h2, rfl, rfl⟩
theorem first_close (hb : w.br = br ++ [f]) (hm : w.md = fmM f) (hP : P w) (hS : finN (n + 1) s = some S') : ∃ w', Run P w s n [clB f] w' S' ∧ w'.br = br ∧ w'.md = endM br := by
  obtain ⟨b0, md, n0, lf, lo, hi, nu, wd⟩ := w
  dsimp only at hb hm
  subst hb hm
  refine ⟨⟨br, endM br, n0, lf, lo, hi, nu, wd⟩, .one hP ?_ ?_, rfl, rfl⟩
  · cases f
    · show f_stepped ⟨_, "first", _, _, _, _, _, _⟩ 93 = _
      rw [st_first, if_neg (by decide), if_neg (by decide), closed_eq]
    · show f_stepped ⟨_, "member", _, _, _, _, _, _⟩ 125 = _
      rw [st_member, if_neg (by decide), if_pos (by decide), closed_eq]
  · cases f
    · show noteN "first" _ n 93 s = _
      rw [nt_first, if_pos (by decide)]; exact hS
    · show noteN "member" _ n 125 s = _
      rw [nt_member, if_pos (by decide)]; exact hS
/-- where a value may begin -/
def VaM (m : Str) : Prop := m = "value" ∨ m = "first"
theorem VaM.st {m : Str} (h : VaM m) : StM m := h.elim .inl fun h => .inr (.inl h)
/-- the first byte of a value -/
theorem va_one {b : Int} {w1 : Wk} (hm : VaM w.md) (h1 : f_is_white b = false) (h2 : b ≠ 93) (h3 : b ≠ 125) (hg : f_begun w b = (w1, true)) : f_stepped w b = (w1, true) ∧ ∀ md, noteN w.md md n b s = some ⟨s.fd ++ [⟨kindOf b, n, none⟩], s.fd.length :: s.wt⟩ := by
  obtain ⟨b0, md, n0, lf, lo, hi, nu, wd⟩ := w
  have hc : (decide (b = 93) || decide (b = 125)) = false := by rw [decide_eq_false h2, decide_eq_false h3]; rfl
  dsimp only at hm ⊢
  rcases hm with rfl | rfl
  · refine ⟨by rw [st_value, if_neg (by rw [h1]; exact Bool.false_ne_true)]; exact hg, fun md => ?_⟩
    rw [nt_value, if_neg (by rw [hc]; exact Bool.false_ne_true), if_neg (by rw [h1]; exact Bool.false_ne_true)]
  · refine ⟨by rw [st_first, if_neg (by rw [h1]; exact Bool.false_ne_true), if_pos (by rw [decide_eq_false h2]; rfl)]; exact hg, fun md => ?_⟩
    rw [nt_first, if_neg (by rw [hc]; exact Bool.false_ne_true), if_neg (by rw [h1]; exact Bool.false_ne_true)]
theorem run_open (hb : w.br = br) (hm : VaM w.md) (hl : br.length < 64) (hP : P w) : ∃ w', Run P w s n [opB f] w' ⟨s.fd ++ [⟨kst f, n, none⟩], s.fd.length :: s.wt⟩ ∧ w'.br = br ++ [f] ∧ w'.md = fmM f := by
  have hl2 : ¬ (((w.br.map PyData.bool).length : Int) = 64) := by rw [List.length_map, hb]; omega
  have hg : f_begun w (opB f) = (⟨w.br ++ [f], fmM f, w.nm, w.lf, w.lo, w.hi, w.nu, w.wd⟩, true) := by
    unfold f_begun
    rw [if_pos (by cases f <;> decide), if_neg (by rw [decide_eq_false hl2]; exact Bool.false_ne_true)]
    cases f <;> rfl
  have h := va_one (s := s) (n := n) hm (by cases f <;> decide) (by cases f <;> decide) (by cases f <;> decide) hg
  have hk : kindOf (opB f) = kst f := by cases f <;> decide +kernel
  refine ⟨_, .one hP h.1 (by rw [h.2, hk]), by rw [hb], rfl⟩
theorem fin_top {e a : Int} {k : Str} {fd l : List Nn} {wt : List Nat} : finN e ⟨fd ++ ⟨k, a, none⟩ :: l, fd.length :: wt⟩ = some ⟨fd ++ ⟨k, a, some (e, (fd.length : Int) + 1 + (l.length : Int))⟩ :: l, wt⟩ := by
  unfold finN
  dsimp only
  rw [List.getElem?_append_right (Nat.le_refl _), Nat.sub_self]
  have h : (((fd ++ ⟨k, a, none⟩ :: l : List Nn).length : Nat) : Int) = (fd.length : Int) + 1 + (l.length : Int) := by rw [List.length_append, List.length_cons]; omega
  show some (NS.mk ((fd ++ ⟨k, a, none⟩ :: l).set fd.length ⟨k, a, some (e, (((fd ++ ⟨k, a, none⟩ :: l : List Nn).length : Nat) : Int))⟩) wt) = _
  rw [h, List.set_append_right _ _ (Nat.le_refl _), Nat.sub_self, List.set_cons_zero]
theorem run_text {b ps : List Int} (ht : Tb b ps) (hb : w.br = br) (hm : VaM w.md) (hP : PT P br) (hv : P w) : ∃ w', Run P w s n (34 :: (b ++ [34])) w' ⟨s.fd ++ [⟨"text", n, some (n + ((34 :: (b ++ [34])).length : Int), (s.fd.length : Int) + 1)⟩], s.wt⟩ ∧ w'.br = br ∧ w'.md = endM br := by
  have hg : f_begun w 34 = (⟨w.br, "text", false, w.lf, w.lo, w.hi, w.nu, w.wd⟩, true) := rfl
  have h := va_one (s := s) (n := n) hm (by decide) (by decide) (by decide) hg
  obtain ⟨w2, a2, r2⟩ := ht.run (s := ⟨s.fd ++ [⟨"text", n, none⟩], s.fd.length :: s.wt⟩) (n := n + 1) hP (nm := false) (w := ⟨w.br, "text", false, w.lf, w.lo, w.hi, w.nu, w.wd⟩) ⟨hb, rfl, rfl⟩
  obtain ⟨b0, md, n0, lf, lo, hi, nu, wd⟩ := w2
  obtain ⟨rfl, rfl, rfl⟩ := a2
  refine ⟨⟨b0, endM b0, false, lf, lo, hi, nu, wd⟩, .cons hv h.1 (h.2 _) (r2.app rfl (.one (hP _ rfl md_text.2.2.1) (w1 := ⟨b0, endM b0, false, lf, lo, hi, nu, wd⟩) ?_ ?_)), rfl, rfl⟩
  · rw [st_text]
    unfold f_in_plain
    rw [if_pos (by decide), if_neg Bool.false_ne_true, ended_eq]
  · show noteN "text" _ _ 34 _ = _
    rw [nt_text, if_pos (by decide), fin_top, List.length_cons, List.length_append, List.length_singleton]
    congr 5
    simp only [Option.some.injEq, Prod.mk.injEq]
    exact ⟨by omega, by show _ + 1 + 0 = _; omega⟩
theorem run_name {b ps : List Int} (ht : Tb b ps) (hb : w.br = br) (hm : w.md = "member" ∨ w.md = "name") (hP : PT P br) : ∃ w', Run P w s n (34 :: (b ++ [34])) w' ⟨s.fd ++ [⟨"name", n, some (n + ((34 :: (b ++ [34])).length : Int), (s.fd.length : Int) + 1)⟩], s.wt⟩ ∧ w'.br = br ∧ w'.md = "colon" := by
  have h : f_stepped w 34 = (⟨w.br, "text", true, w.lf, w.lo, w.hi, w.nu, w.wd⟩, true) ∧ ∀ md, noteN w.md md n 34 s = some ⟨s.fd ++ [⟨"name", n, none⟩], s.fd.length :: s.wt⟩ := by
    obtain ⟨b0, md, n0, lf, lo, hi, nu, wd⟩ := w
    dsimp only at hm ⊢
    rcases hm with rfl | rfl
    · exact ⟨by rw [st_member]; rfl, fun md => by rw [nt_member]; rfl⟩
    · exact ⟨by rw [st_name]; rfl, fun md => by rw [nt_name]; rfl⟩
  have hv : P w := hP w hb (by rcases hm with e | e <;> rw [e]; exact md_member.2.2.1; exact md_name.2.2.1)
  obtain ⟨w2, a2, r2⟩ := ht.run (s := ⟨s.fd ++ [⟨"name", n, none⟩], s.fd.length :: s.wt⟩) (n := n + 1) hP (nm := true) (w := ⟨w.br, "text", true, w.lf, w.lo, w.hi, w.nu, w.wd⟩) ⟨hb, rfl, rfl⟩
  obtain ⟨b0, md, n0, lf, lo, hi, nu, wd⟩ := w2
  obtain ⟨rfl, rfl, rfl⟩ := a2
  refine ⟨⟨b0, "colon", true, lf, lo, hi, nu, wd⟩, .cons hv h.1 (h.2 _) (r2.app rfl (.one (hP _ rfl md_text.2.2.1) (w1 := ⟨b0, "colon", true, lf, lo, hi, nu, wd⟩) ?_ ?_)), rfl, rfl⟩
  · rw [st_text]
    unfold f_in_plain
    rw [if_pos (by decide), if_pos (by rfl)]
  · show noteN "text" _ _ 34 _ = _
    rw [nt_text, if_pos (by decide), fin_top, List.length_cons, List.length_append, List.length_singleton]
    congr 5
    simp only [Option.some.injEq, Prod.mk.injEq]
    exact ⟨by omega, by show _ + 1 + 0 = _; omega⟩
theorem run_colon {c : List Int} (hc : ColO c) (hb : w.br = br) (hm : w.md = "colon") (hP : PT P br) : ∃ w', Run P w s n c w' s ∧ w'.br = br ∧ w'.md = "value" := by
  obtain ⟨a, b, rfl, ha, hb'⟩ := hc
  obtain ⟨b0, md, n0, lf, lo, hi, nu, wd⟩ := w
  dsimp only at hb hm
  subst hb hm
  have h1 : P ⟨b0, "colon", n0, lf, lo, hi, nu, wd⟩ := hP _ rfl md_colon.2.2.1
  refine ⟨⟨b0, "value", n0, lf, lo, hi, nu, wd⟩, (run_white (.inr (.inr (.inr (.inr (.inl rfl))))) h1 ha).app rfl (.cons h1 (w1 := ⟨b0, "value", n0, lf, lo, hi, nu, wd⟩) (s1 := s) ?_ ?_ (run_white (.inl rfl) (hP _ rfl md_value.2.2.1) hb')), rfl, rfl⟩
  · rw [st_colon]; rfl
  · show noteN "colon" _ _ 58 _ = _
    rw [nt_colon]; rfl
/-- null, true, false -/
theorem run_word {a : Int} {r : List Int} {k : Str} (hb : w.br = br) (hm : VaM w.md) (hP : PT P br) (hv : P w) (ha : f_is_white a = false ∧ a ≠ 93 ∧ a ≠ 125) (hk : kindOf a = k) (hr : r ≠ []) (hc : ∀ b ∈ r, b ≠ 93 ∧ b ≠ 125) (hg : f_begun w a = (⟨w.br, "word", w.nm, w.lf, w.lo, w.hi, w.nu, r⟩, true)) :
    ∃ w', Run P w s n (a :: r) w' ⟨s.fd ++ [⟨k, n, some (n + ((a :: r).length : Int), (s.fd.length : Int) + 1)⟩], s.wt⟩ ∧ w'.br = br ∧ w'.md = endM br := by
  have h := va_one (s := s) (n := n) hm ha.1 ha.2.1 ha.2.2 hg
  have go : ∀ (r : List Int) (n2 : Int) (w2 : Wk), r ≠ [] → (∀ b ∈ r, b ≠ 93 ∧ b ≠ 125) → w2.br = br → w2.md = "word" → w2.wd = r → ∃ w', Run P w2 ⟨s.fd ++ [⟨k, n, none⟩], s.fd.length :: s.wt⟩ n2 r w' ⟨s.fd ++ [⟨k, n, some (n2 + (r.length : Int), (s.fd.length : Int) + 1)⟩], s.wt⟩ ∧ w'.br = br ∧ w'.md = endM br := by
    intro r
    induction r with
    | nil => intro _ _ h; exact absurd rfl h
    | cons b r ih =>
      intro n2 w2 _ hc h1 h2 h3
      obtain ⟨b0, md, n0, lf, lo, hi, nu, wd⟩ := w2
      dsimp only at h1 h2 h3
      subst h1 h2 h3
      have hp := hP ⟨b0, "word", n0, lf, lo, hi, nu, b :: r⟩ rfl md_word.2.2.1
      have hcb : (decide (b = 93) || decide (b = 125)) = false := by have := hc b List.mem_cons_self; rw [decide_eq_false this.1, decide_eq_false this.2]; rfl
      cases r with
      | nil =>
        refine ⟨⟨b0, endM b0, n0, lf, lo, hi, nu, []⟩, .one hp ?_ ?_, rfl, rfl⟩
        · rw [st_word]
          unfold f_in_word
          rw [if_neg (by simp), if_pos (by rfl)]
          exact ended_eq
        · show noteN "word" (endM b0) _ b _ = _
          rw [nt_word, if_pos (by rw [hcb]; unfold endM; split; exact md_done.2.2.2.2.2.2.2.2.2.2.2.2.2.2.2.2.2.2.2.1 ▸ rfl; exact md_behind.2.2.2.2.2.2.2.2.2.2.2.2.2.2.2.2.2.2.2.1 ▸ rfl), fin_top]
          rfl
      | cons c r =>
        obtain ⟨w', r', e1, e2⟩ := ih (n2 + 1) ⟨b0, "word", n0, lf, lo, hi, nu, c :: r⟩ (List.cons_ne_nil _ _) (fun x hx => hc x (List.mem_cons_of_mem _ hx)) rfl rfl rfl
        have e : n2 + 1 + ((c :: r).length : Int) = n2 + ((b :: c :: r).length : Int) := by simp only [List.length_cons]; omega
        refine ⟨w', .cons hp (w1 := ⟨b0, "word", n0, lf, lo, hi, nu, c :: r⟩) (s1 := ⟨s.fd ++ [⟨k, n, none⟩], s.fd.length :: s.wt⟩) ?_ ?_ (e ▸ r'), e1, e2⟩
        · rw [st_word]
          unfold f_in_word
          rw [if_neg (by simp), if_neg (by simp)]
          rfl
        · show noteN "word" "word" _ b _ = _
          rw [nt_word, if_neg (by rw [hcb]; decide +kernel)]
  obtain ⟨w', r', e1, e2⟩ := go r (n + 1) ⟨w.br, "word", w.nm, w.lf, w.lo, w.hi, w.nu, r⟩ hr hc hb rfl rfl
  have e : n + 1 + (r.length : Int) = n + ((a :: r).length : Int) := by rw [List.length_cons]; omega
  exact ⟨w', .cons hv h.1 (by rw [h.2, hk]) (e ▸ r'), e1, e2⟩
end

/-! J_runn -/
section
variable {P : Wk → Prop} {br : List Bool} {nm f : Bool} {w : Wk} {s S S' : NS} {n : Int} {ws : List Int}
theorem nu_one {m m' : Str} {b : Int} (hs : ∀ (nm : Bool) (lf lo hi nu : Int) (wd : List Int), f_stepped ⟨br, m, nm, lf, lo, hi, nu, wd⟩ b = (⟨br, m', nm, lf, lo, hi, nu, wd⟩, true)) (hn : noteN m m' n b s = some s) (hP : PA P br) (hb : w.br = br) (hm : w.md = m) : ∃ w', Run P w s n [b] w' s ∧ w'.br = br ∧ w'.md = m' := by
  obtain ⟨b0, md, n0, lf, lo, hi, nu, wd⟩ := w
  dsimp only at hb hm
  subst hb hm
  exact ⟨_, .one (hP _ rfl) (hs _ _ _ _ _ _) hn, rfl, rfl⟩
theorem fig_yes {b : Int} (h : 48 ≤ b ∧ b ≤ 57) : f_is_figure b = true := by unfold f_is_figure; rw [decide_eq_true h.1, decide_eq_true h.2]; rfl
theorem nu_digs {m : Str} (hm : m = "whole" ∨ m = "part" ∨ m = "powers") (hP : PA P br) : ∀ {ds : List Int} {w : Wk} {n : Int}, Fig ds → w.br = br → w.md = m → ∃ w', Run P w s n ds w' s ∧ w'.br = br ∧ w'.md = m
  | [], w, n, _, hb, h => ⟨w, .nil, hb, h⟩
  | d :: r, w, n, hf, hb, h => by
    have hd := fig_yes (hf d List.mem_cons_self)
    obtain ⟨w1, r1, b1, m1⟩ := nu_one (m := m) (m' := m) (b := d) (s := s) (n := n) (fun _ _ _ _ _ _ => by
      rcases hm with rfl | rfl | rfl
      · rw [st_whole, if_pos hd]
      · rw [st_part, if_pos hd]
      · rw [st_powers, if_pos hd]) (by
      rcases hm with rfl | rfl | rfl
      · exact nt_whole md_whole.2.1
      · exact nt_part md_part.2.1
      · exact nt_powers md_powers.2.1) hP hb h
    obtain ⟨w2, r2, b2, m2⟩ := nu_digs hm hP (ds := r) (w := w1) (n := n + 1) (fun x hx => hf x (List.mem_cons_of_mem _ hx)) b1 m1
    exact ⟨w2, r1.app rfl r2, b2, m2⟩
theorem kind_num {b : Int} (h : b = 45 ∨ 48 ≤ b ∧ b ≤ 57) : kindOf b = "number" := by
  unfold kindOf
  rw [if_neg (by omega), if_neg (by omega), if_neg (by omega), if_neg (by omega), if_neg (by omega), if_neg (by omega)]
def zwM (b : Int) : Str := if decide (b = 48) = true then "zero" else "whole"
theorem va_fig {b : Int} (hb : 48 ≤ b ∧ b ≤ 57) (hw : w.br = br) (hm : VaM w.md) (hP : PA P br) : ∃ w', Run P w s n [b] w' ⟨s.fd ++ [⟨"number", n, none⟩], s.fd.length :: s.wt⟩ ∧ w'.br = br ∧ w'.md = zwM b := by
  have hg : f_begun w b = (⟨w.br, zwM b, w.nm, w.lf, w.lo, w.hi, w.nu, w.wd⟩, true) := by
    unfold f_begun
    rw [if_neg (by simp; omega), if_neg (by simp; omega), if_neg (by simp; omega), if_pos (fig_yes hb)]; rfl
  have h := va_one (s := s) (n := n) hm (Bool.eq_false_iff.mpr fun h => by have := wh_mem h; omega) (by omega) (by omega) hg
  exact ⟨_, .one (hP _ hw) h.1 (by rw [h.2, kind_num (.inr hb)]), hw, rfl⟩
theorem va_minus (hw : w.br = br) (hm : VaM w.md) (hP : PA P br) : ∃ w', Run P w s n [45] w' ⟨s.fd ++ [⟨"number", n, none⟩], s.fd.length :: s.wt⟩ ∧ w'.br = br ∧ w'.md = "minus" := by
  have hg : f_begun w 45 = (⟨w.br, "minus", w.nm, w.lf, w.lo, w.hi, w.nu, w.wd⟩, true) := rfl
  have h := va_one (s := s) (n := n) hm (by decide) (by decide) (by decide) hg
  exact ⟨_, .one (hP _ hw) h.1 (by rw [h.2, kind_num (.inl rfl)]), hw, rfl⟩
theorem zw_nu (b : Int) : decide (zwM b ∈ (["minus", "zero", "whole", "point", "part", "power", "power sign", "powers"] : List Str)) = true := by
  unfold zwM
  split
  · exact md_zero.2.1
  · exact md_whole.2.1
/-- sign and figures ahead of the point -/
theorem run_int {x : NumF} (h : x.Ok) (hw : w.br = br) (hm : VaM w.md) (hP : PA P br) : ∃ w', Run P w s n ((if x.g = true then [45] else []) ++ x.ip) w' ⟨s.fd ++ [⟨"number", n, none⟩], s.fd.length :: s.wt⟩ ∧ w'.br = br ∧ (w'.md = "zero" ∨ w'.md = "whole") := by
  obtain ⟨d, r, hd, hf, hz, hi⟩ : ∃ d r, (48 ≤ d ∧ d ≤ 57) ∧ Fig r ∧ (d = 48 → r = []) ∧ x.ip = d :: r := by
    rcases h.hi with e | ⟨d, r, e, h1, h2, h3⟩
    · exact ⟨48, [], by omega, (fun _ h => nomatch h), fun _ => rfl, e⟩
    · exact ⟨d, r, by omega, h3, by omega, e⟩
  rw [hi]
  have rest : ∀ {w : Wk} {n : Int} {s : NS}, w.br = br → w.md = zwM d → ∃ w', Run P w s n r w' s ∧ w'.br = br ∧ (w'.md = "zero" ∨ w'.md = "whole") := by
    intro w n s hb hm
    unfold zwM at hm
    by_cases hd0 : d = 48
    · rw [hz hd0]
      rw [if_pos (decide_eq_true hd0)] at hm
      exact ⟨w, .nil, hb, .inl hm⟩
    · rw [if_neg (by rw [decide_eq_false hd0]; exact Bool.false_ne_true)] at hm
      obtain ⟨w', r', e1, e2⟩ := nu_digs (s := s) (n := n) (.inl rfl) hP hf hb hm
      exact ⟨w', r', e1, .inr e2⟩
  cases hg : x.g with
  | false =>
    obtain ⟨w1, r1, b1, m1⟩ := va_fig (s := s) (n := n) hd hw hm hP
    obtain ⟨w2, r2, b2, m2⟩ := rest (n := n + 1) (s := ⟨s.fd ++ [⟨"number", n, none⟩], s.fd.length :: s.wt⟩) b1 m1
    exact ⟨w2, r1.app rfl r2, b2, m2⟩
  | true =>
    obtain ⟨w0, r0, b0, m0⟩ := va_minus (s := s) (n := n) hw hm hP
    obtain ⟨w1, r1, b1, m1⟩ := nu_one (m := "minus") (m' := zwM d) (b := d) (s := ⟨s.fd ++ [⟨"number", n, none⟩], s.fd.length :: s.wt⟩) (n := n + 1) (fun _ _ _ _ _ _ => by rw [st_minus, if_pos (fig_yes hd)]; rfl) (nt_minus (zw_nu d)) hP b0 m0
    obtain ⟨w2, r2, b2, m2⟩ := rest (n := n + 1 + 1) (s := ⟨s.fd ++ [⟨"number", n, none⟩], s.fd.length :: s.wt⟩) b1 m1
    exact ⟨w2, r0.app rfl (r1.app rfl r2), b2, m2⟩
theorem run_frac {fr : List Int} (hf : Fig fr) (hw : w.br = br) (hm : w.md = "zero" ∨ w.md = "whole") (hP : PA P br) : ∃ w', Run P w s n (if fr = [] then [] else 46 :: fr) w' s ∧ w'.br = br ∧ (w'.md = "zero" ∨ w'.md = "whole" ∨ w'.md = "part") := by
  cases fr with
  | nil => rw [if_pos rfl]; exact ⟨w, .nil, hw, by rcases hm with h | h; exact .inl h; exact .inr (.inl h)⟩
  | cons d r =>
    rw [if_neg (List.cons_ne_nil _ _)]
    obtain ⟨w1, r1, b1, m1⟩ : ∃ w', Run P w s n [46] w' s ∧ w'.br = br ∧ w'.md = "point" := by
      rcases hm with h | h
      · exact nu_one (m := "zero") (fun _ _ _ _ _ _ => by rw [st_zero, if_pos (by decide)]) (nt_zero md_point.2.1) hP hw h
      · exact nu_one (m := "whole") (fun _ _ _ _ _ _ => by rw [st_whole, if_neg (by decide), if_pos (by decide)]) (nt_whole md_point.2.1) hP hw h
    obtain ⟨w2, r2, b2, m2⟩ := nu_one (m := "point") (m' := "part") (b := d) (s := s) (n := n + 1) (fun _ _ _ _ _ _ => by rw [st_point, if_pos (fig_yes (hf d List.mem_cons_self))]) (nt_point md_part.2.1) hP b1 m1
    obtain ⟨w3, r3, b3, m3⟩ := nu_digs (s := s) (n := n + 1 + 1) (.inr (.inl rfl)) hP (fun x hx => hf x (List.mem_cons_of_mem _ hx)) b2 m2
    exact ⟨w3, r1.app rfl (r2.app rfl r3), b3, .inr (.inr m3)⟩
theorem run_exp {x : NumF} (h : x.Ok) (hw : w.br = br) (hm : w.md = "zero" ∨ w.md = "whole" ∨ w.md = "part") (hP : PA P br) : ∃ w', Run P w s n (if x.ed = [] then [] else x.eb :: ((if x.es = 0 then [] else [x.es]) ++ x.ed)) w' s ∧ w'.br = br ∧ NuW w'.md := by
  obtain ⟨g, ip, fr, eb, es, ed⟩ := x
  have he := h.he
  have hb := h.hb
  have hs := h.hs
  dsimp only at he hb hs ⊢
  cases ed with
  | nil => rw [if_pos rfl]; exact ⟨w, .nil, hw, by rcases hm with h | h | h; exact .inl h; exact .inr (.inl h); exact .inr (.inr (.inl h))⟩
  | cons d r =>
    rw [if_neg (List.cons_ne_nil _ _)]
    have hd := fig_yes (he d List.mem_cons_self)
    have hin : decide (eb ∈ ([101, 69] : List Int)) = true := by rcases hb with rfl | rfl <;> decide
    have hnf : f_is_figure eb = false := by rcases hb with rfl | rfl <;> decide
    have hn6 : decide (eb = 46) = false := by rcases hb with rfl | rfl <;> decide
    obtain ⟨w1, r1, b1, m1⟩ : ∃ w', Run P w s n [eb] w' s ∧ w'.br = br ∧ w'.md = "power" := by
      rcases hm with h | h | h
      · exact nu_one (m := "zero") (fun _ _ _ _ _ _ => by rw [st_zero, hn6, if_neg Bool.false_ne_true, if_pos hin]) (nt_zero md_power.2.1) hP hw h
      · exact nu_one (m := "whole") (fun _ _ _ _ _ _ => by rw [st_whole, hnf, hn6, if_neg Bool.false_ne_true, if_neg Bool.false_ne_true, if_pos hin]) (nt_whole md_power.2.1) hP hw h
      · exact nu_one (m := "part") (fun _ _ _ _ _ _ => by rw [st_part, hnf, if_neg Bool.false_ne_true, if_pos hin]) (nt_part md_power.2.1) hP hw h
    obtain ⟨w2, r2, b2, m2⟩ : ∃ w', Run P w1 s (n + 1) ((if es = 0 then [] else [es]) ++ [d]) w' s ∧ w'.br = br ∧ w'.md = "powers" := by
      by_cases h0 : es = 0
      · rw [if_pos h0]
        exact nu_one (m := "power") (fun _ _ _ _ _ _ => by rw [st_power, if_pos hd]) (nt_power md_powers.2.1) hP b1 m1
      · rw [if_neg h0]
        have hx : (decide (es = 43) || decide (es = 45)) = true := by rcases hs with e | rfl | rfl; exact absurd e h0; decide; decide
        have hnx : f_is_figure es = false := by rcases hs with e | rfl | rfl; exact absurd e h0; decide; decide
        obtain ⟨w3, r3, b3, m3⟩ := nu_one (m := "power") (m' := "power sign") (b := es) (s := s) (n := n + 1) (fun _ _ _ _ _ _ => by rw [st_power, hnx, if_neg Bool.false_ne_true, if_pos hx]) (nt_power md_power_sign.2.1) hP b1 m1
        obtain ⟨w4, r4, b4, m4⟩ := nu_one (m := "power sign") (m' := "powers") (b := d) (s := s) (n := n + 1 + 1) (fun _ _ _ _ _ _ => by rw [st_power_sign, if_pos hd]) (nt_power_sign md_powers.2.1) hP b3 m3
        exact ⟨w4, r3.app rfl r4, b4, m4⟩
    obtain ⟨w3, r3, b3, m3⟩ := nu_digs (s := s) (n := n + 1 + (((if es = 0 then [] else [es]) ++ [d] : List Int).length : Int)) (.inr (.inr rfl)) hP (fun x hx => he x (List.mem_cons_of_mem _ hx)) b2 m2
    refine ⟨w3, ?_, b3, .inr (.inr (.inr m3))⟩
    have e : eb :: ((if es = 0 then [] else [es]) ++ d :: r) = [eb] ++ (((if es = 0 then [] else [es]) ++ [d]) ++ r) := by simp
    rw [e]
    exact r1.app rfl (r2.app rfl r3)
theorem run_num {x : NumF} (h : x.Ok) (hw : w.br = br) (hm : VaM w.md) (hP : PA P br) : ∃ w', Run P w s n x.bs w' ⟨s.fd ++ [⟨"number", n, none⟩], s.fd.length :: s.wt⟩ ∧ w'.br = br ∧ NuW w'.md := by
  obtain ⟨w1, r1, b1, m1⟩ := run_int (s := s) (n := n) h hw hm hP
  obtain ⟨w2, r2, b2, m2⟩ := run_frac (s := ⟨s.fd ++ [⟨"number", n, none⟩], s.fd.length :: s.wt⟩) (n := n + (((if x.g = true then [45] else []) ++ x.ip).length : Int)) h.hf b1 m1 hP
  obtain ⟨w3, r3, b3, m3⟩ := run_exp (s := ⟨s.fd ++ [⟨"number", n, none⟩], s.fd.length :: s.wt⟩) (n := n + (((if x.g = true then [45] else []) ++ x.ip).length : Int) + ((if x.fr = [] then [] else 46 :: x.fr : List Int).length : Int)) h b2 m2 hP
  refine ⟨w3, ?_, b3, m3⟩
  unfold NumF.bs
  rw [← List.append_assoc]
  exact r1.app rfl (r2.app rfl r3)
/-! trees -/
def isNum : T → Prop
  | .tok k _ _ => k = "number"
  | _ => False
def PX (P : Wk → Prop) (br : List Bool) : Prop := PT P br ∧ ∀ w : Wk, br.length < w.br.length → P w
theorem PX.pa (h : PX P br) : PA P (br ++ [f]) := fun w hw => h.2 w (by rw [hw, List.length_append]; exact Nat.lt_succ_self _)
theorem PX.px (h : PX P br) : PX P (br ++ [f]) := ⟨fun w hw _ => h.pa w hw, fun w hw => h.2 w (by rw [List.length_append] at hw; omega)⟩
theorem run_tok {k : Str} {bs : List Int} {v : PyData} (ho : OkK k bs v) (hw : w.br = br) (hm : VaM w.md) (hP : PT P br) (hN : k = "number" → PA P br) (i : Int) (hi : i = (s.fd.length : Int)) :
    ∃ w' s', Run P w s n bs w' s' ∧ Post br ⟨s.fd ++ [⟨k, n, some (n + (bs.length : Int), i + 1)⟩], s.wt⟩ (n + (bs.length : Int)) w' s' := by
  subst hi
  have hv : P w := hP w hw (by rcases hm with e | e <;> rw [e]; exact md_value.2.2.1; exact md_first.2.2.1)
  have two : ∀ {m : List Int} {k : Str}, (∃ w', Run P w s n m w' ⟨s.fd ++ [⟨k, n, some (n + (m.length : Int), (s.fd.length : Int) + 1)⟩], s.wt⟩ ∧ w'.br = br ∧ w'.md = endM br) → ∃ w' s', Run P w s n m w' s' ∧ Post br ⟨s.fd ++ [⟨k, n, some (n + (m.length : Int), (s.fd.length : Int) + 1)⟩], s.wt⟩ (n + (m.length : Int)) w' s' := fun ⟨w', r, e1, e2⟩ => ⟨w', _, r, e1, .inl ⟨e2, rfl⟩⟩
  cases ho with
  | nul => exact two (run_word (a := 110) (r := [117, 108, 108]) (k := "null") hw hm hP hv (by decide) (by decide +kernel) (by decide) (by decide) rfl)
  | tru => exact two (run_word (a := 116) (r := [114, 117, 101]) (k := "true") hw hm hP hv (by decide) (by decide +kernel) (by decide) (by decide) rfl)
  | fls => exact two (run_word (a := 102) (r := [97, 108, 115, 101]) (k := "false") hw hm hP hv (by decide) (by decide +kernel) (by decide) (by decide) rfl)
  | text h => exact two (run_text h hw hm hP hv)
  | num h =>
    obtain ⟨w', r, e1, e2⟩ := run_num (s := s) (n := n) h hw hm (hN rfl)
    exact ⟨w', _, r, e1, .inr ⟨e2, by rw [fin_top]; show some (NS.mk (s.fd ++ [⟨_, _, some (_, (s.fd.length : Int) + 1 + 0)⟩]) _) = _; rw [Int.add_zero]⟩⟩
/-- within brackets: nothing yet, or behind a value -/
def Pre (f z : Bool) (br : List Bool) (S : NS) (n : Int) (w : Wk) (s : NS) : Prop := if z = true then w.br = br ∧ w.md = fmM f ∧ s = S else Post br S n w s
theorem run_sep {z : Bool} {sp : List Int} (h : SepO z sp) (hp : Pre f z (br ++ [f]) S n w s) (hP : PX P br) : ∃ w', Run P w s n sp w' S ∧ w'.br = br ++ [f] ∧ (if f = true then w'.md = "member" ∨ w'.md = "name" else VaM w'.md) := by
  cases z with
  | true =>
    obtain ⟨hb, hm, rfl⟩ := hp
    refine ⟨w, run_white (by rw [hm]; cases f; exact .inr (.inl rfl); exact .inr (.inr (.inl rfl))) (hP.pa w hb) h, hb, ?_⟩
    rw [hm]
    cases f
    · rw [if_neg Bool.false_ne_true]; exact .inr rfl
    · rw [if_pos rfl]; exact .inl rfl
  | false =>
    obtain ⟨a, b, rfl, ha, hb⟩ := h
    obtain ⟨w1, s1, r1, p1⟩ := post_white (ws := a) hp ha hP.pa
    obtain ⟨w2, r2, b2, m2⟩ := post_comma p1 (hP.pa w1 p1.1)
    refine ⟨w2, r1.app rfl (r2.app rfl (run_white ?_ (hP.pa w2 b2) hb)), b2, ?_⟩
    · rw [m2]; cases f; exact .inl rfl; exact .inr (.inr (.inr (.inl rfl)))
    · rw [m2]
      cases f
      · rw [if_neg Bool.false_ne_true]; exact .inl rfl
      · rw [if_pos rfl]; exact .inr rfl
theorem run_close {z : Bool} {ws : List Int} (hw : Wh ws) (hp : Pre f z (br ++ [f]) S n w s) (hP : PX P br) (hS : finN (n + (ws.length : Int) + 1) S = some S') : ∃ w', Run P w s n (ws ++ [clB f]) w' S' ∧ w'.br = br ∧ w'.md = endM br := by
  cases z with
  | true =>
    obtain ⟨hb, hm, rfl⟩ := hp
    obtain ⟨w2, r2, b2, m2⟩ := first_close (P := P) (s := s) (n := n + (ws.length : Int)) hb hm (hP.pa w hb) hS
    exact ⟨w2, (run_white (by rw [hm]; cases f; exact .inr (.inl rfl); exact .inr (.inr (.inl rfl))) (hP.pa w hb) hw).app rfl r2, b2, m2⟩
  | false =>
    obtain ⟨w1, s1, r1, p1⟩ := post_white (ws := ws) hp hw hP.pa
    obtain ⟨w2, r2, b2, m2⟩ := post_close p1 (hP.pa w1 p1.1) hS
    exact ⟨w2, r1.app rfl r2, b2, m2⟩
end
mutual
theorem run_T {P : Wk → Prop} : ∀ (t : T) {br : List Bool} {w : Wk} {s : NS} {n : Int}, OkT t → w.br = br → VaM w.md → br.length + dpT t ≤ 64 → PX P br → (isNum t → PA P br) →
    ∃ w' s', Run P w s n (pr t) w' s' ∧ Post br ⟨s.fd ++ (ndsT false t n (s.fd.length : Int)).map mkN, s.wt⟩ (n + ((pr t).length : Int)) w' s'
  | .tok k bs v, br, w, s, n, ho, hb, hm, hd, hP, hN => by
    unfold OkT at ho
    rw [pr, ndsT]
    exact run_tok ho hb hm hP.1 hN _ rfl
  | .br f ws es, br, w, s, n, ho, hb, hm, hd, hP, hN => by
    unfold OkT at ho
    rw [dpT] at hd
    have hv : P w := hP.1 w hb (by rcases hm with e | e <;> rw [e]; exact md_value.2.2.1; exact md_first.2.2.1)
    obtain ⟨w1, r1, b1, m1⟩ := run_open (f := f) (s := s) (n := n) hb hm (by omega) hv
    obtain ⟨w2, s2, r2, p2⟩ := run_E es (f := f) (br := br) (z := true) (w := w1) (s := ⟨s.fd ++ [⟨kst f, n, none⟩], s.fd.length :: s.wt⟩) (S := ⟨s.fd ++ [⟨kst f, n, none⟩], s.fd.length :: s.wt⟩) (n := n + 1) ho.2 (by show _ ∧ _ ∧ _; exact ⟨b1, m1, rfl⟩) (by omega) hP
    have hS : finN (n + 1 + ((prE es).length : Int) + (ws.length : Int) + 1) ⟨(s.fd ++ [(⟨kst f, n, none⟩ : Nn)]) ++ (ndsE false f es (n + 1) (((s.fd ++ [(⟨kst f, n, none⟩ : Nn)]).length : Nat) : Int)).map mkN, s.fd.length :: s.wt⟩ = some ⟨s.fd ++ (ndsT false (.br f ws es) n (s.fd.length : Int)).map mkN, s.wt⟩ := by
      rw [List.append_assoc, List.singleton_append, fin_top, ndsT, List.map_cons, List.length_map, ndsE_len, List.length_append, List.length_singleton]
      unfold mkN
      dsimp only
      rw [show n + 1 + ((prE es).length : Int) + (ws.length : Int) + 1 = n + 2 + ((prE es).length : Int) + (ws.length : Int) by omega]
      rfl
    obtain ⟨w3, r3, b3, m3⟩ := run_close (n := n + 1 + ((prE es).length : Int)) ho.1 p2 hP hS
    rw [pr]
    exact ⟨w3, _, r1.app rfl (r2.app rfl r3), b3, .inl ⟨m3, rfl⟩⟩
theorem run_E {P : Wk → Prop} : ∀ (es : Es) {f : Bool} {br : List Bool} {z : Bool} {w : Wk} {s S : NS} {n : Int}, OkE f es z → Pre f z (br ++ [f]) S n w s → br.length + 1 + dpE es ≤ 64 → PX P br →
    ∃ w' s', Run P w s n (prE es) w' s' ∧ Pre f (z && isNil es) (br ++ [f]) ⟨S.fd ++ (ndsE false f es n (S.fd.length : Int)).map mkN, S.wt⟩ (n + ((prE es).length : Int)) w' s'
  | .nil, f, br, z, w, s, S, n, ho, hp, hd, hP => by
    rw [prE, ndsE]
    refine ⟨w, s, .nil, ?_⟩
    rw [List.map_nil, List.append_nil]
    show Pre f (z && true) _ _ (n + 0) w s
    rw [Bool.and_true, Int.add_zero]
    exact hp
  | .cons sp q p c t es, f, br, z, w, s, S, n, ho, hp, hd, hP => by
    unfold OkE at ho
    obtain ⟨h1, h2, h3, h4⟩ := ho
    rw [dpE] at hd
    obtain ⟨w1, r1, b1, m1⟩ := run_sep h1 hp hP
    have hbl : (br ++ [f]).length = br.length + 1 := by rw [List.length_append]; rfl
    -- the name, the value
    obtain ⟨w2, s2, r2, p2⟩ : ∃ w' s', Run P w1 S (n + (sp.length : Int)) (q ++ (c ++ pr t)) w' s' ∧ Post (br ++ [f]) ⟨S.fd ++ ((if f = true then [(⟨"name", n + (sp.length : Int), n + (sp.length : Int) + (q.length : Int), (S.fd.length : Int) + 1⟩ : Nd)] else []) ++ ndsT false t (n + (sp.length : Int) + (q.length : Int) + (c.length : Int)) ((S.fd.length : Int) + (if f = true then 1 else 0))).map mkN, S.wt⟩ (n + (sp.length : Int) + (q.length : Int) + (c.length : Int) + ((pr t).length : Int)) w' s' := by
      cases f with
      | false =>
        obtain ⟨rfl, rfl, rfl⟩ := h2
        obtain ⟨w2, s2, r2, p2⟩ := run_T t (w := w1) (s := S) (n := n + (sp.length : Int)) (br := br ++ [false]) h3 b1 (by rw [if_neg Bool.false_ne_true] at m1; exact m1) (by omega) hP.px (fun _ => hP.pa)
        refine ⟨w2, s2, r2, ?_⟩
        simp only [List.length_nil, Bool.false_eq_true, if_false, List.nil_append]
        rw [show n + (sp.length : Int) + ((0 : Nat) : Int) + ((0 : Nat) : Int) = n + (sp.length : Int) by omega, show (S.fd.length : Int) + 0 = (S.fd.length : Int) by omega]
        exact p2
      | true =>
        obtain ⟨⟨b, rfl, hb⟩, hc⟩ := h2
        obtain ⟨w2, r2, b2, m2⟩ := run_name (s := S) (n := n + (sp.length : Int)) hb b1 (by rw [if_pos rfl] at m1; exact m1) (fun w hw _ => hP.pa w hw)
        obtain ⟨w3, r3, b3, m3⟩ := run_colon (s := ⟨S.fd ++ [⟨"name", n + (sp.length : Int), some (n + (sp.length : Int) + ((34 :: (b ++ [34])).length : Int), (S.fd.length : Int) + 1)⟩], S.wt⟩) (n := n + (sp.length : Int) + ((34 :: (b ++ [34])).length : Int)) hc b2 m2 (fun w hw _ => hP.pa w hw)
        obtain ⟨w4, s4, r4, p4⟩ := run_T t (w := w3) (s := ⟨S.fd ++ [⟨"name", n + (sp.length : Int), some (n + (sp.length : Int) + ((34 :: (b ++ [34])).length : Int), (S.fd.length : Int) + 1)⟩], S.wt⟩) (n := n + (sp.length : Int) + ((34 :: (b ++ [34])).length : Int) + (c.length : Int)) (br := br ++ [true]) h3 b3 (.inl m3) (by omega) hP.px (fun _ => hP.pa)
        refine ⟨w4, s4, r2.app rfl (r3.app rfl r4), ?_⟩
        rw [if_pos rfl, if_pos rfl, List.map_append, ← List.append_assoc]
        rw [List.length_append] at p4
        exact p4
    obtain ⟨w3, s3, r3, p3⟩ := run_E es (f := f) (br := br) (z := false) (w := w2) (s := s2) (S := _) (n := n + (sp.length : Int) + (q.length : Int) + (c.length : Int) + ((pr t).length : Int)) h4 p2 (by omega) hP
    refine ⟨w3, s3, ?_, ?_⟩
    · rw [prE, show sp ++ (q ++ (c ++ (pr t ++ prE es))) = sp ++ ((q ++ (c ++ pr t)) ++ prE es) by simp only [List.append_assoc]]
      exact r1.app rfl (r2.app (by simp only [List.length_append]; omega) r3)
    · rw [show (z && isNil (.cons sp q p c t es)) = false by cases z <;> rfl]
      have e : n + ((prE (.cons sp q p c t es)).length : Int) = n + (sp.length : Int) + (q.length : Int) + (c.length : Int) + ((pr t).length : Int) + ((prE es).length : Int) := by
        rw [prE]; simp only [List.length_append]; omega
      rw [e]
      rw [ndsE]
      have e2 : (((S.fd ++ ((if f = true then [(⟨"name", n + (sp.length : Int), n + (sp.length : Int) + (q.length : Int), (S.fd.length : Int) + 1⟩ : Nd)] else []) ++ ndsT false t (n + (sp.length : Int) + (q.length : Int) + (c.length : Int)) ((S.fd.length : Int) + (if f = true then 1 else 0))).map mkN).length : Nat) : Int) = (S.fd.length : Int) + (if f = true then 1 else 0) + (cnt t : Int) := by
        rw [List.length_append, List.length_map, List.length_append, nds_len]
        cases f <;> simp <;> omega
      dsimp only at p3
      rw [e2, List.append_assoc, ← List.map_append, List.append_assoc] at p3
      exact p3
end

/-! J_text -/
theorem over_root {w : Wk} {md : Str} (hb : w.br = []) (hm : w.md = md) (hd : decide (md ∈ (["done", "zero", "whole", "part", "powers"] : List Str)) = true) : (f_over w).2 = true := by
  unfold f_over
  dsimp only
  rw [hb, hm, hd]; rfl
theorem Post.over {S : NS} {n : Int} {w : Wk} {s : NS} (h : Post [] S n w s) (hS : S.wt = []) : (f_over w).2 = true ∧ endN n s = some S := by
  obtain ⟨hb, h⟩ := h
  rcases h with ⟨hm, rfl⟩ | ⟨hm, hf⟩
  · exact ⟨over_root hb (show w.md = "done" from hm) md_done.2.2.1, if_pos hS⟩
  · refine ⟨?_, ?_⟩
    · rcases hm with e | e | e | e
      · exact over_root hb e md_zero.2.2.1
      · exact over_root hb e md_whole.2.2.1
      · exact over_root hb e md_part.2.2.1
      · exact over_root hb e md_powers.2.2.1
    · unfold endN
      rw [if_neg (finN_len hf).2.1]; exact hf
/-- the run over a whole text -/
theorem run_text_all {lead trail : List Int} {t : T} (hl : Wh lead) (ht : Wh trail) (ho : OkT t) (hd : dpT t ≤ 64) :
    ∃ w s, Run (fun _ => True) w0 ⟨[], []⟩ 0 (lead ++ (pr t ++ trail)) w s ∧ Post [] ⟨(ndsT false t (lead.length : Int) 0).map mkN, []⟩ ((lead ++ (pr t ++ trail)).length : Int) w s := by
  have hP : PX (fun _ => True) [] := ⟨fun _ _ _ => trivial, fun _ _ => trivial⟩
  have r0 : Run (fun _ => True) w0 ⟨[], []⟩ 0 lead w0 ⟨[], []⟩ := run_white (.inl rfl) trivial hl
  obtain ⟨w1, s1, r1, p1⟩ := run_T (P := fun _ => True) t (br := []) (w := w0) (s := ⟨[], []⟩) (n := 0 + (lead.length : Int)) ho rfl (.inl rfl) (by show 0 + _ ≤ _; omega) hP (fun _ _ _ => trivial)
  obtain ⟨w2, s2, r2, p2⟩ := post_white (P := fun _ => True) (ws := trail) p1 ht (fun _ _ => trivial)
  refine ⟨w2, s2, r0.app rfl (r1.app rfl r2), ?_⟩
  rw [show ((lead ++ (pr t ++ trail)).length : Int) = 0 + (lead.length : Int) + ((pr t).length : Int) + (trail.length : Int) by simp only [List.length_append]; omega]
  rw [Int.zero_add] at p2 ⊢
  exact p2
theorem nodes_T {lead trail : List Int} {t : T} (hl : Wh lead) (ht : Wh trail) (ho : OkT t) (hd : dpT t ≤ 64) : f_nodes (lead ++ (pr t ++ trail)) = some (.inr (ndsT true t (lead.length : Int) 0)) := by
  obtain ⟨w, s, r, p⟩ := run_text_all hl ht ho hd
  have h := r.go []
  rw [List.append_nil, Int.zero_add] at h
  unfold f_nodes
  obtain ⟨h1, h2⟩ := p.over rfl
  rw [h, nGo, if_pos h1, h2, Option.bind_some]
  have hw := (whole_T t (lead.length : Int) 0 (l := []) (m := []) ho rfl).1
  rw [List.append_nil, List.append_nil] at hw
  dsimp only
  rw [hw]; rfl

/-! fault -/
abbrev s_Walker_init : Stmt := inClass (topS 26) 0
abbrev n_Walker_init : List Str := ["self"]
theorem c_Walker_init : FnScope n_Walker_init ["self"] (defScope s_Walker_init) := ⟨rfl, rfl, rfl, by decide +kernel, rfl, by decide +kernel, by decide +kernel⟩
theorem h_Walker_init {fI : Addr} {fd : FuncData} (F : Fun K "__init__" "Walker.__init__" s_Walker_init fI fd) (C_O : OCls K a_Walker WalkerK) : FnOk P w K mg base (L2.CX P w) 1 fI fd ["self"] (spG K (S_Walker a_Walker)) := by
  refine fn_G F c_Walker_init (fun ρa Po ⟨p, dx, h, _⟩ => by rw [h]; rfl) ?_
  rintro cdv A outer s H E hr O ρa Po ⟨p, dx, rfl, rfl⟩
  refine ds_cons (ds_fldMN C_O.cl (C_O.na _ (by decide +kernel)) (n := 0) rfl (k := 0) rfl (l := 0) rfl rfl (ne_lst ad_nil (by decide)) (by decide +kernel) (by decide) fun pb_brackets => ?_)
  refine ds_cons (ds_fldM C_O.cl (C_O.na _ (by decide +kernel)) (n := 0) rfl (k := 0) rfl (re_nm (i := 0) rfl rfl) de_str (by decide +kernel) (by decide) ?_)
  refine ds_cons (ds_fldM C_O.cl (C_O.na _ (by decide +kernel)) (n := 0) rfl (k := 0) rfl (re_nm (i := 0) rfl rfl) de_bl (by decide +kernel) (by decide) ?_)
  refine ds_cons (ds_fldM C_O.cl (C_O.na _ (by decide +kernel)) (n := 0) rfl (k := 0) rfl (re_nm (i := 0) rfl rfl) de_int (by decide +kernel) (by decide) ?_)
  refine ds_cons (ds_fldM C_O.cl (C_O.na _ (by decide +kernel)) (n := 0) rfl (k := 0) rfl (re_nm (i := 0) rfl rfl) de_int (by decide +kernel) (by decide) ?_)
  refine ds_cons (ds_fldM C_O.cl (C_O.na _ (by decide +kernel)) (n := 0) rfl (k := 0) rfl (re_nm (i := 0) rfl rfl) de_int (by decide +kernel) (by decide) ?_)
  refine ds_cons (ds_fldM C_O.cl (C_O.na _ (by decide +kernel)) (n := 0) rfl (k := 0) rfl (re_nm (i := 0) rfl rfl) de_int (by decide +kernel) (by decide) ?_)
  refine ds_cons (ds_fldM C_O.cl (C_O.na _ (by decide +kernel)) (n := 0) rfl (k := 0) rfl (re_nm (i := 0) rfl rfl) (de_tup ad_nil (by decide)) (by decide +kernel) (by decide) ?_)
  exact ds_nil ⟨_, _, ⟨pb_brackets, rfl, rfl⟩, kp_st (u := .ref p) 0 rfl, Or.inl rfl⟩
abbrev s_fault : Stmt := topS 43
abbrev n_fault : List Str := ["row", "walker", "at", "byte"]
theorem c_fault : FnScope n_fault ["row"] (defScope s_fault) := ⟨rfl, rfl, rfl, by decide +kernel, rfl, by decide +kernel, by decide +kernel⟩
def goF (w : Wk) : List Int → Nat → Option Nat
  | [], n => if (f_over w).2 = true then none else some n
  | b :: r, n => if (f_stepped w b).2 = true then goF (f_stepped w b).1 r (n + 1) else some n
def f_fault (row : List Int) : Option Nat := goF w0 row 0
def natD : Option Nat → PyData
  | none => .none
  | some n => .int n
def S_fault : List PyData → Out → Prop := fun ds o => ∃ row : List Int, ds = [.list (row.map .int)] ∧ row.length ≤ 1000000 ∧ o = .ok (natD (f_fault row))

theorem h_fault (Df : Def K mg "fault" s_fault) (B : BI mg) (C_O_Walker : OCls K a_Walker WalkerK) (C_MK_Walker : MkG P w K mg base "Walker" a_Walker 1 (S_Walker a_Walker)) (G_over : HasG P w K mg base "over" 1 (S_over a_Walker)) (G_stepped : HasG P w K mg base "stepped" 6 (S_stepped a_Walker)) : Has P w K mg base "fault" 7 (S_fault) := by
  have nd := c_fault.nd
  refine has_pu Df c_fault (fun _ _ _ _ _ _ us hl => match us, hl with | [_], _ => rfl) ?_ ?_
  · rintro ds o ⟨row, rfl, hl, rfl⟩; rfl
  rintro f cdv A outer s H E hr O ds out ⟨row, rfl, hl, rfl⟩
  refine ds_cons (ds_asgMk (n := 1) C_MK_Walker (hr.mono (by first | decide | omega)) nd (fun p_ dx_ => ⟨p_, dx_, rfl, rfl⟩) (fun p_ dx_ ρb_ o_ h_ => ?_) (fun p1 dx1 μ_ o_ h_ => ?_))
  · obtain ⟨pb_, h1_, h2_⟩ := h_; exact ⟨h2_, _, h1_⟩
  obtain ⟨pb1, h1_, h2_⟩ := h_
  cases h1_
  refine ds_cons (ds_asg (n := 2) nd (de_int) ?_)
  refine ds_cons (ds_for (n := 3) (passes_of rfl) rfl nd (ie_lst (de_va (i := 0) rfl)) (fun m ρ => ∃ w b3, ρ = [.va (.list (row.map .int)), .st (.ref p1) (wst a_Walker p1 dx1 pb1 w), .va (.int m), b3] ∧ okW w ∧ f_fault row = goF w (row.drop m) m) (⟨w0, _, rfl, ok_w0, rfl⟩) ?_ ?_)
  · rintro m d ρ' hd ⟨w, b3, rfl, hw, hf⟩
    obtain ⟨b, hb, rfl, hm⟩ := ints_at hd
    rw [drop_at hb] at hf
    obtain ⟨br, md, nm, lf, lo, hi, nu, wd⟩ := w
    have hw2 := ok_step b hw
    refine ds_cons (ds_ifC (ct_not (CE.t (ce_callG0 (n := 1) G_stepped (hr.mono (by first | decide | omega)) rfl (re_nm (i := 1) rfl rfl) (aw_va (de_va (i := 3) rfl) aw_nil) (⟨_, _, _, _, _, _, _, _, _, _, _, _, rfl, ⟨hw.1, hw.2.1, by have := hw.2.2; dsimp only at this; omega⟩, rfl⟩)))) (fun hc => ?_) (fun hc => ?_))
    · simp only [Bool.and_eq_true, Bool.or_eq_true, Bool.and_eq_false_iff, Bool.or_eq_false_iff, Bool.not_eq_true', Bool.not_eq_false', decide_eq_true_eq, decide_eq_false_iff_not, Bool.not_not, Bool.not_eq_true, Bool.not_eq_false, List.isEmpty_eq_false_iff, List.isEmpty_iff, beq_iff_eq, ne_eq] at hc
      refine ds_cons (ds_ret (de_va (i := 2) rfl) (Or.inl ?_))
      rw [hf, goF, if_neg (by rw [hc]; exact Bool.false_ne_true)]; rfl
    · simp only [Bool.and_eq_true, Bool.or_eq_true, Bool.and_eq_false_iff, Bool.or_eq_false_iff, Bool.not_eq_true', Bool.not_eq_false', decide_eq_true_eq, decide_eq_false_iff_not, Bool.not_not, Bool.not_eq_true, Bool.not_eq_false, List.isEmpty_eq_false_iff, List.isEmpty_iff, beq_iff_eq, ne_eq] at hc
      refine ds_nil ?_
      refine ds_cons (ds_asg (n := 2) nd (de_add (de_va (i := 2) rfl).b (de_int).b) ?_)
      exact ds_nil ⟨_, _, rfl, hw2, by rw [hf, goF, if_pos hc]⟩
  · rintro ρ' ⟨w, b3, rfl, hw, hf⟩
    rw [List.length_map, List.drop_length] at hf
    obtain ⟨br, md, nm, lf, lo, hi, nu, wd⟩ := w
    refine ds_cons (ds_ifC (CE.t (ce_callG0 (n := 1) G_over (hr.mono (by first | decide | omega)) rfl (re_nm (i := 1) rfl rfl) aw_nil (⟨_, _, _, _, _, _, _, _, _, _, _, rfl, rfl⟩))) (fun hc => ?_) (fun hc => ?_))
    · skip
      refine ds_cons (ds_ret (de_non) (Or.inl ?_))
      rw [hf, goF, if_pos hc]; rfl
    · skip
      refine ds_nil ?_
      refine ds_cons (ds_ret (de_va (i := 2) rfl) (Or.inl ?_))
      rw [hf, goF, if_neg (by rw [hc]; exact Bool.false_ne_true), List.length_map]; rfl
/-! J_textf -/
/-! faults -/
theorem Run.goF {P : Wk → Prop} {w w1 : Wk} {s s1 : NS} {n : Int} {r : List Int} (h : Run P w s n r w1 s1) (r2 : List Int) : ∀ m : Nat, goF w (r ++ r2) m = goF w1 r2 (m + r.length) := by
  induction h with
  | nil => intro m; rfl
  | @cons w w1 w' s s1 s' n b r hp e1 e2 e3 ih =>
    intro m
    rw [List.cons_append, Kx.goF, e1, if_pos rfl]
    dsimp only
    rw [ih, List.length_cons]
    congr 1
    omega
theorem fault_T {lead trail : List Int} {t : T} (hl : Wh lead) (ht : Wh trail) (ho : OkT t) (hd : dpT t ≤ 64) : f_fault (lead ++ (pr t ++ trail)) = none := by
  obtain ⟨w, s, r, p⟩ := run_text_all hl ht ho hd
  have h := r.goF [] 0
  rw [List.append_nil] at h
  unfold f_fault
  rw [h, Kx.goF, if_pos (p.over rfl).1]
/-- what is cut -/
def P0 (w : Wk) : Prop := (f_over w).2 = false
theorem P0_no {w : Wk} (h : decide (w.md ∈ (["done", "zero", "whole", "part", "powers"] : List Str)) = false) : P0 w := by
  unfold P0 f_over
  dsimp only
  rw [h, Bool.and_false]
theorem P0_br {w : Wk} (h : w.br ≠ []) : P0 w := by
  unfold P0 f_over
  dsimp only
  cases hb : w.br with
  | nil => exact absurd hb h
  | cons x r => rfl
theorem P0_PX : PX P0 [] := ⟨fun w _ h => P0_no h, fun w h => P0_br fun e => by rw [e] at h; exact absurd h (Nat.lt_irrefl _)⟩
def leftT (lead : List Int) (t : T) : Nat := lead.length + (pr t).length
theorem fault_cut {lead trail : List Int} {t : T} (hl : Wh lead) (ht : Wh trail) (ho : OkT t) (hd : dpT t ≤ 64) {k : Nat} (hk : k ≤ (lead ++ (pr t ++ trail)).length) :
    f_fault ((lead ++ (pr t ++ trail)).take k) = some k ∨ (f_fault ((lead ++ (pr t ++ trail)).take k) = none ∧ (leftT lead t ≤ k ∨ (isNum t ∧ lead.length < k))) := by
  have len : ((lead ++ (pr t ++ trail)).take k).length = k := by rw [List.length_take]; omega
  have one : ∀ {P : Wk → Prop} {w : Wk} {s : NS}, Run P w0 ⟨[], []⟩ 0 ((lead ++ (pr t ++ trail)).take k) w s → f_fault ((lead ++ (pr t ++ trail)).take k) = if (f_over w).2 = true then none else some k := by
    intro P w s r
    have h := r.goF [] 0
    rw [List.append_nil] at h
    unfold f_fault
    rw [h, Kx.goF, len, Nat.zero_add]
  by_cases h1 : leftT lead t ≤ k
  · obtain ⟨w, s, r, p⟩ := run_text_all hl ht ho hd
    rw [← List.take_append_drop k (lead ++ (pr t ++ trail))] at r
    obtain ⟨w1, s1, r1, _⟩ := r.split
    rw [one r1]
    split
    · exact .inr ⟨rfl, .inl h1⟩
    · exact .inl rfl
  have hk2 : (lead ++ (pr t ++ trail)).take k = (lead ++ pr t).take k := by
    rw [← List.append_assoc, List.take_append_of_le_length]
    unfold leftT at h1
    rw [List.length_append]; omega
  have r0 : Run P0 w0 ⟨[], []⟩ 0 lead w0 ⟨[], []⟩ := run_white (.inl rfl) (P0_no md_value.2.2.1) hl
  -- the run up to there, and none of its states is a whole text's
  have fin : ∀ {P : Wk → Prop} {w1 w2 : Wk} {s1 s2 : NS} {row : List Int}, Run P w0 ⟨[], []⟩ 0 row w2 s2 → row.take k = (lead ++ (pr t ++ trail)).take k → (∀ w, P w → P0 w) → k < row.length → f_fault ((lead ++ (pr t ++ trail)).take k) = some k := by
    intro P w1 w2 s1 s2 row r e hP hkl
    rw [← List.take_append_drop k row] at r
    obtain ⟨w3, s3, r3, r4⟩ := r.split
    rw [e] at r3
    rw [one r3, if_neg]
    have := hP w3 (r4.hd (fun z => by have := congrArg List.length z; rw [List.length_drop, List.length_nil] at this; omega))
    unfold P0 at this
    rw [this]; exact Bool.false_ne_true
  by_cases h2 : isNum t
  · by_cases h3 : lead.length < k
    · obtain ⟨w, s, r, p⟩ := run_text_all hl ht ho hd
      rw [← List.take_append_drop k (lead ++ (pr t ++ trail))] at r
      obtain ⟨w1, s1, r1, _⟩ := r.split
      rw [one r1]
      split
      · exact .inr ⟨rfl, .inr ⟨h2, h3⟩⟩
      · exact .inl rfl
    · left
      have e : (lead ++ (pr t ++ trail)).take k = lead.take k := List.take_append_of_le_length (by omega)
      have r1 := r0
      rw [← List.take_append_drop k lead] at r1
      obtain ⟨w3, s3, r3, r4⟩ := r1.split
      rw [← e] at r3
      rw [one r3]
      have hw : P0 w3 := by
        by_cases hkl : k < lead.length
        · exact r4.hd (fun z => by have := congrArg List.length z; rw [List.length_drop, List.length_nil] at this; omega)
        · rw [List.drop_eq_nil_of_le (by omega)] at r4
          cases r4
          exact P0_no md_value.2.2.1
      unfold P0 at hw
      rw [hw, if_neg Bool.false_ne_true]
  · left
    obtain ⟨w1, s1, r1, p1⟩ := run_T (P := P0) t (br := []) (w := w0) (s := ⟨[], []⟩) (n := 0 + (lead.length : Int)) ho rfl (.inl rfl) (by show 0 + _ ≤ _; omega) P0_PX (fun h => absurd h h2)
    exact fin (w1 := w1) (s1 := s1) (r0.app rfl r1) hk2.symm (fun _ h => h) (by unfold leftT at h1; rw [List.length_append]; omega)

/-! J_read -/
/-! k07: a plain reader's parts, on what is left of the row, and the walker -/
def contR : Nat → Int → Int → Nat → List Int → Sum Nat Nat
  | 0, _, _, k, _ => .inr k
  | _ + 1, _, _, k, [] => .inl k
  | n + 1, lo, hi, k, c :: r => if lo ≤ c ∧ c ≤ hi then contR n 128 191 (k + 1) r else .inl k
def loB (b : Int) : Int := if b = 224 then 160 else if b = 240 then 144 else 128
def hiB (b : Int) : Int := if b = 237 then 159 else if b = 244 then 143 else 191
def manyB (b : Int) : Nat := 1 + (if 224 ≤ b then 1 else 0) + (if 240 ≤ b then 1 else 0)
def sgnR : List Int → Sum Nat Nat
  | [] => .inl 0
  | b :: r => if b < 128 then .inr 1 else if b < 194 ∨ 244 < b then .inl 0 else contR (manyB b) (loB b) (hiB b) 1 r
section
variable {br : List Bool} {nm : Bool} {lf lo hi nu : Int} {wd : List Int} {m : Nat}
theorem ov_no {md : Str} (h : decide (md ∈ (["done", "zero", "whole", "part", "powers"] : List Str)) = false) : (f_over ⟨br, md, nm, lf, lo, hi, nu, wd⟩).2 = false := by
  unfold f_over
  dsimp only
  rw [h, Bool.and_false]
theorem goF_nil {w : Wk} (h : (f_over w).2 = false) : goF w [] m = some m := by rw [goF, if_neg (by rw [h]; exact Bool.false_ne_true)]
theorem goF_yes {w w' : Wk} {b : Int} {r : List Int} (h : f_stepped w b = (w', true)) : goF w (b :: r) m = goF w' r (m + 1) := by rw [goF, h, if_pos rfl]
theorem goF_no {w w' : Wk} {b : Int} {r : List Int} (h : f_stepped w b = (w', false)) : goF w (b :: r) m = some m := by rw [goF, h, if_neg Bool.false_ne_true]
theorem cont_go : ∀ (n : Nat) (lo hi : Int) (k : Nat) (r : List Int) (m : Nat), (∀ j, contR (n + 1) lo hi k r = .inl j → k ≤ j ∧ goF ⟨br, "sign", nm, ((n + 1 : Nat) : Int), lo, hi, nu, wd⟩ r (m + k) = some (m + j)) ∧
    (∀ j, contR (n + 1) lo hi k r = .inr j → k + (n + 1) = j ∧ ∃ lf' lo' hi', goF ⟨br, "sign", nm, ((n + 1 : Nat) : Int), lo, hi, nu, wd⟩ r (m + k) = goF ⟨br, "text", nm, lf', lo', hi', nu, wd⟩ (r.drop (n + 1)) (m + j)) := by
  intro n
  induction n with
  | zero =>
    intro lo hi k r m
    cases r with
    | nil => exact ⟨fun j h => by cases h; exact ⟨Nat.le_refl _, goF_nil (ov_no md_sign.2.2.1)⟩, fun j h => by cases h⟩
    | cons c r =>
      rw [contR]
      by_cases h : lo ≤ c ∧ c ≤ hi
      · rw [if_pos h]
        refine ⟨fun j h => (by cases h), fun j h2 => ?_⟩
        cases h2
        refine ⟨rfl, ((0 + 1 : Nat) : Int) - 1, 128, 191, ?_⟩
        rw [goF_yes (w' := ⟨br, "text", nm, ((0 + 1 : Nat) : Int) - 1, 128, 191, nu, wd⟩) (by
          rw [st_sign]; unfold f_in_sign; dsimp only
          rw [decide_eq_true h.1, decide_eq_true h.2]; rfl)]
        rfl
      · rw [if_neg h]
        refine ⟨fun j h2 => ?_, fun j h => by cases h⟩
        cases h2
        refine ⟨Nat.le_refl _, goF_no (w' := ⟨br, "sign", nm, ((0 + 1 : Nat) : Int), lo, hi, nu, wd⟩) ?_⟩
        rw [st_sign]; unfold f_in_sign; dsimp only
        rw [if_pos (by rw [← Bool.decide_and, decide_eq_false h]; rfl)]
  | succ n ih =>
    intro lo hi k r m
    cases r with
    | nil => exact ⟨fun j h => by cases h; exact ⟨Nat.le_refl _, goF_nil (ov_no md_sign.2.2.1)⟩, fun j h => by cases h⟩
    | cons c r =>
      rw [contR]
      by_cases h : lo ≤ c ∧ c ≤ hi
      · rw [if_pos h]
        obtain ⟨i1, i2⟩ := ih 128 191 (k + 1) r m
        have hst : f_stepped ⟨br, "sign", nm, ((n + 1 + 1 : Nat) : Int), lo, hi, nu, wd⟩ c = (⟨br, "sign", nm, ((n + 1 : Nat) : Int), 128, 191, nu, wd⟩, true) := by
          rw [st_sign]; unfold f_in_sign; dsimp only
          rw [decide_eq_true h.1, decide_eq_true h.2, if_neg (by decide), if_neg (by rw [decide_eq_true_eq]; omega)]
          congr 2; omega
        rw [goF_yes hst, Nat.add_assoc]
        refine ⟨fun j h2 => ?_, fun j h2 => ?_⟩
        · obtain ⟨a, b⟩ := i1 j h2
          exact ⟨by omega, b⟩
        · obtain ⟨a, b⟩ := i2 j h2
          exact ⟨by omega, b⟩
      · rw [if_neg h]
        refine ⟨fun j h2 => ?_, fun j h => by cases h⟩
        cases h2
        refine ⟨Nat.le_refl _, goF_no (w' := ⟨br, "sign", nm, ((n + 1 + 1 : Nat) : Int), lo, hi, nu, wd⟩) ?_⟩
        rw [st_sign]; unfold f_in_sign; dsimp only
        rw [if_pos (by rw [← Bool.decide_and, decide_eq_false h]; rfl)]
theorem fol_big {b : Int} (h1 : ¬ b < 128) (h2 : ¬ (b < 194 ∨ 244 < b)) : f_follows b = some (((manyB b : Nat) : Int), loB b, hiB b) := by
  unfold f_follows manyB loB hiB
  simp only [Bool.or_eq_true, decide_eq_true_eq]
  rw [if_neg h1, if_neg h2]
  repeat' split
  all_goals first | rfl | (exfalso; omega)
/-- a sign that is no quote and no backslash -/
theorem sgn_go {b : Int} {r : List Int} (h1 : 32 ≤ b) (h2 : b ≠ 34) (h3 : b ≠ 92) : (∀ j, sgnR (b :: r) = .inl j → goF ⟨br, "text", nm, lf, lo, hi, nu, wd⟩ (b :: r) m = some (m + j)) ∧
    (∀ j, sgnR (b :: r) = .inr j → 1 ≤ j ∧ ∃ lf' lo' hi', goF ⟨br, "text", nm, lf, lo, hi, nu, wd⟩ (b :: r) m = goF ⟨br, "text", nm, lf', lo', hi', nu, wd⟩ ((b :: r).drop j) (m + j)) := by
  have hst : f_stepped ⟨br, "text", nm, lf, lo, hi, nu, wd⟩ b = match f_follows b with
      | none => (⟨br, "text", nm, lf, lo, hi, nu, wd⟩, false)
      | some (n, l, h) => if decide (0 < n) = true then (⟨br, "sign", nm, n, l, h, nu, wd⟩, true) else (⟨br, "text", nm, lf, lo, hi, nu, wd⟩, true) := by
    rw [st_text]
    unfold f_in_plain
    rw [if_neg (by rw [decide_eq_true_eq]; exact h2), if_neg (by rw [decide_eq_true_eq]; exact h3)]
    cases hf : f_follows b with
    | none => rfl
    | some z =>
      obtain ⟨n, l, h⟩ := z
      dsimp only
      rw [if_neg (by rw [decide_eq_true_eq]; omega)]
  rw [sgnR]
  by_cases h4 : b < 128
  · rw [if_pos h4]
    have hf : f_follows b = some (0, 0, 0) := by unfold f_follows; rw [if_pos (decide_eq_true h4)]
    rw [hf] at hst
    refine ⟨fun j h => (by cases h), fun j h => ?_⟩
    cases h
    exact ⟨Nat.le_refl _, _, _, _, goF_yes hst⟩
  · rw [if_neg h4]
    by_cases h5 : b < 194 ∨ 244 < b
    · rw [if_pos h5]
      have hf : f_follows b = none := by
        unfold f_follows
        rw [if_neg (by rw [decide_eq_true_eq]; exact h4), if_pos (by rw [Bool.or_eq_true, decide_eq_true_eq, decide_eq_true_eq]; exact h5)]
      rw [hf] at hst
      refine ⟨fun j h => ?_, fun j h => by cases h⟩
      cases h
      exact goF_no hst
    · rw [if_neg h5]
      rw [fol_big h4 h5] at hst
      obtain ⟨n, hn⟩ : ∃ n, manyB b = n + 1 := ⟨manyB b - 1, by unfold manyB; omega⟩
      rw [hn] at hst ⊢
      replace hst : f_stepped ⟨br, "text", nm, lf, lo, hi, nu, wd⟩ b = (⟨br, "sign", nm, ((n + 1 : Nat) : Int), loB b, hiB b, nu, wd⟩, true) := hst.trans (if_pos (by rw [decide_eq_true_eq]; omega))
      obtain ⟨i1, i2⟩ := cont_go (br := br) (nm := nm) (nu := nu) (wd := wd) n (loB b) (hiB b) 1 r m
      rw [goF_yes hst]
      refine ⟨fun j h => (i1 j h).2, fun j h => ?_⟩
      obtain ⟨a, lf', lo', hi', e⟩ := i2 j h
      refine ⟨by omega, lf', lo', hi', ?_⟩
      rw [e, ← a, show 1 + (n + 1) = (n + 1) + 1 by omega, List.drop_succ_cons]
/-! hex figures -/
/-- four of them: the number, or -1, and how many were read -/
def hexR (low : Bool) : Nat → Int → List Int → Int × Nat
  | 0, nu, _ => (nu, 4)
  | j + 1, _, [] => (-1, 3 - j)
  | j + 1, nu, b :: r =>
    if f_hex_value b < 0 ∨ (j = 2 ∧ decide (220 ≤ nu * 16 + f_hex_value b ∧ nu * 16 + f_hex_value b ≤ 223) ≠ low) ∨ (j = 3 ∧ low = true ∧ f_hex_value b ≠ 13) then (-1, 3 - j)
    else hexR low j (nu * 16 + f_hex_value b) r
theorem dh1 : decide (("hex" : Str) = "hex") = true := by decide +kernel
theorem dh2 : decide (("hex" : Str) = "low hex") = false := by decide +kernel
theorem dh3 : decide (("low hex" : Str) = "hex") = false := by decide +kernel
theorem dh4 : decide (("low hex" : Str) = "low hex") = true := by decide +kernel
theorem hex_no {b : Int} (h : f_hex_value b < 0 ∨ (lf = 3 ∧ 220 ≤ nu * 16 + f_hex_value b ∧ nu * 16 + f_hex_value b ≤ 223)) : f_stepped ⟨br, "hex", nm, lf, lo, hi, nu, wd⟩ b = (⟨br, "hex", nm, lf, lo, hi, nu, wd⟩, false) := by
  rw [st_hex]
  unfold f_in_hex
  dsimp only
  by_cases h0 : f_hex_value b < 0
  · rw [if_pos (decide_eq_true h0)]
  · rw [if_neg (by rw [decide_eq_true_eq]; exact h0), dh1, if_pos (by simp only [Bool.true_and, Bool.and_eq_true, decide_eq_true_eq]; omega)]
theorem hex_ok {b : Int} (h0 : 0 ≤ f_hex_value b) (h : ¬ (lf = 3 ∧ 220 ≤ nu * 16 + f_hex_value b ∧ nu * 16 + f_hex_value b ≤ 223)) (hl : lf ≠ 1) : f_stepped ⟨br, "hex", nm, lf, lo, hi, nu, wd⟩ b = (⟨br, "hex", nm, lf - 1, lo, hi, nu * 16 + f_hex_value b, wd⟩, true) := by
  rw [st_hex]
  unfold f_in_hex
  dsimp only
  rw [if_neg (by rw [decide_eq_true_eq]; omega), dh1, dh2, if_neg (by simp only [Bool.true_and, Bool.and_eq_true, decide_eq_true_eq]; omega), if_neg (by simp), if_neg (by rw [decide_eq_true_eq]; omega)]
theorem hex_end {b : Int} (h0 : 0 ≤ f_hex_value b) : f_stepped ⟨br, "hex", nm, 1, lo, hi, nu, wd⟩ b = (⟨br, if 55296 ≤ nu * 16 + f_hex_value b ∧ nu * 16 + f_hex_value b ≤ 56319 then "half" else "text", nm, 0, lo, hi, nu * 16 + f_hex_value b, wd⟩, true) := by
  rw [st_hex]
  unfold f_in_hex
  dsimp only
  by_cases h3 : 55296 ≤ nu * 16 + f_hex_value b ∧ nu * 16 + f_hex_value b ≤ 56319
  · have e : (if 55296 ≤ nu * 16 + f_hex_value b ∧ nu * 16 + f_hex_value b ≤ 56319 then ("half" : Str) else "text") = "half" := if_pos h3
    rw [e, if_neg (by rw [decide_eq_true_eq]; omega), dh1, dh2, if_neg (by simp), if_neg (by simp), if_pos (by simp), if_pos (by simp only [Bool.true_and, Bool.and_eq_true, decide_eq_true_eq]; exact h3)]
    rfl
  · have e : (if 55296 ≤ nu * 16 + f_hex_value b ∧ nu * 16 + f_hex_value b ≤ 56319 then ("half" : Str) else "text") = "text" := if_neg h3
    rw [e, if_neg (by rw [decide_eq_true_eq]; omega), dh1, dh2, if_neg (by simp), if_neg (by simp), if_pos (by simp), if_neg (by simp only [Bool.true_and, Bool.and_eq_true, decide_eq_true_eq]; exact h3)]
    rfl
theorem low_no {b : Int} (h : f_hex_value b < 0 ∨ (lf = 4 ∧ nu * 16 + f_hex_value b ≠ 13) ∨ (lf = 3 ∧ nu * 16 + f_hex_value b < 220)) : f_stepped ⟨br, "low hex", nm, lf, lo, hi, nu, wd⟩ b = (⟨br, "low hex", nm, lf, lo, hi, nu, wd⟩, false) := by
  rw [st_low_hex]
  unfold f_in_hex
  dsimp only
  by_cases h0 : f_hex_value b < 0
  · rw [if_pos (decide_eq_true h0)]
  · rw [if_neg (by rw [decide_eq_true_eq]; exact h0), dh3, dh4, if_neg (by simp), if_pos (by simp only [Bool.true_and, Bool.or_eq_true, Bool.and_eq_true, Bool.not_eq_true', decide_eq_true_eq, decide_eq_false_iff_not]; omega)]
theorem low_ok {b : Int} (h0 : 0 ≤ f_hex_value b) (h : ¬ ((lf = 4 ∧ nu * 16 + f_hex_value b ≠ 13) ∨ (lf = 3 ∧ nu * 16 + f_hex_value b < 220))) (hl : lf ≠ 1) : f_stepped ⟨br, "low hex", nm, lf, lo, hi, nu, wd⟩ b = (⟨br, "low hex", nm, lf - 1, lo, hi, nu * 16 + f_hex_value b, wd⟩, true) := by
  rw [st_low_hex]
  unfold f_in_hex
  dsimp only
  rw [if_neg (by rw [decide_eq_true_eq]; omega), dh3, dh4, if_neg (by simp), if_neg (by simp only [Bool.true_and, Bool.or_eq_true, Bool.and_eq_true, Bool.not_eq_true', decide_eq_true_eq, decide_eq_false_iff_not]; omega), if_neg (by rw [decide_eq_true_eq]; omega)]
theorem low_end {b : Int} (h0 : 0 ≤ f_hex_value b) : f_stepped ⟨br, "low hex", nm, 1, lo, hi, nu, wd⟩ b = (⟨br, "text", nm, 0, lo, hi, nu * 16 + f_hex_value b, wd⟩, true) := by
  rw [st_low_hex]
  unfold f_in_hex
  dsimp only
  rw [if_neg (by rw [decide_eq_true_eq]; omega), dh3, dh4, if_neg (by simp), if_neg (by simp), if_pos (by simp), if_neg (by simp)]
  rfl
/-- four figures of the first kind, from the figure that is the (3 - j)-th -/
theorem hexF_go : ∀ (j : Nat) (nu : Int) (r : List Int) (m : Nat), j ≤ 3 → (0 ≤ nu) → (∀ n o, hexR false (j + 1) nu r = (n, o) → (n < 0 → 3 - j ≤ o ∧ goF ⟨br, "hex", nm, ((j + 1 : Nat) : Int), lo, hi, nu, wd⟩ r (m + (3 - j)) = some (m + o)) ∧
    (0 ≤ n → o = 4 ∧ ∃ nu', goF ⟨br, "hex", nm, ((j + 1 : Nat) : Int), lo, hi, nu, wd⟩ r (m + (3 - j)) = goF ⟨br, if 55296 ≤ n ∧ n ≤ 56319 then "half" else "text", nm, 0, lo, hi, nu', wd⟩ (r.drop (j + 1)) (m + 4))) := by
  intro j
  induction j with
  | zero =>
    intro nu r m hj hnu n o h
    cases r with
    | nil =>
      rw [hexR] at h
      cases h
      exact ⟨fun _ => ⟨Nat.le_refl _, goF_nil (ov_no md_hex.2.2.1)⟩, fun z => absurd z (by decide)⟩
    | cons b r =>
      rw [hexR] at h
      by_cases h0 : f_hex_value b < 0
      · rw [if_pos (.inl h0)] at h
        cases h
        exact ⟨fun _ => ⟨Nat.le_refl _, goF_no (hex_no (.inl h0))⟩, fun z => absurd z (by decide)⟩
      · rw [if_neg (by omega), hexR] at h
        cases h
        refine ⟨fun z => by omega, fun _ => ⟨rfl, nu * 16 + f_hex_value b, ?_⟩⟩
        rw [show ((0 + 1 : Nat) : Int) = 1 from rfl, goF_yes (hex_end (by omega))]
        rfl
  | succ j ih =>
    intro nu r m hj hnu n o h
    cases r with
    | nil =>
      rw [hexR] at h
      cases h
      exact ⟨fun _ => ⟨Nat.le_refl _, goF_nil (ov_no md_hex.2.2.1)⟩, fun z => absurd z (by decide)⟩
    | cons b r =>
      rw [hexR] at h
      by_cases h0 : f_hex_value b < 0 ∨ (((j + 1 + 1 : Nat) : Int) = 3 ∧ 220 ≤ nu * 16 + f_hex_value b ∧ nu * 16 + f_hex_value b ≤ 223)
      · rw [if_pos (by
          rcases h0 with h0 | ⟨h1, h2⟩
          · exact .inl h0
          · exact .inr (.inl ⟨by omega, by rw [decide_eq_true h2]; exact Bool.noConfusion⟩))] at h
        cases h
        exact ⟨fun _ => ⟨Nat.le_refl _, goF_no (hex_no h0)⟩, fun z => absurd z (by decide)⟩
      · rw [if_neg (by
          rintro (z | ⟨z1, z2⟩ | ⟨_, z, _⟩)
          · exact h0 (.inl z)
          · exact z2 (decide_eq_false fun z => h0 (.inr ⟨by omega, z⟩))
          · cases z)] at h
        have hst : f_stepped ⟨br, "hex", nm, ((j + 1 + 1 : Nat) : Int), lo, hi, nu, wd⟩ b = (⟨br, "hex", nm, ((j + 1 : Nat) : Int), lo, hi, nu * 16 + f_hex_value b, wd⟩, true) := by
          have := hex_ok (br := br) (nm := nm) (lf := ((j + 1 + 1 : Nat) : Int)) (lo := lo) (hi := hi) (nu := nu) (wd := wd) (b := b) (by omega) (fun z => h0 (.inr z)) (by omega)
          rw [this, show ((j + 1 + 1 : Nat) : Int) - 1 = ((j + 1 : Nat) : Int) by omega]
        obtain ⟨i1, i2⟩ := ih (nu * 16 + f_hex_value b) r m (by omega) (by omega) n o h
        rw [goF_yes hst, show m + (3 - (j + 1)) + 1 = m + (3 - j) by omega]
        refine ⟨fun z => ?_, fun z => ?_⟩
        · obtain ⟨a, e⟩ := i1 z
          exact ⟨by omega, e⟩
        · obtain ⟨a, nu', e⟩ := i2 z
          exact ⟨a, nu', e⟩
/-- four of the second kind: nu is what the figures ahead make -/
theorem hexL_go : ∀ (j : Nat) (nu : Int) (r : List Int) (m : Nat), j ≤ 3 → (j = 3 → nu = 0) → (j = 2 → nu = 13) → (j ≤ 1 → 220 ≤ nu) → (∀ n o, hexR true (j + 1) nu r = (n, o) → (n < 0 → 3 - j ≤ o ∧ goF ⟨br, "low hex", nm, ((j + 1 : Nat) : Int), lo, hi, nu, wd⟩ r (m + (3 - j)) = some (m + o)) ∧
    (0 ≤ n → o = 4 ∧ ∃ nu', goF ⟨br, "low hex", nm, ((j + 1 : Nat) : Int), lo, hi, nu, wd⟩ r (m + (3 - j)) = goF ⟨br, "text", nm, 0, lo, hi, nu', wd⟩ (r.drop (j + 1)) (m + 4))) := by
  intro j
  induction j with
  | zero =>
    intro nu r m hj n3 n2 n1 n o h
    have := n1 (by omega)
    cases r with
    | nil =>
      rw [hexR] at h
      cases h
      exact ⟨fun _ => ⟨Nat.le_refl _, goF_nil (ov_no md_low_hex.2.2.1)⟩, fun z => absurd z (by decide)⟩
    | cons b r =>
      rw [hexR] at h
      by_cases h0 : f_hex_value b < 0
      · rw [if_pos (.inl h0)] at h
        cases h
        exact ⟨fun _ => ⟨Nat.le_refl _, goF_no (low_no (.inl h0))⟩, fun z => absurd z (by decide)⟩
      · rw [if_neg (by omega), hexR] at h
        cases h
        refine ⟨fun z => by omega, fun _ => ⟨rfl, nu * 16 + f_hex_value b, ?_⟩⟩
        rw [show ((0 + 1 : Nat) : Int) = 1 from rfl, goF_yes (low_end (by omega))]
        rfl
  | succ j ih =>
    intro nu r m hj n3 n2 n1 n o h
    have hb : ∀ b, f_hex_value b < 16 := hexv_lt
    cases r with
    | nil =>
      rw [hexR] at h
      cases h
      exact ⟨fun _ => ⟨Nat.le_refl _, goF_nil (ov_no md_low_hex.2.2.1)⟩, fun z => absurd z (by decide)⟩
    | cons b r =>
      have hb := hb b
      rw [hexR] at h
      by_cases h0 : f_hex_value b < 0 ∨ (((j + 1 + 1 : Nat) : Int) = 4 ∧ nu * 16 + f_hex_value b ≠ 13) ∨ (((j + 1 + 1 : Nat) : Int) = 3 ∧ nu * 16 + f_hex_value b < 220)
      · rw [if_pos (by
          rcases h0 with h0 | ⟨h1, h2⟩ | ⟨h1, h2⟩
          · exact .inl h0
          · have := n3 (by omega)
            exact .inr (.inr ⟨by omega, rfl, by omega⟩)
          · exact .inr (.inl ⟨by omega, by rw [decide_eq_false (by omega)]; exact Bool.noConfusion⟩))] at h
        cases h
        exact ⟨fun _ => ⟨Nat.le_refl _, goF_no (low_no h0)⟩, fun z => absurd z (by decide)⟩
      · have hv : 0 ≤ f_hex_value b := by omega
        rw [if_neg (by
          rintro (z | ⟨z1, z2⟩ | ⟨z1, _, z2⟩)
          · exact h0 (.inl z)
          · have := n2 (by omega)
            exact z2 (decide_eq_true ⟨by omega, by omega⟩)
          · have := n3 (by omega)
            exact h0 (.inr (.inl ⟨by omega, by omega⟩)))] at h
        have hst : f_stepped ⟨br, "low hex", nm, ((j + 1 + 1 : Nat) : Int), lo, hi, nu, wd⟩ b = (⟨br, "low hex", nm, ((j + 1 : Nat) : Int), lo, hi, nu * 16 + f_hex_value b, wd⟩, true) := by
          have := low_ok (br := br) (nm := nm) (lf := ((j + 1 + 1 : Nat) : Int)) (lo := lo) (hi := hi) (nu := nu) (wd := wd) (b := b) hv (fun z => h0 (.inr z)) (by omega)
          rw [this, show ((j + 1 + 1 : Nat) : Int) - 1 = ((j + 1 : Nat) : Int) by omega]
        obtain ⟨i1, i2⟩ := ih (nu * 16 + f_hex_value b) r m (by omega) (fun z => by omega) (fun z => by omega) (fun z => by
          rcases (show j = 1 ∨ j = 0 by omega) with z1 | z1
          · omega
          · have := n1 (by omega); omega) n o h
        rw [goF_yes hst, show m + (3 - (j + 1)) + 1 = m + (3 - j) by omega]
        refine ⟨fun z => ?_, fun z => ?_⟩
        · obtain ⟨a, e⟩ := i1 z
          exact ⟨by omega, e⟩
        · obtain ⟨a, nu', e⟩ := i2 z
          exact ⟨a, nu', e⟩
end

/-! J_read2 -/
/-- an escape, its backslash first -/
def escR (r : List Int) : Bool × Nat := match r.drop 1 with
  | [] => (false, 1)
  | c :: _ => if c ∈ ([34, 92, 47, 98, 102, 110, 114, 116] : List Int) then (true, 2) else if c ≠ 117 then (false, 1)
    else if (hexR false 4 0 (r.drop 2)).1 < 0 ∨ ¬ (55296 ≤ (hexR false 4 0 (r.drop 2)).1 ∧ (hexR false 4 0 (r.drop 2)).1 ≤ 56319) then (decide (0 ≤ (hexR false 4 0 (r.drop 2)).1), 2 + (hexR false 4 0 (r.drop 2)).2)
    else if (r.drop 6).head? ≠ some 92 then (false, 6) else if (r.drop 7).head? ≠ some 117 then (false, 7)
    else (decide (0 ≤ (hexR true 4 0 (r.drop 8)).1), 8 + (hexR true 4 0 (r.drop 8)).2)
section
variable {br : List Bool} {nm : Bool} {lf lo hi nu : Int} {wd : List Int} {m : Nat}
theorem hexR_neg {low : Bool} : ∀ (j : Nat) (nu : Int) (r : List Int), 0 ≤ nu → (hexR low j nu r).1 < 0 ∨ 0 ≤ (hexR low j nu r).1 := fun j nu r _ => by omega
theorem esc_go {r : List Int} (hr : r.head? = some 92) : ((escR r).1 = false → goF ⟨br, "text", nm, lf, lo, hi, nu, wd⟩ r m = some (m + (escR r).2)) ∧
    ((escR r).1 = true → 1 ≤ (escR r).2 ∧ ∃ lf' nu', goF ⟨br, "text", nm, lf, lo, hi, nu, wd⟩ r m = goF ⟨br, "text", nm, lf', lo, hi, nu', wd⟩ (r.drop (escR r).2) (m + (escR r).2)) := by
  cases r with
  | nil => cases hr
  | cons b r =>
  obtain rfl : b = 92 := Option.some.inj hr
  have h1 : f_stepped ⟨br, "text", nm, lf, lo, hi, nu, wd⟩ 92 = (⟨br, "escape", nm, lf, lo, hi, nu, wd⟩, true) := by rw [st_text]; rfl
  rw [goF_yes h1]
  unfold escR
  rw [show (92 :: r).drop 1 = r from rfl]
  cases r with
  | nil => exact ⟨fun _ => goF_nil (ov_no md_escape.2.2.1), fun z => (nomatch z)⟩
  | cons c r =>
    dsimp only
    by_cases hc : c ∈ ([34, 92, 47, 98, 102, 110, 114, 116] : List Int)
    · rw [if_pos hc]
      refine ⟨fun z => (nomatch z), fun _ => ⟨by show 1 ≤ 2; decide, lf, nu, ?_⟩⟩
      have hc7 : c ≠ 117 := fun z => by rw [z] at hc; exact absurd hc (by decide)
      exact goF_yes (by rw [st_escape, if_neg (by rw [decide_eq_true_eq]; exact hc7), if_neg (by rw [decide_eq_true hc]; decide)])
    · rw [if_neg hc]
      by_cases hc7 : c = 117
      · rw [if_neg (by rw [Classical.not_not]; exact hc7)]
        subst hc7
        have h2 : f_stepped ⟨br, "escape", nm, lf, lo, hi, nu, wd⟩ 117 = (⟨br, "hex", nm, 4, lo, hi, 0, wd⟩, true) := by rw [st_escape]; rfl
        rw [goF_yes h2, show (92 :: 117 :: r).drop 2 = r from rfl]
        obtain ⟨i1, i2⟩ := hexF_go (br := br) (nm := nm) (lo := lo) (hi := hi) (wd := wd) 3 0 r (m + 1 + 1) (Nat.le_refl _) (Int.le_refl _) _ _ rfl
        rw [show ((3 + 1 : Nat) : Int) = 4 from rfl, show m + 1 + 1 + (3 - 3) = m + 1 + 1 from rfl, show (3 + 1 : Nat) = 4 from rfl] at i1 i2
        generalize hx : hexR false 4 0 r = x at i1 i2 ⊢
        obtain ⟨n, o⟩ := x
        dsimp only at i1 i2 ⊢
        by_cases hn : n < 0
        · rw [if_pos (.inl hn)]
          refine ⟨fun _ => ?_, fun z => ?_⟩
          · rw [(i1 hn).2]; congr 1; dsimp only; omega
          · exact absurd (of_decide_eq_true z) (by omega)
        · obtain ⟨rfl, nu', e⟩ := i2 (by omega)
          by_cases hh : 55296 ≤ n ∧ n ≤ 56319
          · rw [if_neg (by rintro (z | z); exact hn z; exact z hh), e, if_pos hh]
            rw [show (92 :: 117 :: r).drop 6 = r.drop 4 from rfl, show (92 :: 117 :: r).drop 7 = r.drop 5 from rfl, show (92 :: 117 :: r).drop 8 = r.drop 6 from rfl]
            cases h4 : r.drop 4 with
            | nil =>
              rw [if_pos (by simp)]
              refine ⟨fun _ => ?_, fun z => (nomatch z)⟩
              rw [goF_nil (ov_no md_half.2.2.1)]
              rfl
            | cons c1 r1 =>
              have e5 : r.drop 5 = r1 := by rw [show (5 : Nat) = 4 + 1 by rfl, ← List.drop_drop, h4]; rfl
              have e6 : r.drop 6 = r1.drop 1 := by rw [show (6 : Nat) = 4 + 2 by rfl, ← List.drop_drop, h4]; rfl
              rw [e5, e6]
              by_cases hc1 : c1 = 92
              · subst hc1
                rw [if_neg (by simp), goF_yes (w' := ⟨br, "half u", nm, 0, lo, hi, nu', wd⟩) (by rw [st_half]; rfl)]
                cases r1 with
                | nil =>
                  rw [if_pos (by simp)]
                  refine ⟨fun _ => ?_, fun z => (nomatch z)⟩
                  rw [goF_nil (ov_no md_half_u.2.2.1)]
                  rfl
                | cons c2 r2 =>
                  by_cases hc2 : c2 = 117
                  · subst hc2
                    rw [if_neg (by simp), goF_yes (w' := ⟨br, "low hex", nm, 4, lo, hi, 0, wd⟩) (by rw [st_half_u]; rfl), show (117 :: r2).drop 1 = r2 from rfl]
                    obtain ⟨k1, k2⟩ := hexL_go (br := br) (nm := nm) (lo := lo) (hi := hi) (wd := wd) 3 0 r2 (m + 1 + 1 + 4 + 1 + 1) (Nat.le_refl _) (fun _ => rfl) (fun z => by omega) (fun z => by omega) _ _ rfl
                    rw [show ((3 + 1 : Nat) : Int) = 4 from rfl, show m + 1 + 1 + 4 + 1 + 1 + (3 - 3) = m + 1 + 1 + 4 + 1 + 1 from rfl, show (3 + 1 : Nat) = 4 from rfl] at k1 k2
                    generalize hy : hexR true 4 0 r2 = y at k1 k2 ⊢
                    obtain ⟨n2, o2⟩ := y
                    dsimp only at k1 k2 ⊢
                    refine ⟨fun z => ?_, fun z => ?_⟩
                    · rw [(k1 (by have := of_decide_eq_false z; omega)).2]; congr 1; omega
                    · obtain ⟨rfl, nu2, e2⟩ := k2 (of_decide_eq_true z)
                      refine ⟨by omega, 0, nu2, ?_⟩
                      rw [e2]
                      have e12 : (92 :: 117 :: r).drop (8 + 4) = r2.drop 4 := by
                        show r.drop 10 = _
                        rw [show (10 : Nat) = 4 + 6 by rfl, ← List.drop_drop, h4]; rfl
                      rw [e12]
                  · rw [if_pos (by simp [hc2])]
                    refine ⟨fun _ => ?_, fun z => (nomatch z)⟩
                    rw [goF_no (w' := ⟨br, "half u", nm, 0, lo, hi, nu', wd⟩) (by rw [st_half_u, if_neg (by rw [decide_eq_true_eq]; exact hc2)])]
                    rfl
              · rw [if_pos (by simp [hc1])]
                refine ⟨fun _ => ?_, fun z => (nomatch z)⟩
                rw [goF_no (w' := ⟨br, "half", nm, 0, lo, hi, nu', wd⟩) (by rw [st_half, if_pos (by rw [decide_eq_false hc1]; rfl)])]
                rfl
          · rw [if_pos (.inr hh), e, if_neg hh]
            refine ⟨fun z => absurd (of_decide_eq_false z) (by omega), fun _ => ⟨by show 1 ≤ 6; decide, 0, nu', ?_⟩⟩
            rfl
      · rw [if_pos hc7]
        refine ⟨fun _ => ?_, fun z => (nomatch z)⟩
        rw [goF_no (w' := ⟨br, "escape", nm, lf, lo, hi, nu, wd⟩) (by rw [st_escape, if_neg (by rw [decide_eq_true_eq]; exact hc7), if_pos (by rw [decide_eq_false hc]; rfl)])]
end

/-! J_read3 -/
/-- what stands behind a quote -/
def txtR : Nat → List Int → Bool × Nat
  | 0, _ => (false, 0)
  | _ + 1, [] => (false, 0)
  | n + 1, b :: r =>
    if b = 34 then (true, 1)
    else if b = 92 then (if (escR (b :: r)).1 = true then ((txtR n ((b :: r).drop (escR (b :: r)).2)).1, (escR (b :: r)).2 + (txtR n ((b :: r).drop (escR (b :: r)).2)).2) else (false, (escR (b :: r)).2))
    else if b < 32 then (false, 0)
    else match sgnR (b :: r) with
      | .inl k => (false, k)
      | .inr j => ((txtR n ((b :: r).drop j)).1, j + (txtR n ((b :: r).drop j)).2)
section
variable {br : List Bool} {nm : Bool} {wd : List Int}
theorem txt_go : ∀ (n : Nat) (r : List Int) (m : Nat) (lf lo hi nu : Int), r.length < n → ((txtR n r).1 = false → goF ⟨br, "text", nm, lf, lo, hi, nu, wd⟩ r m = some (m + (txtR n r).2)) ∧
    ((txtR n r).1 = true → ∃ lf' lo' hi' nu', goF ⟨br, "text", nm, lf, lo, hi, nu, wd⟩ r m = goF ⟨br, if nm = true then "colon" else endM br, nm, lf', lo', hi', nu', wd⟩ (r.drop (txtR n r).2) (m + (txtR n r).2)) := by
  intro n
  induction n with
  | zero => intro r m lf lo hi nu h; omega
  | succ n ih =>
    intro r m lf lo hi nu h
    cases r with
    | nil => exact ⟨fun _ => goF_nil (ov_no md_text.2.2.1), fun z => (nomatch z)⟩
    | cons b r =>
      rw [txtR]
      by_cases h34 : b = 34
      · rw [if_pos h34]
        subst h34
        refine ⟨fun z => (nomatch z), fun _ => ⟨lf, lo, hi, nu, ?_⟩⟩
        cases nm with
        | true => rw [if_pos rfl]; exact goF_yes (by rw [st_text]; rfl)
        | false =>
          rw [if_neg Bool.false_ne_true]
          exact goF_yes (by rw [st_text]; unfold f_in_plain; rw [if_pos (by decide), if_neg Bool.false_ne_true, ended_eq])
      · rw [if_neg h34]
        by_cases h92 : b = 92
        · rw [if_pos h92]
          subst h92
          obtain ⟨i1, i2⟩ := esc_go (br := br) (nm := nm) (lf := lf) (lo := lo) (hi := hi) (nu := nu) (wd := wd) (m := m) (r := 92 :: r) rfl
          cases he : (escR (92 :: r)).1 with
          | false => exact ⟨fun _ => i1 he, fun z => (nomatch z)⟩
          | true =>
            rw [if_pos rfl]
            obtain ⟨h1, lf', nu', e⟩ := i2 he
            obtain ⟨k1, k2⟩ := ih ((92 :: r).drop (escR (92 :: r)).2) (m + (escR (92 :: r)).2) lf' lo hi nu' (by rw [List.length_drop]; rw [List.length_cons] at h ⊢; omega)
            rw [e]
            refine ⟨fun z => by rw [k1 z, Nat.add_assoc], fun z => ?_⟩
            obtain ⟨a1, a2, a3, a4, e2⟩ := k2 z
            exact ⟨a1, a2, a3, a4, by rw [e2, List.drop_drop, Nat.add_assoc]⟩
        · rw [if_neg h92]
          by_cases h32 : b < 32
          · rw [if_pos h32]
            refine ⟨fun _ => ?_, fun z => (nomatch z)⟩
            have hf : f_follows b = some (0, 0, 0) := by unfold f_follows; rw [if_pos (by rw [decide_eq_true_eq]; omega)]
            rw [goF_no (w' := ⟨br, "text", nm, lf, lo, hi, nu, wd⟩) (by
              rw [st_text]
              unfold f_in_plain
              rw [if_neg (by rw [decide_eq_true_eq]; exact h34), if_neg (by rw [decide_eq_true_eq]; exact h92), hf]
              dsimp only
              rw [if_pos (by rw [decide_eq_true_eq]; exact h32)])]
            rfl
          · rw [if_neg h32]
            obtain ⟨i1, i2⟩ := sgn_go (br := br) (nm := nm) (lf := lf) (lo := lo) (hi := hi) (nu := nu) (wd := wd) (m := m) (b := b) (r := r) (by omega) h34 h92
            cases hs : sgnR (b :: r) with
            | inl k => exact ⟨fun _ => i1 k hs, fun z => (nomatch z)⟩
            | inr j =>
              obtain ⟨h1, lf', lo', hi', e⟩ := i2 j hs
              obtain ⟨k1, k2⟩ := ih ((b :: r).drop j) (m + j) lf' lo' hi' nu (by rw [List.length_drop]; rw [List.length_cons] at h ⊢; omega)
              dsimp only
              rw [e]
              refine ⟨fun z => by rw [k1 z, Nat.add_assoc], fun z => ?_⟩
              obtain ⟨a1, a2, a3, a4, e2⟩ := k2 z
              exact ⟨a1, a2, a3, a4, by rw [e2, List.drop_drop, Nat.add_assoc]⟩
/-! numbers -/
def figN : List Int → Nat
  | [] => 0
  | b :: r => if f_is_figure b = true then figN r + 1 else 0
/-- the row goes on with no figure -/
def NoF (r : List Int) : Prop := ∀ b, r.head? = some b → f_is_figure b = false
theorem fig_drop : ∀ r : List Int, NoF (r.drop (figN r))
  | [] => fun b h => by cases h
  | b :: r => by
    rw [figN]
    split
    · rw [List.drop_succ_cons]; exact fig_drop r
    · rename_i h
      intro c hc
      cases hc
      simpa using h
theorem fig_go (md : Str) (hst : ∀ (lf lo hi nu : Int) (b : Int), f_is_figure b = true → f_stepped ⟨br, md, nm, lf, lo, hi, nu, wd⟩ b = (⟨br, md, nm, lf, lo, hi, nu, wd⟩, true)) : ∀ (r : List Int) (m : Nat) (lf lo hi nu : Int), goF ⟨br, md, nm, lf, lo, hi, nu, wd⟩ r m = goF ⟨br, md, nm, lf, lo, hi, nu, wd⟩ (r.drop (figN r)) (m + figN r)
  | [], m, lf, lo, hi, nu => rfl
  | b :: r, m, lf, lo, hi, nu => by
    rw [figN]
    split
    · rename_i h
      rw [goF_yes (hst lf lo hi nu b h), fig_go md hst r (m + 1) lf lo hi nu, List.drop_succ_cons, show m + 1 + figN r = m + (figN r + 1) by omega]
    · rfl
/-- behind a number that does not go on, the walker is as behind a value -/
theorem end_go {md : Str} {lf lo hi nu : Int} {r : List Int} {m : Nat} (hm : NuW md) (hst : ∀ b, r.head? = some b → f_stepped ⟨br, md, nm, lf, lo, hi, nu, wd⟩ b = f_number_over ⟨br, md, nm, lf, lo, hi, nu, wd⟩ b) : goF ⟨br, md, nm, lf, lo, hi, nu, wd⟩ r m = goF ⟨br, endM br, nm, lf, lo, hi, nu, wd⟩ r m := by
  cases r with
  | nil =>
    rw [goF, goF]
    have e : (f_over ⟨br, md, nm, lf, lo, hi, nu, wd⟩).2 = (f_over ⟨br, endM br, nm, lf, lo, hi, nu, wd⟩).2 := by
      unfold f_over
      dsimp only
      cases br with
      | nil =>
        have h1 : decide (md ∈ (["done", "zero", "whole", "part", "powers"] : List Str)) = true := by
          rcases hm with rfl | rfl | rfl | rfl <;> decide +kernel
        have h2 : decide (endM [] ∈ (["done", "zero", "whole", "part", "powers"] : List Str)) = true := by decide +kernel
        rw [h1, h2]
      | cons x l => rfl
    rw [e]
  | cons b r =>
    have h1 := hst b rfl
    rw [goF, goF, h1]
    unfold f_number_over
    rw [ended_eq]
    dsimp only
    by_cases hw : f_is_white b = true
    · have h2 := (white_one (w := ⟨br, endM br, nm, lf, lo, hi, nu, wd⟩) (s := ⟨[], []⟩) (n := 0) (endM_st br) hw).1
      rw [h2, if_pos hw]
    · rw [if_neg hw]
      rcases List.eq_nil_or_concat br with rfl | ⟨br, f, rfl⟩
      · have d1 : decide (("done" : Str) = "behind") = false := by decide +kernel
        rw [show endM [] = "done" from rfl, st_done, if_neg hw, d1, if_neg Bool.false_ne_true]
        rfl
      · rw [List.concat_eq_append, show endM (br ++ [f]) = "behind" by unfold endM; rw [if_neg (by simp)], st_behind, if_neg hw, show decide (("behind" : Str) = "behind") = true by decide +kernel, if_pos rfl]
        by_cases hb : (f_behind ⟨br ++ [f], "behind", nm, lf, lo, hi, nu, wd⟩ b).2 = true
        · rw [if_pos hb, if_pos hb, if_pos rfl]
        · rw [if_neg hb, if_neg hb, if_neg Bool.false_ne_true]
end

/-! J_read4 -/
def expS : List Int → Bool × Nat
  | [] => (true, 0)
  | c :: r => if c ∈ ([101, 69] : List Int) then
      (match r with
      | [] => (false, 1)
      | d :: r' => if d = 43 ∨ d = 45 then (decide (0 < figN r'), 2 + figN r') else (decide (0 < figN (d :: r')), 1 + figN (d :: r')))
    else (true, 0)
def fraS : List Int → Bool × Nat
  | [] => (true, 0)
  | c :: r => if c = 46 then (if figN r = 0 then (false, 1) else ((expS (r.drop (figN r))).1, 1 + figN r + (expS (r.drop (figN r))).2)) else expS (c :: r)
def intS : List Int → Bool × Nat
  | [] => (false, 0)
  | b :: r => if f_is_figure b = true then (if b = 48 then ((fraS r).1, 1 + (fraS r).2) else ((fraS (r.drop (figN r))).1, 1 + figN r + (fraS (r.drop (figN r))).2)) else (false, 0)
section
variable {br : List Bool} {nm : Bool} {lf lo hi nu : Int} {wd : List Int}
theorem pw_go {md : Str} (h0 : decide (md ∈ (["done", "zero", "whole", "part", "powers"] : List Str)) = false) (h1 : ∀ b, f_is_figure b = true → f_stepped ⟨br, md, nm, lf, lo, hi, nu, wd⟩ b = (⟨br, "powers", nm, lf, lo, hi, nu, wd⟩, true)) (r : List Int) (m : Nat)
    (h2 : ∀ b, r.head? = some b → f_is_figure b = false → f_stepped ⟨br, md, nm, lf, lo, hi, nu, wd⟩ b = (⟨br, md, nm, lf, lo, hi, nu, wd⟩, false)) :
    (figN r = 0 → goF ⟨br, md, nm, lf, lo, hi, nu, wd⟩ r m = some m) ∧ (0 < figN r → goF ⟨br, md, nm, lf, lo, hi, nu, wd⟩ r m = goF ⟨br, endM br, nm, lf, lo, hi, nu, wd⟩ (r.drop (figN r)) (m + figN r)) := by
  cases r with
  | nil => exact ⟨fun _ => goF_nil (ov_no h0), fun z => absurd z (Nat.lt_irrefl _)⟩
  | cons b r =>
    rw [figN]
    by_cases hb : f_is_figure b = true
    · rw [if_pos hb]
      refine ⟨fun z => by omega, fun _ => ?_⟩
      rw [goF_yes (h1 b hb), fig_go "powers" (fun lf lo hi nu b h => by rw [st_powers, if_pos h]), end_go (.inr (.inr (.inr rfl))) (fun c hc => by
        rw [st_powers, if_neg (by rw [fig_drop r c hc]; exact Bool.false_ne_true)]), List.drop_succ_cons, show m + 1 + figN r = m + (figN r + 1) by omega]
    · rw [if_neg hb]
      exact ⟨fun _ => goF_no (h2 b rfl (by simpa using hb)), fun z => absurd z (Nat.lt_irrefl _)⟩
theorem exp_go {md : Str} (hm : NuW md) (r : List Int) (m : Nat) (hst : ∀ b, r.head? = some b → f_stepped ⟨br, md, nm, lf, lo, hi, nu, wd⟩ b = if decide (b ∈ ([101, 69] : List Int)) = true then (⟨br, "power", nm, lf, lo, hi, nu, wd⟩, true) else f_number_over ⟨br, md, nm, lf, lo, hi, nu, wd⟩ b) :
    ((expS r).1 = false → goF ⟨br, md, nm, lf, lo, hi, nu, wd⟩ r m = some (m + (expS r).2)) ∧ ((expS r).1 = true → goF ⟨br, md, nm, lf, lo, hi, nu, wd⟩ r m = goF ⟨br, endM br, nm, lf, lo, hi, nu, wd⟩ (r.drop (expS r).2) (m + (expS r).2)) := by
  cases r with
  | nil => exact ⟨fun z => (nomatch z), fun _ => end_go hm fun b hb => (by cases hb)⟩
  | cons c r =>
    have hc := hst c rfl
    rw [expS.eq_def]
    dsimp only
    by_cases he : c ∈ ([101, 69] : List Int)
    · rw [if_pos he]
      rw [if_pos (decide_eq_true he)] at hc
      rw [goF_yes hc]
      have hp : ∀ b, f_is_figure b = true → f_stepped ⟨br, "power", nm, lf, lo, hi, nu, wd⟩ b = (⟨br, "powers", nm, lf, lo, hi, nu, wd⟩, true) := fun b h => by rw [st_power, if_pos h]
      have hq : ∀ b, f_is_figure b = true → f_stepped ⟨br, "power sign", nm, lf, lo, hi, nu, wd⟩ b = (⟨br, "powers", nm, lf, lo, hi, nu, wd⟩, true) := fun b h => by rw [st_power_sign, if_pos h]
      cases r with
      | nil => exact ⟨fun _ => goF_nil (ov_no md_power.2.2.1), fun z => (nomatch z)⟩
      | cons d r =>
        dsimp only
        by_cases hd : d = 43 ∨ d = 45
        · rw [if_pos hd]
          have hnf : f_is_figure d = false := by rcases hd with rfl | rfl <;> decide
          have hds : f_stepped ⟨br, "power", nm, lf, lo, hi, nu, wd⟩ d = (⟨br, "power sign", nm, lf, lo, hi, nu, wd⟩, true) := by
            rw [st_power, if_neg (by rw [hnf]; exact Bool.false_ne_true), if_pos (by rw [Bool.or_eq_true, decide_eq_true_eq, decide_eq_true_eq]; exact hd)]
          rw [goF_yes hds]
          obtain ⟨i1, i2⟩ := pw_go md_power_sign.2.2.1 hq r (m + 1 + 1) (fun b _ hb => by rw [st_power_sign, if_neg (by rw [hb]; exact Bool.false_ne_true)])
          refine ⟨fun z => ?_, fun z => ?_⟩
          · have hz : figN r = 0 := by have := of_decide_eq_false z; omega
            rw [i1 hz, hz]; rfl
          · have hz := of_decide_eq_true z
            rw [i2 hz]
            rw [show 2 + figN r = figN r + 1 + 1 by omega, List.drop_succ_cons, List.drop_succ_cons, show m + 1 + 1 + figN r = m + (figN r + 1 + 1) by omega]
        · rw [if_neg hd]
          obtain ⟨i1, i2⟩ := pw_go md_power.2.2.1 hp (d :: r) (m + 1) (fun b hb hf => by
            cases hb
            rw [st_power, if_neg (by rw [hf]; exact Bool.false_ne_true), if_neg (by rw [Bool.or_eq_true, decide_eq_true_eq, decide_eq_true_eq]; exact hd)])
          refine ⟨fun z => ?_, fun z => ?_⟩
          · have hz : figN (d :: r) = 0 := by have := of_decide_eq_false z; omega
            rw [i1 hz, hz]
          · have hz := of_decide_eq_true z
            rw [i2 hz]
            rw [show 1 + figN (d :: r) = figN (d :: r) + 1 by omega, List.drop_succ_cons, show m + 1 + figN (d :: r) = m + (figN (d :: r) + 1) by omega]
    · rw [if_neg he]
      rw [if_neg (by rw [decide_eq_true_eq]; exact he)] at hc
      exact ⟨fun z => (nomatch z), fun _ => end_go hm fun b hb => by cases hb; exact hc⟩
theorem fra_go {md : Str} (hm : md = "zero" ∨ md = "whole") (r : List Int) (m : Nat) (hf : md = "whole" → NoF r) :
    ((fraS r).1 = false → goF ⟨br, md, nm, lf, lo, hi, nu, wd⟩ r m = some (m + (fraS r).2)) ∧ ((fraS r).1 = true → goF ⟨br, md, nm, lf, lo, hi, nu, wd⟩ r m = goF ⟨br, endM br, nm, lf, lo, hi, nu, wd⟩ (r.drop (fraS r).2) (m + (fraS r).2)) := by
  have hn : NuW md := hm.elim .inl fun z => .inr (.inl z)
  have hst : ∀ b, r.head? = some b → f_stepped ⟨br, md, nm, lf, lo, hi, nu, wd⟩ b = if decide (b = 46) = true then (⟨br, "point", nm, lf, lo, hi, nu, wd⟩, true) else if decide (b ∈ ([101, 69] : List Int)) = true then (⟨br, "power", nm, lf, lo, hi, nu, wd⟩, true) else f_number_over ⟨br, md, nm, lf, lo, hi, nu, wd⟩ b := fun b hb => by
    rcases hm with rfl | rfl
    · rw [st_zero]
    · rw [st_whole, if_neg (by rw [hf rfl b hb]; exact Bool.false_ne_true)]
  cases r with
  | nil => exact ⟨fun z => (nomatch z), fun _ => end_go hn fun b hb => (by cases hb)⟩
  | cons c r =>
    have hc := hst c rfl
    rw [fraS]
    by_cases h46 : c = 46
    · rw [if_pos h46]
      rw [if_pos (decide_eq_true h46)] at hc
      rw [goF_yes hc]
      cases r with
      | nil => exact ⟨fun _ => goF_nil (ov_no md_point.2.2.1), fun z => (nomatch z)⟩
      | cons d r =>
        rw [figN]
        by_cases hd : f_is_figure d = true
        · rw [if_pos hd, if_neg (by omega)]
          rw [goF_yes (w' := ⟨br, "part", nm, lf, lo, hi, nu, wd⟩) (by rw [st_point, if_pos hd]), fig_go "part" (fun lf lo hi nu b h => by rw [st_part, if_pos h]), List.drop_succ_cons]
          obtain ⟨i1, i2⟩ := exp_go (br := br) (nm := nm) (lf := lf) (lo := lo) (hi := hi) (nu := nu) (wd := wd) (md := "part") (.inr (.inr (.inl rfl))) (r.drop (figN r)) (m + 1 + 1 + figN r) (fun b hb => by rw [st_part, if_neg (by rw [fig_drop r b hb]; exact Bool.false_ne_true)])
          refine ⟨fun z => by rw [i1 z]; congr 1; dsimp only; omega, fun z => ?_⟩
          rw [i2 z]
          dsimp only
          rw [List.drop_drop, show 1 + (figN r + 1) + (expS (r.drop (figN r))).2 = (figN r + (expS (r.drop (figN r))).2) + 1 + 1 by omega, List.drop_succ_cons, List.drop_succ_cons, show m + 1 + 1 + figN r + (expS (r.drop (figN r))).2 = m + (figN r + (expS (r.drop (figN r))).2 + 1 + 1) by omega]
        · rw [if_neg hd, if_pos rfl]
          refine ⟨fun _ => goF_no (by rw [st_point, if_neg hd]), fun z => (nomatch z)⟩
    · rw [if_neg h46]
      rw [if_neg (by rw [decide_eq_true_eq]; exact h46)] at hc
      exact exp_go hn (c :: r) m fun b hb => by cases hb; exact hc
end

/-! J_read5 -/
def wrdS : List Int → List Int → Bool × Nat
  | [], _ => (true, 0)
  | _ :: _, [] => (false, 0)
  | x :: w, c :: r => if c = x then ((wrdS w r).1, 1 + (wrdS w r).2) else (false, 0)
def plainS (r : List Int) : Bool × Nat := match r with
  | [] => (false, 0)
  | b :: r' => if b = 34 then ((txtR (r'.length + 1) r').1, 1 + (txtR (r'.length + 1) r').2)
    else if b = 45 then ((intS r').1, 1 + (intS r').2)
    else if f_is_figure b = true then intS (b :: r')
    else if b = 110 then ((wrdS [117, 108, 108] r').1, 1 + (wrdS [117, 108, 108] r').2)
    else if b = 116 then ((wrdS [114, 117, 101] r').1, 1 + (wrdS [114, 117, 101] r').2)
    else if b = 102 then ((wrdS [97, 108, 115, 101] r').1, 1 + (wrdS [97, 108, 115, 101] r').2)
    else (false, 0)
section
variable {br : List Bool} {nm : Bool} {lf lo hi nu : Int} {wd : List Int}
theorem wrd_go : ∀ (w : List Int) (r : List Int) (m : Nat), w ≠ [] → ((wrdS w r).1 = false → goF ⟨br, "word", nm, lf, lo, hi, nu, w⟩ r m = some (m + (wrdS w r).2)) ∧
    ((wrdS w r).1 = true → goF ⟨br, "word", nm, lf, lo, hi, nu, w⟩ r m = goF ⟨br, endM br, nm, lf, lo, hi, nu, []⟩ (r.drop (wrdS w r).2) (m + (wrdS w r).2))
  | [], _, _, h => absurd rfl h
  | x :: w, [], m, _ => ⟨fun _ => goF_nil (ov_no md_word.2.2.1), fun z => (nomatch z)⟩
  | x :: w, c :: r, m, _ => by
    rw [wrdS]
    have st : f_stepped ⟨br, "word", nm, lf, lo, hi, nu, x :: w⟩ c = f_in_word ⟨br, "word", nm, lf, lo, hi, nu, x :: w⟩ c := st_word
    by_cases hc : c = x
    · subst hc
      rw [if_pos rfl]
      cases w with
      | nil =>
        rw [goF_yes (w' := ⟨br, endM br, nm, lf, lo, hi, nu, []⟩) (by
          rw [st]
          unfold f_in_word
          dsimp only
          rw [if_neg (by simp), if_pos (by simp), ← ended_eq (md := "word")]
          rfl)]
        exact ⟨fun z => (nomatch z), fun _ => rfl⟩
      | cons y w =>
        rw [goF_yes (w' := ⟨br, "word", nm, lf, lo, hi, nu, y :: w⟩) (by
          rw [st]
          unfold f_in_word
          dsimp only
          rw [if_neg (by simp), if_neg (by simp)]
          rfl)]
        obtain ⟨i1, i2⟩ := wrd_go (y :: w) r (m + 1) (by simp)
        refine ⟨fun z => by rw [i1 z, Nat.add_assoc], fun z => ?_⟩
        rw [i2 z]
        dsimp only
        rw [show 1 + (wrdS (y :: w) r).2 = (wrdS (y :: w) r).2 + 1 by omega, List.drop_succ_cons, show m + 1 + (wrdS (y :: w) r).2 = m + ((wrdS (y :: w) r).2 + 1) by omega]
    · rw [if_neg hc]
      refine ⟨fun _ => goF_no (w' := ⟨br, "word", nm, lf, lo, hi, nu, x :: w⟩) ?_, fun z => (nomatch z)⟩
      rw [st]
      unfold f_in_word
      dsimp only
      rw [if_pos (by simp [hc])]
theorem int_go {md : Str} (h0 : decide (md ∈ (["done", "zero", "whole", "part", "powers"] : List Str)) = false) (r : List Int) (m : Nat)
    (hst : ∀ b, r.head? = some b → f_stepped ⟨br, md, nm, lf, lo, hi, nu, wd⟩ b = if f_is_figure b = true then (⟨br, if decide (b = 48) = true then "zero" else "whole", nm, lf, lo, hi, nu, wd⟩, true) else (⟨br, md, nm, lf, lo, hi, nu, wd⟩, false)) :
    ((intS r).1 = false → goF ⟨br, md, nm, lf, lo, hi, nu, wd⟩ r m = some (m + (intS r).2)) ∧ ((intS r).1 = true → goF ⟨br, md, nm, lf, lo, hi, nu, wd⟩ r m = goF ⟨br, endM br, nm, lf, lo, hi, nu, wd⟩ (r.drop (intS r).2) (m + (intS r).2)) := by
  cases r with
  | nil => exact ⟨fun _ => goF_nil (ov_no h0), fun z => (nomatch z)⟩
  | cons b r =>
    have hb := hst b rfl
    rw [intS]
    by_cases hf : f_is_figure b = true
    · rw [if_pos hf] at hb ⊢
      by_cases h48 : b = 48
      · rw [if_pos h48]
        rw [if_pos (decide_eq_true h48)] at hb
        rw [goF_yes hb]
        obtain ⟨i1, i2⟩ := fra_go (br := br) (nm := nm) (lf := lf) (lo := lo) (hi := hi) (nu := nu) (wd := wd) (.inl rfl) r (m + 1) (fun z => absurd z (by decide +kernel))
        refine ⟨fun z => by rw [i1 z, Nat.add_assoc], fun z => ?_⟩
        rw [i2 z]
        dsimp only
        rw [show 1 + (fraS r).2 = (fraS r).2 + 1 by omega, List.drop_succ_cons, show m + 1 + (fraS r).2 = m + ((fraS r).2 + 1) by omega]
      · rw [if_neg h48]
        rw [if_neg (by rw [decide_eq_true_eq]; exact h48)] at hb
        rw [goF_yes hb, fig_go "whole" (fun lf lo hi nu b h => by rw [st_whole, if_pos h])]
        obtain ⟨i1, i2⟩ := fra_go (br := br) (nm := nm) (lf := lf) (lo := lo) (hi := hi) (nu := nu) (wd := wd) (.inr rfl) (r.drop (figN r)) (m + 1 + figN r) (fun _ => fig_drop r)
        refine ⟨fun z => by rw [i1 z]; congr 1; dsimp only; omega, fun z => ?_⟩
        rw [i2 z]
        dsimp only
        rw [List.drop_drop, show 1 + figN r + (fraS (r.drop (figN r))).2 = figN r + (fraS (r.drop (figN r))).2 + 1 by omega, List.drop_succ_cons, show m + 1 + figN r + (fraS (r.drop (figN r))).2 = m + (figN r + (fraS (r.drop (figN r))).2 + 1) by omega]
    · rw [if_neg hf] at hb ⊢
      exact ⟨fun _ => goF_no hb, fun z => (nomatch z)⟩
/-- a value that is no bracket, where one may begin -/
theorem plain_go {md : Str} {b : Int} {r : List Int} {m : Nat} (hst : ∀ w', f_begun ⟨br, md, nm, lf, lo, hi, nu, wd⟩ b = w' → f_stepped ⟨br, md, nm, lf, lo, hi, nu, wd⟩ b = w') (h1 : b ≠ 91) (h2 : b ≠ 123) :
    ((plainS (b :: r)).1 = false → goF ⟨br, md, nm, lf, lo, hi, nu, wd⟩ (b :: r) m = some (m + (plainS (b :: r)).2)) ∧
    ((plainS (b :: r)).1 = true → ∃ nm' lf' lo' hi' nu' wd', goF ⟨br, md, nm, lf, lo, hi, nu, wd⟩ (b :: r) m = goF ⟨br, endM br, nm', lf', lo', hi', nu', wd'⟩ ((b :: r).drop (plainS (b :: r)).2) (m + (plainS (b :: r)).2)) := by
  have hb : f_stepped ⟨br, md, nm, lf, lo, hi, nu, wd⟩ b = f_begun ⟨br, md, nm, lf, lo, hi, nu, wd⟩ b := hst _ rfl
  unfold f_begun at hb
  rw [if_neg (by rw [Bool.or_eq_true, decide_eq_true_eq, decide_eq_true_eq]; omega)] at hb
  rw [plainS.eq_def]
  dsimp only
  have shift : ∀ (x : Bool × Nat) (w : Wk), (x.1 = false → goF w r (m + 1) = some (m + 1 + x.2)) → (x.1 = false → goF w r (m + 1) = some (m + (1 + x.2))) := fun x w h z => by rw [h z, Nat.add_assoc]
  have word : ∀ (w : List Int), w ≠ [] → f_stepped ⟨br, md, nm, lf, lo, hi, nu, wd⟩ b = (⟨br, "word", nm, lf, lo, hi, nu, w⟩, true) → ((wrdS w r).1 = false → goF ⟨br, md, nm, lf, lo, hi, nu, wd⟩ (b :: r) m = some (m + (1 + (wrdS w r).2))) ∧
      ((wrdS w r).1 = true → ∃ nm' lf' lo' hi' nu' wd', goF ⟨br, md, nm, lf, lo, hi, nu, wd⟩ (b :: r) m = goF ⟨br, endM br, nm', lf', lo', hi', nu', wd'⟩ ((b :: r).drop (1 + (wrdS w r).2)) (m + (1 + (wrdS w r).2))) := fun w hw hs => by
    obtain ⟨i1, i2⟩ := wrd_go (br := br) (nm := nm) (lf := lf) (lo := lo) (hi := hi) (nu := nu) w r (m + 1) hw
    rw [goF_yes hs]
    refine ⟨shift _ _ i1, fun z => ⟨nm, lf, lo, hi, nu, [], ?_⟩⟩
    rw [i2 z, show 1 + (wrdS w r).2 = (wrdS w r).2 + 1 by omega, List.drop_succ_cons, show m + 1 + (wrdS w r).2 = m + ((wrdS w r).2 + 1) by omega]
  by_cases h34 : b = 34
  · rw [if_pos h34]
    rw [if_pos (decide_eq_true h34)] at hb
    rw [goF_yes hb]
    obtain ⟨i1, i2⟩ := txt_go (br := br) (nm := false) (wd := wd) (r.length + 1) r (m + 1) lf lo hi nu (by omega)
    refine ⟨shift _ _ i1, fun z => ?_⟩
    obtain ⟨a1, a2, a3, a4, e⟩ := i2 z
    rw [if_neg Bool.false_ne_true] at e
    refine ⟨false, a1, a2, a3, a4, wd, ?_⟩
    dsimp only at e ⊢
    rw [e, show 1 + (txtR (r.length + 1) r).2 = (txtR (r.length + 1) r).2 + 1 by omega, List.drop_succ_cons, show m + 1 + (txtR (r.length + 1) r).2 = m + ((txtR (r.length + 1) r).2 + 1) by omega]
  · rw [if_neg h34]
    rw [if_neg (by rw [decide_eq_true_eq]; exact h34)] at hb
    by_cases h45 : b = 45
    · rw [if_pos h45]
      rw [if_pos (decide_eq_true h45)] at hb
      rw [goF_yes hb]
      obtain ⟨i1, i2⟩ := int_go (br := br) (nm := nm) (lf := lf) (lo := lo) (hi := hi) (nu := nu) (wd := wd) (md := "minus") md_minus.2.2.1 r (m + 1) (fun b _ => by rw [st_minus])
      refine ⟨shift _ _ i1, fun z => ⟨nm, lf, lo, hi, nu, wd, ?_⟩⟩
      dsimp only at i2 z ⊢
      rw [i2 z, show 1 + (intS r).2 = (intS r).2 + 1 by omega, List.drop_succ_cons, show m + 1 + (intS r).2 = m + ((intS r).2 + 1) by omega]
    · rw [if_neg h45]
      rw [if_neg (by rw [decide_eq_true_eq]; exact h45)] at hb
      by_cases hf : f_is_figure b = true
      · rw [if_pos hf]
        rw [if_pos hf] at hb
        -- as behind a sign
        have hm : f_stepped ⟨br, "minus", nm, lf, lo, hi, nu, wd⟩ b = (⟨br, if decide (b = 48) = true then "zero" else "whole", nm, lf, lo, hi, nu, wd⟩, true) := by rw [st_minus, if_pos hf]
        obtain ⟨i1, i2⟩ := int_go (br := br) (nm := nm) (lf := lf) (lo := lo) (hi := hi) (nu := nu) (wd := wd) (md := "minus") md_minus.2.2.1 (b :: r) m (fun b _ => by rw [st_minus])
        rw [goF_yes hm] at i1 i2
        rw [goF_yes hb]
        exact ⟨i1, fun z => ⟨nm, lf, lo, hi, nu, wd, i2 z⟩⟩
      · rw [if_neg hf]
        rw [if_neg hf] at hb
        by_cases h110 : b = 110
        · rw [if_pos h110]
          rw [if_pos h110] at hb
          exact word _ (by simp) hb
        · rw [if_neg h110]
          rw [if_neg h110] at hb
          by_cases h116 : b = 116
          · rw [if_pos h116]
            rw [if_pos h116] at hb
            exact word _ (by simp) hb
          · rw [if_neg h116]
            rw [if_neg h116] at hb
            by_cases h102 : b = 102
            · rw [if_pos h102]
              rw [if_pos h102] at hb
              exact word _ (by simp) hb
            · rw [if_neg h102]
              rw [if_neg h102] at hb
              exact ⟨fun _ => goF_no hb, fun z => (nomatch z)⟩
end

/-! J_row07 -/
/-! k07: items of the row, and what the parts' mirrors ask -/
theorem at_row {row : List Int} {a : Nat} {b i : Int} (h : row[a]? = some b) (hi : i = (a : Int)) : atI (row.map PyData.int) i = some (.int b) := by
  subst hi
  have hl := (List.getElem?_eq_some_iff.mp h).1
  unfold atI ixN
  rw [if_pos (by omega), List.length_map, if_pos (by omega), Option.bind_some]
  show (row.map PyData.int)[a]? = _
  rw [List.getElem?_map, h]; rfl
theorem at_rowD {row : List Int} {a : Nat} {i : Int} (hi : i = (a : Int)) (hl : a < row.length) : atI (row.map PyData.int) i = some (.int (row.getD a 0)) := at_row (by rw [List.getD_eq_getElem?_getD, List.getElem?_eq_getElem hl]; rfl) hi
theorem okI {x y : Int} (h : x = y) : Out.ok (.int x) = Out.ok (.int y) := h ▸ rfl
/-- (truth, place) -/
def okB (t : Bool) (n : Int) : PyData := .tuple [.bool t, .int n]
theorem okBe {t u : Bool} {x y : Int} (h : t = u) (g : x = y) : Out.ok (.tuple [.bool t, .int x]) = Out.ok (okB u y) := by subst h g; rfl
theorem contR_no {n k : Nat} {lo hi : Int} {r : List Int} (h : r = [] ∨ ∃ c r', r = c :: r' ∧ ¬ (lo ≤ c ∧ c ≤ hi)) : contR (n + 1) lo hi k r = .inl k := by
  rcases h with rfl | ⟨c, r', rfl, h⟩
  · rfl
  · rw [contR, if_neg h]
theorem contR_yes {n k : Nat} {lo hi c : Int} {r : List Int} (h : lo ≤ c ∧ c ≤ hi) : contR (n + 1) lo hi k (c :: r) = contR n 128 191 (k + 1) r := by rw [contR, if_pos h]
theorem manyB_le (b : Int) : 1 ≤ manyB b ∧ manyB b ≤ 3 := by unfold manyB; split <;> split <;> omega
theorem manyB_eq (b : Int) : (1 + (if decide (224 ≤ b) = true then 1 else 0) + (if decide (240 ≤ b) = true then 1 else 0) : Int) = ((manyB b : Nat) : Int) := by
  unfold manyB
  simp only [decide_eq_true_eq]
  split <;> split <;> rfl
theorem loB_eq (b : Int) : (lookI [(224, 160), (240, 144)] b).getD 128 = loB b := by
  unfold lookI loB
  by_cases h1 : b = 224
  · subst h1; rfl
  · by_cases h2 : b = 240
    · subst h2; rfl
    · rw [if_neg h1, if_neg h2, List.find?_cons, decide_eq_false (fun z => h1 z.symm), List.find?_cons, decide_eq_false (fun z => h2 z.symm)]; rfl
theorem hiB_eq (b : Int) : (lookI [(237, 159), (244, 143)] b).getD 191 = hiB b := by
  unfold lookI hiB
  by_cases h1 : b = 237
  · subst h1; rfl
  · by_cases h2 : b = 244
    · subst h2; rfl
    · rw [if_neg h1, if_neg h2, List.find?_cons, decide_eq_false (fun z => h1 z.symm), List.find?_cons, decide_eq_false (fun z => h2 z.symm)]; rfl
def sgI (a : Nat) : Sum Nat Nat → Int
  | .inl k => -(a : Int) - (k : Int) - 1
  | .inr j => (j : Int)
/-- how long a sign is that is read well, and how far one is read -/
theorem contR_len : ∀ (n : Nat) (lo hi : Int) (k : Nat) (r : List Int), (∀ j, contR n lo hi k r = .inr j → j ≤ k + r.length ∧ k ≤ j) ∧ (∀ j, contR n lo hi k r = .inl j → j ≤ k + r.length)
  | 0, _, _, k, r => ⟨fun j h => (by cases h; omega), fun j h => (by cases h)⟩
  | n + 1, _, _, k, [] => ⟨fun j h => (by cases h), fun j h => (by cases h; exact Nat.le_refl _)⟩
  | n + 1, lo, hi, k, c :: r => by
    obtain ⟨h1, h2⟩ := contR_len n 128 191 (k + 1) r
    rw [contR]
    split
    · refine ⟨fun j h => ?_, fun j h => ?_⟩
      · have := h1 j h; rw [List.length_cons]; omega
      · have := h2 j h; rw [List.length_cons]; omega
    · exact ⟨fun j h => (by cases h), fun j h => (by cases h; omega)⟩
theorem sgnR_len {r : List Int} (hr : r ≠ []) : (∀ j, sgnR r = .inr j → 1 ≤ j ∧ j ≤ r.length) ∧ (∀ j, sgnR r = .inl j → j ≤ r.length) := by
  cases r with
  | nil => exact absurd rfl hr
  | cons b r =>
    rw [sgnR]
    split
    · exact ⟨fun j h => (by cases h; exact ⟨Nat.le_refl _, by rw [List.length_cons]; omega⟩), fun j h => (by cases h)⟩
    · split
      · exact ⟨fun j h => (by cases h), fun j h => (by cases h; omega)⟩
      · obtain ⟨h1, h2⟩ := contR_len (manyB b) (loB b) (hiB b) 1 r
        exact ⟨fun j h => (by have := h1 j h; rw [List.length_cons]; omega), fun j h => (by have := h2 j h; rw [List.length_cons]; omega)⟩
theorem hv_eq (b : Int) : (if (decide (65 ≤ b) && decide (b ≤ 70)) = true then b - 55 else if (decide (97 ≤ b) && decide (b ≤ 102)) = true then b - 87 else if (decide (48 ≤ b) && decide (b ≤ 57)) = true then b - 48 else -1) = f_hex_value b := by
  unfold f_hex_value
  simp only [Bool.and_eq_true, decide_eq_true_eq]
  repeat' split
  all_goals first | rfl | omega
theorem hexR_len {low : Bool} : ∀ (j : Nat) (nu : Int) (r : List Int), j ≤ 4 → 4 - j ≤ (hexR low j nu r).2 ∧ (hexR low j nu r).2 ≤ 4 - j + r.length ∧ (hexR low j nu r).2 ≤ 4
  | 0, nu, r, _ => ⟨Nat.le_refl _, by show 4 ≤ 4 + r.length; omega, Nat.le_refl _⟩
  | j + 1, nu, [], h => by rw [hexR]; dsimp only; omega
  | j + 1, nu, b :: r, h => by
    rw [hexR]
    split
    · dsimp only; omega
    · have := hexR_len (low := low) j (nu * 16 + f_hex_value b) r (by omega)
      rw [List.length_cons]; omega
theorem hexR_ok {low : Bool} : ∀ (j : Nat) (nu : Int) (r : List Int), j ≤ 4 → 0 ≤ (hexR low j nu r).1 → (hexR low j nu r).2 = 4 ∧ j ≤ r.length
  | 0, nu, r, _, _ => ⟨rfl, Nat.zero_le _⟩
  | j + 1, nu, [], h, g => by rw [hexR] at g; exact absurd (show (0 : Int) ≤ -1 from g) (by decide)
  | j + 1, nu, b :: r, h, g => by
    rw [hexR] at g ⊢
    split at g
    · exact absurd (show (0 : Int) ≤ -1 from g) (by decide)
    · rename_i hc
      rw [if_neg hc]
      have := hexR_ok (low := low) j (nu * 16 + f_hex_value b) r (by omega) g
      rw [List.length_cons]; omega
/-- an escape's length is within the row -/
theorem escR_len {r : List Int} (hr : r ≠ []) : 1 ≤ (escR r).2 ∧ (escR r).2 ≤ r.length := by
  have hl : 1 ≤ r.length := List.length_pos_iff.mpr hr
  unfold escR
  cases hd : r.drop 1 with
  | nil => exact ⟨Nat.le_refl _, hl⟩
  | cons c r' =>
    have hl2 : 2 ≤ r.length := by
      have := congrArg List.length hd
      rw [List.length_drop, List.length_cons] at this; omega
    dsimp only
    split
    · exact ⟨by decide, hl2⟩
    · split
      · exact ⟨Nat.le_refl _, hl⟩
      · have h1 := hexR_len (low := false) 4 0 (r.drop 2) (Nat.le_refl _)
        have h2 := hexR_ok (low := false) 4 0 (r.drop 2) (Nat.le_refl _)
        rw [List.length_drop] at h1 h2
        split
        · dsimp only; omega
        · rename_i hc
          rw [not_or] at hc
          obtain ⟨h3, h4⟩ := h2 (by omega)
          split
          · dsimp only; omega
          · rename_i h6
            have h6' : 7 ≤ r.length := by
              cases hh : r.drop 6 with
              | nil => rw [hh] at h6; exact absurd (by simp) h6
              | cons x l => have := congrArg List.length hh; rw [List.length_drop, List.length_cons] at this; omega
            split
            · dsimp only; omega
            · rename_i h7
              have h7' : 8 ≤ r.length := by
                cases hh : r.drop 7 with
                | nil => rw [hh] at h7; exact absurd (by simp) h7
                | cons x l => have := congrArg List.length hh; rw [List.length_drop, List.length_cons] at this; omega
              have h8 := hexR_len (low := true) 4 0 (r.drop 8) (Nat.le_refl _)
              rw [List.length_drop] at h8
              dsimp only; omega
theorem figN_le : ∀ r : List Int, figN r ≤ r.length
  | [] => Nat.le_refl _
  | b :: r => by
    rw [figN, List.length_cons]
    split
    · have := figN_le r; omega
    · omega

/-! _law_hexes -/
abbrev s_l_hexes : Stmt := topS 54
abbrev n_l_hexes : List Str := ["_law_row", "_law_at", "_law_low", "_law_number", "_law_k", "_law_figure", "_law_worth", "_law_half"]
theorem c_l_hexes : FnScope n_l_hexes ["_law_row", "_law_at", "_law_low"] (defScope s_l_hexes) := ⟨rfl, rfl, rfl, by decide +kernel, rfl, by decide +kernel, by decide +kernel⟩
def S_l_hexes : List PyData → Out → Prop := fun ds o => ∃ (row : List Int) (a : Nat) (low : Bool), ds = [.list (row.map .int), .int (a : Int), .bool low] ∧ row.length ≤ 1000000 ∧ a ≤ row.length ∧ o = .ok (.tuple [.int (hexR low 4 0 (row.drop a)).1, .int ((a + (hexR low 4 0 (row.drop a)).2 : Nat) : Int)])
theorem okII {x y u v : Int} (h : x = u) (g : y = v) : Out.ok (.tuple [.int x, .int y]) = Out.ok (.tuple [.int u, .int v]) := by subst h g; rfl
theorem hx_cond {m : Nat} {v nu : Int} {low : Bool} (hm : m < 4) : (decide (v < 0) || ((decide ((m : Int) = 1) && !((decide ((m : Int) = 1) && (decide (220 ≤ nu) && decide (nu ≤ 223))) == low)) || (decide ((m : Int) = 0) && (low && !decide (v = 13))))) = decide (v < 0 ∨ (3 - m = 2 ∧ decide (220 ≤ nu ∧ nu ≤ 223) ≠ low) ∨ (3 - m = 3 ∧ low = true ∧ v ≠ 13)) := by
  rw [← Bool.decide_and]
  rcases (by omega : m = 0 ∨ m = 1 ∨ m = 2 ∨ m = 3) with rfl | rfl | rfl | rfl <;> cases low <;> by_cases h : 220 ≤ nu ∧ nu ≤ 223 <;> simp [h]

theorem h_l_hexes (Df : Def K mg "_law_hexes" s_l_hexes) (B : BI mg) : Has P w K mg base "_law_hexes" 1 (S_l_hexes) := by
  have nd := c_l_hexes.nd
  refine has_pu Df c_l_hexes (fun _ _ _ _ _ _ us hl => match us, hl with | [_, _, _], _ => rfl) ?_ ?_
  · rintro ds o ⟨row, a, low, rfl, hl, ha, rfl⟩; rfl
  rintro f cdv A outer s H E hr O ds out ⟨row, a, low, rfl, hl, ha, rfl⟩
  refine ds_cons (ds_asg (n := 3) nd (de_int) ?_)
  refine ds_cons (ds_for (n := 4) (passes_of rfl) rfl nd (ie_rng B.range (de_int).b (by omega)) (fun m ρ => ∃ nu b4 b5 b6 b7, ρ = [.va (.list (row.map .int)), .va (.int (a : Int)), .va (.bool low), .va (.int nu), b4, b5, b6, b7] ∧ m ≤ 4 ∧ a + m ≤ row.length ∧ hexR low (4 - m) nu (row.drop (a + m)) = hexR low 4 0 (row.drop a)) (⟨0, _, _, _, _, rfl, Nat.zero_le _, ha, rfl⟩) ?_ ?_)
  · rintro m d ρ' hd ⟨nu, b4, b5, b6, b7, rfl, hm4, hla, hinv⟩
    obtain ⟨hm, rfl⟩ := upTo_at hd
    have hmm : 4 - m = (3 - m) + 1 := by omega
    refine ds_cons (ds_if (dt_eqI (de_add (de_va (i := 1) rfl).b (de_va (i := 4) rfl).b).b (de_lenL B.len (LE.of (de_va (i := 0) rfl))).b) (fun hc => ?_) (fun hc => ?_))
    · simp only [Bool.and_eq_true, Bool.or_eq_true, Bool.and_eq_false_iff, Bool.or_eq_false_iff, Bool.not_eq_true', Bool.not_eq_false', decide_eq_true_eq, decide_eq_false_iff_not, Bool.not_not, Bool.not_eq_true, Bool.not_eq_false, List.isEmpty_eq_false_iff, List.isEmpty_iff, beq_iff_eq, ne_eq] at hc
      refine ds_cons (ds_ret (de_tup (ad_cons (de_neg (de_int).b) (ad_cons (de_add (de_va (i := 1) rfl).b (de_va (i := 4) rfl).b) ad_nil)) (by simp only [List.length_cons, List.length_nil]; omega)) (Or.inl ?_))
      rw [List.length_map] at hc
      rw [← hinv, hmm, List.drop_eq_nil_of_le (by omega), hexR]
      exact okII rfl (by dsimp only; omega)
    · simp only [Bool.and_eq_true, Bool.or_eq_true, Bool.and_eq_false_iff, Bool.or_eq_false_iff, Bool.not_eq_true', Bool.not_eq_false', decide_eq_true_eq, decide_eq_false_iff_not, Bool.not_not, Bool.not_eq_true, Bool.not_eq_false, List.isEmpty_eq_false_iff, List.isEmpty_iff, beq_iff_eq, ne_eq] at hc
      rw [List.length_map] at hc
      have hx : a + m < row.length := by omega
      obtain ⟨b, hb⟩ : ∃ b, row[a + m]? = some b := ⟨_, List.getElem?_eq_getElem hx⟩
      rw [DL.drop_at hb, hmm, hexR] at hinv
      refine ds_nil ?_
      refine ds_cons (ds_asg (n := 5) nd (de_ixL (LE.of (de_va (i := 0) rfl)) (de_add (de_va (i := 1) rfl).b (de_va (i := 4) rfl).b).b (at_row hb (by omega))) ?_)
      refine ds_cons (ds_asg (n := 6) nd (de_ifI (dt_lele (de_int).b (de_va (i := 5) rfl).b (de_int).b) (de_sub (de_va (i := 5) rfl).b (de_int).b) (de_neg (de_int).b)) ?_)
      refine ds_cons (ds_ifI (n := 6) nd (dt_lele (de_int).b (de_va (i := 5) rfl).b (de_int).b) rfl (de_sub (de_va (i := 5) rfl).b (de_int).b) ?_)
      refine ds_cons (ds_ifI (n := 6) nd (dt_lele (de_int).b (de_va (i := 5) rfl).b (de_int).b) rfl (de_sub (de_va (i := 5) rfl).b (de_int).b) ?_)
      rw [hv_eq]
      refine ds_cons (ds_asg (n := 3) nd (de_add (de_mul (de_va (i := 3) rfl).b (de_int).b (by walk_at "side")).b (de_va (i := 6) rfl).b) ?_)
      refine ds_cons (ds_asg (n := 7) nd (de_and2 (de_eqI (de_va (i := 4) rfl).b (de_int).b) (fun h1_ => (de_lele (de_int).b (de_va (i := 3) rfl).b (de_int).b))) ?_)
      refine ds_cons (ds_if (dt_or3 (dt_lt (de_va (i := 6) rfl).b (de_int).b) (fun h1_ => dt_and2 (dt_eqI (de_va (i := 4) rfl).b (de_int).b) (fun h1_ => dt_neB (de_va (i := 7) rfl).b (de_va (i := 2) rfl).b)) (fun h1_ h2_ => dt_and3 (dt_eqI (de_va (i := 4) rfl).b (de_int).b) (fun h1_ => dt_bl (de_va (i := 2) rfl).b) (fun h1_ h2_ => dt_neI (de_va (i := 6) rfl).b (de_int).b))) (fun hc => ?_) (fun hc => ?_))
      · skip
        have hc := of_decide_eq_true ((hx_cond hm).symm.trans hc)
        rw [if_pos hc] at hinv
        refine ds_cons (ds_ret (de_tup (ad_cons (de_neg (de_int).b) (ad_cons (de_add (de_va (i := 1) rfl).b (de_va (i := 4) rfl).b) ad_nil)) (by simp only [List.length_cons, List.length_nil]; omega)) (Or.inl ?_))
        rw [← hinv]; exact okII rfl (by dsimp only; omega)
      · skip
        have hc := of_decide_eq_false ((hx_cond hm).symm.trans hc)
        rw [if_neg hc] at hinv
        refine ds_nil ?_
        exact ds_nil ⟨nu * 16 + f_hex_value b, _, _, _, _, rfl, by omega, by omega, by rw [← hinv, show 4 - (m + 1) = 3 - m by omega]; rfl⟩
  · rintro ρ' ⟨nu, b4, b5, b6, b7, rfl, hm4, hla, hinv⟩
    rw [upTo_len, show ((4 : Int).toNat) = 4 from rfl, Nat.sub_self, hexR] at hinv
    refine ds_cons (ds_ret (de_tup (ad_cons (de_va (i := 3) rfl) (ad_cons (de_add (de_va (i := 1) rfl).b (de_int).b) ad_nil)) (by simp only [List.length_cons, List.length_nil]; omega)) (Or.inl ?_))
    rw [← hinv]; exact okII rfl rfl
/-! _law_escape -/
abbrev s_l_escape : Stmt := topS 55
abbrev n_l_escape : List Str := ["_law_row", "_law_at", "_law_first", "_law_k", "_law_second"]
theorem c_l_escape : FnScope n_l_escape ["_law_row", "_law_at"] (defScope s_l_escape) := ⟨rfl, rfl, rfl, by decide +kernel, rfl, by decide +kernel, by decide +kernel⟩
theorem escR_at (row : List Int) (a : Nat) : escR (row.drop a) = match row[a + 1]? with
    | none => (false, 1)
    | some c => if c ∈ ([34, 92, 47, 98, 102, 110, 114, 116] : List Int) then (true, 2) else if c ≠ 117 then (false, 1)
      else if (hexR false 4 0 (row.drop (a + 2))).1 < 0 ∨ ¬ (55296 ≤ (hexR false 4 0 (row.drop (a + 2))).1 ∧ (hexR false 4 0 (row.drop (a + 2))).1 ≤ 56319) then (decide (0 ≤ (hexR false 4 0 (row.drop (a + 2))).1), 2 + (hexR false 4 0 (row.drop (a + 2))).2)
      else if row[a + 6]? ≠ some 92 then (false, 6) else if row[a + 7]? ≠ some 117 then (false, 7)
      else (decide (0 ≤ (hexR true 4 0 (row.drop (a + 8))).1), 8 + (hexR true 4 0 (row.drop (a + 8))).2) := by
  unfold escR
  simp only [List.drop_drop, List.head?_drop]
  cases h : row[a + 1]? with
  | none => rw [List.drop_eq_nil_of_le (List.getElem?_eq_none_iff.mp h)]
  | some c => rw [DL.drop_at h]
def S_l_escape : List PyData → Out → Prop := fun ds o => ∃ (row : List Int) (a : Nat), ds = [.list (row.map .int), .int (a : Int)] ∧ row.length ≤ 1000000 ∧ a < row.length ∧ o = .ok (okB (escR (row.drop a)).1 ((a + (escR (row.drop a)).2 : Nat) : Int))

theorem h_l_escape (Df : Def K mg "_law_escape" s_l_escape) (B : BI mg) (G_l_hexes : Has P w K mg base "_law_hexes" 1 (S_l_hexes)) : Has P w K mg base "_law_escape" 2 (S_l_escape) := by
  have nd := c_l_escape.nd
  refine has_pu Df c_l_escape (fun _ _ _ _ _ _ us hl => match us, hl with | [_, _], _ => rfl) ?_ ?_
  · rintro ds o ⟨row, a, rfl, hl, ha, rfl⟩; rfl
  rintro f cdv A outer s H E hr O ds out ⟨row, a, rfl, hl, ha, rfl⟩
  refine ds_cons (ds_if (dt_eqI (de_add (de_va (i := 1) rfl).b (de_int).b).b (de_lenL B.len (LE.of (de_va (i := 0) rfl))).b) (fun hc => ?_) (fun hc => ?_))
  · simp only [Bool.and_eq_true, Bool.or_eq_true, Bool.and_eq_false_iff, Bool.or_eq_false_iff, Bool.not_eq_true', Bool.not_eq_false', decide_eq_true_eq, decide_eq_false_iff_not, Bool.not_not, Bool.not_eq_true, Bool.not_eq_false, List.isEmpty_eq_false_iff, List.isEmpty_iff, beq_iff_eq, ne_eq] at hc
    refine ds_cons (ds_ret (de_tup (ad_cons (de_bl) (ad_cons (de_add (de_va (i := 1) rfl).b (de_int).b) ad_nil)) (by simp only [List.length_cons, List.length_nil]; omega)) (Or.inl ?_))
    rw [List.length_map] at hc
    rw [escR_at, List.getElem?_eq_none_iff.mpr (by omega)]; exact okBe rfl rfl
  · simp only [Bool.and_eq_true, Bool.or_eq_true, Bool.and_eq_false_iff, Bool.or_eq_false_iff, Bool.not_eq_true', Bool.not_eq_false', decide_eq_true_eq, decide_eq_false_iff_not, Bool.not_not, Bool.not_eq_true, Bool.not_eq_false, List.isEmpty_eq_false_iff, List.isEmpty_iff, beq_iff_eq, ne_eq] at hc
    rw [List.length_map] at hc
    obtain ⟨c, hb⟩ : ∃ c, row[a + 1]? = some c := ⟨_, List.getElem?_eq_getElem (by omega)⟩
    have hes := escR_at row a
    rw [hb] at hes
    dsimp only at hes
    refine ds_nil ?_
    refine ds_cons (ds_if (dt_inI (ns := [34, 92, 47, 98, 102, 110, 114, 116]) (de_ixL (LE.of (de_va (i := 0) rfl)) (de_add (de_va (i := 1) rfl).b (de_int).b).b (at_row hb (by omega))).b (de_tup (ad_cons (de_int) (ad_cons (de_int) (ad_cons (de_int) (ad_cons (de_int) (ad_cons (de_int) (ad_cons (de_int) (ad_cons (de_int) (ad_cons (de_int) ad_nil)))))))) (by simp only [List.length_cons, List.length_nil]; omega)).b) (fun hc => ?_) (fun hc => ?_))
    · simp only [Bool.and_eq_true, Bool.or_eq_true, Bool.and_eq_false_iff, Bool.or_eq_false_iff, Bool.not_eq_true', Bool.not_eq_false', decide_eq_true_eq, decide_eq_false_iff_not, Bool.not_not, Bool.not_eq_true, Bool.not_eq_false, List.isEmpty_eq_false_iff, List.isEmpty_iff, beq_iff_eq, ne_eq] at hc
      refine ds_cons (ds_ret (de_tup (ad_cons (de_bl) (ad_cons (de_add (de_va (i := 1) rfl).b (de_int).b) ad_nil)) (by simp only [List.length_cons, List.length_nil]; omega)) (Or.inl ?_))
      rw [hes, if_pos hc]; exact okBe rfl rfl
    · simp only [Bool.and_eq_true, Bool.or_eq_true, Bool.and_eq_false_iff, Bool.or_eq_false_iff, Bool.not_eq_true', Bool.not_eq_false', decide_eq_true_eq, decide_eq_false_iff_not, Bool.not_not, Bool.not_eq_true, Bool.not_eq_false, List.isEmpty_eq_false_iff, List.isEmpty_iff, beq_iff_eq, ne_eq] at hc
      rw [if_neg hc] at hes
      refine ds_nil ?_
      refine ds_cons (ds_if (dt_neI (de_ixL (LE.of (de_va (i := 0) rfl)) (de_add (de_va (i := 1) rfl).b (de_int).b).b (at_row hb (by omega))).b (de_int).b) (fun hc => ?_) (fun hc => ?_))
      · simp only [Bool.and_eq_true, Bool.or_eq_true, Bool.and_eq_false_iff, Bool.or_eq_false_iff, Bool.not_eq_true', Bool.not_eq_false', decide_eq_true_eq, decide_eq_false_iff_not, Bool.not_not, Bool.not_eq_true, Bool.not_eq_false, List.isEmpty_eq_false_iff, List.isEmpty_iff, beq_iff_eq, ne_eq] at hc
        refine ds_cons (ds_ret (de_tup (ad_cons (de_bl) (ad_cons (de_add (de_va (i := 1) rfl).b (de_int).b) ad_nil)) (by simp only [List.length_cons, List.length_nil]; omega)) (Or.inl ?_))
        rw [hes, if_pos hc]; exact okBe rfl rfl
      · simp only [Bool.and_eq_true, Bool.or_eq_true, Bool.and_eq_false_iff, Bool.or_eq_false_iff, Bool.not_eq_true', Bool.not_eq_false', decide_eq_true_eq, decide_eq_false_iff_not, Bool.not_not, Bool.not_eq_true, Bool.not_eq_false, List.isEmpty_eq_false_iff, List.isEmpty_iff, beq_iff_eq, ne_eq] at hc
        rw [if_neg (by omega)] at hes
        have hx2 := hexR_ok (low := false) 4 0 (row.drop (a + 2)) (Nat.le_refl _)
        rw [List.length_drop] at hx2
        refine ds_nil ?_
        refine ds_cons (ds_asg (n := 2) nd (de_call G_l_hexes (hr.mono (by first | decide | omega)) (ad_cons (de_va (i := 0) rfl) (ad_cons (de_add (de_va (i := 1) rfl).b (de_int).b) (ad_cons (de_bl) ad_nil))) (⟨row, a + 2, false, rfl, hl, by omega, rfl⟩)) ?_)
        generalize hexR false 4 0 (row.drop (a + 2)) = x at hes hx2 ⊢
        refine ds_cons (ds_if (dt_or2 (dt_lt (de_ixT (de_va (i := 2) rfl) (de_int).b (rfl)).b (de_int).b) (fun h1_ => dt_not (dt_lele (de_int).b (de_ixT (de_va (i := 2) rfl) (de_int).b (rfl)).b (de_int).b))) (fun hc => ?_) (fun hc => ?_))
        · simp only [Bool.and_eq_true, Bool.or_eq_true, Bool.and_eq_false_iff, Bool.or_eq_false_iff, Bool.not_eq_true', Bool.not_eq_false', decide_eq_true_eq, decide_eq_false_iff_not, Bool.not_not, Bool.not_eq_true, Bool.not_eq_false, List.isEmpty_eq_false_iff, List.isEmpty_iff, beq_iff_eq, ne_eq] at hc
          refine ds_cons (ds_ret (de_tup (ad_cons (de_ge (de_ixT (de_va (i := 2) rfl) (de_int).b (rfl)).b (de_int).b) (ad_cons (de_ixT (de_va (i := 2) rfl) (de_int).b (rfl)) ad_nil)) (by simp only [List.length_cons, List.length_nil]; omega)) (Or.inl ?_))
          rw [hes, if_pos (by omega)]; exact okBe rfl (by omega)
        · simp only [Bool.and_eq_true, Bool.or_eq_true, Bool.and_eq_false_iff, Bool.or_eq_false_iff, Bool.not_eq_true', Bool.not_eq_false', decide_eq_true_eq, decide_eq_false_iff_not, Bool.not_not, Bool.not_eq_true, Bool.not_eq_false, List.isEmpty_eq_false_iff, List.isEmpty_iff, beq_iff_eq, ne_eq] at hc
          rw [if_neg (by omega)] at hes
          obtain ⟨hx4, hx6⟩ := hx2 (by omega)
          refine ds_nil ?_
          refine ds_cons (ds_for (n := 3) (passes_of rfl) rfl nd (ie_rng B.range (de_int).b (by decide)) (fun m ρ => ∃ b3, ρ = [.va (.list (row.map .int)), .va (.int (a : Int)), .va (.tuple [.int x.1, .int ((a + 2 + x.2 : Nat) : Int)]), b3, .no] ∧ m ≤ 2 ∧ a + 6 + m ≤ row.length ∧ (1 ≤ m → row[a + 6]? = some 92) ∧ (2 ≤ m → row[a + 7]? = some 117)) (⟨_, rfl, Nat.zero_le _, by omega, fun h => by omega, fun h => by omega⟩) ?_ ?_)
          · rintro m d ρ' hd ⟨b3, rfl, hm2, hlm, hm6, hm7⟩
            obtain ⟨hm, rfl⟩ := upTo_at hd
            rw [show ((2 : Int).toNat) = 2 from rfl] at hm
            refine ds_cons (ds_if (dt_or2 (dt_eqI (de_add (de_add (de_va (i := 1) rfl).b (de_int).b).b (de_va (i := 3) rfl).b).b (de_lenL B.len (LE.of (de_va (i := 0) rfl))).b) (fun h1_ => dt_neI (de_ixL (LE.of (de_va (i := 0) rfl)) (de_add (de_add (de_va (i := 1) rfl).b (de_int).b).b (de_va (i := 3) rfl).b).b (at_rowD (a := a + 6 + m) (by omega) (by have := of_decide_eq_false h1_; rw [List.length_map] at this; omega))).b (de_ixL (LE.of (ne_lst (ad_cons (de_int) (ad_cons (de_int) ad_nil)) (by simp only [List.length_cons, List.length_nil]; omega)).de) (de_va (i := 3) rfl).b (at_rowD (row := [92, 117]) (a := m) rfl hm)).b)) (fun hc => ?_) (fun hc => ?_))
            · simp only [Bool.and_eq_true, Bool.or_eq_true, Bool.and_eq_false_iff, Bool.or_eq_false_iff, Bool.not_eq_true', Bool.not_eq_false', decide_eq_true_eq, decide_eq_false_iff_not, Bool.not_not, Bool.not_eq_true, Bool.not_eq_false, List.isEmpty_eq_false_iff, List.isEmpty_iff, beq_iff_eq, ne_eq] at hc
              refine ds_cons (ds_ret (de_tup (ad_cons (de_bl) (ad_cons (de_add (de_add (de_va (i := 1) rfl).b (de_int).b).b (de_va (i := 3) rfl).b) ad_nil)) (by simp only [List.length_cons, List.length_nil]; omega)) (Or.inl ?_))
              rw [List.length_map] at hc
              have hno : row[a + 6 + m]? ≠ some (([92, 117] : List Int).getD m 0) := fun z => by
                rcases hc with hc | hc
                · have := (List.getElem?_eq_some_iff.mp z).1; omega
                · exact hc (by rw [List.getD_eq_getElem?_getD, z]; rfl)
              rcases (by omega : m = 0 ∨ m = 1) with rfl | rfl
              · rw [hes, if_pos (show row[a + 6]? ≠ some 92 from hno)]; exact okBe rfl (by dsimp only; omega)
              · rw [hes, if_neg (by rw [hm6 (Nat.le_refl _)]; simp), if_pos (show row[a + 7]? ≠ some 117 from hno)]; exact okBe rfl (by dsimp only; omega)
            · simp only [Bool.and_eq_true, Bool.or_eq_true, Bool.and_eq_false_iff, Bool.or_eq_false_iff, Bool.not_eq_true', Bool.not_eq_false', decide_eq_true_eq, decide_eq_false_iff_not, Bool.not_not, Bool.not_eq_true, Bool.not_eq_false, List.isEmpty_eq_false_iff, List.isEmpty_iff, beq_iff_eq, ne_eq] at hc
              refine ds_nil ?_
              rw [List.length_map] at hc
              have hx : a + 6 + m < row.length := by omega
              have hyes : row[a + 6 + m]? = some (([92, 117] : List Int).getD m 0) := by rw [List.getElem?_eq_getElem hx, ← hc.2, List.getD_eq_getElem?_getD, List.getElem?_eq_getElem hx]; rfl
              refine ds_nil ⟨_, rfl, by omega, by omega, fun _ => ?_, fun _ => ?_⟩
              · rcases (by omega : m = 0 ∨ m = 1) with rfl | rfl
                · exact hyes
                · exact hm6 (Nat.le_refl _)
              · rcases (by omega : m = 0 ∨ m = 1) with rfl | rfl
                · omega
                · exact hyes
          · rintro ρ' ⟨b3, rfl, hm2, hlm, hm6, hm7⟩
            rw [upTo_len, show ((2 : Int).toNat) = 2 from rfl] at hlm hm6 hm7
            rw [if_neg (by rw [hm6 (by decide)]; simp), if_neg (by rw [hm7 (by decide)]; simp)] at hes
            refine ds_cons (ds_asg (n := 4) nd (de_call G_l_hexes (hr.mono (by first | decide | omega)) (ad_cons (de_va (i := 0) rfl) (ad_cons (de_add (de_va (i := 1) rfl).b (de_int).b) (ad_cons (de_bl) ad_nil))) (⟨row, a + 8, true, rfl, hl, by omega, rfl⟩)) ?_)
            refine ds_cons (ds_ret (de_tup (ad_cons (de_ge (de_ixT (de_va (i := 4) rfl) (de_int).b (rfl)).b (de_int).b) (ad_cons (de_ixT (de_va (i := 4) rfl) (de_int).b (rfl)) ad_nil)) (by simp only [List.length_cons, List.length_nil]; omega)) (Or.inl ?_))
            rw [hes]; exact okBe rfl (by dsimp only; omega)
/-! _law_sign_size -/
abbrev s_l_sign_size : Stmt := topS 53
abbrev n_l_sign_size : List Str := ["_law_row", "_law_at", "_law_lead", "_law_many_here", "_law_low", "_law_high", "_law_k"]
theorem c_l_sign_size : FnScope n_l_sign_size ["_law_row", "_law_at"] (defScope s_l_sign_size) := ⟨rfl, rfl, rfl, by decide +kernel, rfl, by decide +kernel, by decide +kernel⟩
def S_l_sign_size : List PyData → Out → Prop := fun ds o => ∃ (row : List Int) (a : Nat), ds = [.list (row.map .int), .int (a : Int)] ∧ row.length ≤ 1000000 ∧ a < row.length ∧ o = .ok (.int (sgI a (sgnR (row.drop a))))

theorem h_l_sign_size (Df : Def K mg "_law_sign_size" s_l_sign_size) (B : BI mg) : Has P w K mg base "_law_sign_size" 1 (S_l_sign_size) := by
  have nd := c_l_sign_size.nd
  refine has_pu Df c_l_sign_size (fun _ _ _ _ _ _ us hl => match us, hl with | [_, _], _ => rfl) ?_ ?_
  · rintro ds o ⟨row, a, rfl, hl, ha, rfl⟩; rfl
  rintro f cdv A outer s H E hr O ds out ⟨row, a, rfl, hl, ha, rfl⟩
  obtain ⟨b, hb⟩ : ∃ b, row[a]? = some b := ⟨_, List.getElem?_eq_getElem ha⟩
  have hdr := DL.drop_at hb
  have hmb := manyB_le b
  refine ds_cons (ds_asg (n := 2) nd (de_ixL (LE.of (de_va (i := 0) rfl)) (de_va (i := 1) rfl).b (at_row hb rfl)) ?_)
  refine ds_cons (ds_if (dt_lt (de_va (i := 2) rfl).b (de_int).b) (fun hc => ?_) (fun hc => ?_))
  · simp only [Bool.and_eq_true, Bool.or_eq_true, Bool.and_eq_false_iff, Bool.or_eq_false_iff, Bool.not_eq_true', Bool.not_eq_false', decide_eq_true_eq, decide_eq_false_iff_not, Bool.not_not, Bool.not_eq_true, Bool.not_eq_false, List.isEmpty_eq_false_iff, List.isEmpty_iff, beq_iff_eq, ne_eq] at hc
    refine ds_cons (ds_ret (de_int) (Or.inl ?_))
    rw [hdr, sgnR, if_pos hc]; rfl
  · simp only [Bool.and_eq_true, Bool.or_eq_true, Bool.and_eq_false_iff, Bool.or_eq_false_iff, Bool.not_eq_true', Bool.not_eq_false', decide_eq_true_eq, decide_eq_false_iff_not, Bool.not_not, Bool.not_eq_true, Bool.not_eq_false, List.isEmpty_eq_false_iff, List.isEmpty_iff, beq_iff_eq, ne_eq] at hc
    refine ds_nil ?_
    refine ds_cons (ds_asg (n := 3) nd (de_add (de_add (de_int).b (de_intB B.int (de_ge (de_va (i := 2) rfl).b (de_int).b).b).b).b (de_intB B.int (de_ge (de_va (i := 2) rfl).b (de_int).b).b).b) ?_)
    rw [manyB_eq]
    refine ds_cons (ds_if (dt_or2 (dt_lt (de_va (i := 2) rfl).b (de_int).b) (fun h1_ => dt_gt (de_va (i := 2) rfl).b (de_int).b)) (fun hc => ?_) (fun hc => ?_))
    · simp only [Bool.and_eq_true, Bool.or_eq_true, Bool.and_eq_false_iff, Bool.or_eq_false_iff, Bool.not_eq_true', Bool.not_eq_false', decide_eq_true_eq, decide_eq_false_iff_not, Bool.not_not, Bool.not_eq_true, Bool.not_eq_false, List.isEmpty_eq_false_iff, List.isEmpty_iff, beq_iff_eq, ne_eq] at hc
      refine ds_cons (ds_ret (de_sub (de_neg (de_va (i := 1) rfl).b).b (de_int).b) (Or.inl ?_))
      rw [hdr, sgnR, if_neg (by omega), if_pos hc]; exact okI (by show _ = -(a : Int) - ((0 : Nat) : Int) - 1; omega)
    · simp only [Bool.and_eq_true, Bool.or_eq_true, Bool.and_eq_false_iff, Bool.or_eq_false_iff, Bool.not_eq_true', Bool.not_eq_false', decide_eq_true_eq, decide_eq_false_iff_not, Bool.not_not, Bool.not_eq_true, Bool.not_eq_false, List.isEmpty_eq_false_iff, List.isEmpty_iff, beq_iff_eq, ne_eq] at hc
      refine ds_nil ?_
      refine ds_cons (ds_asg (n := 4) nd (de_getL [(224, 160), (240, 144)] hr (de_va (i := 2) rfl).b de_int) ?_)
      rw [loB_eq]
      refine ds_cons (ds_asg (n := 5) nd (de_getL [(237, 159), (244, 143)] hr (de_va (i := 2) rfl).b de_int) ?_)
      rw [hiB_eq]
      refine ds_cons (ds_for (n := 6) (passes_of rfl) rfl nd (ie_rng B.range (de_va (i := 3) rfl).b (by omega)) (fun m ρ => ∃ lo hi b6, ρ = [.va (.list (row.map .int)), .va (.int (a : Int)), .va (.int b), .va (.int ((manyB b : Nat) : Int)), .va (.int lo), .va (.int hi), b6] ∧ a + 1 + m ≤ row.length ∧ m ≤ manyB b ∧ contR (manyB b - m) lo hi (1 + m) (row.drop (a + 1 + m)) = sgnR (row.drop a)) (⟨loB b, hiB b, _, rfl, by omega, Nat.zero_le _, by rw [hdr, sgnR, if_neg (by omega), if_neg (by omega)]; rfl⟩) ?_ ?_)
      · rintro m d ρ' hd ⟨lo, hi, b6, rfl, hla, hlm, hinv⟩
        obtain ⟨hm, rfl⟩ := upTo_at hd
        rw [Int.toNat_natCast] at hm
        have hmm : manyB b - m = (manyB b - m - 1) + 1 := by omega
        refine ds_cons (ds_if (dt_or2 (dt_eqI (de_add (de_add (de_va (i := 1) rfl).b (de_int).b).b (de_va (i := 6) rfl).b).b (de_lenL B.len (LE.of (de_va (i := 0) rfl))).b) (fun h1_ => dt_not (dt_lele (de_va (i := 4) rfl).b (de_ixL (LE.of (de_va (i := 0) rfl)) (de_add (de_add (de_va (i := 1) rfl).b (de_int).b).b (de_va (i := 6) rfl).b).b (at_rowD (a := a + 1 + m) (by omega) (by have := of_decide_eq_false h1_; rw [List.length_map] at this; omega))).b (de_va (i := 5) rfl).b))) (fun hc => ?_) (fun hc => ?_))
        · simp only [Bool.and_eq_true, Bool.or_eq_true, Bool.and_eq_false_iff, Bool.or_eq_false_iff, Bool.not_eq_true', Bool.not_eq_false', decide_eq_true_eq, decide_eq_false_iff_not, Bool.not_not, Bool.not_eq_true, Bool.not_eq_false, List.isEmpty_eq_false_iff, List.isEmpty_iff, beq_iff_eq, ne_eq] at hc
          refine ds_cons (ds_ret (de_sub (de_sub (de_neg (de_va (i := 1) rfl).b).b (de_int).b).b (de_va (i := 6) rfl).b) (Or.inl ?_))
          rw [List.length_map] at hc
          rw [← hinv, hmm, contR_no]
          · exact okI (by show _ = -(a : Int) - ((1 + m : Nat) : Int) - 1; omega)
          · by_cases hx : a + 1 + m = row.length
            · exact .inl (List.drop_eq_nil_of_le (by omega))
            · exact .inr ⟨_, _, drop_getD (by omega), by omega⟩
        · simp only [Bool.and_eq_true, Bool.or_eq_true, Bool.and_eq_false_iff, Bool.or_eq_false_iff, Bool.not_eq_true', Bool.not_eq_false', decide_eq_true_eq, decide_eq_false_iff_not, Bool.not_not, Bool.not_eq_true, Bool.not_eq_false, List.isEmpty_eq_false_iff, List.isEmpty_iff, beq_iff_eq, ne_eq] at hc
          refine ds_nil ?_
          refine ds_cons (ds_asg (n := 4) nd (de_int) ?_)
          refine ds_cons (ds_asg (n := 5) nd (de_int) ?_)
          rw [List.length_map] at hc
          have hx : a + 1 + m < row.length := by omega
          refine ds_nil ⟨128, 191, _, rfl, by omega, by omega, ?_⟩
          rw [← hinv, drop_getD hx, hmm, contR_yes (by omega)]
          rw [show manyB b - m - 1 = manyB b - (m + 1) by omega]; rfl
      · rintro ρ' ⟨lo, hi, b6, rfl, hla, hlm, hinv⟩
        rw [upTo_len, Int.toNat_natCast, Nat.sub_self] at hinv
        refine ds_cons (ds_ret (de_add (de_int).b (de_va (i := 3) rfl).b) (Or.inl ?_))
        rw [← hinv, contR]; exact okI (by show _ = ((1 + manyB b : Nat) : Int); omega)
/-! _law_text_read -/
abbrev s_l_text_read : Stmt := topS 56
abbrev n_l_text_read : List Str := ["_law_row", "_law_at", "_law_step", "_law_size_here"]
theorem c_l_text_read : FnScope n_l_text_read ["_law_row", "_law_at"] (defScope s_l_text_read) := ⟨rfl, rfl, rfl, by decide +kernel, rfl, by decide +kernel, by decide +kernel⟩
def S_l_text_read : List PyData → Out → Prop := fun ds o => ∃ (row : List Int) (a : Nat), ds = [.list (row.map .int), .int (a : Int)] ∧ row.length ≤ 1000000 ∧ a < row.length ∧ o = .ok (okB (txtR (row.length - a) (row.drop (a + 1))).1 ((a + 1 + (txtR (row.length - a) (row.drop (a + 1))).2 : Nat) : Int))

theorem h_l_text_read (Df : Def K mg "_law_text_read" s_l_text_read) (B : BI mg) (G_l_escape : Has P w K mg base "_law_escape" 2 (S_l_escape)) (G_l_sign_size : Has P w K mg base "_law_sign_size" 1 (S_l_sign_size)) : Has P w K mg base "_law_text_read" 3 (S_l_text_read) := by
  have nd := c_l_text_read.nd
  refine has_pu Df c_l_text_read (fun _ _ _ _ _ _ us hl => match us, hl with | [_, _], _ => rfl) ?_ ?_
  · rintro ds o ⟨row, a, rfl, hl, ha, rfl⟩; rfl
  rintro f cdv A outer s H E hr O ds out ⟨row, a, rfl, hl, ha, rfl⟩
  have hfu : row.length - (a + 1) < row.length - a := by omega
  generalize hT : txtR (row.length - a) (row.drop (a + 1)) = T
  refine ds_cons (ds_asg (n := 1) nd (de_add (de_va (i := 1) rfl).b (de_int).b) ?_)
  refine ds_cons (ds_while (passes_of rfl) (fun k ρ => ∃ (c n : Nat) (b2 b3 : Sl), ρ = [.va (.list (row.map .int)), .va (.int (c : Int)), b2, b3] ∧ c ≤ row.length ∧ row.length - c < n ∧ (txtR n (row.drop c)).1 = T.1 ∧ c + (txtR n (row.drop c)).2 = a + 1 + T.2 ∧ k = row.length - c) (row.length - (a + 1)) (⟨a + 1, row.length - a, _, _, rfl, by omega, hfu, by rw [hT], by rw [hT], rfl⟩) ?_)
  rintro m ρ' ⟨c, n, b2, b3, rfl, hcl, hn, h1, h2, rfl⟩
  obtain ⟨n, rfl⟩ : ∃ n', n = n' + 1 := ⟨n - 1, by omega⟩
  refine ⟨_, dt_and2 (dt_lt (de_va (i := 1) rfl).b (de_lenL B.len (LE.of (de_va (i := 0) rfl))).b) (fun h1_ => dt_neI (de_ixL (LE.of (de_va (i := 0) rfl)) (de_va (i := 1) rfl).b (at_rowD rfl (by have := of_decide_eq_true h1_; rw [List.length_map] at this; omega))).b (de_int).b), fun hc => ?_, fun hc => ?_⟩
  · simp only [Bool.and_eq_true, Bool.or_eq_true, Bool.and_eq_false_iff, Bool.or_eq_false_iff, Bool.not_eq_true', Bool.not_eq_false', decide_eq_true_eq, decide_eq_false_iff_not, Bool.not_not, Bool.not_eq_true, Bool.not_eq_false, List.isEmpty_eq_false_iff, List.isEmpty_iff, beq_iff_eq, ne_eq] at hc
    rw [List.length_map] at hc
    have hx : c < row.length := by omega
    obtain ⟨b, hb⟩ : ∃ b, row[c]? = some b := ⟨_, List.getElem?_eq_getElem hx⟩
    have hbg : row.getD c 0 = b := by rw [List.getD_eq_getElem?_getD, hb]; rfl
    rw [hbg] at hc
    rw [DL.drop_at hb, txtR, if_neg hc.2, ← DL.drop_at hb] at h1 h2
    have hes := escR_len (r := row.drop c) (by rw [DL.drop_at hb]; simp)
    have hsg := sgnR_len (r := row.drop c) (by rw [DL.drop_at hb]; simp)
    rw [List.length_drop] at hes hsg
    simp only [List.drop_drop] at h1 h2
    refine ds_cons (ds_if (dt_eqI (de_ixL (LE.of (de_va (i := 0) rfl)) (de_va (i := 1) rfl).b (at_row hb rfl)).b (de_int).b) (fun hc => ?_) (fun hc => ?_))
    · simp only [Bool.and_eq_true, Bool.or_eq_true, Bool.and_eq_false_iff, Bool.or_eq_false_iff, Bool.not_eq_true', Bool.not_eq_false', decide_eq_true_eq, decide_eq_false_iff_not, Bool.not_not, Bool.not_eq_true, Bool.not_eq_false, List.isEmpty_eq_false_iff, List.isEmpty_iff, beq_iff_eq, ne_eq] at hc
      rw [if_pos hc] at h1 h2
      refine ds_cons (ds_asg (n := 2) nd (de_call G_l_escape (hr.mono (by first | decide | omega)) (ad_cons (de_va (i := 0) rfl) (ad_cons (de_va (i := 1) rfl) ad_nil)) (⟨row, c, rfl, hl, hx, rfl⟩)) ?_)
      refine ds_cons (ds_if (dt_not (dt_bl (de_ixT (de_va (i := 2) rfl) (de_int).b (rfl)).b)) (fun hc => ?_) (fun hc => ?_))
      · simp only [Bool.and_eq_true, Bool.or_eq_true, Bool.and_eq_false_iff, Bool.or_eq_false_iff, Bool.not_eq_true', Bool.not_eq_false', decide_eq_true_eq, decide_eq_false_iff_not, Bool.not_not, Bool.not_eq_true, Bool.not_eq_false, List.isEmpty_eq_false_iff, List.isEmpty_iff, beq_iff_eq, ne_eq] at hc
        refine ds_cons (ds_ret (de_tup (ad_cons (de_bl) (ad_cons (de_ixT (de_va (i := 2) rfl) (de_int).b (rfl)) ad_nil)) (by simp only [List.length_cons, List.length_nil]; omega)) (Or.inl ?_))
        rw [if_neg (by rw [hc]; exact Bool.false_ne_true)] at h1 h2
        exact okBe h1 (by dsimp only at h2; omega)
      · simp only [Bool.and_eq_true, Bool.or_eq_true, Bool.and_eq_false_iff, Bool.or_eq_false_iff, Bool.not_eq_true', Bool.not_eq_false', decide_eq_true_eq, decide_eq_false_iff_not, Bool.not_not, Bool.not_eq_true, Bool.not_eq_false, List.isEmpty_eq_false_iff, List.isEmpty_iff, beq_iff_eq, ne_eq] at hc
        rw [if_pos hc] at h1 h2
        refine ds_nil ?_
        refine ds_cons (ds_asg (n := 1) nd (de_ixT (de_va (i := 2) rfl) (de_int).b (rfl)) ?_)
        refine ds_nil ?_
        try dsimp only at h1 h2
        first
          | exact ds_nil ⟨row.length - (c + j), by omega, c + j, n, _, _, rfl, by omega, by omega, h1, by omega, rfl⟩
          | exact ds_nil ⟨row.length - (c + (escR (row.drop c)).2), by omega, c + (escR (row.drop c)).2, n, _, _, rfl, by omega, by omega, h1, by omega, rfl⟩
    · simp only [Bool.and_eq_true, Bool.or_eq_true, Bool.and_eq_false_iff, Bool.or_eq_false_iff, Bool.not_eq_true', Bool.not_eq_false', decide_eq_true_eq, decide_eq_false_iff_not, Bool.not_not, Bool.not_eq_true, Bool.not_eq_false, List.isEmpty_eq_false_iff, List.isEmpty_iff, beq_iff_eq, ne_eq] at hc
      rw [if_neg hc] at h1 h2
      refine ds_cons (ds_asg (n := 3) nd (de_call G_l_sign_size (hr.mono (by first | decide | omega)) (ad_cons (de_va (i := 0) rfl) (ad_cons (de_va (i := 1) rfl) ad_nil)) (⟨row, c, rfl, hl, hx, rfl⟩)) ?_)
      refine ds_cons (ds_if (dt_or2 (dt_lt (de_ixL (LE.of (de_va (i := 0) rfl)) (de_va (i := 1) rfl).b (at_row hb rfl)).b (de_int).b) (fun h1_ => dt_lt (de_va (i := 3) rfl).b (de_int).b)) (fun hc => ?_) (fun hc => ?_))
      · simp only [Bool.and_eq_true, Bool.or_eq_true, Bool.and_eq_false_iff, Bool.or_eq_false_iff, Bool.not_eq_true', Bool.not_eq_false', decide_eq_true_eq, decide_eq_false_iff_not, Bool.not_not, Bool.not_eq_true, Bool.not_eq_false, List.isEmpty_eq_false_iff, List.isEmpty_iff, beq_iff_eq, ne_eq] at hc
        refine ds_cons (ds_ret (de_tup (ad_cons (de_bl) (ad_cons (de_ifI (dt_lt (de_ixL (LE.of (de_va (i := 0) rfl)) (de_va (i := 1) rfl).b (at_row hb rfl)).b (de_int).b) (de_va (i := 1) rfl) (de_sub (de_neg (de_va (i := 3) rfl).b).b (de_int).b)) ad_nil)) (by simp only [List.length_cons, List.length_nil]; omega)) (Or.inl ?_))
        by_cases h32 : b < 32
        · rw [if_pos h32] at h1 h2
          exact okBe h1 (by rw [if_pos (decide_eq_true h32)]; dsimp only at h2; omega)
        · rw [if_neg h32] at h1 h2
          cases hs : sgnR (row.drop c) with
          | inl k =>
            rw [hs] at h1 h2
            dsimp only at h1 h2
            exact okBe h1 (by rw [if_neg (by rw [decide_eq_true_eq]; exact h32)]; show -(-(c : Int) - (k : Int) - 1) - 1 = _; omega)
          | inr j =>
            rw [hs] at hc
            rcases hc with hc | hc
            · exact absurd hc h32
            · exact absurd (show (j : Int) < 0 from hc) (by omega)
      · simp only [Bool.and_eq_true, Bool.or_eq_true, Bool.and_eq_false_iff, Bool.or_eq_false_iff, Bool.not_eq_true', Bool.not_eq_false', decide_eq_true_eq, decide_eq_false_iff_not, Bool.not_not, Bool.not_eq_true, Bool.not_eq_false, List.isEmpty_eq_false_iff, List.isEmpty_iff, beq_iff_eq, ne_eq] at hc
        rw [if_neg hc.1] at h1 h2
        obtain ⟨j, hs⟩ : ∃ j, sgnR (row.drop c) = .inr j := by
          cases hs : sgnR (row.drop c) with
          | inl k => rw [hs] at hc; exact absurd (show -(c : Int) - (k : Int) - 1 < 0 by omega) hc.2
          | inr j => exact ⟨j, rfl⟩
        have hj := hsg.1 j hs
        rw [hs] at h1 h2 ⊢
        dsimp only at h1 h2
        refine ds_nil ?_
        refine ds_cons (ds_asg (n := 1) nd (de_add (de_va (i := 1) rfl).b (de_va (i := 3) rfl).b) ?_)
        refine ds_nil ?_
        try dsimp only at h1 h2
        first
          | exact ds_nil ⟨row.length - (c + j), by omega, c + j, n, _, _, rfl, by omega, by omega, h1, by omega, rfl⟩
          | exact ds_nil ⟨row.length - (c + (escR (row.drop c)).2), by omega, c + (escR (row.drop c)).2, n, _, _, rfl, by omega, by omega, h1, by omega, rfl⟩
  · simp only [Bool.and_eq_true, Bool.or_eq_true, Bool.and_eq_false_iff, Bool.or_eq_false_iff, Bool.not_eq_true', Bool.not_eq_false', decide_eq_true_eq, decide_eq_false_iff_not, Bool.not_not, Bool.not_eq_true, Bool.not_eq_false, List.isEmpty_eq_false_iff, List.isEmpty_iff, beq_iff_eq, ne_eq] at hc
    rw [List.length_map] at hc
    refine ds_cons (ds_ret (de_tup (ad_cons (de_lt (de_va (i := 1) rfl).b (de_lenL B.len (LE.of (de_va (i := 0) rfl))).b) (ad_cons (de_add (de_va (i := 1) rfl).b (de_intB B.int (de_lt (de_va (i := 1) rfl).b (de_lenL B.len (LE.of (de_va (i := 0) rfl))).b).b).b) ad_nil)) (by simp only [List.length_cons, List.length_nil]; omega)) (Or.inl ?_))
    rw [List.length_map]
    by_cases hx : c < row.length
    · obtain ⟨b, hb⟩ : ∃ b, row[c]? = some b := ⟨_, List.getElem?_eq_getElem hx⟩
      have hbg : row.getD c 0 = b := by rw [List.getD_eq_getElem?_getD, hb]; rfl
      rw [DL.drop_at hb, txtR, if_pos (by omega)] at h1 h2
      rw [decide_eq_true (show (c : Int) < (row.length : Int) by omega)]
      exact okBe h1 (by rw [if_pos rfl]; dsimp only at h2; omega)
    · rw [List.drop_eq_nil_of_le (by omega), txtR] at h1 h2
      rw [decide_eq_false (show ¬ (c : Int) < (row.length : Int) by omega)]
      exact okBe h1 (by rw [if_neg Bool.false_ne_true]; dsimp only at h2; omega)
/-! _law_figures -/
abbrev s_l_figures_k07 : Stmt := topS 57
abbrev n_l_figures_k07 : List Str := ["_law_row", "_law_at"]
theorem c_l_figures_k07 : FnScope n_l_figures_k07 ["_law_row", "_law_at"] (defScope s_l_figures_k07) := ⟨rfl, rfl, rfl, by decide +kernel, rfl, by decide +kernel, by decide +kernel⟩
def S_l_figures_k07 : List PyData → Out → Prop := fun ds o => ∃ (row : List Int) (at_ : Nat), ds = [.list (row.map .int), .int (at_ : Int)] ∧ row.length ≤ 1000000 ∧ at_ ≤ 1000000 ∧ o = .ok (.int ((at_ + figN (row.drop at_) : Nat) : Int))

theorem h_l_figures_k07 (Df : Def K mg "_law_figures" s_l_figures_k07) (B : BI mg) : Has P w K mg base "_law_figures" 1 (S_l_figures_k07) := by
  have nd := c_l_figures_k07.nd
  refine has_pu Df c_l_figures_k07 (fun _ _ _ _ _ _ us hl => match us, hl with | [_, _], _ => rfl) ?_ ?_
  · rintro ds o ⟨row, at_, rfl, hl, ha, rfl⟩; rfl
  rintro f cdv A outer s H E hr O ds out ⟨row, at_, rfl, hl, ha, rfl⟩
  refine ds_cons (ds_while (passes_of rfl) (fun k ρ => ∃ a : Nat, ρ = [.va (.list (row.map .int)), .va (.int (a : Int))] ∧ a + figN (row.drop a) = at_ + figN (row.drop at_) ∧ k = row.length - a) (row.length - at_) ⟨at_, rfl, rfl, rfl⟩ ?_)
  rintro k ρ' ⟨a, rfl, he, rfl⟩
  cases hg : row[a]? with
  | none =>
    have hal : row.length ≤ a := List.getElem?_eq_none_iff.mp hg
    refine ⟨false, DT.is (dt_and2 (k := false) (k' := false) (DT.is (dt_lt (de_va (i := 1) rfl).b (de_lenL B.len (LE.of (de_va (i := 0) rfl))).b) (decide_eq_false (by rw [List.length_map]; omega))) (fun h => nomatch h)) rfl, fun hc => (nomatch hc), fun hc => ?_⟩
    refine ds_cons (ds_ret (de_va (i := 1) rfl) (Or.inl ?_))
    rw [← he, List.drop_eq_nil_of_le hal, figN, Nat.add_zero]
  | some b =>
    have hal := (List.getElem?_eq_some_iff.mp hg).1
    have hd : row.drop a = b :: row.drop (a + 1) := by
      obtain ⟨h1, h2⟩ := List.getElem?_eq_some_iff.mp hg
      rw [List.drop_eq_getElem_cons h1, h2]
    have hat : atI (row.map PyData.int) (a : Int) = some (.int b) := by
      unfold atI ixN
      rw [if_pos (by omega), List.length_map, if_pos (by omega), Option.bind_some]
      show (row.map PyData.int)[a]? = _
      rw [List.getElem?_map, hg]; rfl
    refine ⟨f_is_figure b, DT.is (dt_and2 (k := true) (k' := decide (48 ≤ b) && decide (b ≤ 57)) (DT.is (dt_lt (de_va (i := 1) rfl).b (de_lenL B.len (LE.of (de_va (i := 0) rfl))).b) (decide_eq_true (by rw [List.length_map]; omega))) (fun _ => dt_lele (de_int).b (de_ixL (LE.of (de_va (i := 0) rfl)) (de_va (i := 1) rfl).b hat).b (de_int).b)) rfl, fun hc => ?_, fun hc => ?_⟩
    · refine ds_cons (ds_asg (n := 1) nd (de_add (de_va (i := 1) rfl).b (de_int).b) ?_)
      refine ds_nil ⟨row.length - (a + 1), by omega, a + 1, rfl, ?_, rfl⟩
      rw [← he, hd, figN, if_pos hc]; omega
    · refine ds_cons (ds_ret (de_va (i := 1) rfl) (Or.inl ?_))
      rw [← he, hd, figN, if_neg (by rw [hc]; exact Bool.false_ne_true), Nat.add_zero]
/-! _law_number_read -/
abbrev s_l_number_read : Stmt := topS 58
abbrev n_l_number_read : List Str := ["_law_row", "_law_at", "_law_end"]
theorem c_l_number_read : FnScope n_l_number_read ["_law_row", "_law_at"] (defScope s_l_number_read) := ⟨rfl, rfl, rfl, by decide +kernel, rfl, by decide +kernel, by decide +kernel⟩
def numR : List Int → Bool × Nat
  | [] => (false, 0)
  | b :: r => if b = 45 then ((intS r).1, 1 + (intS r).2) else intS (b :: r)
def S_l_number_read : List PyData → Out → Prop := fun ds o => ∃ (row : List Int) (a : Nat), ds = [.list (row.map .int), .int (a : Int)] ∧ row.length ≤ 900000 ∧ a < row.length ∧ o = .ok (okB (numR (row.drop a)).1 ((a + (numR (row.drop a)).2 : Nat) : Int))
theorem fig_eq (b : Int) : (decide (48 ≤ b) && decide (b ≤ 57)) = f_is_figure b := rfl

theorem h_l_number_read (Df : Def K mg "_law_number_read" s_l_number_read) (B : BI mg) (G_l_figures_k07 : Has P w K mg base "_law_figures" 1 (S_l_figures_k07)) : Has P w K mg base "_law_number_read" 2 (S_l_number_read) := by
  have nd := c_l_number_read.nd
  refine has_pu Df c_l_number_read (fun _ _ _ _ _ _ us hl => match us, hl with | [_, _], _ => rfl) ?_ ?_
  · rintro ds o ⟨row, a, rfl, hl, ha, rfl⟩; rfl
  rintro f cdv A outer s H E hr O ds out ⟨row, a, rfl, hl, ha, rfl⟩
  generalize hT : numR (row.drop a) = T
  obtain ⟨b, hb⟩ : ∃ b, row[a]? = some b := ⟨_, List.getElem?_eq_getElem ha⟩
  rw [DL.drop_at hb, numR] at hT
  refine ds_cons (ds_asg (n := 1) nd (de_add (de_va (i := 1) rfl).b (de_intB B.int (de_eqI (de_ixL (LE.of (de_va (i := 0) rfl)) (de_va (i := 1) rfl).b (at_row hb rfl)).b (de_int).b).b).b) ?_)
  obtain ⟨c, hc0, hcl, h1, h2⟩ : ∃ c : Nat, ((a : Int) + (if decide (b = 45) = true then 1 else 0)) = (c : Int) ∧ c ≤ row.length ∧ (intS (row.drop c)).1 = T.1 ∧ c + (intS (row.drop c)).2 = a + T.2 := by
    by_cases h : b = 45
    · rw [if_pos h] at hT
      subst hT
      exact ⟨a + 1, by rw [if_pos (decide_eq_true h)]; rfl, ha, rfl, by dsimp only; omega⟩
    · rw [if_neg h, ← DL.drop_at hb] at hT
      subst hT
      exact ⟨a, by rw [if_neg (by rw [decide_eq_true_eq]; exact h), Int.add_zero], by omega, rfl, rfl⟩
  rw [hc0]
  refine ds_cons (ds_if (dt_or2 (dt_eqI (de_va (i := 1) rfl).b (de_lenL B.len (LE.of (de_va (i := 0) rfl))).b) (fun h1_ => dt_not (dt_lele (de_int).b (de_ixL (LE.of (de_va (i := 0) rfl)) (de_va (i := 1) rfl).b (at_rowD rfl (by have := of_decide_eq_false h1_; rw [List.length_map] at this; omega))).b (de_int).b))) (fun hc => ?_) (fun hc => ?_))
  · rw [List.length_map] at hc
    refine ds_cons (ds_ret (de_tup (ad_cons (de_bl) (ad_cons (de_va (i := 1) rfl) ad_nil)) (by simp only [List.length_cons, List.length_nil]; omega)) (Or.inl ?_))
    have hno : intS (row.drop c) = (false, 0) := by
      by_cases hx : c < row.length
      · obtain ⟨f, hf⟩ : ∃ f, row[c]? = some f := ⟨_, List.getElem?_eq_getElem hx⟩
        have hg : row.getD c 0 = f := by rw [List.getD_eq_getElem?_getD, hf]; rfl
        rw [hg, fig_eq, decide_eq_false (by omega), Bool.false_or, Bool.not_eq_true'] at hc
        rw [DL.drop_at hf, intS, if_neg (by rw [hc]; exact Bool.false_ne_true)]
      · rw [List.drop_eq_nil_of_le (by omega), intS]
    rw [hno] at h1 h2
    exact okBe h1 (by dsimp only at h2; omega)
  · rw [List.length_map] at hc
    rw [Bool.or_eq_false_iff, decide_eq_false_iff_not] at hc
    have hx : c < row.length := by omega
    obtain ⟨f, hf⟩ : ∃ f, row[c]? = some f := ⟨_, List.getElem?_eq_getElem hx⟩
    have hg : row.getD c 0 = f := by rw [List.getD_eq_getElem?_getD, hf]; rfl
    rw [hg, fig_eq, Bool.not_eq_false'] at hc
    have hfg := figN_le (row.drop (c + 1))
    rw [List.length_drop] at hfg
    have hfd : figN (row.drop c) = figN (row.drop (c + 1)) + 1 := by rw [DL.drop_at hf, figN, if_pos hc.2]
    rw [DL.drop_at hf, intS, if_pos hc.2] at h1 h2
    simp only [List.drop_drop] at h1 h2
    refine ds_nil ?_
    refine ds_cons (ds_asg (n := 1) nd (de_ifI (dt_eqI (de_ixL (LE.of (de_va (i := 0) rfl)) (de_va (i := 1) rfl).b (at_row hf rfl)).b (de_int).b) (de_add (de_va (i := 1) rfl).b (de_int).b) (de_call G_l_figures_k07 (hr.mono (by first | decide | omega)) (ad_cons (de_va (i := 0) rfl) (ad_cons (de_va (i := 1) rfl) ad_nil)) (⟨row, c, rfl, by omega, by omega, rfl⟩))) ?_)
    obtain ⟨c2, hc2, hcl2, h3, h4⟩ : ∃ c2 : Nat, (if decide (f = 48) = true then (c : Int) + 1 else ((c + figN (row.drop c) : Nat) : Int)) = (c2 : Int) ∧ c2 ≤ row.length ∧ (fraS (row.drop c2)).1 = T.1 ∧ c2 + (fraS (row.drop c2)).2 = a + T.2 := by
      by_cases h : f = 48
      · rw [if_pos h] at h1 h2
        exact ⟨c + 1, by rw [if_pos (decide_eq_true h)]; rfl, by omega, h1, by dsimp only at h2; omega⟩
      · rw [if_neg h] at h1 h2
        dsimp only at h1 h2
        have e : c + 1 + figN (row.drop (c + 1)) = c + figN (row.drop c) := by omega
        rw [e] at h1 h2
        exact ⟨c + figN (row.drop c), by rw [if_neg (by rw [decide_eq_true_eq]; exact h)], by omega, h1, by omega⟩
    rw [hc2]
    refine ds_cut (fun ρ => ∃ (c3 : Nat) (b2 : Sl), ρ = [.va (.list (row.map .int)), .va (.int (c3 : Int)), b2] ∧ c3 ≤ row.length ∧ (expS (row.drop c3)).1 = T.1 ∧ c3 + (expS (row.drop c3)).2 = a + T.2) (ds_if (dt_and2 (dt_lt (de_va (i := 1) rfl).b (de_lenL B.len (LE.of (de_va (i := 0) rfl))).b) (fun h1_ => dt_eqI (de_ixL (LE.of (de_va (i := 0) rfl)) (de_va (i := 1) rfl).b (at_rowD rfl (by have := of_decide_eq_true h1_; rw [List.length_map] at this; omega))).b (de_int).b)) (fun hc => ?_) (fun hc => ?_)) ?_
    · simp only [Bool.and_eq_true, Bool.or_eq_true, Bool.and_eq_false_iff, Bool.or_eq_false_iff, Bool.not_eq_true', Bool.not_eq_false', decide_eq_true_eq, decide_eq_false_iff_not, Bool.not_not, Bool.not_eq_true, Bool.not_eq_false, List.isEmpty_eq_false_iff, List.isEmpty_iff, beq_iff_eq, ne_eq] at hc
      rw [List.length_map] at hc
      have hx2 : c2 < row.length := by omega
      obtain ⟨g, hgr⟩ : ∃ g, row[c2]? = some g := ⟨_, List.getElem?_eq_getElem hx2⟩
      have hgg : row.getD c2 0 = g := by rw [List.getD_eq_getElem?_getD, hgr]; rfl
      rw [hgg] at hc
      rw [DL.drop_at hgr, fraS, if_pos hc.2] at h3 h4
      simp only [List.drop_drop] at h3 h4
      have hfg2 := figN_le (row.drop (c2 + 1))
      rw [List.length_drop] at hfg2
      refine ds_cons (ds_asg (n := 2) nd (de_call G_l_figures_k07 (hr.mono (by first | decide | omega)) (ad_cons (de_va (i := 0) rfl) (ad_cons (de_add (de_va (i := 1) rfl).b (de_int).b) ad_nil)) (⟨row, c2 + 1, rfl, by omega, by omega, rfl⟩)) ?_)
      refine ds_cons (ds_if (dt_eqI (de_va (i := 2) rfl).b (de_add (de_va (i := 1) rfl).b (de_int).b).b) (fun hc => ?_) (fun hc => ?_))
      · simp only [Bool.and_eq_true, Bool.or_eq_true, Bool.and_eq_false_iff, Bool.or_eq_false_iff, Bool.not_eq_true', Bool.not_eq_false', decide_eq_true_eq, decide_eq_false_iff_not, Bool.not_not, Bool.not_eq_true, Bool.not_eq_false, List.isEmpty_eq_false_iff, List.isEmpty_iff, beq_iff_eq, ne_eq] at hc
        refine ds_cons (ds_ret (de_tup (ad_cons (de_bl) (ad_cons (de_va (i := 2) rfl) ad_nil)) (by simp only [List.length_cons, List.length_nil]; omega)) (Or.inl ?_))
        rw [if_pos (by omega)] at h3 h4
        exact okBe h3 (by dsimp only at h4; omega)
      · simp only [Bool.and_eq_true, Bool.or_eq_true, Bool.and_eq_false_iff, Bool.or_eq_false_iff, Bool.not_eq_true', Bool.not_eq_false', decide_eq_true_eq, decide_eq_false_iff_not, Bool.not_not, Bool.not_eq_true, Bool.not_eq_false, List.isEmpty_eq_false_iff, List.isEmpty_iff, beq_iff_eq, ne_eq] at hc
        rw [if_neg (by omega)] at h3 h4
        refine ds_nil ?_
        refine ds_cons (ds_asg (n := 1) nd (de_va (i := 2) rfl) ?_)
        exact ds_nil ⟨_, _, rfl, by omega, h3, by dsimp only at h4; omega⟩
    · simp only [Bool.and_eq_true, Bool.or_eq_true, Bool.and_eq_false_iff, Bool.or_eq_false_iff, Bool.not_eq_true', Bool.not_eq_false', decide_eq_true_eq, decide_eq_false_iff_not, Bool.not_not, Bool.not_eq_true, Bool.not_eq_false, List.isEmpty_eq_false_iff, List.isEmpty_iff, beq_iff_eq, ne_eq] at hc
      rw [List.length_map] at hc
      have hfe : fraS (row.drop c2) = expS (row.drop c2) := by
        by_cases hx2 : c2 < row.length
        · obtain ⟨g, hgr⟩ : ∃ g, row[c2]? = some g := ⟨_, List.getElem?_eq_getElem hx2⟩
          have hgg : row.getD c2 0 = g := by rw [List.getD_eq_getElem?_getD, hgr]; rfl
          rw [DL.drop_at hgr, fraS, if_neg (by omega)]
        · rw [List.drop_eq_nil_of_le (by omega)]; rfl
      rw [hfe] at h3 h4
      exact ds_nil ⟨c2, _, rfl, hcl2, h3, h4⟩
    · rintro ρ' ⟨c3, b2, rfl, hcl3, h5, h6⟩
      refine ds_cons (ds_if (dt_and2 (dt_lt (de_va (i := 1) rfl).b (de_lenL B.len (LE.of (de_va (i := 0) rfl))).b) (fun h1_ => dt_inI (ns := [101, 69]) (de_ixL (LE.of (de_va (i := 0) rfl)) (de_va (i := 1) rfl).b (at_rowD rfl (by have := of_decide_eq_true h1_; rw [List.length_map] at this; omega))).b (de_tup (ad_cons (de_int) (ad_cons (de_int) ad_nil)) (by simp only [List.length_cons, List.length_nil]; omega)).b)) (fun hc => ?_) (fun hc => ?_))
      · simp only [Bool.and_eq_true, Bool.or_eq_true, Bool.and_eq_false_iff, Bool.or_eq_false_iff, Bool.not_eq_true', Bool.not_eq_false', decide_eq_true_eq, decide_eq_false_iff_not, Bool.not_not, Bool.not_eq_true, Bool.not_eq_false, List.isEmpty_eq_false_iff, List.isEmpty_iff, beq_iff_eq, ne_eq] at hc
        rw [List.length_map] at hc
        have hx3 : c3 < row.length := by omega
        obtain ⟨g, hgr⟩ : ∃ g, row[c3]? = some g := ⟨_, List.getElem?_eq_getElem hx3⟩
        have hgg : row.getD c3 0 = g := by rw [List.getD_eq_getElem?_getD, hgr]; rfl
        rw [hgg] at hc
        rw [DL.drop_at hgr, expS.eq_def] at h5 h6
        dsimp only at h5 h6
        rw [if_pos hc.2] at h5 h6
        refine ds_cons (ds_asg (n := 1) nd (de_add (de_va (i := 1) rfl).b (de_int).b) ?_)
        refine ds_cons (ds_ifI (n := 1) nd (dt_and2 (dt_lt (de_va (i := 1) rfl).b (de_lenL B.len (LE.of (de_va (i := 0) rfl))).b) (fun h1_ => dt_inI (ns := [43, 45]) (de_ixL (LE.of (de_va (i := 0) rfl)) (de_va (i := 1) rfl).b (at_rowD (a := c3 + 1) (by omega) (by have := of_decide_eq_true h1_; rw [List.length_map] at this; omega))).b (de_tup (ad_cons (de_int) (ad_cons (de_int) ad_nil)) (by simp only [List.length_cons, List.length_nil]; omega)).b)) rfl (de_add (de_va (i := 1) rfl).b (de_int).b) ?_)
        obtain ⟨c4, hc4, hcl4, h7, h8⟩ : ∃ c4 : Nat, (if (decide ((c3 : Int) + 1 < ((row.map PyData.int).length : Int)) && decide (row.getD (c3 + 1) 0 ∈ ([43, 45] : List Int))) = true then (c3 : Int) + 1 + 1 else (c3 : Int) + 1) = (c4 : Int) ∧ c4 ≤ row.length ∧ decide (0 < figN (row.drop c4)) = T.1 ∧ c4 + figN (row.drop c4) = a + T.2 := by
          rw [List.length_map]
          by_cases hx : c3 + 1 < row.length
          · obtain ⟨d, hd⟩ : ∃ d, row[c3 + 1]? = some d := ⟨_, List.getElem?_eq_getElem hx⟩
            have hdd : row.getD (c3 + 1) 0 = d := by rw [List.getD_eq_getElem?_getD, hd]; rfl
            have hm : d ∈ ([43, 45] : List Int) ↔ d = 43 ∨ d = 45 := by simp
            rw [hdd]
            rw [DL.drop_at hd] at h5 h6
            dsimp only at h5 h6
            by_cases hs : d = 43 ∨ d = 45
            · rw [if_pos hs] at h5 h6
              exact ⟨c3 + 1 + 1, by rw [decide_eq_true (show (c3 : Int) + 1 < (row.length : Int) by omega), decide_eq_true (hm.mpr hs), if_pos (show (true && true) = true from rfl)]; rfl, by omega, h5, by dsimp only at h6; omega⟩
            · rw [if_neg hs, ← DL.drop_at hd] at h5 h6
              exact ⟨c3 + 1, by rw [decide_eq_false (fun z => hs (hm.mp z)), Bool.and_false, if_neg Bool.false_ne_true]; rfl, by omega, h5, by dsimp only at h6; omega⟩
          · rw [List.drop_eq_nil_of_le (by omega)] at h5 h6
            exact ⟨c3 + 1, by rw [decide_eq_false (show ¬ (c3 : Int) + 1 < (row.length : Int) by omega), Bool.false_and, if_neg Bool.false_ne_true]; rfl, by omega, by rw [List.drop_eq_nil_of_le (by omega)]; exact h5, by rw [List.drop_eq_nil_of_le (by omega)]; dsimp only [figN] at h6 ⊢; omega⟩
        rw [hc4]
        refine ds_cons (ds_asg (n := 2) nd (de_call G_l_figures_k07 (hr.mono (by first | decide | omega)) (ad_cons (de_va (i := 0) rfl) (ad_cons (de_va (i := 1) rfl) ad_nil)) (⟨row, c4, rfl, by omega, by omega, rfl⟩)) ?_)
        refine ds_cons (ds_ret (de_tup (ad_cons (de_gt (de_va (i := 2) rfl).b (de_va (i := 1) rfl).b) (ad_cons (de_va (i := 2) rfl) ad_nil)) (by simp only [List.length_cons, List.length_nil]; omega)) (Or.inl ?_))
        exact okBe (by rw [← h7]; exact decide_eq_decide.mpr (by omega)) (by omega)
      · simp only [Bool.and_eq_true, Bool.or_eq_true, Bool.and_eq_false_iff, Bool.or_eq_false_iff, Bool.not_eq_true', Bool.not_eq_false', decide_eq_true_eq, decide_eq_false_iff_not, Bool.not_not, Bool.not_eq_true, Bool.not_eq_false, List.isEmpty_eq_false_iff, List.isEmpty_iff, beq_iff_eq, ne_eq] at hc
        refine ds_nil ?_
        refine ds_cons (ds_ret (de_tup (ad_cons (de_bl) (ad_cons (de_va (i := 1) rfl) ad_nil)) (by simp only [List.length_cons, List.length_nil]; omega)) (Or.inl ?_))
        rw [List.length_map] at hc
        have hno : expS (row.drop c3) = (true, 0) := by
          by_cases hx : c3 < row.length
          · obtain ⟨g, hgr⟩ : ∃ g, row[c3]? = some g := ⟨_, List.getElem?_eq_getElem hx⟩
            have hgg : row.getD c3 0 = g := by rw [List.getD_eq_getElem?_getD, hgr]; rfl
            rw [hgg] at hc
            rw [DL.drop_at hgr, expS.eq_def]
            dsimp only
            rw [if_neg (hc.resolve_left (fun z => z (by omega)))]
          · rw [List.drop_eq_nil_of_le (by omega)]; rfl
        rw [hno] at h5 h6
        exact okBe h5 (by dsimp only at h6; omega)
/-! _law_word_read -/
abbrev s_l_word_read : Stmt := topS 59
abbrev n_l_word_read : List Str := ["_law_row", "_law_at", "_law_word", "_law_k"]
theorem c_l_word_read : FnScope n_l_word_read ["_law_row", "_law_at"] (defScope s_l_word_read) := ⟨rfl, rfl, rfl, by decide +kernel, rfl, by decide +kernel, by decide +kernel⟩
def wdsL : List (List Int) := [[110, 117, 108, 108], [116, 114, 117, 101], [102, 97, 108, 115, 101]]
def wrdR : List Int → Bool × Nat
  | [] => (false, 0)
  | b :: r => if b = 110 then wrdS [110, 117, 108, 108] (b :: r) else if b = 116 then wrdS [116, 114, 117, 101] (b :: r) else if b = 102 then wrdS [102, 97, 108, 115, 101] (b :: r) else (false, 0)
theorem wds_at {d : PyData} {m : Nat} (h : (wdsL.map fun w => PyData.list (w.map .int))[m]? = some d) : m < 3 ∧ ∃ x w, wdsL[m]? = some (x :: w) ∧ w.length ≤ 4 ∧ d = .list ((x :: w).map .int) := by
  obtain ⟨l, h1, h2, h3⟩ := map_at h
  have hm : m < 3 := h3
  refine ⟨hm, ?_⟩
  rcases (by omega : m = 0 ∨ m = 1 ∨ m = 2) with rfl | rfl | rfl <;> cases h1 <;> exact ⟨_, _, rfl, by decide, h2⟩
theorem wrd_is {b x : Int} {w r : List Int} {m : Nat} (hm : m < 3) (h : wdsL[m]? = some (x :: w)) (hb : b = x) : wrdR (b :: r) = wrdS (x :: w) (b :: r) := by
  rcases (by omega : m = 0 ∨ m = 1 ∨ m = 2) with rfl | rfl | rfl <;> cases h <;> subst hb <;> rfl
theorem wrd_no {b : Int} {r : List Int} (h : ∀ m < 3, ∀ x w, wdsL[m]? = some (x :: w) → b ≠ x) : wrdR (b :: r) = (false, 0) := by
  rw [wrdR, if_neg (h 0 (by decide) _ _ rfl), if_neg (h 1 (by decide) _ _ rfl), if_neg (h 2 (by decide) _ _ rfl)]
def S_l_word_read : List PyData → Out → Prop := fun ds o => ∃ (row : List Int) (a : Nat), ds = [.list (row.map .int), .int (a : Int)] ∧ row.length ≤ 900000 ∧ a < row.length ∧ o = .ok (okB (wrdR (row.drop a)).1 ((a + (wrdR (row.drop a)).2 : Nat) : Int))

theorem h_l_word_read (Df : Def K mg "_law_word_read" s_l_word_read) (B : BI mg) : Has P w K mg base "_law_word_read" 1 (S_l_word_read) := by
  have nd := c_l_word_read.nd
  refine has_pu Df c_l_word_read (fun _ _ _ _ _ _ us hl => match us, hl with | [_, _], _ => rfl) ?_ ?_
  · rintro ds o ⟨row, a, rfl, hl, ha, rfl⟩; rfl
  rintro f cdv A outer s H E hr O ds out ⟨row, a, rfl, hl, ha, rfl⟩
  generalize hT : wrdR (row.drop a) = T
  obtain ⟨b, hb⟩ : ∃ b, row[a]? = some b := ⟨_, List.getElem?_eq_getElem ha⟩
  rw [DL.drop_at hb] at hT
  refine ds_cons (ds_for (n := 2) (passes_of rfl) rfl nd (ie_lst (ne_lst (ad_cons (ne_ints [110, 117, 108, 108]).de (ad_cons (ne_ints [116, 114, 117, 101]).de (ad_cons (ne_ints [102, 97, 108, 115, 101]).de ad_nil))) (by simp only [List.length_cons, List.length_nil]; omega)).de) (fun m ρ => ∃ (b2 b3 : Sl), ρ = [.va (.list (row.map .int)), .va (.int (a : Int)), b2, b3] ∧ ∀ k, k < m → ∀ x w, wdsL[k]? = some (x :: w) → b ≠ x) (⟨_, _, rfl, fun k h => by omega⟩) ?_ ?_)
  · rintro m d ρ' hd ⟨b2, b3, rfl, hno⟩
    obtain ⟨hm, x, w, hw, hwl, rfl⟩ := wds_at hd
    refine ds_cons (ds_if (dt_eqI (de_ixL (LE.of (de_va (i := 0) rfl)) (de_va (i := 1) rfl).b (at_row hb rfl)).b (de_ixL (LE.of (de_va (i := 2) rfl)) (de_int).b (at_row (row := x :: w) (a := 0) rfl rfl)).b) (fun hc => ?_) (fun hc => ?_))
    · simp only [Bool.and_eq_true, Bool.or_eq_true, Bool.and_eq_false_iff, Bool.or_eq_false_iff, Bool.not_eq_true', Bool.not_eq_false', decide_eq_true_eq, decide_eq_false_iff_not, Bool.not_not, Bool.not_eq_true, Bool.not_eq_false, List.isEmpty_eq_false_iff, List.isEmpty_iff, beq_iff_eq, ne_eq] at hc
      rw [wrd_is hm hw hc] at hT
      rw [← DL.drop_at hb] at hT
      refine ds_cons (ds_for (n := 3) (passes_of rfl) rfl nd (ie_rng B.range (de_lenL B.len (LE.of (de_va (i := 2) rfl))).b (by simp only [List.length_map, List.length_cons]; omega)) (fun k ρ => ∃ (b3 : Sl), ρ = [.va (.list (row.map .int)), .va (.int (a : Int)), .va (.list ((x :: w).map .int)), b3] ∧ a + k ≤ row.length ∧ k ≤ w.length + 1 ∧ (wrdS ((x :: w).drop k) (row.drop (a + k))).1 = T.1 ∧ k + (wrdS ((x :: w).drop k) (row.drop (a + k))).2 = T.2) (⟨_, rfl, by omega, by omega, by rw [← hT]; rfl, by rw [← hT, Nat.zero_add]; rfl⟩) ?_ ?_)
      · rintro m1 d1 ρ' hd1 ⟨b3, rfl, hak, hkl, h1, h2⟩
        obtain ⟨hk, rfl⟩ := upTo_at hd1
        rw [Int.toNat_natCast, List.length_map, List.length_cons] at hk
        obtain ⟨y, hy⟩ : ∃ y, (x :: w)[m1]? = some y := ⟨_, List.getElem?_eq_getElem (by rw [List.length_cons]; exact hk)⟩
        refine ds_cons (ds_if (dt_or2 (dt_eqI (de_add (de_va (i := 1) rfl).b (de_va (i := 3) rfl).b).b (de_lenL B.len (LE.of (de_va (i := 0) rfl))).b) (fun h1_ => dt_neI (de_ixL (LE.of (de_va (i := 0) rfl)) (de_add (de_va (i := 1) rfl).b (de_va (i := 3) rfl).b).b (at_rowD (a := a + m1) (by omega) (by have := of_decide_eq_false h1_; rw [List.length_map] at this; omega))).b (de_ixL (LE.of (de_va (i := 2) rfl)) (de_va (i := 3) rfl).b (at_row hy rfl)).b)) (fun hc => ?_) (fun hc => ?_))
        · simp only [Bool.and_eq_true, Bool.or_eq_true, Bool.and_eq_false_iff, Bool.or_eq_false_iff, Bool.not_eq_true', Bool.not_eq_false', decide_eq_true_eq, decide_eq_false_iff_not, Bool.not_not, Bool.not_eq_true, Bool.not_eq_false, List.isEmpty_eq_false_iff, List.isEmpty_iff, beq_iff_eq, ne_eq] at hc
          refine ds_cons (ds_ret (de_tup (ad_cons (de_bl) (ad_cons (de_add (de_va (i := 1) rfl).b (de_va (i := 3) rfl).b) ad_nil)) (by simp only [List.length_cons, List.length_nil]; omega)) (Or.inl ?_))
          rw [List.length_map] at hc
          have hz : wrdS ((x :: w).drop m1) (row.drop (a + m1)) = (false, 0) := by
            rw [DL.drop_at hy]
            by_cases hx : a + m1 < row.length
            · rw [drop_getD hx, wrdS, if_neg (hc.resolve_left (by omega))]
            · rw [List.drop_eq_nil_of_le (as := row) (by omega)]; rfl
          rw [hz] at h1 h2
          exact okBe h1 (by dsimp only at h2; omega)
        · simp only [Bool.and_eq_true, Bool.or_eq_true, Bool.and_eq_false_iff, Bool.or_eq_false_iff, Bool.not_eq_true', Bool.not_eq_false', decide_eq_true_eq, decide_eq_false_iff_not, Bool.not_not, Bool.not_eq_true, Bool.not_eq_false, List.isEmpty_eq_false_iff, List.isEmpty_iff, beq_iff_eq, ne_eq] at hc
          refine ds_nil ?_
          rw [List.length_map] at hc
          have hx : a + m1 < row.length := by omega
          rw [DL.drop_at hy, drop_getD hx, wrdS, if_pos hc.2] at h1 h2
          exact ds_nil ⟨_, rfl, by omega, by omega, h1, by dsimp only at h2; rw [← h2]; show m1 + 1 + (wrdS ((x :: w).drop (m1 + 1)) (row.drop (a + m1 + 1))).2 = _; omega⟩
      · rintro ρ' ⟨b3, rfl, hak, hkl, h1, h2⟩
        rw [upTo_len, Int.toNat_natCast, List.length_map, List.drop_length, wrdS] at h1 h2
        refine ds_cons (ds_ret (de_tup (ad_cons (de_bl) (ad_cons (de_add (de_va (i := 1) rfl).b (de_lenL B.len (LE.of (de_va (i := 2) rfl))).b) ad_nil)) (by simp only [List.length_cons, List.length_nil]; omega)) (Or.inl ?_))
        exact okBe h1 (by rw [List.length_map] at *; dsimp only at h2; omega)
    · simp only [Bool.and_eq_true, Bool.or_eq_true, Bool.and_eq_false_iff, Bool.or_eq_false_iff, Bool.not_eq_true', Bool.not_eq_false', decide_eq_true_eq, decide_eq_false_iff_not, Bool.not_not, Bool.not_eq_true, Bool.not_eq_false, List.isEmpty_eq_false_iff, List.isEmpty_iff, beq_iff_eq, ne_eq] at hc
      refine ds_nil ?_
      exact ds_nil ⟨_, _, rfl, fun k h => by
        rcases (by omega : k < m ∨ k = m) with h | rfl
        · exact hno k h
        · intro x' w' hw'; rw [hw] at hw'; cases hw'; exact hc⟩
  · rintro ρ' ⟨b2, b3, rfl, hno⟩
    refine ds_cons (ds_ret (de_tup (ad_cons (de_bl) (ad_cons (de_va (i := 1) rfl) ad_nil)) (by simp only [List.length_cons, List.length_nil]; omega)) (Or.inl ?_))
    rw [wrd_no (fun m h x w hw => hno m h x w hw)] at hT
    rw [← hT]; exact okBe rfl (by dsimp only; omega)
/-! _law_plain_read -/
abbrev s_l_plain_read : Stmt := topS 60
abbrev n_l_plain_read : List Str := ["_law_row", "_law_at"]
theorem c_l_plain_read : FnScope n_l_plain_read ["_law_row", "_law_at"] (defScope s_l_plain_read) := ⟨rfl, rfl, rfl, by decide +kernel, rfl, by decide +kernel, by decide +kernel⟩
theorem plainS_t {r : List Int} {b : Int} (h : b = 34) : plainS (b :: r) = ((txtR (r.length + 1) r).1, 1 + (txtR (r.length + 1) r).2) := by rw [plainS.eq_def]; dsimp only; rw [if_pos h]
theorem plainS_n {r : List Int} {b : Int} (h : ¬ b = 34) (h2 : b = 45 ∨ f_is_figure b = true) : plainS (b :: r) = numR (b :: r) := by
  rw [plainS.eq_def]; dsimp only; rw [if_neg h, numR]
  by_cases h3 : b = 45
  · rw [if_pos h3, if_pos h3]
  · rw [if_neg h3, if_neg h3, if_pos (h2.resolve_left h3)]
theorem plainS_w {r : List Int} {b : Int} (h : ¬ b = 34) (h2 : ¬ b = 45) (h3 : f_is_figure b = false) : plainS (b :: r) = wrdR (b :: r) := by
  rw [plainS.eq_def]; dsimp only
  rw [if_neg h, if_neg h2, if_neg (by rw [h3]; exact Bool.false_ne_true), wrdR]
  by_cases a1 : b = 110
  · rw [if_pos a1, if_pos a1, wrdS, if_pos a1]
  · rw [if_neg a1, if_neg a1]
    by_cases a2 : b = 116
    · rw [if_pos a2, if_pos a2, wrdS, if_pos a2]
    · rw [if_neg a2, if_neg a2]
      by_cases a3 : b = 102
      · rw [if_pos a3, if_pos a3, wrdS, if_pos a3]
      · rw [if_neg a3, if_neg a3]
def S_l_plain_read : List PyData → Out → Prop := fun ds o => ∃ (row : List Int) (a : Nat), ds = [.list (row.map .int), .int (a : Int)] ∧ row.length ≤ 900000 ∧ a < row.length ∧ o = .ok (okB (plainS (row.drop a)).1 ((a + (plainS (row.drop a)).2 : Nat) : Int))

theorem h_l_plain_read (Df : Def K mg "_law_plain_read" s_l_plain_read) (B : BI mg) (G_l_text_read : Has P w K mg base "_law_text_read" 3 (S_l_text_read)) (G_l_number_read : Has P w K mg base "_law_number_read" 2 (S_l_number_read)) (G_l_word_read : Has P w K mg base "_law_word_read" 1 (S_l_word_read)) : Has P w K mg base "_law_plain_read" 4 (S_l_plain_read) := by
  have nd := c_l_plain_read.nd
  refine has_pu Df c_l_plain_read (fun _ _ _ _ _ _ us hl => match us, hl with | [_, _], _ => rfl) ?_ ?_
  · rintro ds o ⟨row, a, rfl, hl, ha, rfl⟩; rfl
  rintro f cdv A outer s H E hr O ds out ⟨row, a, rfl, hl, ha, rfl⟩
  obtain ⟨b, hb⟩ : ∃ b, row[a]? = some b := ⟨_, List.getElem?_eq_getElem ha⟩
  have hdr := DL.drop_at hb
  have hlen : (row.drop (a + 1)).length + 1 = row.length - a := by rw [List.length_drop]; omega
  refine ds_cons (ds_if (dt_eqI (de_ixL (LE.of (de_va (i := 0) rfl)) (de_va (i := 1) rfl).b (at_row hb rfl)).b (de_int).b) (fun hc => ?_) (fun hc => ?_))
  · simp only [Bool.and_eq_true, Bool.or_eq_true, Bool.and_eq_false_iff, Bool.or_eq_false_iff, Bool.not_eq_true', Bool.not_eq_false', decide_eq_true_eq, decide_eq_false_iff_not, Bool.not_not, Bool.not_eq_true, Bool.not_eq_false, List.isEmpty_eq_false_iff, List.isEmpty_iff, beq_iff_eq, ne_eq] at hc
    refine ds_cons (ds_ret (de_call G_l_text_read (hr.mono (by first | decide | omega)) (ad_cons (de_va (i := 0) rfl) (ad_cons (de_va (i := 1) rfl) ad_nil)) (⟨row, a, rfl, by omega, ha, rfl⟩)) (Or.inl ?_))
    rw [hdr, plainS_t hc, hlen]; exact okBe rfl (by dsimp only; omega)
  · simp only [Bool.and_eq_true, Bool.or_eq_true, Bool.and_eq_false_iff, Bool.or_eq_false_iff, Bool.not_eq_true', Bool.not_eq_false', decide_eq_true_eq, decide_eq_false_iff_not, Bool.not_not, Bool.not_eq_true, Bool.not_eq_false, List.isEmpty_eq_false_iff, List.isEmpty_iff, beq_iff_eq, ne_eq] at hc
    refine ds_nil ?_
    refine ds_cons (ds_if (dt_or2 (dt_eqI (de_ixL (LE.of (de_va (i := 0) rfl)) (de_va (i := 1) rfl).b (at_row hb rfl)).b (de_int).b) (fun h1_ => dt_lele (de_int).b (de_ixL (LE.of (de_va (i := 0) rfl)) (de_va (i := 1) rfl).b (at_row hb rfl)).b (de_int).b)) (fun hc => ?_) (fun hc => ?_))
    · skip
      refine ds_cons (ds_ret (de_call G_l_number_read (hr.mono (by first | decide | omega)) (ad_cons (de_va (i := 0) rfl) (ad_cons (de_va (i := 1) rfl) ad_nil)) (⟨row, a, rfl, by omega, ha, rfl⟩)) (Or.inl ?_))
      rw [hdr, plainS_n (by omega) (by rcases (Bool.or_eq_true _ _).mp hc with h | h; exact .inl (of_decide_eq_true h); exact .inr h)]
    · skip
      refine ds_nil ?_
      refine ds_cons (ds_ret (de_call G_l_word_read (hr.mono (by first | decide | omega)) (ad_cons (de_va (i := 0) rfl) (ad_cons (de_va (i := 1) rfl) ad_nil)) (⟨row, a, rfl, by omega, ha, rfl⟩)) (Or.inl ?_))
      rw [Bool.or_eq_false_iff, decide_eq_false_iff_not] at hc
      rw [hdr, plainS_w (by omega) hc.1 hc.2]
/-! _law_token -/
abbrev s_l_token : Stmt := topS 61
abbrev n_l_token : List Str := ["_law_row", "_law_at", "_law_waits", "_law_stack", "_law_byte", "_law_closing", "_law_step"]
theorem c_l_token : FnScope n_l_token ["_law_row", "_law_at", "_law_waits", "_law_stack"] (defScope s_l_token) := ⟨rfl, rfl, rfl, by decide +kernel, rfl, by decide +kernel, by decide +kernel⟩
abbrev stC (p : Addr) (st : List Int) : Sl := .st (.ref p) [(p, .lst ((st.map PyData.int).map .dat))]
def cloR (b : Int) (st : List Int) : Bool := !st.isEmpty && decide (b = if st.getLastD 0 = 1 then 125 else 93)
def tokR (r : List Int) (w : Str) (st : List Int) : Bool × Nat × Str × List Int := match r with
  | [] => (false, 0, w, st)
  | b :: r' =>
    if (cloR b st && decide (w ∈ (["behind", "value first", "name first"] : List Str))) = true then (true, 1, "behind", st.dropLast)
    else if decide (w ∈ (["value", "value first"] : List Str)) = true then
      (if decide (b ∈ ([91, 123] : List Int)) = true then (true, 1, if decide (b = 123) = true then "name first" else "value first", st ++ [if decide (b = 123) = true then 1 else 0]) else ((plainS (b :: r')).1, (plainS (b :: r')).2, "behind", st))
    else if (decide (w ∈ (["name", "name first"] : List Str)) && decide (b = 34)) = true then ((txtR (r'.length + 1) r').1, 1 + (txtR (r'.length + 1) r').2, "colon", st)
    else if (decide (w = "colon") && decide (b = 58)) = true then (true, 1, "value", st)
    else if (decide (w = "behind") && (!st.isEmpty && decide (b = 44))) = true then (true, 1, if decide (st.getLastD 0 = 1) = true then "name" else "value", st)
    else (false, 0, w, st)
theorem st_last {st : List Int} (h : st ≠ []) : atI ((st.map PyData.int).map Itm.dat) (-1) = some (.dat (.int (st.getLastD 0))) := by
  have hl := List.length_pos_iff.mpr h
  unfold atI ixN
  rw [List.length_map, List.length_map, if_neg (by decide), if_pos (by omega)]
  show ((st.map PyData.int).map Itm.dat)[((-1 : Int) + (st.length : Int)).toNat]? = _
  rw [show ((-1 : Int) + (st.length : Int)).toNat = st.length - 1 by omega, List.getElem?_map, List.getElem?_map, ← List.getLast?_eq_getElem?, List.getLast?_eq_some_getLast h, List.getLastD_eq_getLast?, List.getLast?_eq_some_getLast h]
  rfl
theorem st_pop {st : List Int} (h : st ≠ []) : ((st.map PyData.int).map Itm.dat)[((st.map PyData.int).map Itm.dat).length - 1]? = some (.dat (.int (st.getLastD 0))) := by
  have hl := List.length_pos_iff.mpr h
  rw [List.length_map, List.length_map, List.getElem?_map, List.getElem?_map, ← List.getLast?_eq_getElem?, List.getLast?_eq_some_getLast h, List.getLastD_eq_getLast?, List.getLast?_eq_some_getLast h]
  rfl
theorem st_emp {st : List Int} (h : st ≠ []) : ((st.map PyData.int).map Itm.dat).isEmpty = false := by cases st with | nil => exact absurd rfl h | cons _ _ => rfl
theorem st_all {st : List Int} (h : ∀ x ∈ st, x = 0 ∨ x = 1) : st.getLastD 0 = 0 ∨ st.getLastD 0 = 1 := by
  cases st with
  | nil => exact .inl rfl
  | cons x r => rw [List.getLastD_cons, List.getLastD_eq_getLast?]; rcases hr : r.getLast? with _ | y; exact h x List.mem_cons_self; exact h y (List.mem_cons_of_mem _ (List.mem_of_getLast? hr))
theorem cl_at {x : Int} (h : x = 0 ∨ x = 1) : atI [PyData.int 93, .int 125] x = some (.int (if x = 1 then 125 else 93)) := by rcases h with rfl | rfl <;> rfl
def S_l_token : List Sl → (List Sl → Out → Prop) → Prop := fun ρa Po => ∃ (row : List Int) (a : Nat) (w : Str) (p : Addr) (st : List Int), row.length ≤ 900000 ∧ a < row.length ∧ st.length ≤ 1000 ∧ (∀ x ∈ st, x = 0 ∨ x = 1) ∧
  ρa = [.va (.list (row.map .int)), .va (.int (a : Int)), .va (.str w), stC p st] ∧
  Po = fun ρb o => ρb = [.va (.list (row.map .int)), .va (.int (a : Int)), .va (.str w), stC p (tokR (row.drop a) w st).2.2.2] ∧ o = .ok (.tuple [.bool (tokR (row.drop a) w st).1, .int ((a + (tokR (row.drop a) w st).2.1 : Nat) : Int), .str (tokR (row.drop a) w st).2.2.1])

theorem h_l_token (Df : Def K mg "_law_token" s_l_token) (B : BI mg) (G_l_text_read : Has P w K mg base "_law_text_read" 3 (S_l_text_read)) (G_l_plain_read : Has P w K mg base "_law_plain_read" 4 (S_l_plain_read)) : HasG P w K mg base "_law_token" 5 (S_l_token) := by
  have nd := c_l_token.nd
  refine has_G Df c_l_token (fun _ _ _ _ _ _ us hl => match us, hl with | [_, _, _, _], _ => rfl) ?_ ?_
  · rintro ρa Po ⟨row, a, w, p, st, hl, ha, hst, h01, rfl, rfl⟩; rfl
  rintro f cdv A outer s H E hr O ρa Po ⟨row, a, w, p, st, hl, ha, hst, h01, rfl, rfl⟩
  generalize hT : tokR (row.drop a) w st = T
  obtain ⟨b, hb⟩ : ∃ b, row[a]? = some b := ⟨_, List.getElem?_eq_getElem ha⟩
  have hdr := DL.drop_at hb
  have hlen : (row.drop (a + 1)).length + 1 = row.length - a := by rw [List.length_drop]; omega
  rw [hdr, tokR] at hT
  refine ds_cons (ds_asg (n := 4) nd (de_ixL (LE.of (de_va (i := 0) rfl)) (de_va (i := 1) rfl).b (at_row hb rfl)) ?_)
  refine ds_cut (fun ρ => ∃ s5, ρ = [.va (.list (row.map .int)), .va (.int (a : Int)), .va (.str w), stC p st, .va (.int b), s5, .no] ∧ ((st = [] ∧ s5 = .pt (.ref p)) ∨ (st ≠ [] ∧ s5 = .va (.bool (cloR b st))))) ?_ ?_
  · by_cases hne : st = []
    · subst hne
      exact ds_asgP (n := 5) nd (re_andC (n := 3) (k := 0) rfl rfl (re_nm (i := 3) rfl rfl) rfl) ⟨_, rfl, .inl ⟨rfl, rfl⟩⟩
    · refine ds_asg (n := 5) nd (de_andC (n := 3) (k := 0) rfl rfl (re_nm (i := 3) rfl rfl) (st_emp hne) (de_eqI (de_va (i := 4) rfl).b (de_ixL (LE.of (ne_lst (ad_cons de_int (ad_cons de_int ad_nil)) (by decide)).de) (de_ixC (n := 3) (k := 0) rfl rfl (re_nm (i := 3) rfl rfl) (de_neg de_int.b).b (st_last hne)).b (cl_at (st_all h01))).b)) ⟨_, rfl, .inr ⟨hne, ?_⟩⟩
      unfold cloR
      rw [show st.isEmpty = false by cases st with | nil => exact absurd rfl hne | cons _ _ => rfl]
      rfl
  rintro ρ' ⟨s5, rfl, h5⟩
  refine ds_cons (ds_if (k := cloR b st && decide (w ∈ (["behind", "value first", "name first"] : List Str))) ?_ (fun hc => ?_) (fun hc => ds_nil ?_))
  · rcases h5 with ⟨rfl, rfl⟩ | ⟨hne, rfl⟩
    · exact DT.is (dt_and2 (k := false) (k' := false) (dt_cellB (n := 3) (k := 0) rfl rfl (re_nm (i := 5) rfl rfl) rfl) (fun h => nomatch h)) rfl
    · exact dt_and2 (dt_bl (de_va (i := 5) rfl).b) (fun _ => dt_inS (ns := ["behind", "value first", "name first"]) (de_va (i := 2) rfl).b (de_tup (ad_cons de_str (ad_cons de_str (ad_cons de_str ad_nil))) (by decide)).b)
  · rw [if_pos hc] at hT
    subst hT
    have hne : st ≠ [] := by rintro rfl; cases hc
    refine ds_cons (ds_exprC (ce_popC (n := 3) (k := 0) rfl rfl (re_nm (i := 3) rfl rfl) (st_pop hne)) ?_)
    exact ds_cons (ds_ret (de_tup (ad_cons de_bl (ad_cons (de_add (de_va (i := 1) rfl).b de_int.b) (ad_cons de_str ad_nil))) (by show 3 ≤ _; decide)) ⟨_, _, ⟨rfl, rfl⟩, kp_stn (u := .ref p) (ds := [_, _, _]) 3 (by show some (Sl.st _ [(p, Cell.lst ((st.map PyData.int).map Itm.dat).dropLast)]) = some (Sl.st _ [(p, Cell.lst ((st.dropLast.map PyData.int).map Itm.dat))]); rw [List.map_dropLast, List.map_dropLast]), Or.inl rfl⟩)
  rw [if_neg (by rw [hc]; exact Bool.false_ne_true)] at hT
  clear h5
  refine ds_cons (ds_if (dt_inS (ns := ["value", "value first"]) (de_va (i := 2) rfl).b (de_tup (ad_cons de_str (ad_cons de_str ad_nil)) (by decide)).b) (fun hc => ?_) (fun hc => ds_nil ?_))
  · rw [if_pos hc] at hT
    refine ds_cons (ds_if (dt_inI (ns := [91, 123]) (de_va (i := 4) rfl).b (de_tup (ad_cons de_int (ad_cons de_int ad_nil)) (by decide)).b) (fun hd => ?_) (fun hd => ds_nil ?_))
    · rw [if_pos hd] at hT
      subst hT
      refine ds_cons (ds_exprC (ce_appC (n := 3) (k := 0) rfl rfl (re_nm (i := 3) rfl rfl) (de_intB B.int (de_eqI (de_va (i := 4) rfl).b de_int.b).b) (by rw [List.length_map, List.length_map]; omega)) ?_)
      exact ds_cons (ds_ret (de_tup (ad_cons de_bl (ad_cons (de_add (de_va (i := 1) rfl).b de_int.b) (ad_cons (de_ifS (dt_eqI (de_va (i := 4) rfl).b de_int.b) de_str de_str) ad_nil))) (by show 3 ≤ _; decide)) ⟨_, _, ⟨rfl, rfl⟩, kp_stn (u := .ref p) (ds := [_, _, _]) 3 (by show some (Sl.st _ [(p, Cell.lst ((st.map PyData.int).map Itm.dat ++ [Itm.dat (.int (if decide (b = 123) = true then 1 else 0))]))]) = some (Sl.st _ [(p, Cell.lst (((st ++ [if decide (b = 123) = true then 1 else 0]).map PyData.int).map Itm.dat))]); rw [List.map_append, List.map_append]; rfl), Or.inl rfl⟩)
    · rw [if_neg (by rw [hd]; exact Bool.false_ne_true), ← hdr] at hT
      subst hT
      refine ds_cons (ds_asg (n := 6) nd (de_call G_l_plain_read (hr.mono (by first | decide | omega)) (ad_cons (de_va (i := 0) rfl) (ad_cons (de_va (i := 1) rfl) ad_nil)) ⟨row, a, rfl, hl, ha, rfl⟩) ?_)
      exact ds_cons (ds_ret (de_tup (ad_cons (de_ixT (de_va (i := 6) rfl) de_int.b atI_0) (ad_cons (de_ixT (de_va (i := 6) rfl) de_int.b atI_1) (ad_cons de_str ad_nil))) (by show 3 ≤ _; decide)) ⟨_, _, ⟨rfl, rfl⟩, kp_stn (u := .ref p) (ds := [_, _, _]) 3 rfl, Or.inl rfl⟩)
  rw [if_neg (by rw [hc]; exact Bool.false_ne_true)] at hT
  refine ds_cons (ds_if (dt_and2 (dt_inS (ns := ["name", "name first"]) (de_va (i := 2) rfl).b (de_tup (ad_cons de_str (ad_cons de_str ad_nil)) (by decide)).b) (fun _ => dt_eqI (de_va (i := 4) rfl).b de_int.b)) (fun hc => ?_) (fun hc => ds_nil ?_))
  · rw [if_pos hc, hlen] at hT
    subst hT
    refine ds_cons (ds_asg (n := 6) nd (de_call G_l_text_read (hr.mono (by first | decide | omega)) (ad_cons (de_va (i := 0) rfl) (ad_cons (de_va (i := 1) rfl) ad_nil)) ⟨row, a, rfl, by omega, ha, rfl⟩) ?_)
    exact ds_cons (ds_ret (de_tup (ad_cons (de_ixT (de_va (i := 6) rfl) de_int.b atI_0) (ad_cons (de_ixT (de_va (i := 6) rfl) de_int.b atI_1) (ad_cons de_str ad_nil))) (by show 3 ≤ _; decide)) ⟨_, _, ⟨rfl, rfl⟩, kp_stn (u := .ref p) (ds := [_, _, _]) 3 rfl, Or.inl (by rw [Nat.add_assoc])⟩)
  rw [if_neg (by rw [hc]; exact Bool.false_ne_true)] at hT
  refine ds_cons (ds_if (dt_and2 (dt_eqS (de_va (i := 2) rfl).b de_str.b) (fun _ => dt_eqI (de_va (i := 4) rfl).b de_int.b)) (fun hc => ?_) (fun hc => ds_nil ?_))
  · rw [if_pos hc] at hT
    subst hT
    exact ds_cons (ds_ret (de_tup (ad_cons de_bl (ad_cons (de_add (de_va (i := 1) rfl).b de_int.b) (ad_cons de_str ad_nil))) (by show 3 ≤ _; decide)) ⟨_, _, ⟨rfl, rfl⟩, kp_stn (u := .ref p) (ds := [_, _, _]) 3 rfl, Or.inl rfl⟩)
  rw [if_neg (by rw [hc]; exact Bool.false_ne_true)] at hT
  refine ds_cons (ds_if (dt_and3 (dt_eqS (de_va (i := 2) rfl).b de_str.b) (fun _ => dt_cellB (k1 := !st.isEmpty) (n := 3) (k := 0) rfl rfl (re_nm (i := 3) rfl rfl) (by rw [Bool.not_not]; cases st <;> rfl)) (fun _ _ => dt_eqI (de_va (i := 4) rfl).b de_int.b)) (fun hc => ?_) (fun hc => ds_nil ?_))
  · rw [if_pos hc] at hT
    subst hT
    have hne : st ≠ [] := by rintro rfl; rw [Bool.and_eq_true] at hc; exact absurd hc.2 (by simp)
    exact ds_cons (ds_ret (de_tup (ad_cons de_bl (ad_cons (de_add (de_va (i := 1) rfl).b de_int.b) (ad_cons (de_ifS (dt_eqI (de_ixC (n := 3) (k := 0) rfl rfl (re_nm (i := 3) rfl rfl) (de_neg de_int.b).b (st_last hne)).b de_int.b) de_str de_str) ad_nil))) (by show 3 ≤ _; decide)) ⟨_, _, ⟨rfl, rfl⟩, kp_stn (u := .ref p) (ds := [_, _, _]) 3 rfl, Or.inl rfl⟩)
  rw [if_neg (by rw [hc]; exact Bool.false_ne_true)] at hT
  subst hT
  exact ds_cons (ds_ret (de_tup (ad_cons de_bl (ad_cons (de_va (i := 1) rfl) (ad_cons (de_va (i := 2) rfl) ad_nil))) (by show 3 ≤ _; decide)) ⟨_, _, ⟨rfl, rfl⟩, kp_stn (u := .ref p) (ds := [_, _, _]) 3 rfl, Or.inl rfl⟩)
/-! J_tok07 -/
/-! k07: a token's step against the walker's -/
def opn (r : List Int) : Nat := (r.filter fun b => decide (b = 91) || decide (b = 123)).length
theorem opn_cons (b : Int) (r : List Int) : opn (b :: r) = (if (decide (b = 91) || decide (b = 123)) = true then 1 else 0) + opn r := by
  unfold opn
  rw [List.filter_cons]
  split
  · rw [List.length_cons]; omega
  · omega
theorem opn_app (l r : List Int) : opn (l ++ r) = opn l + opn r := by unfold opn; rw [List.filter_append, List.length_append]
theorem opn_drop (r : List Int) (n : Nat) : opn (r.drop n) ≤ opn r := by
  have h := congrArg opn (List.take_append_drop n r)
  rw [opn_app] at h; omega
theorem opn_take (r : List Int) (n : Nat) : opn (r.take n) ≤ opn r := by
  have h := congrArg opn (List.take_append_drop n r)
  rw [opn_app] at h; omega
def mdW (w : Str) (br : List Bool) : Str :=
  if w = "value" then "value" else if w = "value first" then "first" else if w = "name first" then "member" else if w = "name" then "name" else if w = "colon" then "colon" else endM br
def brS (st : List Int) : List Bool := st.map fun x => decide (x = 1)
inductive WtK : Str → List Int → Prop where
  | value {st : List Int} : WtK "value" st
  | vfirst {st : List Int} : WtK "value first" (st ++ [0])
  | nfirst {st : List Int} : WtK "name first" (st ++ [1])
  | name {st : List Int} : WtK "name" st
  | colon {st : List Int} : WtK "colon" st
  | behind {st : List Int} : WtK "behind" st
/-- the walker stands where the reader does -/
def At07 (v : Wk) (w : Str) (st : List Int) : Prop := v.br = brS st ∧ v.md = mdW w (brS st) ∧ WtK w st ∧ (∀ x ∈ st, x = 0 ∨ x = 1)
theorem brS_app (st : List Int) (x : Int) : brS (st ++ [x]) = brS st ++ [decide (x = 1)] := by unfold brS; rw [List.map_append]; rfl
theorem getLastD_app {α : Type} (l : List α) (x d : α) : (l ++ [x]).getLastD d = x := by rw [List.getLastD_eq_getLast?, List.getLast?_append]; rfl
theorem clo_app (b x : Int) (st : List Int) : cloR b (st ++ [x]) = decide (b = if x = 1 then 125 else 93) := by
  unfold cloR
  rw [getLastD_app, show (st ++ [x]).isEmpty = false by cases st <;> rfl]; rfl
section
variable {st : List Int} {b : Int} {r : List Int}
theorem mw1 (br : List Bool) : mdW "value" br = "value" := if_pos rfl
theorem mw2 (br : List Bool) : mdW "value first" br = "first" := by unfold mdW; rw [if_neg (by decide +kernel), if_pos rfl]
theorem mw3 (br : List Bool) : mdW "name first" br = "member" := by unfold mdW; rw [if_neg (by decide +kernel), if_neg (by decide +kernel), if_pos rfl]
theorem mw4 (br : List Bool) : mdW "name" br = "name" := by unfold mdW; rw [if_neg (by decide +kernel), if_neg (by decide +kernel), if_neg (by decide +kernel), if_pos rfl]
theorem mw5 (br : List Bool) : mdW "colon" br = "colon" := by unfold mdW; rw [if_neg (by decide +kernel), if_neg (by decide +kernel), if_neg (by decide +kernel), if_neg (by decide +kernel), if_pos rfl]
theorem mw6 (br : List Bool) : mdW "behind" br = endM br := by unfold mdW; rw [if_neg (by decide +kernel), if_neg (by decide +kernel), if_neg (by decide +kernel), if_neg (by decide +kernel), if_neg (by decide +kernel)]
def tokV (b : Int) (r : List Int) (st : List Int) : Bool × Nat × Str × List Int := if decide (b ∈ ([91, 123] : List Int)) = true then (true, 1, if decide (b = 123) = true then "name first" else "value first", st ++ [if decide (b = 123) = true then 1 else 0]) else ((plainS (b :: r)).1, (plainS (b :: r)).2, "behind", st)
def tokT (w : Str) (b : Int) (r : List Int) (st : List Int) : Bool × Nat × Str × List Int := if b = 34 then ((txtR (r.length + 1) r).1, 1 + (txtR (r.length + 1) r).2, "colon", st) else (false, 0, w, st)
theorem tk1 : tokR (b :: r) "value" st = tokV b r st := by
  rw [tokR, show decide (("value" : Str) ∈ (["behind", "value first", "name first"] : List Str)) = false by decide +kernel, Bool.and_false, if_neg Bool.false_ne_true, if_pos (by decide +kernel)]; rfl
theorem tk2 (h : cloR b st = false) : tokR (b :: r) "value first" st = tokV b r st := by
  rw [tokR, h, Bool.false_and, if_neg Bool.false_ne_true, if_pos (by decide +kernel)]; rfl
theorem tkc {w : Str} (h : cloR b st = true) (hw : decide (w ∈ (["behind", "value first", "name first"] : List Str)) = true) : tokR (b :: r) w st = ((true, 1, "behind", st.dropLast) : Bool × Nat × Str × List Int) := by
  rw [tokR, h, hw, if_pos (show (true && true) = true from rfl)]
theorem tk3 (h : cloR b st = false) : tokR (b :: r) "name first" st = tokT "name first" b r st := by
  rw [tokR, h, Bool.false_and, if_neg Bool.false_ne_true, if_neg (by decide +kernel), show decide (("name first" : Str) ∈ (["name", "name first"] : List Str)) = true by decide +kernel, Bool.true_and, tokT]
  by_cases h : b = 34
  · rw [if_pos (decide_eq_true h), if_pos h]
  · rw [if_neg (by rw [decide_eq_true_eq]; exact h), if_neg h, show decide (("name first" : Str) = "colon") = false by decide +kernel, Bool.false_and, if_neg Bool.false_ne_true, show decide (("name first" : Str) = "behind") = false by decide +kernel, Bool.false_and, if_neg Bool.false_ne_true]
theorem tk4 : tokR (b :: r) "name" st = tokT "name" b r st := by
  rw [tokR, show decide (("name" : Str) ∈ (["behind", "value first", "name first"] : List Str)) = false by decide +kernel, Bool.and_false, if_neg Bool.false_ne_true, if_neg (by decide +kernel), show decide (("name" : Str) ∈ (["name", "name first"] : List Str)) = true by decide +kernel, Bool.true_and, tokT]
  by_cases h : b = 34
  · rw [if_pos (decide_eq_true h), if_pos h]
  · rw [if_neg (by rw [decide_eq_true_eq]; exact h), if_neg h, show decide (("name" : Str) = "colon") = false by decide +kernel, Bool.false_and, if_neg Bool.false_ne_true, show decide (("name" : Str) = "behind") = false by decide +kernel, Bool.false_and, if_neg Bool.false_ne_true]
theorem tk5 : tokR (b :: r) "colon" st = if b = 58 then ((true, 1, "value", st) : Bool × Nat × Str × List Int) else (false, 0, "colon", st) := by
  rw [tokR, show decide (("colon" : Str) ∈ (["behind", "value first", "name first"] : List Str)) = false by decide +kernel, Bool.and_false, if_neg Bool.false_ne_true, if_neg (by decide +kernel), show decide (("colon" : Str) ∈ (["name", "name first"] : List Str)) = false by decide +kernel, Bool.false_and, if_neg Bool.false_ne_true, show decide (("colon" : Str) = "colon") = true by decide +kernel, Bool.true_and, show decide (("colon" : Str) = "behind") = false by decide +kernel, Bool.false_and, if_neg Bool.false_ne_true]
  by_cases h : b = 58
  · rw [if_pos (decide_eq_true h), if_pos h]
  · rw [if_neg (by rw [decide_eq_true_eq]; exact h), if_neg h]
theorem tk6 (h : cloR b st = false) : tokR (b :: r) "behind" st = if (!st.isEmpty && decide (b = 44)) = true then ((true, 1, if decide (st.getLastD 0 = 1) = true then "name" else "value", st) : Bool × Nat × Str × List Int) else (false, 0, "behind", st) := by
  rw [tokR, h, Bool.false_and, if_neg Bool.false_ne_true, if_neg (by decide +kernel), show decide (("behind" : Str) ∈ (["name", "name first"] : List Str)) = false by decide +kernel, Bool.false_and, if_neg Bool.false_ne_true, show decide (("behind" : Str) = "colon") = false by decide +kernel, Bool.false_and, if_neg Bool.false_ne_true, show decide (("behind" : Str) = "behind") = true by decide +kernel, Bool.true_and]
/-- what a token's reading gives -/
def Tk07 (v : Wk) (b : Int) (r : List Int) (m : Nat) (st : List Int) (T : Bool × Nat × Str × List Int) : Prop :=
  (T.1 = false → goF v (b :: r) m = some (m + T.2.1)) ∧
  (T.1 = true → 1 ≤ T.2.1 ∧ T.2.2.2.length + opn ((b :: r).drop T.2.1) ≤ st.length + opn (b :: r) ∧ ∃ v', goF v (b :: r) m = goF v' ((b :: r).drop T.2.1) (m + T.2.1) ∧ At07 v' T.2.2.1 T.2.2.2)
theorem wrd_pos {w r : List Int} (hw : w ≠ []) (h : (wrdS w r).1 = true) : 1 ≤ (wrdS w r).2 := by
  cases w with
  | nil => exact absurd rfl hw
  | cons x w =>
    cases r with
    | nil => cases h
    | cons c r =>
      rw [wrdS] at h ⊢
      split at h
      · rename_i hc; rw [if_pos hc]; dsimp only; omega
      · cases h
theorem int_pos {r : List Int} (h : (intS r).1 = true) : 1 ≤ (intS r).2 := by
  cases r with
  | nil => cases h
  | cons b r =>
    rw [intS] at h ⊢
    split at h
    · rename_i hc
      rw [if_pos hc]
      split <;> (dsimp only; omega)
    · cases h
theorem plain_pos (h : (plainS (b :: r)).1 = true) : 1 ≤ (plainS (b :: r)).2 := by
  rw [plainS.eq_def] at h ⊢
  dsimp only at h ⊢
  by_cases h1 : b = 34
  · rw [if_pos h1]; dsimp only; omega
  · rw [if_neg h1] at h ⊢
    by_cases h2 : b = 45
    · rw [if_pos h2]; dsimp only; omega
    · rw [if_neg h2] at h ⊢
      by_cases h3 : f_is_figure b = true
      · rw [if_pos h3] at h ⊢; exact int_pos h
      · rw [if_neg h3] at h ⊢
        by_cases h4 : b = 110
        · rw [if_pos h4]; dsimp only; omega
        · rw [if_neg h4] at h ⊢
          by_cases h5 : b = 116
          · rw [if_pos h5]; dsimp only; omega
          · rw [if_neg h5] at h ⊢
            by_cases h6 : b = 102
            · rw [if_pos h6]; dsimp only; omega
            · rw [if_neg h6] at h; cases h
/-- where a value may begin -/
theorem tok_V {v : Wk} {m : Nat} (hb : v.br = brS st) (h01 : ∀ x ∈ st, x = 0 ∨ x = 1) (hst : f_stepped v b = f_begun v b) (hl : st.length + opn (b :: r) ≤ 24) : Tk07 v b r m st (tokV b r st) := by
  obtain ⟨br, md, nm, lf, lo, hi, nu, wd⟩ := v
  dsimp only at hb
  subst hb
  unfold tokV
  by_cases ho : b ∈ ([91, 123] : List Int)
  · have ho2 : b = 91 ∨ b = 123 := by simpa using ho
    have ho3 : (decide (b = 91) || decide (b = 123)) = true := by rw [Bool.or_eq_true, decide_eq_true_eq, decide_eq_true_eq]; exact ho2
    rw [if_pos (decide_eq_true ho)]
    refine ⟨fun z => (nomatch z), fun _ => ⟨Nat.le_refl _, ?_, ?_⟩⟩
    · dsimp only
      rw [opn_cons, if_pos ho3, List.length_append, List.length_singleton, List.drop_succ_cons, List.drop_zero]; omega
    · have hbl : (brS st).length ≤ 24 := by unfold brS; rw [List.length_map]; omega
      have h1 : f_begun ⟨brS st, md, nm, lf, lo, hi, nu, wd⟩ b = (⟨brS st ++ [decide (b = 123)], if decide (b = 123) = true then "member" else "first", nm, lf, lo, hi, nu, wd⟩, true) := by
        unfold f_begun
        dsimp only
        rw [if_pos ho3, if_neg (by rw [decide_eq_true_eq, List.length_map]; omega)]
      refine ⟨_, goF_yes (hst.trans h1), ?_⟩
      by_cases h123 : b = 123
      · rw [decide_eq_true h123, if_pos rfl, if_pos rfl, if_pos rfl]
        exact ⟨(brS_app st 1).symm, (mw3 _).symm, .nfirst, fun x hx => by
          rcases List.mem_append.mp hx with hx | hx
          · exact h01 x hx
          · exact .inr (by simpa using hx)⟩
      · rw [decide_eq_false h123, if_neg Bool.false_ne_true, if_neg Bool.false_ne_true, if_neg Bool.false_ne_true]
        exact ⟨(brS_app st 0).symm, (mw2 _).symm, .vfirst, fun x hx => by
          rcases List.mem_append.mp hx with hx | hx
          · exact h01 x hx
          · exact .inl (by simpa using hx)⟩
  · rw [if_neg (by rw [decide_eq_true_eq]; exact ho)]
    have ho2 : ¬ (b = 91 ∨ b = 123) := by simpa using ho
    obtain ⟨i1, i2⟩ := plain_go (br := brS st) (md := md) (nm := nm) (lf := lf) (lo := lo) (hi := hi) (nu := nu) (wd := wd) (b := b) (r := r) (m := m) (fun w' h => hst.trans h) (fun z => ho2 (.inl z)) (fun z => ho2 (.inr z))
    refine ⟨i1, fun z => ⟨plain_pos z, ?_, ?_⟩⟩
    · have := opn_drop (b :: r) (plainS (b :: r)).2
      dsimp only; omega
    · obtain ⟨nm', lf', lo', hi', nu', wd', e⟩ := i2 z
      exact ⟨_, e, rfl, (mw6 _).symm, .behind, h01⟩
/-- where a name may begin -/
theorem tok_T {v : Wk} {m : Nat} {w : Str} (hb : v.br = brS st) (h01 : ∀ x ∈ st, x = 0 ∨ x = 1) (hst : f_stepped v b = if (!decide (b = 34)) = true then (v, false) else (⟨v.br, "text", true, v.lf, v.lo, v.hi, v.nu, v.wd⟩, true)) : Tk07 v b r m st (tokT w b r st) := by
  obtain ⟨br, md, nm, lf, lo, hi, nu, wd⟩ := v
  dsimp only at hb hst
  subst hb
  unfold tokT
  by_cases h34 : b = 34
  · rw [if_pos h34]
    rw [decide_eq_true h34, if_neg (by simp)] at hst
    obtain ⟨i1, i2⟩ := txt_go (br := brS st) (nm := true) (wd := wd) (r.length + 1) r (m + 1) lf lo hi nu (by omega)
    refine ⟨fun z => ?_, fun z => ⟨by dsimp only; omega, ?_, ?_⟩⟩
    · rw [goF_yes hst, i1 z]; congr 1; dsimp only; omega
    · have := opn_drop (b :: r) (1 + (txtR (r.length + 1) r).2)
      dsimp only; omega
    · obtain ⟨lf', lo', hi', nu', e⟩ := i2 z
      rw [if_pos rfl] at e
      refine ⟨⟨brS st, "colon", true, lf', lo', hi', nu', wd⟩, ?_, rfl, (mw5 _).symm, .colon, h01⟩
      · rw [goF_yes hst, e]
        dsimp only
        rw [show 1 + (txtR (r.length + 1) r).2 = (txtR (r.length + 1) r).2 + 1 by omega, List.drop_succ_cons, show m + 1 + (txtR (r.length + 1) r).2 = m + ((txtR (r.length + 1) r).2 + 1) by omega]
  · rw [if_neg h34]
    rw [decide_eq_false h34, if_pos (by simp)] at hst
    exact ⟨fun _ => goF_no hst, fun z => (nomatch z)⟩
theorem tok_close {v : Wk} {m : Nat} {x : Int} (hb : v.br = brS (st ++ [x])) (h01 : ∀ y ∈ st ++ [x], y = 0 ∨ y = 1) (hst : f_stepped v b = f_closed v) (hb9 : (decide (b = 91) || decide (b = 123)) = false) : Tk07 v b r m (st ++ [x]) (true, 1, "behind", (st ++ [x]).dropLast) := by
  obtain ⟨br, md, nm, lf, lo, hi, nu, wd⟩ := v
  dsimp only at hb
  subst hb
  refine ⟨fun z => (nomatch z), fun _ => ⟨Nat.le_refl _, ?_, ?_⟩⟩
  · dsimp only
    rw [opn_cons, List.dropLast_concat, List.length_append, List.drop_succ_cons, List.drop_zero]; omega
  · have h1 : f_closed ⟨brS (st ++ [x]), md, nm, lf, lo, hi, nu, wd⟩ = (⟨brS st, endM (brS st), nm, lf, lo, hi, nu, wd⟩, true) := by
      unfold f_closed
      dsimp only
      rw [brS_app, List.dropLast_concat, ended_eq]
    refine ⟨_, goF_yes (hst.trans h1), ?_, ?_, .behind, ?_⟩
    · dsimp only; rw [List.dropLast_concat]
    · dsimp only; rw [List.dropLast_concat]; exact (mw6 _).symm
    · dsimp only; rw [List.dropLast_concat]; exact fun y hy => h01 y (List.mem_append_left _ hy)
theorem dec_of {x y : Int} {c : Bool} (h : decide (x = y) = c) : (c = true → x = y) ∧ (c = false → x ≠ y) := by subst h; exact ⟨of_decide_eq_true, of_decide_eq_false⟩
/-- the token's step -/
theorem tok_go {v : Wk} {w : Str} {m : Nat} (h : At07 v w st) (hw : f_is_white b = false) (hl : st.length + opn (b :: r) ≤ 24) : Tk07 v b r m st (tokR (b :: r) w st) := by
  obtain ⟨hb, hm, hk, h01⟩ := h
  have hwn : ¬ f_is_white b = true := by rw [hw]; exact Bool.false_ne_true
  obtain ⟨br, md, nm, lf, lo, hi, nu, wd⟩ := v
  dsimp only at hb hm
  cases hk with
  | value =>
    rw [tk1]
    rw [mw1] at hm
    subst hm
    exact tok_V hb h01 (by rw [st_value, if_neg hwn]) hl
  | @vfirst st0 =>
    rw [mw2] at hm
    subst hm
    cases hc : cloR b (st0 ++ [0]) with
    | true =>
      rw [tkc hc (by decide +kernel)]
      rw [clo_app, if_neg (by decide)] at hc
      have hc := of_decide_eq_true hc
      subst hc
      exact tok_close hb h01 (by rw [st_first, if_neg hwn, if_neg (by simp)]) rfl
    | false =>
      rw [tk2 hc]
      rw [clo_app, if_neg (by decide)] at hc
      exact tok_V hb h01 (by rw [st_first, if_neg hwn, if_pos (by rw [hc]; rfl)]) hl
  | @nfirst st0 =>
    rw [mw3] at hm
    subst hm
    cases hc : cloR b (st0 ++ [1]) with
    | true =>
      rw [tkc hc (by decide +kernel)]
      rw [clo_app, if_pos rfl] at hc
      have hc := of_decide_eq_true hc
      subst hc
      exact tok_close hb h01 (by rw [st_member, if_neg hwn, if_pos (by decide)]) rfl
    | false =>
      rw [tk3 hc]
      rw [clo_app, if_pos rfl] at hc
      exact tok_T hb h01 (by rw [st_member, if_neg hwn, if_neg (by rw [hc]; exact Bool.false_ne_true)])
  | name =>
    rw [mw4] at hm
    subst hm
    rw [tk4]
    exact tok_T hb h01 (by rw [st_name, if_neg hwn])
  | colon =>
    rw [mw5] at hm
    subst hm
    rw [tk5]
    by_cases h58 : b = 58
    · rw [if_pos h58]
      refine ⟨fun z => (nomatch z), fun _ => ⟨Nat.le_refl _, ?_, _, goF_yes (w' := ⟨br, "value", nm, lf, lo, hi, nu, wd⟩) (by rw [st_colon, if_neg hwn, if_neg (by rw [decide_eq_true h58]; decide)]), hb, (mw1 _).symm, .value, h01⟩⟩
      have := opn_drop (b :: r) 1
      dsimp only; omega
    · rw [if_neg h58]
      exact ⟨fun _ => goF_no (by rw [st_colon, if_neg hwn, if_pos (by rw [decide_eq_false h58]; rfl)]), fun z => (nomatch z)⟩
  | behind =>
    rw [mw6] at hm
    subst hm
    rcases List.eq_nil_or_concat st with rfl | ⟨st0, x, rfl⟩
    · have hc : cloR b [] = false := rfl
      rw [tk6 hc, if_neg (by simp)]
      subst hb
      exact ⟨fun _ => goF_no (by show f_stepped ⟨[], "done", nm, lf, lo, hi, nu, wd⟩ b = _; rw [st_done, if_neg hwn]), fun z => (nomatch z)⟩
    · rw [List.concat_eq_append] at *
      have hne : endM (brS (st0 ++ [x])) = "behind" := by unfold endM; rw [if_neg (by rw [brS_app]; simp)]
      have hx := h01 x (by simp)
      have hbl : br.getLastD false = decide (x = 1) := by rw [hb, brS_app, getLastD_app]
      have hst : f_stepped ⟨br, endM (brS (st0 ++ [x])), nm, lf, lo, hi, nu, wd⟩ b = f_behind ⟨br, "behind", nm, lf, lo, hi, nu, wd⟩ b := by rw [hne, st_behind, if_neg hwn]
      cases hc : cloR b (st0 ++ [x]) with
      | true =>
        rw [tkc hc (by decide +kernel)]
        rw [clo_app] at hc
        have hc := of_decide_eq_true hc
        refine tok_close hb h01 ?_ ?_
        · rw [hst]
          unfold f_behind
          dsimp only
          rw [hbl]
          rcases hx with rfl | rfl
          · rw [if_neg (by decide)] at hc
            subst hc
            rw [if_neg (by decide), if_pos (by decide)]
            unfold f_closed f_ended; rfl
          · rw [if_pos rfl] at hc
            subst hc
            rw [if_neg (by decide), if_pos (by decide)]
            unfold f_closed f_ended; rfl
        · rcases hx with rfl | rfl
          · rw [if_neg (by decide)] at hc; subst hc; rfl
          · rw [if_pos rfl] at hc; subst hc; rfl
      | false =>
        rw [tk6 hc, getLastD_app, show (st0 ++ [x]).isEmpty = false by cases st0 <;> rfl]
        rw [clo_app] at hc
        have hc := of_decide_eq_false hc
        by_cases h44 : b = 44
        · rw [decide_eq_true h44, if_pos (show (!false && true) = true from rfl)]
          refine ⟨fun z => (nomatch z), fun _ => ⟨Nat.le_refl _, ?_, _, goF_yes (w' := ⟨br, if decide (x = 1) = true then "name" else "value", nm, lf, lo, hi, nu, wd⟩) (by rw [hst]; unfold f_behind; dsimp only; rw [if_pos (decide_eq_true h44), hbl]), hb, ?_, ?_, h01⟩⟩
          · have := opn_drop (b :: r) 1
            dsimp only; omega
          · dsimp only
            rcases hx with rfl | rfl
            · rw [if_neg (by decide)]; exact (mw1 _).symm
            · rw [if_pos (by decide)]; exact (mw4 _).symm
          · dsimp only
            rcases hx with rfl | rfl
            · rw [if_neg (by decide)]; exact .value
            · rw [if_pos (by decide)]; exact .name
        · rw [decide_eq_false h44, if_neg (by decide)]
          refine ⟨fun _ => goF_no (w' := ⟨br, "behind", nm, lf, lo, hi, nu, wd⟩) ?_, fun z => (nomatch z)⟩
          rw [hst]
          unfold f_behind
          dsimp only
          rw [if_neg (by rw [decide_eq_true_eq]; exact h44), hbl, if_neg]
          rcases hx with rfl | rfl
          · rw [if_neg (by decide)] at hc
            rw [decide_eq_false hc]; simp
          · rw [if_pos rfl] at hc
            rw [decide_eq_false hc]; simp
end

/-! _law_whole -/
abbrev s_l_whole : Stmt := topS 47
abbrev n_l_whole : List Str := ["_law_found"]
theorem c_l_whole : FnScope n_l_whole ["_law_found"] (defScope s_l_whole) := ⟨rfl, rfl, rfl, by decide +kernel, rfl, by decide +kernel, by decide +kernel⟩
def isInt : PyData → Bool
  | .int _ => true
  | _ => false
def S_l_whole : List PyData → Out → Prop := fun ds o => ∃ d, ds = [d] ∧ o = .ok (.bool (isInt d))

theorem h_l_whole (Df : Def K mg "_law_whole" s_l_whole) (B : BI mg) : Has P w K mg base "_law_whole" 1 (S_l_whole) := by
  have nd := c_l_whole.nd
  refine has_pu Df c_l_whole (fun _ _ _ _ _ _ us hl => match us, hl with | [_], _ => rfl) ?_ ?_
  · rintro ds o ⟨d, rfl, _⟩; rfl
  rintro f cdv A outer s H E hr O ds out ⟨d, rfl, rfl⟩
  refine ds_cons (ds_ret (de_and2 (de_isInt B.isinstance B.int (de_va (i := 0) rfl).b) (fun h1_ => de_notV (de_isBool B.isinstance B.bool (de_va (i := 0) rfl).b))) (Or.inl ?_))
  cases d <;> rfl
/-! _law_wild -/
abbrev s_l_wild : Stmt := topS 50
abbrev n_l_wild : List Str := ["_law_number", "_law_wild_here"]
theorem c_l_wild : FnScope n_l_wild ["_law_number"] (defScope s_l_wild) := ⟨rfl, rfl, rfl, by decide +kernel, rfl, by decide +kernel, by decide +kernel⟩
def wildL : List (List Int) := [[48], [49], [93], [125], [44], [58], [34], [92], [46], [101], [45], [31], [127], [195, 169], [34, 31, 34], [48, 49], [48, 48], [44, 125], [44, 93], [49, 46], [34, 92, 117, 68, 99], [34, 92, 117, 100, 99, 48, 48, 34], [34, 9, 34], [34, 32, 34], [48, 46, 49], [34, 92, 117, 48, 68, 70, 102]]
def lisD (l : List Int) : PyData := .list (l.map .int)
def pickL (M : List (List Int)) (n : Int) : List Int := M.getD (n % (M.length : Int)).toNat []
theorem atI_pick {M : List (List Int)} (h : M ≠ []) (n : Int) : atI (M.map lisD) (n % (M.length : Int)) = some (lisD (pickL M n)) := by
  have hl := List.length_pos_iff.mpr h
  have h1 := Int.emod_nonneg n (show (M.length : Int) ≠ 0 by omega)
  have h2 := Int.emod_lt_of_pos n (show (0 : Int) < (M.length : Int) by omega)
  have h3 : (n % (M.length : Int)).toNat < M.length := by omega
  unfold atI ixN
  rw [if_pos h1, List.length_map, if_pos (by omega), Option.bind_some]
  show (M.map lisD)[(n % (M.length : Int)).toNat]? = _
  unfold pickL
  rw [List.getElem?_map, List.getD_eq_getElem?_getD, List.getElem?_eq_getElem h3]; rfl
theorem pick_mem {M : List (List Int)} (h : M ≠ []) (n : Int) : pickL M n ∈ M := by
  have hl := List.length_pos_iff.mpr h
  have h1 := Int.emod_nonneg n (show (M.length : Int) ≠ 0 by omega)
  have h2 := Int.emod_lt_of_pos n (show (0 : Int) < (M.length : Int) by omega)
  have h3 : (n % (M.length : Int)).toNat < M.length := by omega
  unfold pickL
  rw [List.getD_eq_getElem?_getD, List.getElem?_eq_getElem h3]; exact List.getElem_mem h3
def S_l_wild : List PyData → Out → Prop := fun ds o => ∃ n, ds = [.int n] ∧ o = .ok (lisD (pickL wildL n))

theorem h_l_wild (Df : Def K mg "_law_wild" s_l_wild) (B : BI mg) : Has P w K mg base "_law_wild" 1 (S_l_wild) := by
  have nd := c_l_wild.nd
  refine has_pu Df c_l_wild (fun _ _ _ _ _ _ us hl => match us, hl with | [_], _ => rfl) ?_ ?_
  · rintro ds o ⟨n, rfl, rfl⟩; rfl
  rintro f cdv A outer s H E hr O ds out ⟨n, rfl, rfl⟩
  refine ds_cons (ds_asg (n := 1) nd (ne_lst (ad_cons (ne_lst (ad_cons (de_int) ad_nil) (by simp only [List.length_cons, List.length_nil]; omega)).de (ad_cons (ne_lst (ad_cons (de_int) ad_nil) (by simp only [List.length_cons, List.length_nil]; omega)).de (ad_cons (ne_lst (ad_cons (de_int) ad_nil) (by simp only [List.length_cons, List.length_nil]; omega)).de (ad_cons (ne_lst (ad_cons (de_int) ad_nil) (by simp only [List.length_cons, List.length_nil]; omega)).de (ad_cons (ne_lst (ad_cons (de_int) ad_nil) (by simp only [List.length_cons, List.length_nil]; omega)).de (ad_cons (ne_lst (ad_cons (de_int) ad_nil) (by simp only [List.length_cons, List.length_nil]; omega)).de (ad_cons (ne_lst (ad_cons (de_int) ad_nil) (by simp only [List.length_cons, List.length_nil]; omega)).de (ad_cons (ne_lst (ad_cons (de_int) ad_nil) (by simp only [List.length_cons, List.length_nil]; omega)).de (ad_cons (ne_lst (ad_cons (de_int) ad_nil) (by simp only [List.length_cons, List.length_nil]; omega)).de (ad_cons (ne_lst (ad_cons (de_int) ad_nil) (by simp only [List.length_cons, List.length_nil]; omega)).de (ad_cons (ne_lst (ad_cons (de_int) ad_nil) (by simp only [List.length_cons, List.length_nil]; omega)).de (ad_cons (ne_lst (ad_cons (de_int) ad_nil) (by simp only [List.length_cons, List.length_nil]; omega)).de (ad_cons (ne_lst (ad_cons (de_int) ad_nil) (by simp only [List.length_cons, List.length_nil]; omega)).de (ad_cons (ne_lst (ad_cons (de_int) (ad_cons (de_int) ad_nil)) (by simp only [List.length_cons, List.length_nil]; omega)).de (ad_cons (ne_ints [34, 31, 34]).de (ad_cons (ne_lst (ad_cons (de_int) (ad_cons (de_int) ad_nil)) (by simp only [List.length_cons, List.length_nil]; omega)).de (ad_cons (ne_lst (ad_cons (de_int) (ad_cons (de_int) ad_nil)) (by simp only [List.length_cons, List.length_nil]; omega)).de (ad_cons (ne_lst (ad_cons (de_int) (ad_cons (de_int) ad_nil)) (by simp only [List.length_cons, List.length_nil]; omega)).de (ad_cons (ne_lst (ad_cons (de_int) (ad_cons (de_int) ad_nil)) (by simp only [List.length_cons, List.length_nil]; omega)).de (ad_cons (ne_lst (ad_cons (de_int) (ad_cons (de_int) ad_nil)) (by simp only [List.length_cons, List.length_nil]; omega)).de (ad_cons (ne_ints [34, 92, 117, 68, 99]).de (ad_cons (ne_ints [34, 92, 117, 100, 99, 48, 48, 34]).de (ad_cons (ne_ints [34, 9, 34]).de (ad_cons (ne_ints [34, 32, 34]).de (ad_cons (ne_ints [48, 46, 49]).de (ad_cons (ne_ints [34, 92, 117, 48, 68, 70, 102]).de ad_nil)))))))))))))))))))))))))) (by simp only [List.length_cons, List.length_nil]; omega)).de ?_)
  refine ds_cons (ds_ret (de_ixL (LE.of (de_va (i := 1) rfl)) (de_mod (de_va (i := 0) rfl).b (de_int).b (by walk_at "side")).b (atI_pick (M := wildL) (by simp [wildL]) n)) (Or.inl ?_))
  first | rfl | (congr 1; done)
/-! _law_piece -/
abbrev s_l_piece : Stmt := topS 49
abbrev n_l_piece : List Str := ["_law_number", "_law_waits", "_law_stack", "_law_closing", "_law_plain_here", "_law_menus", "_law_menu"]
theorem c_l_piece : FnScope n_l_piece ["_law_number", "_law_waits", "_law_stack"] (defScope s_l_piece) := ⟨rfl, rfl, rfl, by decide +kernel, rfl, by decide +kernel, by decide +kernel⟩
def plainL : List (List Int) := [[91], [123], [34, 97, 34], [48], [45, 49, 46, 48, 101, 43, 50], [110, 117, 108, 108], [91], [32], [34, 92, 117, 100, 56, 48, 48, 92, 117, 100, 99, 48, 48, 34], [34, 195, 164, 92, 110, 34], [123], [116, 114, 117, 101], [34, 240, 159, 152, 128, 92, 34, 34]]
def menusL (cl : Int) : List (Str × List (List Int)) := [("value", plainL), ("value first", plainL ++ [[93]]), ("name first", [[34, 97, 34], [125], [34, 34], [34, 98, 34]]), ("name", [[34, 97, 34], [32], [34, 98, 34]]), ("colon", [[58], [58], [32]]), ("behind", [[44], [cl], [10], [cl], [44], [93]])]
def clP (st : List Int) : Int := if (!st.isEmpty && decide (st.getLastD 0 = 123)) = true then 125 else 93
def menuF (w : Str) (cl : Int) : List (List Int) := (((menusL cl).find? fun p => decide (p.1 = w)).map (·.2)).getD []
def pcF (n : Int) (w : Str) (st : List Int) : List Int := pickL (menuF w (clP st)) n
def KeyW (w : Str) : Prop := w = "value" ∨ w = "value first" ∨ w = "name first" ∨ w = "name" ∨ w = "colon" ∨ w = "behind"
def menusD (cl : Int) : List (Str × PyData) := (menusL cl).map fun p => (p.1, .list (p.2.map lisD))
theorem menu_look {w : Str} (cl : Int) (h : KeyW w) : lookS (menusD cl) w = some (.list ((menuF w cl).map lisD)) ∧ menuF w cl ≠ [] := by
  rcases h with rfl | rfl | rfl | rfl | rfl | rfl <;> exact ⟨by rfl, fun h => absurd h (List.cons_ne_nil _ _)⟩
theorem menu_nd (cl : Int) : ((menusD cl).map fun p => (Sum.inr p.1 : Key)).Nodup := by
  show ((["value", "value first", "name first", "name", "colon", "behind"] : List Str).map fun s => (Sum.inr s : Key)).Nodup
  decide +kernel
theorem cl_or (st : List Int) : clP st = 125 ∨ clP st = 93 := by unfold clP; split <;> simp
theorem menu_opn {w : Str} {cl : Int} (h : cl = 125 ∨ cl = 93) : ∀ l ∈ menuF w cl, opn l ≤ 1 ∧ l.length ≤ 20 := by
  unfold menuF
  cases hf : (menusL cl).find? fun p => decide (p.1 = w) with
  | none => intro l hl; exact absurd hl List.not_mem_nil
  | some p =>
    have hm := List.mem_of_find?_eq_some hf
    have : ∀ p ∈ menusL cl, ∀ l ∈ p.2, opn l ≤ 1 ∧ l.length ≤ 20 := by rcases h with rfl | rfl <;> decide
    exact this p hm
def S_l_piece : List Sl → (List Sl → Out → Prop) → Prop := fun ρa Po => ∃ (n : Int) (w : Str) (p : Addr) (st : List Int), KeyW w ∧ ρa = [.va (.int n), .va (.str w), stC p st] ∧
  Po = fun ρb o => ρb = [.va (.int n), .va (.str w), stC p st] ∧ o = .ok (lisD (pcF n w st))

theorem h_l_piece (Df : Def K mg "_law_piece" s_l_piece) (B : BI mg) : HasG P w K mg base "_law_piece" 1 (S_l_piece) := by
  have nd := c_l_piece.nd
  refine has_G Df c_l_piece (fun _ _ _ _ _ _ us hl => match us, hl with | [_, _, _], _ => rfl) ?_ ?_
  · rintro ρa Po ⟨n, w, p, st, hw, rfl, rfl⟩; rfl
  rintro f cdv A outer s H E hr O ρa Po ⟨n, w, p, st, hw, rfl, rfl⟩
  refine ds_cons (ds_asg (n := 3) nd de_int ?_)
  refine ds_cons (ds_ifI (n := 3) nd (dt_and2 (dt_cellB (k1 := !st.isEmpty) (n := 2) (k := 0) rfl rfl (re_nm (i := 2) rfl rfl) (by rw [Bool.not_not]; cases st <;> rfl)) (fun h => dt_eqI (de_ixC (n := 2) (k := 0) rfl rfl (re_nm (i := 2) rfl rfl) (de_neg de_int.b).b (st_last (by rintro rfl; cases h))).b de_int.b)) rfl de_int ?_)
  have hcl : (if (!st.isEmpty && decide (st.getLastD 0 = 123)) = true then (125 : Int) else 93) = clP st := rfl
  rw [hcl]
  generalize hc : clP st = cl
  obtain ⟨hlk, hne⟩ := menu_look cl hw
  refine ds_cons (ds_asg (n := 4) nd (d := .list (plainL.map lisD)) (ne_lst (ad_cons (ne_lst (ad_cons de_int ad_nil) (by decide)).de (ad_cons (ne_lst (ad_cons de_int ad_nil) (by decide)).de (ad_cons (ne_ints [34, 97, 34]).de (ad_cons (ne_lst (ad_cons de_int ad_nil) (by decide)).de (ad_cons (ne_ints [45, 49, 46, 48, 101, 43, 50]).de (ad_cons (ne_ints [110, 117, 108, 108]).de (ad_cons (ne_lst (ad_cons de_int ad_nil) (by decide)).de (ad_cons (ne_lst (ad_cons de_int ad_nil) (by decide)).de (ad_cons (ne_ints [34, 92, 117, 100, 56, 48, 48, 92, 117, 100, 99, 48, 48, 34]).de (ad_cons (ne_ints [34, 195, 164, 92, 110, 34]).de (ad_cons (ne_lst (ad_cons de_int ad_nil) (by decide)).de (ad_cons (ne_ints [116, 114, 117, 101]).de (ad_cons (ne_ints [34, 240, 159, 152, 128, 92, 34, 34]).de ad_nil))))))))))))) (by show 13 ≤ _; decide)).de ?_)
  refine ds_cons (ds_asgM (n := 5) (kvs := menusD cl) nd (pm_cons (fun _ => (de_va (i := 4) rfl)) (pm_cons (fun _ => (DE.is (NE.de (ne_cat (ds := plainL.map lisD) (ds' := [lisD [93]]) (LE.of (de_va (i := 4) rfl)) (LE.of (ne_lst (ad_cons (ne_lst (ad_cons de_int ad_nil) (by decide)).de ad_nil) (by show 1 ≤ _; decide)).de) (by show 13 + 1 ≤ _; decide))) rfl)) (pm_cons (fun _ => (ne_lst (ad_cons (ne_ints [34, 97, 34]).de (ad_cons (ne_lst (ad_cons de_int ad_nil) (by decide)).de (ad_cons (ne_lst (ad_cons de_int (ad_cons de_int ad_nil)) (by decide)).de (ad_cons (ne_ints [34, 98, 34]).de ad_nil)))) (by show 4 ≤ _; decide)).de) (pm_cons (fun _ => (ne_lst (ad_cons (ne_ints [34, 97, 34]).de (ad_cons (ne_lst (ad_cons de_int ad_nil) (by decide)).de (ad_cons (ne_ints [34, 98, 34]).de ad_nil))) (by show 3 ≤ _; decide)).de) (pm_cons (fun _ => (ne_lst (ad_cons (ne_lst (ad_cons de_int ad_nil) (by decide)).de (ad_cons (ne_lst (ad_cons de_int ad_nil) (by decide)).de (ad_cons (ne_lst (ad_cons de_int ad_nil) (by decide)).de ad_nil))) (by show 3 ≤ _; decide)).de) (pm_cons (fun _ => (ne_lst (ad_cons (ne_lst (ad_cons de_int ad_nil) (by decide)).de (ad_cons (ne_lst (ad_cons (de_va (i := 3) rfl) ad_nil) (by show 1 ≤ _; decide)).de (ad_cons (ne_lst (ad_cons de_int ad_nil) (by decide)).de (ad_cons (ne_lst (ad_cons (de_va (i := 3) rfl) ad_nil) (by show 1 ≤ _; decide)).de (ad_cons (ne_lst (ad_cons de_int ad_nil) (by decide)).de (ad_cons (ne_lst (ad_cons de_int ad_nil) (by decide)).de ad_nil)))))) (by show 6 ≤ _; decide)).de) pm_nil)))))) (menu_nd cl) (fun pm => ?_) (h15 := (show (menusD cl).length ≤ 15 from (by show 6 ≤ 15; decide))))
  refine ds_cons (ds_asg (n := 6) nd (de_ixM (n := 5) hr rfl (de_va (i := 1) rfl).b hlk) ?_)
  refine ds_cons (ds_ret (de_ixL (LE.of (de_va (i := 6) rfl)) ((de_mod (de_va (i := 0) rfl).b (de_lenL B.len (LE.of (de_va (i := 6) rfl))).b (by have := List.length_pos_iff.mpr hne; rw [List.length_map]; omega)).is (by rw [List.length_map])).b (atI_pick hne n)) ⟨_, _, ⟨rfl, rfl⟩, kp_stn (u := .ref p) (ds := [_, _]) 2 rfl, Or.inl ?_⟩)
  unfold pcF; rw [hc]
/-! _law_after -/
abbrev s_l_after : Stmt := topS 51
abbrev n_l_after : List Str := ["_law_piece_here", "_law_waits", "_law_stack"]
theorem c_l_after : FnScope n_l_after ["_law_piece_here", "_law_waits", "_law_stack"] (defScope s_l_after) := ⟨rfl, rfl, rfl, by decide +kernel, rfl, by decide +kernel, by decide +kernel⟩
def aftF (pc : List Int) (w : Str) (st : List Int) : Str × List Int := match pc with
  | [] => (w, st)
  | x :: _ =>
    if decide (x ∈ ([32, 10] : List Int)) = true then (w, st)
    else if decide (x ∈ ([91, 123] : List Int)) = true then (if decide (x = 91) = true then "value first" else "name first", st ++ [x])
    else if decide (x ∈ ([93, 125] : List Int)) = true then ("behind", st.dropLast)
    else if decide (x = 44) = true then (if (!st.isEmpty && decide (st.getLastD 0 = 123)) = true then "name" else "value", st)
    else if decide (x = 58) = true then ("value", st)
    else (if decide (w ∈ (["name", "name first"] : List Str)) = true then "colon" else "behind", st)
theorem aft_ok {pc : List Int} {w : Str} {st : List Int} (hw : KeyW w) : KeyW (aftF pc w st).1 ∧ (aftF pc w st).2.length ≤ st.length + 1 := by
  unfold aftF
  cases pc with
  | nil => exact ⟨hw, by dsimp only; omega⟩
  | cons x r =>
    dsimp only
    split
    · exact ⟨hw, by dsimp only; omega⟩
    · split
      · refine ⟨?_, by dsimp only; rw [List.length_append]; exact Nat.le_refl _⟩
        dsimp only
        split
        · exact .inr (.inl rfl)
        · exact .inr (.inr (.inl rfl))
      · split
        · exact ⟨.inr (.inr (.inr (.inr (.inr rfl)))), by dsimp only; rw [List.length_dropLast]; omega⟩
        · split
          · refine ⟨?_, by dsimp only; omega⟩
            dsimp only
            split
            · exact .inr (.inr (.inr (.inl rfl)))
            · exact .inl rfl
          · split
            · exact ⟨.inl rfl, by dsimp only; omega⟩
            · refine ⟨?_, by dsimp only; omega⟩
              dsimp only
              split
              · exact .inr (.inr (.inr (.inr (.inl rfl))))
              · exact .inr (.inr (.inr (.inr (.inr rfl))))
def S_l_after : List Sl → (List Sl → Out → Prop) → Prop := fun ρa Po => ∃ (pc : List Int) (w : Str) (p : Addr) (st : List Int), st.length ≤ 1000 ∧ ρa = [.va (lisD pc), .va (.str w), stC p st] ∧
  Po = fun ρb o => ρb = [.va (lisD pc), .va (.str w), stC p (aftF pc w st).2] ∧ o = .ok (.str (aftF pc w st).1)

theorem h_l_after (Df : Def K mg "_law_after" s_l_after) (B : BI mg) : HasG P w K mg base "_law_after" 1 (S_l_after) := by
  have nd := c_l_after.nd
  refine has_G Df c_l_after (fun _ _ _ _ _ _ us hl => match us, hl with | [_, _, _], _ => rfl) ?_ ?_
  · rintro ρa Po ⟨pc, w, p, st, hst, rfl, rfl⟩; rfl
  rintro f cdv A outer s H E hr O ρa Po ⟨pc, w, p, st, hst, rfl, rfl⟩
  generalize hT : aftF pc w st = T
  unfold aftF at hT
  cases pc with
  | nil =>
    subst hT
    refine ds_cons (ds_if (k := true) (DT.is (dt_or2 (k := true) (k' := true) (DT.is (dt_not (dt_lst (ds := []) (de_va (i := 0) rfl).b)) rfl) (fun h => nomatch h)) rfl) (fun _ => ?_) (fun hc => nomatch hc))
    exact ds_cons (ds_ret (de_va (i := 1) rfl) ⟨_, _, ⟨rfl, rfl⟩, kp_stn (u := .ref p) (ds := [_, _]) 2 rfl, Or.inl rfl⟩)
  | cons x r =>
    have h0 : atI ((x :: r).map PyData.int) 0 = some (.int x) := atI_hd
    dsimp only at hT
    refine ds_cons (ds_if (k := decide (x ∈ ([32, 10] : List Int))) (DT.is (dt_or2 (k := false) (DT.is (dt_not (dt_lst (ds := (x :: r).map PyData.int) (de_va (i := 0) rfl).b)) rfl) (fun _ => dt_inI (ns := [32, 10]) (de_ixL (LE.of (de_va (i := 0) rfl)) de_int.b h0).b (de_tup (ad_cons de_int (ad_cons de_int ad_nil)) (by decide)).b)) (Bool.false_or _)) (fun hc => ?_) (fun hc => ds_nil ?_))
    · rw [if_pos hc] at hT
      subst hT
      exact ds_cons (ds_ret (de_va (i := 1) rfl) ⟨_, _, ⟨rfl, rfl⟩, kp_stn (u := .ref p) (ds := [_, _]) 2 rfl, Or.inl rfl⟩)
    rw [if_neg (by rw [hc]; exact Bool.false_ne_true)] at hT
    refine ds_cons (ds_if (dt_inI (ns := [91, 123]) (de_ixL (LE.of (de_va (i := 0) rfl)) de_int.b h0).b (de_tup (ad_cons de_int (ad_cons de_int ad_nil)) (by decide)).b) (fun hc => ?_) (fun hc => ds_nil ?_))
    · rw [if_pos hc] at hT
      subst hT
      refine ds_cons (ds_exprC (ce_appC (n := 2) (k := 0) rfl rfl (re_nm (i := 2) rfl rfl) (de_ixL (LE.of (de_va (i := 0) rfl)) de_int.b h0) (by rw [List.length_map, List.length_map]; omega)) ?_)
      exact ds_cons (ds_ret (de_ifS (dt_eqI (de_ixL (LE.of (de_va (i := 0) rfl)) de_int.b h0).b de_int.b) de_str de_str) ⟨_, _, ⟨rfl, rfl⟩, kp_stn (u := .ref p) (ds := [_, _]) 2 (by show some (Sl.st _ [(p, Cell.lst ((st.map PyData.int).map Itm.dat ++ [Itm.dat (.int x)]))]) = some (Sl.st _ [(p, Cell.lst (((st ++ [x]).map PyData.int).map Itm.dat))]); rw [List.map_append, List.map_append]; rfl), Or.inl rfl⟩)
    rw [if_neg (by rw [hc]; exact Bool.false_ne_true)] at hT
    refine ds_cons (ds_if (dt_inI (ns := [93, 125]) (de_ixL (LE.of (de_va (i := 0) rfl)) de_int.b h0).b (de_tup (ad_cons de_int (ad_cons de_int ad_nil)) (by decide)).b) (fun hc => ?_) (fun hc => ds_nil ?_))
    · rw [if_pos hc] at hT
      subst hT
      refine ds_cut (fun ρ => ρ = [.va (lisD (x :: r)), .va (.str w), stC p st.dropLast]) (ds_if (dt_cellB (k1 := !st.isEmpty) (n := 2) (k := 0) rfl rfl (re_nm (i := 2) rfl rfl) (by rw [Bool.not_not]; cases st <;> rfl)) (fun hd => ?_) (fun hd => ?_)) ?_
      · have hne : st ≠ [] := by rintro rfl; cases hd
        refine ds_cons (ds_exprC (ce_popC (n := 2) (k := 0) rfl rfl (re_nm (i := 2) rfl rfl) (st_pop hne)) ?_)
        refine ds_nil ?_
        show [_, _, Sl.st _ [(p, Cell.lst ((st.map PyData.int).map Itm.dat).dropLast)]] = [_, _, Sl.st _ [(p, Cell.lst ((st.dropLast.map PyData.int).map Itm.dat))]]
        rw [List.map_dropLast, List.map_dropLast]
      · have hne : st = [] := by cases st with | nil => rfl | cons _ _ => cases hd
        subst hne
        exact ds_nil rfl
      · rintro ρ' rfl
        exact ds_cons (ds_ret de_str ⟨_, _, ⟨rfl, rfl⟩, kp_stn (u := .ref p) (ds := [_, _]) 2 rfl, Or.inl rfl⟩)
    rw [if_neg (by rw [hc]; exact Bool.false_ne_true)] at hT
    refine ds_cons (ds_if (dt_eqI (de_ixL (LE.of (de_va (i := 0) rfl)) de_int.b h0).b de_int.b) (fun hc => ?_) (fun hc => ds_nil ?_))
    · rw [if_pos hc] at hT
      subst hT
      exact ds_cons (ds_ret (de_ifS (dt_and2 (dt_cellB (k1 := !st.isEmpty) (n := 2) (k := 0) rfl rfl (re_nm (i := 2) rfl rfl) (by rw [Bool.not_not]; cases st <;> rfl)) (fun h => dt_eqI (de_ixC (n := 2) (k := 0) rfl rfl (re_nm (i := 2) rfl rfl) (de_neg de_int.b).b (st_last (by rintro rfl; cases h))).b de_int.b)) de_str de_str) ⟨_, _, ⟨rfl, rfl⟩, kp_stn (u := .ref p) (ds := [_, _]) 2 rfl, Or.inl rfl⟩)
    rw [if_neg (by rw [hc]; exact Bool.false_ne_true)] at hT
    refine ds_cons (ds_if (dt_eqI (de_ixL (LE.of (de_va (i := 0) rfl)) de_int.b h0).b de_int.b) (fun hc => ?_) (fun hc => ds_nil ?_))
    · rw [if_pos hc] at hT
      subst hT
      exact ds_cons (ds_ret de_str ⟨_, _, ⟨rfl, rfl⟩, kp_stn (u := .ref p) (ds := [_, _]) 2 rfl, Or.inl rfl⟩)
    rw [if_neg (by rw [hc]; exact Bool.false_ne_true)] at hT
    subst hT
    exact ds_cons (ds_ret (de_ifS (dt_inS (ns := ["name", "name first"]) (de_va (i := 1) rfl).b (de_tup (ad_cons de_str (ad_cons de_str ad_nil)) (by decide)).b) de_str de_str) ⟨_, _, ⟨rfl, rfl⟩, kp_stn (u := .ref p) (ds := [_, _]) 2 rfl, Or.inl rfl⟩)
/-! _law_bytes -/
abbrev s_l_bytes : Stmt := topS 52
abbrev n_l_bytes : List Str := ["_law_script", "_law_row", "_law_stack", "_law_waits", "_law_k", "_law_number", "_law_piece_here"]
theorem c_l_bytes : FnScope n_l_bytes ["_law_script"] (defScope s_l_bytes) := ⟨rfl, rfl, rfl, by decide +kernel, rfl, by decide +kernel, by decide +kernel⟩
theorem cut_map7 {l : List Int} {k : Nat} (h : k ≤ l.length) : DL.cutD (l.map PyData.int) none (some (k : Int)) = (l.take k).map PyData.int := by
  rw [cut_to _ _ (by rw [List.length_map]; exact h), List.map_take]
def pc2 (n : Int) (s : List Int × List Int × Str) : List Int := if decide (n % 12 = 4) = true then (pcF (n / 12) s.2.2 s.2.1).take (n / 120 % (((pcF (n / 12) s.2.2 s.2.1).length : Int) + 1)).toNat else pcF (n / 12) s.2.2 s.2.1
def bstep (n : Int) (s : List Int × List Int × Str) : List Int × List Int × Str :=
  if decide (n % 12 = 0) = true then (s.1 ++ [n / 12 % 256], s.2.1, s.2.2)
  else if decide (n % 12 < 4) = true then (s.1 ++ pickL wildL (n / 12), s.2.1, s.2.2)
  else (s.1 ++ pc2 n s, (aftF (pc2 n s) s.2.2 s.2.1).2, (aftF (pc2 n s) s.2.2 s.2.1).1)
def brun (ns : List Int) : Nat → List Int × List Int × Str
  | 0 => ([], [], "value")
  | k + 1 => bstep (mix ns (k : Int)) (brun ns k)
def bytesF (ns : List Int) : List Int := (brun ns (1 + mix ns 60 % 24).toNat).1
theorem wild_opn : ∀ l ∈ wildL, opn l = 0 ∧ l.length ≤ 20 := by decide
theorem pcF_ok {n : Int} {w : Str} {st : List Int} (hw : KeyW w) : opn (pcF n w st) ≤ 1 ∧ (pcF n w st).length ≤ 20 :=
  menu_opn (cl_or st) _ (pick_mem (menu_look _ hw).2 n)
theorem pc2_ok {n : Int} {s : List Int × List Int × Str} (hw : KeyW s.2.2) : opn (pc2 n s) ≤ 1 ∧ (pc2 n s).length ≤ 20 := by
  have h := pcF_ok (n := n / 12) (st := s.2.1) hw
  unfold pc2
  split
  · refine ⟨Nat.le_trans (opn_take _ _) h.1, ?_⟩
    rw [List.length_take]; omega
  · exact h
def BOk (m : Nat) (s : List Int × List Int × Str) : Prop := opn s.1 ≤ m ∧ s.1.length ≤ 20 * m ∧ s.2.1.length ≤ m ∧ KeyW s.2.2
theorem bstep_ok {m : Nat} {n : Int} {s : List Int × List Int × Str} (h : BOk m s) : BOk (m + 1) (bstep n s) := by
  obtain ⟨h1, h2, h3, h4⟩ := h
  unfold bstep
  split
  · refine ⟨?_, ?_, by dsimp only; omega, h4⟩
    · dsimp only
      rw [opn_app]
      have : opn [n / 12 % 256] ≤ 1 := by rw [opn_cons]; split <;> (show _ + 0 ≤ 1; omega)
      omega
    · dsimp only; rw [List.length_append, List.length_singleton]; omega
  · split
    · have hp := wild_opn _ (pick_mem (M := wildL) (by simp [wildL]) (n / 12))
      refine ⟨by dsimp only; rw [opn_app]; omega, by dsimp only; rw [List.length_append]; omega, by dsimp only; omega, h4⟩
    · have hp := pc2_ok (n := n) h4
      have ha := aft_ok (pc := pc2 n s) (st := s.2.1) h4
      exact ⟨by dsimp only; rw [opn_app]; omega, by dsimp only; rw [List.length_append]; omega, by dsimp only; omega, ha.1⟩
theorem brun_ok (ns : List Int) : ∀ m, BOk m (brun ns m)
  | 0 => ⟨Nat.le_refl _, Nat.le_refl _, Nat.le_refl _, .inl rfl⟩
  | m + 1 => bstep_ok (brun_ok ns m)
theorem bytes_ok (ns : List Int) : opn (bytesF ns) ≤ 24 ∧ (bytesF ns).length ≤ 480 := by
  have h := brun_ok ns (1 + mix ns 60 % 24).toNat
  have h1 := Int.emod_lt_of_pos (mix ns 60) (show (0 : Int) < 24 by decide)
  have h2 := Int.emod_nonneg (mix ns 60) (show (24 : Int) ≠ 0 by decide)
  exact ⟨Nat.le_trans h.1 (by omega), Nat.le_trans h.2.1 (by omega)⟩
def S_l_bytes : List PyData → Out → Prop := fun ds o => ∃ ns, ds = [scr ns] ∧ o = .nw ((bytesF ns).map .int)

theorem h_l_bytes (Df : Def K mg "_law_bytes" s_l_bytes) (B : BI mg) (G_l_mix : Has P w K mg base "_law_mix" 2 (S_l_mix)) (G_l_wild : Has P w K mg base "_law_wild" 1 (S_l_wild)) (G_l_piece : HasG P w K mg base "_law_piece" 1 (S_l_piece)) (G_l_after : HasG P w K mg base "_law_after" 1 (S_l_after)) : Has P w K mg base "_law_bytes" 6 (S_l_bytes) := by
  have nd := c_l_bytes.nd
  refine has_pu Df c_l_bytes (fun _ _ _ _ _ _ us hl => match us, hl with | [_], _ => rfl) ?_ ?_
  · rintro ds o ⟨ns, rfl, rfl⟩; rfl
  rintro f cdv A outer s H E hr O ds out ⟨ns, rfl, rfl⟩
  have hb1 := Int.emod_lt_of_pos (mix ns 60) (show (0 : Int) < 24 by decide)
  have hb2 := Int.emod_nonneg (mix ns 60) (show (24 : Int) ≠ 0 by decide)
  refine ds_cons (ds_asgN (n := 1) nd (ne_lst ad_nil (by decide)) fun p1 ap1 => ?_)
  refine ds_cons (ds_asgN (n := 2) nd (ne_lst ad_nil (by decide)) fun p2 ap2 => ?_)
  refine ds_owSt (m := 2) rfl ?_
  refine ds_cons (ds_asg (n := 3) nd de_str ?_)
  refine ds_cons (ds_for (n := 4) (passes_of rfl) rfl nd (ie_rng B.range (de_add de_int.b (de_mod (de_call G_l_mix (hr.mono (by decide)) (ad_cons (de_va (i := 0) rfl) (ad_cons de_int ad_nil)) ⟨_, _, rfl, rfl⟩).b de_int.b (by decide)).b).b (by omega)) (fun m ρ => ∃ q1 q2 b4 b5 b6, ρ = [.va (scr ns), .ow q1 ((brun ns m).1.map .int), stC q2 (brun ns m).2.1, .va (.str (brun ns m).2.2), b4, b5, b6]) ⟨_, _, _, _, _, rfl⟩ ?_ ?_)
  · rintro m d ρ' hd ⟨q1, q2, b4, b5, b6, rfl⟩
    obtain ⟨hm, rfl⟩ := upTo_at hd
    have hm24 : m < 24 := by omega
    have hok := brun_ok ns m
    have hnx : brun ns (m + 1) = bstep (mix ns (m : Int)) (brun ns m) := rfl
    rw [hnx]
    refine ds_cons (ds_asg (n := 5) nd (de_call G_l_mix (hr.mono (by decide)) (ad_cons (de_va (i := 0) rfl) (ad_cons (de_va (i := 4) rfl) ad_nil)) ⟨_, _, rfl, rfl⟩) ?_)
    generalize brun ns m = s at hok ⊢
    generalize mix ns (m : Int) = n
    obtain ⟨h1, h2, h3, h4⟩ := hok
    unfold bstep
    refine ds_cons (ds_if (dt_eqI (de_mod (de_va (i := 5) rfl).b de_int.b (by decide)).b de_int.b) (fun hc => ?_) (fun hc => ?_))
    · rw [if_pos hc]
      refine ds_cons (ds_exprC (ce_append (n := 1) rfl (re_ow (i := 1) rfl) (de_mod (de_div (de_va (i := 5) rfl).b de_int.b (by decide)).b de_int.b (by decide)) (by rw [List.length_map]; omega)) ?_)
      exact ds_nil (ds_nil ⟨q1, q2, _, _, _, by rw [List.map_append]; rfl⟩)
    rw [if_neg (by rw [hc]; exact Bool.false_ne_true)]
    refine ds_cons (ds_if (dt_lt (de_mod (de_va (i := 5) rfl).b de_int.b (by decide)).b de_int.b) (fun hc => ?_) (fun hc => ?_))
    · rw [if_pos hc]
      have hp := wild_opn _ (pick_mem (M := wildL) (by simp [wildL]) (n / 12))
      refine ds_cons (ds_asgN (n := 1) nd ((ne_cat (LE.ow (n := 1) rfl) (LE.of (de_call G_l_wild (hr.mono (by decide)) (ad_cons (de_div (de_va (i := 5) rfl).b de_int.b (by decide)) ad_nil) ⟨_, rfl, rfl⟩)) (by rw [List.length_map, List.length_map]; omega)).is (List.map_append ..).symm) fun q ap => ?_)
      exact ds_nil (ds_nil (ds_nil ⟨q, q2, _, _, _, rfl⟩))
    rw [if_neg (by rw [hc]; exact Bool.false_ne_true)]
    refine ds_cons (ds_asgC (n := 6) nd (ce_callG2 (n := 2) (v := .ref q2) (μ' := [(q2, .lst ((s.2.1.map PyData.int).map .dat))]) G_l_piece (hr.mono (by decide)) rfl (de_div (de_va (i := 5) rfl).b de_int.b (by decide)) (de_va (i := 3) rfl) (re_nm (i := 2) rfl rfl) aw_nil ⟨n / 12, s.2.2, q2, s.2.1, h4, rfl, rfl⟩) ?_)
    refine ds_cut (fun ρ => ρ = [.va (scr ns), .ow q1 (s.1.map .int), stC q2 s.2.1, .va (.str s.2.2), .va (.int (m : Int)), .va (.int n), .va (lisD (pc2 n s))]) (ds_if (dt_eqI (de_mod (de_va (i := 5) rfl).b de_int.b (by decide)).b de_int.b) (fun hd => ?_) (fun hd => ?_)) ?_
    · have hl0 : (0 : Int) < ((pcF (n / 12) s.2.2 s.2.1).length : Int) + 1 := by omega
      have g1 := Int.emod_nonneg (n / 120) (show ((pcF (n / 12) s.2.2 s.2.1).length : Int) + 1 ≠ 0 by omega)
      have g2 := Int.emod_lt_of_pos (n / 120) hl0
      have hk : n / 120 % (((pcF (n / 12) s.2.2 s.2.1).length : Int) + 1) = ((n / 120 % (((pcF (n / 12) s.2.2 s.2.1).length : Int) + 1)).toNat : Int) := by omega
      refine ds_cons (ds_asg (n := 6) nd (d := lisD (pc2 n s)) (DE.is (NE.de (ne_cut (ds := (pcF (n / 12) s.2.2 s.2.1).map .int) (LE.of (de_va (i := 6) rfl)) pd_none (pd_some (de_mod (de_div (de_va (i := 5) rfl).b de_int.b (by decide)).b (de_add (de_lenL B.len (LE.of (de_va (i := 6) rfl))).b de_int.b).b (by rw [List.length_map]; omega)).b))) ?_) ?_)
      · unfold lisD pc2
        rw [if_pos hd, List.length_map, hk, cut_map7 (by omega), Int.toNat_natCast]
      · exact ds_nil rfl
    · refine ds_nil ?_
      show _ = _
      unfold pc2
      rw [if_neg (by rw [hd]; exact Bool.false_ne_true)]; rfl
    rintro ρ' rfl
    have hp2 := pc2_ok (n := n) h4
    generalize pc2 n s = pc at hp2 ⊢
    refine ds_cons (ds_asgN (n := 1) nd ((ne_cat (LE.ow (n := 1) rfl) (LE.of (ds := pc.map .int) (de_va (i := 6) rfl)) (by rw [List.length_map, List.length_map]; omega)).is (List.map_append ..).symm) fun q ap => ?_)
    refine ds_cons (ds_asgC (n := 3) nd (ce_callG2 (n := 2) (v := .ref q2) (μ' := [(q2, .lst (((aftF pc s.2.2 s.2.1).2.map PyData.int).map .dat))]) G_l_after (hr.mono (by decide)) rfl (de_va (i := 6) rfl) (de_va (i := 3) rfl) (re_nm (i := 2) rfl rfl) aw_nil ⟨pc, s.2.2, q2, s.2.1, by omega, rfl, rfl⟩) ?_)
    exact ds_nil (ds_nil (ds_nil ⟨q, q2, _, _, _, rfl⟩))
  · rintro ρ' ⟨q1, q2, b4, b5, b6, rfl⟩
    refine ds_cons (ds_retO (n := 1) rfl (Or.inl ?_))
    rw [upTo_len]; rfl
abbrev s_law : Stmt := topS 62
abbrev n_law : List Str := ["_law_script", "_law_row", "_law_stack", "_law_waits", "_law_at", "_law_good", "_law_step", "_law_found"]
theorem c_law : FnScope n_law ["_law_script"] (defScope s_law) := ⟨rfl, rfl, rfl, by decide +kernel, rfl, by decide +kernel, by decide +kernel⟩
theorem wt_st {w : Str} {st : List Int} (h : WtK w st) : StM (mdW w (brS st)) := by
  cases h with
  | value => rw [mw1]; exact .inl rfl
  | vfirst => rw [mw2]; exact .inr (.inl rfl)
  | nfirst => rw [mw3]; exact .inr (.inr (.inl rfl))
  | name => rw [mw4]; exact .inr (.inr (.inr (.inl rfl)))
  | colon => rw [mw5]; exact .inr (.inr (.inr (.inr (.inl rfl))))
  | behind => rw [mw6]; exact endM_st _
/-- where the row ends -/
theorem at_end {v : Wk} {w : Str} {st : List Int} {a : Nat} (h : At07 v w st) : goF v [] a = if (decide (w = "behind") && !(!st.isEmpty)) = true then none else some a := by
  obtain ⟨hb, hm, hk, _⟩ := h
  obtain ⟨br, md, nm, lf, lo, hi, nu, wd⟩ := v
  dsimp only at hb hm
  rw [goF]
  unfold f_over
  dsimp only
  cases hk with
  | value => rw [hm, mw1, show decide (("value" : Str) ∈ (["done", "zero", "whole", "part", "powers"] : List Str)) = false by decide +kernel, Bool.and_false, show decide (("value" : Str) = "behind") = false by decide +kernel]; rfl
  | vfirst => rw [hm, mw2, show decide (("first" : Str) ∈ (["done", "zero", "whole", "part", "powers"] : List Str)) = false by decide +kernel, Bool.and_false, show decide (("value first" : Str) = "behind") = false by decide +kernel]; rfl
  | nfirst => rw [hm, mw3, show decide (("member" : Str) ∈ (["done", "zero", "whole", "part", "powers"] : List Str)) = false by decide +kernel, Bool.and_false, show decide (("name first" : Str) = "behind") = false by decide +kernel]; rfl
  | name => rw [hm, mw4, show decide (("name" : Str) ∈ (["done", "zero", "whole", "part", "powers"] : List Str)) = false by decide +kernel, Bool.and_false, show decide (("name" : Str) = "behind") = false by decide +kernel]; rfl
  | colon => rw [hm, mw5, show decide (("colon" : Str) ∈ (["done", "zero", "whole", "part", "powers"] : List Str)) = false by decide +kernel, Bool.and_false, show decide (("colon" : Str) = "behind") = false by decide +kernel]; rfl
  | behind =>
    rw [hm, mw6, show decide (("behind" : Str) = "behind") = true by decide +kernel, hb]
    cases st with
    | nil => rw [show endM (brS []) = "done" from rfl, show decide (("done" : Str) ∈ (["done", "zero", "whole", "part", "powers"] : List Str)) = true by decide +kernel]; rfl
    | cons x r => rfl
def LI07 (row : List Int) (a : Nat) (g : Bool) (w : Str) (st : List Int) : Prop :=
  (g = true → ∃ v, goF w0 row 0 = goF v (row.drop a) a ∧ At07 v w st ∧ st.length + opn (row.drop a) ≤ 24) ∧ (g = false → goF w0 row 0 = some a)
theorem li_end {row : List Int} {a : Nat} {g : Bool} {w : Str} {st : List Int} (h : LI07 row a g w st) (hc : (g && decide ((a : Int) < (row.length : Int))) = false) : goF w0 row 0 = if (g && (decide (w = "behind") && !(!st.isEmpty))) = true then none else some a := by
  cases g with
  | false => exact h.2 rfl
  | true =>
    obtain ⟨v, h1, h2, _⟩ := h.1 rfl
    have : row.length ≤ a := by have := of_decide_eq_false ((Bool.true_and _).symm.trans hc); omega
    rw [h1, List.drop_eq_nil_of_le this, at_end h2, Bool.true_and]

theorem law_ok {f : Addr} {fd : FuncData} (F : Fun K "law" "law" s_law f fd) (B : BI mg) (G_l_mix : Has P w K mg base "_law_mix" 2 (S_l_mix)) (G_l_whole : Has P w K mg base "_law_whole" 1 (S_l_whole)) (G_fault : Has P w K mg base "fault" 7 (S_fault)) (G_l_token : HasG P w K mg base "_law_token" 5 (S_l_token)) (G_l_bytes : Has P w K mg base "_law_bytes" 6 (S_l_bytes)) : FnOk P w K mg base (L2.CX P w) 40 f fd ["_law_script"] (spF K (Pu SLaw)) := by
  have nd := c_law.nd
  refine fn_pu F c_law (fun ds o ⟨ns, _, h, _⟩ => by rw [h]; rfl) ?_
  rintro cdv A outer s H E hr O ds out ⟨ns, hns, rfl, rfl⟩
  have hby := bytes_ok ns
  refine ds_cons (ds_asg (n := 1) nd (ne_call G_l_bytes (hr.mono (by first | decide | omega)) (ad_cons (de_va (i := 0) rfl) ad_nil) ⟨ns, rfl, rfl⟩).de ?_)
  generalize bytesF ns = row at hby ⊢
  refine ds_cons (ds_asgN (n := 2) nd (ne_lst ad_nil (by decide)) fun p2 ap2 => ?_)
  refine ds_owSt (m := 2) rfl ?_
  refine ds_cons (ds_asg (n := 3) nd de_str ?_)
  refine ds_cons (ds_asg (n := 4) nd de_int ?_)
  refine ds_cons (ds_asg (n := 5) nd de_bl ?_)
  refine ds_cons (ds_while (passes_of rfl) (fun k ρ => ∃ (a : Nat) (g : Bool) (w : Str) (st : List Int) (b6 : Sl), ρ = [.va (scr ns), .va (.list (row.map .int)), stC p2 st, .va (.str w), .va (.int (a : Int)), .va (.bool g), b6, .no] ∧ k = (row.length - a) + (if g = true then 1 else 0) ∧ LI07 row a g w st) (row.length + 1) ⟨0, true, "value", [], _, rfl, rfl, fun _ => ⟨w0, rfl, ⟨rfl, (mw1 _).symm, .value, fun x hx => absurd hx List.not_mem_nil⟩, by show 0 + opn row ≤ 24; omega⟩, fun h => (nomatch h)⟩ ?_)
  rintro k ρ' ⟨a, g, w, st, b6, rfl, rfl, hli⟩
  refine ⟨_, dt_and2 (dt_bl (de_va (i := 5) rfl).b) (fun _ => dt_lt (de_va (i := 4) rfl).b (de_lenL B.len (LE.of (de_va (i := 1) rfl))).b), fun hc => ?_, fun hc => ?_⟩
  · rw [List.length_map, Bool.and_eq_true, decide_eq_true_eq] at hc
    obtain ⟨rfl, hx⟩ := hc
    have hx : a < row.length := by omega
    obtain ⟨b, hb⟩ : ∃ b, row[a]? = some b := ⟨_, List.getElem?_eq_getElem hx⟩
    have hdr := DL.drop_at hb
    obtain ⟨v, h1, h2, h3⟩ := hli.1 rfl
    refine ds_cons (ds_if (dt_inI (ns := [32, 9, 10, 13]) (de_ixL (LE.of (de_va (i := 1) rfl)) (de_va (i := 4) rfl).b (at_row hb rfl)).b (de_tup (ad_cons de_int (ad_cons de_int (ad_cons de_int (ad_cons de_int ad_nil)))) (by decide)).b) (fun hw => ?_) (fun hw => ?_))
    · refine ds_cons (ds_asg (n := 4) nd (de_add (de_va (i := 4) rfl).b de_int.b) ?_)
      refine ds_nil (ds_nil ⟨(row.length - (a + 1)) + 1, by rw [if_pos rfl]; omega, a + 1, true, w, st, _, rfl, rfl, fun _ => ⟨v, ?_, h2, ?_⟩, fun h => (nomatch h)⟩)
      · have hst : StM v.md := by rw [h2.2.1]; exact wt_st h2.2.2.1
        rw [h1, hdr, goF_yes (white_one (s := ⟨[], []⟩) (n := 0) hst hw).1]
      · rw [hdr, opn_cons] at h3; omega
    · have htk := tok_go (r := row.drop (a + 1)) (m := a) h2 hw (by rw [← hdr]; exact h3)
      have hst24 : st.length ≤ 24 := by omega
      rw [← hdr] at htk
      refine ds_cons (ds_asgC (n := 6) nd (ce_callG3 (n := 2) (v := .ref p2) (μ' := [(p2, .lst (((tokR (row.drop a) w st).2.2.2.map PyData.int).map .dat))]) G_l_token (hr.mono (by first | decide | omega)) rfl (de_va (i := 1) rfl) (de_va (i := 4) rfl) (de_va (i := 3) rfl) (re_nm (i := 2) rfl rfl) aw_nil ⟨row, a, w, p2, st, by omega, hx, by omega, h2.2.2.2, rfl, rfl⟩) ?_)
      generalize tokR (row.drop a) w st = T at htk ⊢
      refine ds_cons (ds_asg (n := 5) nd (de_ixT (de_va (i := 6) rfl) de_int.b atI_0) ?_)
      refine ds_cons (ds_asg (n := 4) nd (de_ixT (de_va (i := 6) rfl) de_int.b atI_1) ?_)
      refine ds_cons (ds_asg (n := 3) nd (de_ixT (de_va (i := 6) rfl) de_int.b atI_2) ?_)
      unfold Tk07 at htk
      rw [← hdr] at htk
      refine ds_nil (ds_nil ⟨(row.length - (a + T.2.1)) + (if T.1 = true then 1 else 0), ?_, a + T.2.1, T.1, T.2.2.1, T.2.2.2, _, rfl, rfl, fun ht => ?_, fun ht => ?_⟩)
      · cases ht : T.1 with
        | false => rw [if_neg Bool.false_ne_true, if_pos rfl]; omega
        | true =>
          have := (htk.2 ht).1
          rw [if_pos rfl]; omega
      · obtain ⟨_, g2, v', g3, g4⟩ := htk.2 ht
        rw [List.drop_drop] at g2 g3
        exact ⟨v', h1.trans g3, g4, by omega⟩
      · exact h1.trans (htk.1 ht)
  · rw [List.length_map] at hc
    have hfin := li_end hli hc
    have hff : natD (f_fault row) = natD (if (g && (decide (w = "behind") && !(!st.isEmpty))) = true then none else some a) := congrArg natD hfin
    refine ds_cons (ds_asg (n := 7) nd ((de_call G_fault (hr.mono (by first | decide | omega)) (ad_cons (de_va (i := 1) rfl) ad_nil) ⟨row, rfl, by omega, rfl⟩).is hff) ?_)
    refine ds_cons (ds_if (dt_and3 (dt_bl (de_va (i := 5) rfl).b) (fun _ => dt_eqS (de_va (i := 3) rfl).b de_str.b) (fun _ _ => dt_not (dt_cellB (k1 := !st.isEmpty) (n := 2) (k := 0) rfl rfl (re_nm (i := 2) rfl rfl) (by rw [Bool.not_not]; cases st <;> rfl)))) (fun hd => ?_) (fun hd => ds_nil ?_))
    · rw [if_pos hd]
      exact ds_cons (ds_ret (de_isN (de_va (i := 7) rfl).b) (Or.inl rfl))
    · rw [if_neg (by rw [hd]; exact Bool.false_ne_true)]
      refine ds_cons (ds_ret (d := .bool true) (DE.is (de_and2 (de_call G_l_whole (hr.mono (by first | decide | omega)) (ad_cons (de_va (i := 7) rfl) ad_nil) ⟨_, rfl, rfl⟩) (fun _ => de_eqI (i := (a : Int)) (j := (a : Int)) (de_va (i := 7) rfl).b (de_va (i := 4) rfl).b)) ?_) (Or.inl rfl))
      rw [decide_eq_true rfl]; rfl
end
theorem all_mk {l : PySem.W.OpenLaw} {w : World} {K : PySem.W.Frag} {h : Heap} {mg : Str → Option Value} {fa : Addr} (X : K.In h) (G : h.Ns mainGlobals mg) (hfa : mg "law" = some (.ref fa))
    {a_Walker : Addr} {f0 : Addr} {od0 an0 : Option Addr} {sl0 : Array (Option Value)} {oc0 kV0 dc0 pm0 cd0 ct0 : Value} {f1 : Addr} {od1 an1 : Option Addr} {sl1 : Array (Option Value)} {oc1 kV1 dc1 pm1 cd1 ct1 : Value} {f2 : Addr} {od2 an2 : Option Addr} {sl2 : Array (Option Value)} {oc2 kV2 dc2 pm2 cd2 ct2 : Value} {f3 : Addr} {od3 an3 : Option Addr} {sl3 : Array (Option Value)} {oc3 kV3 dc3 pm3 cd3 ct3 : Value} {f4 : Addr} {od4 an4 : Option Addr} {sl4 : Array (Option Value)} {oc4 kV4 dc4 pm4 cd4 ct4 : Value} {f5 : Addr} {od5 an5 : Option Addr} {sl5 : Array (Option Value)} {oc5 kV5 dc5 pm5 cd5 ct5 : Value} {f6 : Addr} {od6 an6 : Option Addr} {sl6 : Array (Option Value)} {oc6 kV6 dc6 pm6 cd6 ct6 : Value} {f7 : Addr} {od7 an7 : Option Addr} {sl7 : Array (Option Value)} {oc7 kV7 dc7 pm7 cd7 ct7 : Value} {f8 : Addr} {od8 an8 : Option Addr} {sl8 : Array (Option Value)} {oc8 kV8 dc8 pm8 cd8 ct8 : Value} {f9 : Addr} {od9 an9 : Option Addr} {sl9 : Array (Option Value)} {oc9 kV9 dc9 pm9 cd9 ct9 : Value} {f10 : Addr} {od10 an10 : Option Addr} {sl10 : Array (Option Value)} {oc10 kV10 dc10 pm10 cd10 ct10 : Value} {f11 : Addr} {od11 an11 : Option Addr} {sl11 : Array (Option Value)} {oc11 kV11 dc11 pm11 cd11 ct11 : Value} {f12 : Addr} {od12 an12 : Option Addr} {sl12 : Array (Option Value)} {oc12 kV12 dc12 pm12 cd12 ct12 : Value} {f13 : Addr} {od13 an13 : Option Addr} {sl13 : Array (Option Value)} {oc13 kV13 dc13 pm13 cd13 ct13 : Value} {f14 : Addr} {od14 an14 : Option Addr} {sl14 : Array (Option Value)} {oc14 kV14 dc14 pm14 cd14 ct14 : Value} {f15 : Addr} {od15 an15 : Option Addr} {sl15 : Array (Option Value)} {oc15 kV15 dc15 pm15 cd15 ct15 : Value} {f16 : Addr} {od16 an16 : Option Addr} {sl16 : Array (Option Value)} {oc16 kV16 dc16 pm16 cd16 ct16 : Value} {f17 : Addr} {od17 an17 : Option Addr} {sl17 : Array (Option Value)} {oc17 kV17 dc17 pm17 cd17 ct17 : Value} {f18 : Addr} {od18 an18 : Option Addr} {sl18 : Array (Option Value)} {oc18 kV18 dc18 pm18 cd18 ct18 : Value} {f19 : Addr} {od19 an19 : Option Addr} {sl19 : Array (Option Value)} {oc19 kV19 dc19 pm19 cd19 ct19 : Value} {f20 : Addr} {od20 an20 : Option Addr} {sl20 : Array (Option Value)} {oc20 kV20 dc20 pm20 cd20 ct20 : Value} {f21 : Addr} {od21 an21 : Option Addr} {sl21 : Array (Option Value)} {oc21 kV21 dc21 pm21 cd21 ct21 : Value} {f22 : Addr} {od22 an22 : Option Addr} {sl22 : Array (Option Value)} {oc22 kV22 dc22 pm22 cd22 ct22 : Value} {f23 : Addr} {od23 an23 : Option Addr} {sl23 : Array (Option Value)} {oc23 kV23 dc23 pm23 cd23 ct23 : Value} {f24 : Addr} {od24 an24 : Option Addr} {sl24 : Array (Option Value)} {oc24 kV24 dc24 pm24 cd24 ct24 : Value} {f25 : Addr} {od25 an25 : Option Addr} {sl25 : Array (Option Value)} {oc25 kV25 dc25 pm25 cd25 ct25 : Value} {f26 : Addr} {od26 an26 : Option Addr} {sl26 : Array (Option Value)} {oc26 kV26 dc26 pm26 cd26 ct26 : Value} {f27 : Addr} {od27 an27 : Option Addr} {sl27 : Array (Option Value)} {oc27 kV27 dc27 pm27 cd27 ct27 : Value} {f28 : Addr} {od28 an28 : Option Addr} {sl28 : Array (Option Value)} {oc28 kV28 dc28 pm28 cd28 ct28 : Value} {f29 : Addr} {od29 an29 : Option Addr} {sl29 : Array (Option Value)} {oc29 kV29 dc29 pm29 cd29 ct29 : Value} {f30 : Addr} {od30 an30 : Option Addr} {sl30 : Array (Option Value)} {oc30 kV30 dc30 pm30 cd30 ct30 : Value} {f31 : Addr} {od31 an31 : Option Addr} {sl31 : Array (Option Value)} {oc31 kV31 dc31 pm31 cd31 ct31 : Value} {f32 : Addr} {od32 an32 : Option Addr} {sl32 : Array (Option Value)} {oc32 kV32 dc32 pm32 cd32 ct32 : Value} {f33 : Addr} {od33 an33 : Option Addr} {sl33 : Array (Option Value)} {oc33 kV33 dc33 pm33 cd33 ct33 : Value} {f34 : Addr} {od34 an34 : Option Addr} {sl34 : Array (Option Value)} {oc34 kV34 dc34 pm34 cd34 ct34 : Value} {f35 : Addr} {od35 an35 : Option Addr} {sl35 : Array (Option Value)} {oc35 kV35 dc35 pm35 cd35 ct35 : Value} {f36 : Addr} {od36 an36 : Option Addr} {sl36 : Array (Option Value)} {oc36 kV36 dc36 pm36 cd36 ct36 : Value} {fi_Walker : Addr} {od_MK_Walker an_MK_Walker : Option Addr} {sl_MK_Walker : Array (Option Value)} {oc_MK_Walker kv_MK_Walker dc_MK_Walker pm_MK_Walker cd_MK_Walker ct_MK_Walker : Value} {t_QUOTE : Tok} {t_BACKSLASH : Tok} {t_LETTER_U : Tok} {t_SHORT : Addr} {tod_SHORT : Option Addr} {tn_SHORT : Nat} {tsl_SHORT : Array (Option Value)} {tt0_SHORT tt1_SHORT tt2_SHORT tt3_SHORT tt4_SHORT tt5_SHORT tt6_SHORT tt7_SHORT : Tok} {t_COMMA : Tok} {t_FIELDS_END : Tok} {t_ROW_END : Tok} {t_POINT : Tok} {t_PLUS : Tok} {t_MINUS : Tok} {t_NOUGHT : Tok} {t_WORDS : Addr} {tod_WORDS : Option Addr} {tn_WORDS : Nat} {tsl_WORDS : Array (Option Value)} {u2_WORDS : Addr} {uod2_WORDS : Option Addr} {un2_WORDS : Nat} {usl2_WORDS : Array (Option Value)} {ut2_0_WORDS ut2_1_WORDS ut2_2_WORDS ut2_3_WORDS ut2_4_WORDS : Tok} {u1_WORDS : Addr} {uod1_WORDS : Option Addr} {un1_WORDS : Nat} {usl1_WORDS : Array (Option Value)} {ut1_0_WORDS ut1_1_WORDS ut1_2_WORDS ut1_3_WORDS : Tok} {u0_WORDS : Addr} {uod0_WORDS : Option Addr} {un0_WORDS : Nat} {usl0_WORDS : Array (Option Value)} {ut0_0_WORDS ut0_1_WORDS ut0_2_WORDS ut0_3_WORDS : Tok} {t_ROW_BEGIN : Tok} {t_FIELDS_BEGIN : Tok} {t_MOST_BRACKETS : Tok} {t_COLON : Tok} {t_TEXT_MODES : Addr} {tod_TEXT_MODES : Option Addr} {tn_TEXT_MODES : Nat} {tsl_TEXT_MODES : Array (Option Value)} {tt0_TEXT_MODES tt1_TEXT_MODES tt2_TEXT_MODES tt3_TEXT_MODES tt4_TEXT_MODES tt5_TEXT_MODES tt6_TEXT_MODES : Tok} {t_NUMBER_MODES : Addr} {tod_NUMBER_MODES : Option Addr} {tn_NUMBER_MODES : Nat} {tsl_NUMBER_MODES : Array (Option Value)} {tt0_NUMBER_MODES tt1_NUMBER_MODES tt2_NUMBER_MODES tt3_NUMBER_MODES tt4_NUMBER_MODES tt5_NUMBER_MODES tt6_NUMBER_MODES tt7_NUMBER_MODES : Tok} {t_WHOLE_MODES : Addr} {tod_WHOLE_MODES : Option Addr} {tn_WHOLE_MODES : Nat} {tsl_WHOLE_MODES : Array (Option Value)} {tt0_WHOLE_MODES tt1_WHOLE_MODES tt2_WHOLE_MODES tt3_WHOLE_MODES tt4_WHOLE_MODES : Tok}
    (a0 : PySem.W.nsIn K mainGlobals "hex_value" = some (some (.ref f0))) (l0 : K.lookup f0 = some ⟨oc0, od0, .func (PySem.W.fnOf "hex_value" "hex_value" (defArgs s_hex_value) (defBody s_hex_value) (defScope s_hex_value) .none kV0 dc0 pm0 an0 cd0 ct0), sl0⟩) (c0 : PySem.W.codeIn K cd0 "hex_value" = true) (k0 : PySem.W.keepIn K (.ref f0) = true)
    (a1 : PySem.W.nsIn K mainGlobals "in_hex" = some (some (.ref f1))) (l1 : K.lookup f1 = some ⟨oc1, od1, .func (PySem.W.fnOf "in_hex" "in_hex" (defArgs s_in_hex) (defBody s_in_hex) (defScope s_in_hex) .none kV1 dc1 pm1 an1 cd1 ct1), sl1⟩) (c1 : PySem.W.codeIn K cd1 "in_hex" = true) (k1 : PySem.W.keepIn K (.ref f1) = true)
    (a2 : PySem.W.nsIn K mainGlobals "follows" = some (some (.ref f2))) (l2 : K.lookup f2 = some ⟨oc2, od2, .func (PySem.W.fnOf "follows" "follows" (defArgs s_follows) (defBody s_follows) (defScope s_follows) .none kV2 dc2 pm2 an2 cd2 ct2), sl2⟩) (c2 : PySem.W.codeIn K cd2 "follows" = true) (k2 : PySem.W.keepIn K (.ref f2) = true)
    (a3 : PySem.W.nsIn K mainGlobals "ended" = some (some (.ref f3))) (l3 : K.lookup f3 = some ⟨oc3, od3, .func (PySem.W.fnOf "ended" "ended" (defArgs s_ended) (defBody s_ended) (defScope s_ended) .none kV3 dc3 pm3 an3 cd3 ct3), sl3⟩) (c3 : PySem.W.codeIn K cd3 "ended" = true) (k3 : PySem.W.keepIn K (.ref f3) = true)
    (a4 : PySem.W.nsIn K mainGlobals "in_plain" = some (some (.ref f4))) (l4 : K.lookup f4 = some ⟨oc4, od4, .func (PySem.W.fnOf "in_plain" "in_plain" (defArgs s_in_plain) (defBody s_in_plain) (defScope s_in_plain) .none kV4 dc4 pm4 an4 cd4 ct4), sl4⟩) (c4 : PySem.W.codeIn K cd4 "in_plain" = true) (k4 : PySem.W.keepIn K (.ref f4) = true)
    (a5 : PySem.W.nsIn K mainGlobals "in_sign" = some (some (.ref f5))) (l5 : K.lookup f5 = some ⟨oc5, od5, .func (PySem.W.fnOf "in_sign" "in_sign" (defArgs s_in_sign) (defBody s_in_sign) (defScope s_in_sign) .none kV5 dc5 pm5 an5 cd5 ct5), sl5⟩) (c5 : PySem.W.codeIn K cd5 "in_sign" = true) (k5 : PySem.W.keepIn K (.ref f5) = true)
    (a6 : PySem.W.nsIn K mainGlobals "hex_begun" = some (some (.ref f6))) (l6 : K.lookup f6 = some ⟨oc6, od6, .func (PySem.W.fnOf "hex_begun" "hex_begun" (defArgs s_hex_begun) (defBody s_hex_begun) (defScope s_hex_begun) .none kV6 dc6 pm6 an6 cd6 ct6), sl6⟩) (c6 : PySem.W.codeIn K cd6 "hex_begun" = true) (k6 : PySem.W.keepIn K (.ref f6) = true)
    (a7 : PySem.W.nsIn K mainGlobals "in_text" = some (some (.ref f7))) (l7 : K.lookup f7 = some ⟨oc7, od7, .func (PySem.W.fnOf "in_text" "in_text" (defArgs s_in_text) (defBody s_in_text) (defScope s_in_text) .none kV7 dc7 pm7 an7 cd7 ct7), sl7⟩) (c7 : PySem.W.codeIn K cd7 "in_text" = true) (k7 : PySem.W.keepIn K (.ref f7) = true)
    (a8 : PySem.W.nsIn K mainGlobals "is_white" = some (some (.ref f8))) (l8 : K.lookup f8 = some ⟨oc8, od8, .func (PySem.W.fnOf "is_white" "is_white" (defArgs s_is_white) (defBody s_is_white) (defScope s_is_white) .none kV8 dc8 pm8 an8 cd8 ct8), sl8⟩) (c8 : PySem.W.codeIn K cd8 "is_white" = true) (k8 : PySem.W.keepIn K (.ref f8) = true)
    (a9 : PySem.W.nsIn K mainGlobals "closed" = some (some (.ref f9))) (l9 : K.lookup f9 = some ⟨oc9, od9, .func (PySem.W.fnOf "closed" "closed" (defArgs s_closed) (defBody s_closed) (defScope s_closed) .none kV9 dc9 pm9 an9 cd9 ct9), sl9⟩) (c9 : PySem.W.codeIn K cd9 "closed" = true) (k9 : PySem.W.keepIn K (.ref f9) = true)
    (a10 : PySem.W.nsIn K mainGlobals "behind" = some (some (.ref f10))) (l10 : K.lookup f10 = some ⟨oc10, od10, .func (PySem.W.fnOf "behind" "behind" (defArgs s_behind) (defBody s_behind) (defScope s_behind) .none kV10 dc10 pm10 an10 cd10 ct10), sl10⟩) (c10 : PySem.W.codeIn K cd10 "behind" = true) (k10 : PySem.W.keepIn K (.ref f10) = true)
    (a11 : PySem.W.nsIn K mainGlobals "number_over" = some (some (.ref f11))) (l11 : K.lookup f11 = some ⟨oc11, od11, .func (PySem.W.fnOf "number_over" "number_over" (defArgs s_number_over) (defBody s_number_over) (defScope s_number_over) .none kV11 dc11 pm11 an11 cd11 ct11), sl11⟩) (c11 : PySem.W.codeIn K cd11 "number_over" = true) (k11 : PySem.W.keepIn K (.ref f11) = true)
    (a12 : PySem.W.nsIn K mainGlobals "is_figure" = some (some (.ref f12))) (l12 : K.lookup f12 = some ⟨oc12, od12, .func (PySem.W.fnOf "is_figure" "is_figure" (defArgs s_is_figure) (defBody s_is_figure) (defScope s_is_figure) .none kV12 dc12 pm12 an12 cd12 ct12), sl12⟩) (c12 : PySem.W.codeIn K cd12 "is_figure" = true) (k12 : PySem.W.keepIn K (.ref f12) = true)
    (a13 : PySem.W.nsIn K mainGlobals "in_number" = some (some (.ref f13))) (l13 : K.lookup f13 = some ⟨oc13, od13, .func (PySem.W.fnOf "in_number" "in_number" (defArgs s_in_number) (defBody s_in_number) (defScope s_in_number) .none kV13 dc13 pm13 an13 cd13 ct13), sl13⟩) (c13 : PySem.W.codeIn K cd13 "in_number" = true) (k13 : PySem.W.keepIn K (.ref f13) = true)
    (a14 : PySem.W.nsIn K mainGlobals "in_word" = some (some (.ref f14))) (l14 : K.lookup f14 = some ⟨oc14, od14, .func (PySem.W.fnOf "in_word" "in_word" (defArgs s_in_word) (defBody s_in_word) (defScope s_in_word) .none kV14 dc14 pm14 an14 cd14 ct14), sl14⟩) (c14 : PySem.W.codeIn K cd14 "in_word" = true) (k14 : PySem.W.keepIn K (.ref f14) = true)
    (a15 : PySem.W.nsIn K mainGlobals "begun" = some (some (.ref f15))) (l15 : K.lookup f15 = some ⟨oc15, od15, .func (PySem.W.fnOf "begun" "begun" (defArgs s_begun) (defBody s_begun) (defScope s_begun) .none kV15 dc15 pm15 an15 cd15 ct15), sl15⟩) (c15 : PySem.W.codeIn K cd15 "begun" = true) (k15 : PySem.W.keepIn K (.ref f15) = true)
    (a16 : PySem.W.nsIn K mainGlobals "between" = some (some (.ref f16))) (l16 : K.lookup f16 = some ⟨oc16, od16, .func (PySem.W.fnOf "between" "between" (defArgs s_between) (defBody s_between) (defScope s_between) .none kV16 dc16 pm16 an16 cd16 ct16), sl16⟩) (c16 : PySem.W.codeIn K cd16 "between" = true) (k16 : PySem.W.keepIn K (.ref f16) = true)
    (a17 : PySem.W.nsIn K mainGlobals "stepped" = some (some (.ref f17))) (l17 : K.lookup f17 = some ⟨oc17, od17, .func (PySem.W.fnOf "stepped" "stepped" (defArgs s_stepped) (defBody s_stepped) (defScope s_stepped) .none kV17 dc17 pm17 an17 cd17 ct17), sl17⟩) (c17 : PySem.W.codeIn K cd17 "stepped" = true) (k17 : PySem.W.keepIn K (.ref f17) = true)
    (a18 : PySem.W.nsIn K mainGlobals "over" = some (some (.ref f18))) (l18 : K.lookup f18 = some ⟨oc18, od18, .func (PySem.W.fnOf "over" "over" (defArgs s_over) (defBody s_over) (defScope s_over) .none kV18 dc18 pm18 an18 cd18 ct18), sl18⟩) (c18 : PySem.W.codeIn K cd18 "over" = true) (k18 : PySem.W.keepIn K (.ref f18) = true)
    (a19 : PySem.W.nsIn K mainGlobals "_law_cell" = some (some (.ref f19))) (l19 : K.lookup f19 = some ⟨oc19, od19, .func (PySem.W.fnOf "_law_cell" "_law_cell" (defArgs s_l_cell) (defBody s_l_cell) (defScope s_l_cell) .none kV19 dc19 pm19 an19 cd19 ct19), sl19⟩) (c19 : PySem.W.codeIn K cd19 "_law_cell" = true) (k19 : PySem.W.keepIn K (.ref f19) = true)
    (a20 : PySem.W.nsIn K mainGlobals "_law_mix" = some (some (.ref f20))) (l20 : K.lookup f20 = some ⟨oc20, od20, .func (PySem.W.fnOf "_law_mix" "_law_mix" (defArgs s_l_mix) (defBody s_l_mix) (defScope s_l_mix) .none kV20 dc20 pm20 an20 cd20 ct20), sl20⟩) (c20 : PySem.W.codeIn K cd20 "_law_mix" = true) (k20 : PySem.W.keepIn K (.ref f20) = true)
    (a21 : PySem.W.nsIn K mainGlobals "fault" = some (some (.ref f21))) (l21 : K.lookup f21 = some ⟨oc21, od21, .func (PySem.W.fnOf "fault" "fault" (defArgs s_fault) (defBody s_fault) (defScope s_fault) .none kV21 dc21 pm21 an21 cd21 ct21), sl21⟩) (c21 : PySem.W.codeIn K cd21 "fault" = true) (k21 : PySem.W.keepIn K (.ref f21) = true)
    (a22 : PySem.W.nsIn K mainGlobals "_law_hexes" = some (some (.ref f22))) (l22 : K.lookup f22 = some ⟨oc22, od22, .func (PySem.W.fnOf "_law_hexes" "_law_hexes" (defArgs s_l_hexes) (defBody s_l_hexes) (defScope s_l_hexes) .none kV22 dc22 pm22 an22 cd22 ct22), sl22⟩) (c22 : PySem.W.codeIn K cd22 "_law_hexes" = true) (k22 : PySem.W.keepIn K (.ref f22) = true)
    (a23 : PySem.W.nsIn K mainGlobals "_law_escape" = some (some (.ref f23))) (l23 : K.lookup f23 = some ⟨oc23, od23, .func (PySem.W.fnOf "_law_escape" "_law_escape" (defArgs s_l_escape) (defBody s_l_escape) (defScope s_l_escape) .none kV23 dc23 pm23 an23 cd23 ct23), sl23⟩) (c23 : PySem.W.codeIn K cd23 "_law_escape" = true) (k23 : PySem.W.keepIn K (.ref f23) = true)
    (a24 : PySem.W.nsIn K mainGlobals "_law_sign_size" = some (some (.ref f24))) (l24 : K.lookup f24 = some ⟨oc24, od24, .func (PySem.W.fnOf "_law_sign_size" "_law_sign_size" (defArgs s_l_sign_size) (defBody s_l_sign_size) (defScope s_l_sign_size) .none kV24 dc24 pm24 an24 cd24 ct24), sl24⟩) (c24 : PySem.W.codeIn K cd24 "_law_sign_size" = true) (k24 : PySem.W.keepIn K (.ref f24) = true)
    (a25 : PySem.W.nsIn K mainGlobals "_law_text_read" = some (some (.ref f25))) (l25 : K.lookup f25 = some ⟨oc25, od25, .func (PySem.W.fnOf "_law_text_read" "_law_text_read" (defArgs s_l_text_read) (defBody s_l_text_read) (defScope s_l_text_read) .none kV25 dc25 pm25 an25 cd25 ct25), sl25⟩) (c25 : PySem.W.codeIn K cd25 "_law_text_read" = true) (k25 : PySem.W.keepIn K (.ref f25) = true)
    (a26 : PySem.W.nsIn K mainGlobals "_law_figures" = some (some (.ref f26))) (l26 : K.lookup f26 = some ⟨oc26, od26, .func (PySem.W.fnOf "_law_figures" "_law_figures" (defArgs s_l_figures_k07) (defBody s_l_figures_k07) (defScope s_l_figures_k07) .none kV26 dc26 pm26 an26 cd26 ct26), sl26⟩) (c26 : PySem.W.codeIn K cd26 "_law_figures" = true) (k26 : PySem.W.keepIn K (.ref f26) = true)
    (a27 : PySem.W.nsIn K mainGlobals "_law_number_read" = some (some (.ref f27))) (l27 : K.lookup f27 = some ⟨oc27, od27, .func (PySem.W.fnOf "_law_number_read" "_law_number_read" (defArgs s_l_number_read) (defBody s_l_number_read) (defScope s_l_number_read) .none kV27 dc27 pm27 an27 cd27 ct27), sl27⟩) (c27 : PySem.W.codeIn K cd27 "_law_number_read" = true) (k27 : PySem.W.keepIn K (.ref f27) = true)
    (a28 : PySem.W.nsIn K mainGlobals "_law_word_read" = some (some (.ref f28))) (l28 : K.lookup f28 = some ⟨oc28, od28, .func (PySem.W.fnOf "_law_word_read" "_law_word_read" (defArgs s_l_word_read) (defBody s_l_word_read) (defScope s_l_word_read) .none kV28 dc28 pm28 an28 cd28 ct28), sl28⟩) (c28 : PySem.W.codeIn K cd28 "_law_word_read" = true) (k28 : PySem.W.keepIn K (.ref f28) = true)
    (a29 : PySem.W.nsIn K mainGlobals "_law_plain_read" = some (some (.ref f29))) (l29 : K.lookup f29 = some ⟨oc29, od29, .func (PySem.W.fnOf "_law_plain_read" "_law_plain_read" (defArgs s_l_plain_read) (defBody s_l_plain_read) (defScope s_l_plain_read) .none kV29 dc29 pm29 an29 cd29 ct29), sl29⟩) (c29 : PySem.W.codeIn K cd29 "_law_plain_read" = true) (k29 : PySem.W.keepIn K (.ref f29) = true)
    (a30 : PySem.W.nsIn K mainGlobals "_law_token" = some (some (.ref f30))) (l30 : K.lookup f30 = some ⟨oc30, od30, .func (PySem.W.fnOf "_law_token" "_law_token" (defArgs s_l_token) (defBody s_l_token) (defScope s_l_token) .none kV30 dc30 pm30 an30 cd30 ct30), sl30⟩) (c30 : PySem.W.codeIn K cd30 "_law_token" = true) (k30 : PySem.W.keepIn K (.ref f30) = true)
    (a31 : PySem.W.nsIn K mainGlobals "_law_whole" = some (some (.ref f31))) (l31 : K.lookup f31 = some ⟨oc31, od31, .func (PySem.W.fnOf "_law_whole" "_law_whole" (defArgs s_l_whole) (defBody s_l_whole) (defScope s_l_whole) .none kV31 dc31 pm31 an31 cd31 ct31), sl31⟩) (c31 : PySem.W.codeIn K cd31 "_law_whole" = true) (k31 : PySem.W.keepIn K (.ref f31) = true)
    (a32 : PySem.W.nsIn K mainGlobals "_law_wild" = some (some (.ref f32))) (l32 : K.lookup f32 = some ⟨oc32, od32, .func (PySem.W.fnOf "_law_wild" "_law_wild" (defArgs s_l_wild) (defBody s_l_wild) (defScope s_l_wild) .none kV32 dc32 pm32 an32 cd32 ct32), sl32⟩) (c32 : PySem.W.codeIn K cd32 "_law_wild" = true) (k32 : PySem.W.keepIn K (.ref f32) = true)
    (a33 : PySem.W.nsIn K mainGlobals "_law_piece" = some (some (.ref f33))) (l33 : K.lookup f33 = some ⟨oc33, od33, .func (PySem.W.fnOf "_law_piece" "_law_piece" (defArgs s_l_piece) (defBody s_l_piece) (defScope s_l_piece) .none kV33 dc33 pm33 an33 cd33 ct33), sl33⟩) (c33 : PySem.W.codeIn K cd33 "_law_piece" = true) (k33 : PySem.W.keepIn K (.ref f33) = true)
    (a34 : PySem.W.nsIn K mainGlobals "_law_after" = some (some (.ref f34))) (l34 : K.lookup f34 = some ⟨oc34, od34, .func (PySem.W.fnOf "_law_after" "_law_after" (defArgs s_l_after) (defBody s_l_after) (defScope s_l_after) .none kV34 dc34 pm34 an34 cd34 ct34), sl34⟩) (c34 : PySem.W.codeIn K cd34 "_law_after" = true) (k34 : PySem.W.keepIn K (.ref f34) = true)
    (a35 : PySem.W.nsIn K mainGlobals "_law_bytes" = some (some (.ref f35))) (l35 : K.lookup f35 = some ⟨oc35, od35, .func (PySem.W.fnOf "_law_bytes" "_law_bytes" (defArgs s_l_bytes) (defBody s_l_bytes) (defScope s_l_bytes) .none kV35 dc35 pm35 an35 cd35 ct35), sl35⟩) (c35 : PySem.W.codeIn K cd35 "_law_bytes" = true) (k35 : PySem.W.keepIn K (.ref f35) = true)
    (a36 : PySem.W.nsIn K mainGlobals "law" = some (some (.ref f36))) (l36 : K.lookup f36 = some ⟨oc36, od36, .func (PySem.W.fnOf "law" "law" (defArgs s_law) (defBody s_law) (defScope s_law) .none kV36 dc36 pm36 an36 cd36 ct36), sl36⟩) (c36 : PySem.W.codeIn K cd36 "law" = true) (k36 : PySem.W.keepIn K (.ref f36) = true)
    (z_len : PySem.W.nsIn K mainGlobals "len" = some none)
    (z_range : PySem.W.nsIn K mainGlobals "range" = some none)
    (z_list : PySem.W.nsIn K mainGlobals "list" = some none)
    (z_tuple : PySem.W.nsIn K mainGlobals "tuple" = some none)
    (z_isinstance : PySem.W.nsIn K mainGlobals "isinstance" = some none)
    (z_all : PySem.W.nsIn K mainGlobals "all" = some none)
    (z_int : PySem.W.nsIn K mainGlobals "int" = some none)
    (z_str : PySem.W.nsIn K mainGlobals "str" = some none)
    (z_ord : PySem.W.nsIn K mainGlobals "ord" = some none)
    (z_sum : PySem.W.nsIn K mainGlobals "sum" = some none)
    (z_min : PySem.W.nsIn K mainGlobals "min" = some none)
    (z_max : PySem.W.nsIn K mainGlobals "max" = some none)
    (z_set : PySem.W.nsIn K mainGlobals "set" = some none)
    (z_bool : PySem.W.nsIn K mainGlobals "bool" = some none)
    (xg_MK_Walker : PySem.W.nsIn K mainGlobals "Walker" = some (some (.ref a_Walker))) (xm_MK_Walker : PySem.W.makesIn K a_Walker = true) (xk_MK_Walker : PySem.W.keepIn K (.ref a_Walker) = true) (xi_MK_Walker : PySem.W.findIn K (.ref a_Walker) "__init__" = some (some (.ref fi_Walker))) (xf_MK_Walker : PySem.W.isFn K (.ref fi_Walker) = true) (xl_MK_Walker : K.lookup fi_Walker = some ⟨oc_MK_Walker, od_MK_Walker, .func (PySem.W.fnOf "__init__" "Walker.__init__" (defArgs s_Walker_init) (defBody s_Walker_init) (defScope s_Walker_init) .none kv_MK_Walker dc_MK_Walker pm_MK_Walker an_MK_Walker cd_MK_Walker ct_MK_Walker), sl_MK_Walker⟩) (xc_MK_Walker : PySem.W.codeIn K cd_MK_Walker "Walker.__init__" = true) (xo_MK_Walker : PySem.W.keepIn K (.ref fi_Walker) = true)
    (opg_Walker : PySem.W.plainGet K a_Walker Str.empty = true) (ohd_Walker : PySem.W.hasDictIn K a_Walker = true) (opo_Walker : PySem.W.plainOver K a_Walker = true) (osa_Walker : PySem.W.findIn K (.ref a_Walker) "__setattr__" = some (some (.builtin "object.__setattr__"))) (no_Walker_0 : PySem.W.findIn K (.ref a_Walker) "brackets" = some none) (no_Walker_1 : PySem.W.findIn K (.ref a_Walker) "mode" = some none) (no_Walker_2 : PySem.W.findIn K (.ref a_Walker) "naming" = some none) (no_Walker_3 : PySem.W.findIn K (.ref a_Walker) "left" = some none) (no_Walker_4 : PySem.W.findIn K (.ref a_Walker) "low" = some none) (no_Walker_5 : PySem.W.findIn K (.ref a_Walker) "high" = some none) (no_Walker_6 : PySem.W.findIn K (.ref a_Walker) "number" = some none) (no_Walker_7 : PySem.W.findIn K (.ref a_Walker) "word" = some none)
    (g_QUOTE : PySem.W.nsIn K mainGlobals "QUOTE" = some (some (.int 34 t_QUOTE)))
    (g_BACKSLASH : PySem.W.nsIn K mainGlobals "BACKSLASH" = some (some (.int 92 t_BACKSLASH)))
    (g_LETTER_U : PySem.W.nsIn K mainGlobals "LETTER_U" = some (some (.int 117 t_LETTER_U)))
    (g_SHORT : PySem.W.nsIn K mainGlobals "SHORT" = some (some (.ref t_SHORT))) (tl_SHORT : K.lookup t_SHORT = some ⟨.type "tuple", tod_SHORT, .seq #[.int 34 tt0_SHORT, .int 92 tt1_SHORT, .int 47 tt2_SHORT, .int 98 tt3_SHORT, .int 102 tt4_SHORT, .int 110 tt5_SHORT, .int 114 tt6_SHORT, .int 116 tt7_SHORT] tn_SHORT, tsl_SHORT⟩)
    (g_COMMA : PySem.W.nsIn K mainGlobals "COMMA" = some (some (.int 44 t_COMMA)))
    (g_FIELDS_END : PySem.W.nsIn K mainGlobals "FIELDS_END" = some (some (.int 125 t_FIELDS_END)))
    (g_ROW_END : PySem.W.nsIn K mainGlobals "ROW_END" = some (some (.int 93 t_ROW_END)))
    (g_POINT : PySem.W.nsIn K mainGlobals "POINT" = some (some (.int 46 t_POINT)))
    (g_PLUS : PySem.W.nsIn K mainGlobals "PLUS" = some (some (.int 43 t_PLUS)))
    (g_MINUS : PySem.W.nsIn K mainGlobals "MINUS" = some (some (.int 45 t_MINUS)))
    (g_NOUGHT : PySem.W.nsIn K mainGlobals "NOUGHT" = some (some (.int 48 t_NOUGHT)))
    (g_WORDS : PySem.W.nsIn K mainGlobals "WORDS" = some (some (.ref t_WORDS))) (tl_WORDS : K.lookup t_WORDS = some ⟨.type "tuple", tod_WORDS, .seq #[.ref u0_WORDS, .ref u1_WORDS, .ref u2_WORDS] tn_WORDS, tsl_WORDS⟩) (ul2_WORDS : K.lookup u2_WORDS = some ⟨.type "tuple", uod2_WORDS, .seq #[.int 102 ut2_0_WORDS, .int 97 ut2_1_WORDS, .int 108 ut2_2_WORDS, .int 115 ut2_3_WORDS, .int 101 ut2_4_WORDS] un2_WORDS, usl2_WORDS⟩) (ul1_WORDS : K.lookup u1_WORDS = some ⟨.type "tuple", uod1_WORDS, .seq #[.int 116 ut1_0_WORDS, .int 114 ut1_1_WORDS, .int 117 ut1_2_WORDS, .int 101 ut1_3_WORDS] un1_WORDS, usl1_WORDS⟩) (ul0_WORDS : K.lookup u0_WORDS = some ⟨.type "tuple", uod0_WORDS, .seq #[.int 110 ut0_0_WORDS, .int 117 ut0_1_WORDS, .int 108 ut0_2_WORDS, .int 108 ut0_3_WORDS] un0_WORDS, usl0_WORDS⟩)
    (g_ROW_BEGIN : PySem.W.nsIn K mainGlobals "ROW_BEGIN" = some (some (.int 91 t_ROW_BEGIN)))
    (g_FIELDS_BEGIN : PySem.W.nsIn K mainGlobals "FIELDS_BEGIN" = some (some (.int 123 t_FIELDS_BEGIN)))
    (g_MOST_BRACKETS : PySem.W.nsIn K mainGlobals "MOST_BRACKETS" = some (some (.int 64 t_MOST_BRACKETS)))
    (g_COLON : PySem.W.nsIn K mainGlobals "COLON" = some (some (.int 58 t_COLON)))
    (g_TEXT_MODES : PySem.W.nsIn K mainGlobals "TEXT_MODES" = some (some (.ref t_TEXT_MODES))) (tl_TEXT_MODES : K.lookup t_TEXT_MODES = some ⟨.type "tuple", tod_TEXT_MODES, .seq #[.str "text" tt0_TEXT_MODES, .str "escape" tt1_TEXT_MODES, .str "hex" tt2_TEXT_MODES, .str "half" tt3_TEXT_MODES, .str "half u" tt4_TEXT_MODES, .str "low hex" tt5_TEXT_MODES, .str "sign" tt6_TEXT_MODES] tn_TEXT_MODES, tsl_TEXT_MODES⟩)
    (g_NUMBER_MODES : PySem.W.nsIn K mainGlobals "NUMBER_MODES" = some (some (.ref t_NUMBER_MODES))) (tl_NUMBER_MODES : K.lookup t_NUMBER_MODES = some ⟨.type "tuple", tod_NUMBER_MODES, .seq #[.str "minus" tt0_NUMBER_MODES, .str "zero" tt1_NUMBER_MODES, .str "whole" tt2_NUMBER_MODES, .str "point" tt3_NUMBER_MODES, .str "part" tt4_NUMBER_MODES, .str "power" tt5_NUMBER_MODES, .str "power sign" tt6_NUMBER_MODES, .str "powers" tt7_NUMBER_MODES] tn_NUMBER_MODES, tsl_NUMBER_MODES⟩)
    (g_WHOLE_MODES : PySem.W.nsIn K mainGlobals "WHOLE_MODES" = some (some (.ref t_WHOLE_MODES))) (tl_WHOLE_MODES : K.lookup t_WHOLE_MODES = some ⟨.type "tuple", tod_WHOLE_MODES, .seq #[.str "done" tt0_WHOLE_MODES, .str "zero" tt1_WHOLE_MODES, .str "whole" tt2_WHOLE_MODES, .str "part" tt3_WHOLE_MODES, .str "powers" tt4_WHOLE_MODES] tn_WHOLE_MODES, tsl_WHOLE_MODES⟩) :
    ∃ fd : FuncData, (∀ (s : Shared) (v : Value), BindsTo s fd ⟨[v], []⟩ [("_law_script", v)]) ∧ ∀ base : Heap, K.In base → base.Ns mainGlobals mg → FnOk l.prog w K mg base (L2.CX l.prog w) 40 fa fd ["_law_script"] (spF K (Pu SLaw)) := by
  have e := hfa.symm.trans (PySem.W.mg_of X G a36)
  cases e
  have B : BI mg := ⟨PySem.W.mg_none_of X G z_len, PySem.W.mg_none_of X G z_range, PySem.W.mg_none_of X G z_list, PySem.W.mg_none_of X G z_tuple, PySem.W.mg_none_of X G z_isinstance, PySem.W.mg_none_of X G z_all, PySem.W.mg_none_of X G z_int, PySem.W.mg_none_of X G z_str, PySem.W.mg_none_of X G z_ord, PySem.W.mg_none_of X G z_sum, PySem.W.mg_none_of X G z_min, PySem.W.mg_none_of X G z_max, PySem.W.mg_none_of X G z_set, PySem.W.mg_none_of X G z_bool⟩
  have C_O_Walker : OCls K a_Walker WalkerK := ⟨⟨opg_Walker, ohd_Walker, opo_Walker, osa_Walker⟩, fun f hf => by
    rcases List.mem_cons.mp hf with rfl | hf
    · exact no_Walker_0
    rcases List.mem_cons.mp hf with rfl | hf
    · exact no_Walker_1
    rcases List.mem_cons.mp hf with rfl | hf
    · exact no_Walker_2
    rcases List.mem_cons.mp hf with rfl | hf
    · exact no_Walker_3
    rcases List.mem_cons.mp hf with rfl | hf
    · exact no_Walker_4
    rcases List.mem_cons.mp hf with rfl | hf
    · exact no_Walker_5
    rcases List.mem_cons.mp hf with rfl | hf
    · exact no_Walker_6
    rcases List.mem_cons.mp hf with rfl | hf
    · exact no_Walker_7
    exact absurd hf List.not_mem_nil⟩
  have C_QUOTE : ∃ t, mg "QUOTE" = some (.int 34 t) := ⟨_, PySem.W.mg_of X G g_QUOTE⟩
  have C_BACKSLASH : ∃ t, mg "BACKSLASH" = some (.int 92 t) := ⟨_, PySem.W.mg_of X G g_BACKSLASH⟩
  have C_LETTER_U : ∃ t, mg "LETTER_U" = some (.int 117 t) := ⟨_, PySem.W.mg_of X G g_LETTER_U⟩
  have C_SHORT : Gt K mg "SHORT" (.tuple (([34, 92, 47, 98, 102, 110, 114, 116] : List Int).map .int)) := ⟨t_SHORT, PySem.W.mg_of X G g_SHORT, fun F => tup_K (xs := ([34, 92, 47, 98, 102, 110, 114, 116] : List Int).map .int) tl_SHORT (by show 8 ≤ 1000; decide) (.cons ⟨_, rfl⟩ (.cons ⟨_, rfl⟩ (.cons ⟨_, rfl⟩ (.cons ⟨_, rfl⟩ (.cons ⟨_, rfl⟩ (.cons ⟨_, rfl⟩ (.cons ⟨_, rfl⟩ (.cons ⟨_, rfl⟩ (.nil))))))))) mk_ints⟩
  have C_COMMA : ∃ t, mg "COMMA" = some (.int 44 t) := ⟨_, PySem.W.mg_of X G g_COMMA⟩
  have C_FIELDS_END : ∃ t, mg "FIELDS_END" = some (.int 125 t) := ⟨_, PySem.W.mg_of X G g_FIELDS_END⟩
  have C_ROW_END : ∃ t, mg "ROW_END" = some (.int 93 t) := ⟨_, PySem.W.mg_of X G g_ROW_END⟩
  have C_POINT : ∃ t, mg "POINT" = some (.int 46 t) := ⟨_, PySem.W.mg_of X G g_POINT⟩
  have C_PLUS : ∃ t, mg "PLUS" = some (.int 43 t) := ⟨_, PySem.W.mg_of X G g_PLUS⟩
  have C_MINUS : ∃ t, mg "MINUS" = some (.int 45 t) := ⟨_, PySem.W.mg_of X G g_MINUS⟩
  have C_NOUGHT : ∃ t, mg "NOUGHT" = some (.int 48 t) := ⟨_, PySem.W.mg_of X G g_NOUGHT⟩
  have C_WORDS : Gt K mg "WORDS" (.tuple (([[110, 117, 108, 108], [116, 114, 117, 101], [102, 97, 108, 115, 101]] : List (List Int)).map tupI)) := ⟨t_WORDS, PySem.W.mg_of X G g_WORDS, fun F => tup_K (xs := [.ref u0_WORDS, .ref u1_WORDS, .ref u2_WORDS]) tl_WORDS (by show 3 ≤ 1000; decide) (.cons rfl (.cons rfl (.cons rfl (.nil)))) (mk_cons (tup_K (ds := ([110, 117, 108, 108] : List Int).map .int) (xs := ([110, 117, 108, 108] : List Int).map .int) ul0_WORDS (by show 4 ≤ 1000; decide) (.cons ⟨_, rfl⟩ (.cons ⟨_, rfl⟩ (.cons ⟨_, rfl⟩ (.cons ⟨_, rfl⟩ (.nil))))) mk_ints) (mk_cons (tup_K (ds := ([116, 114, 117, 101] : List Int).map .int) (xs := ([116, 114, 117, 101] : List Int).map .int) ul1_WORDS (by show 4 ≤ 1000; decide) (.cons ⟨_, rfl⟩ (.cons ⟨_, rfl⟩ (.cons ⟨_, rfl⟩ (.cons ⟨_, rfl⟩ (.nil))))) mk_ints) (mk_cons (tup_K (ds := ([102, 97, 108, 115, 101] : List Int).map .int) (xs := ([102, 97, 108, 115, 101] : List Int).map .int) ul2_WORDS (by show 5 ≤ 1000; decide) (.cons ⟨_, rfl⟩ (.cons ⟨_, rfl⟩ (.cons ⟨_, rfl⟩ (.cons ⟨_, rfl⟩ (.cons ⟨_, rfl⟩ (.nil)))))) mk_ints) (mk_nil))))⟩
  have C_ROW_BEGIN : ∃ t, mg "ROW_BEGIN" = some (.int 91 t) := ⟨_, PySem.W.mg_of X G g_ROW_BEGIN⟩
  have C_FIELDS_BEGIN : ∃ t, mg "FIELDS_BEGIN" = some (.int 123 t) := ⟨_, PySem.W.mg_of X G g_FIELDS_BEGIN⟩
  have C_MOST_BRACKETS : ∃ t, mg "MOST_BRACKETS" = some (.int 64 t) := ⟨_, PySem.W.mg_of X G g_MOST_BRACKETS⟩
  have C_COLON : ∃ t, mg "COLON" = some (.int 58 t) := ⟨_, PySem.W.mg_of X G g_COLON⟩
  have C_TEXT_MODES : Gt K mg "TEXT_MODES" (.tuple ((["text", "escape", "hex", "half", "half u", "low hex", "sign"] : List Str).map .str)) := ⟨t_TEXT_MODES, PySem.W.mg_of X G g_TEXT_MODES, fun F => tup_K (xs := (["text", "escape", "hex", "half", "half u", "low hex", "sign"] : List Str).map .str) tl_TEXT_MODES (by show 7 ≤ 1000; decide) (.cons ⟨_, rfl⟩ (.cons ⟨_, rfl⟩ (.cons ⟨_, rfl⟩ (.cons ⟨_, rfl⟩ (.cons ⟨_, rfl⟩ (.cons ⟨_, rfl⟩ (.cons ⟨_, rfl⟩ (.nil)))))))) all_strsT⟩
  have C_NUMBER_MODES : Gt K mg "NUMBER_MODES" (.tuple ((["minus", "zero", "whole", "point", "part", "power", "power sign", "powers"] : List Str).map .str)) := ⟨t_NUMBER_MODES, PySem.W.mg_of X G g_NUMBER_MODES, fun F => tup_K (xs := (["minus", "zero", "whole", "point", "part", "power", "power sign", "powers"] : List Str).map .str) tl_NUMBER_MODES (by show 8 ≤ 1000; decide) (.cons ⟨_, rfl⟩ (.cons ⟨_, rfl⟩ (.cons ⟨_, rfl⟩ (.cons ⟨_, rfl⟩ (.cons ⟨_, rfl⟩ (.cons ⟨_, rfl⟩ (.cons ⟨_, rfl⟩ (.cons ⟨_, rfl⟩ (.nil))))))))) all_strsT⟩
  have C_WHOLE_MODES : Gt K mg "WHOLE_MODES" (.tuple ((["done", "zero", "whole", "part", "powers"] : List Str).map .str)) := ⟨t_WHOLE_MODES, PySem.W.mg_of X G g_WHOLE_MODES, fun F => tup_K (xs := (["done", "zero", "whole", "part", "powers"] : List Str).map .str) tl_WHOLE_MODES (by show 5 ≤ 1000; decide) (.cons ⟨_, rfl⟩ (.cons ⟨_, rfl⟩ (.cons ⟨_, rfl⟩ (.cons ⟨_, rfl⟩ (.cons ⟨_, rfl⟩ (.nil)))))) all_strsT⟩
  refine ⟨PySem.W.fnOf "law" "law" (defArgs s_law) (defBody s_law) (defScope s_law) .none kV36 dc36 pm36 an36 cd36 ct36, fun s v => .of_eq rfl, fun base _ _ => ?_⟩
  have C_MK_Walker : MkG l.prog w K mg base "Walker" a_Walker 1 (S_Walker a_Walker) := ⟨fi_Walker, _, _, PySem.W.mg_of X G xg_MK_Walker, ⟨xm_MK_Walker, xi_MK_Walker, xf_MK_Walker, xk_MK_Walker⟩, (fun_mk (st := s_Walker_init) xl_MK_Walker xc_MK_Walker xo_MK_Walker).binds (fun _ _ _ _ _ _ us hl => match us, hl with | [_], _ => rfl), h_Walker_init (fun_mk (st := s_Walker_init) xl_MK_Walker xc_MK_Walker xo_MK_Walker) C_O_Walker⟩
  have G_hex_value : Has l.prog w K mg base "hex_value" 1 (S_hex_value) := h_hex_value ⟨f0, _, fun_mk (st := s_hex_value) l0 c0 k0, PySem.W.mg_of X G a0⟩ B
  have G_in_hex : HasG l.prog w K mg base "in_hex" 2 (S_in_hex a_Walker) := h_in_hex ⟨f1, _, fun_mk (st := s_in_hex) l1 c1 k1, PySem.W.mg_of X G a1⟩ B C_O_Walker G_hex_value
  have G_follows : Has l.prog w K mg base "follows" 1 (S_follows) := h_follows ⟨f2, _, fun_mk (st := s_follows) l2 c2 k2, PySem.W.mg_of X G a2⟩ B
  have G_ended : HasG l.prog w K mg base "ended" 1 (S_ended a_Walker) := h_ended ⟨f3, _, fun_mk (st := s_ended) l3 c3 k3, PySem.W.mg_of X G a3⟩ B C_O_Walker
  have G_in_plain : HasG l.prog w K mg base "in_plain" 2 (S_in_plain a_Walker) := h_in_plain ⟨f4, _, fun_mk (st := s_in_plain) l4 c4 k4, PySem.W.mg_of X G a4⟩ B C_QUOTE C_BACKSLASH C_O_Walker G_follows G_ended
  have G_in_sign : HasG l.prog w K mg base "in_sign" 1 (S_in_sign a_Walker) := h_in_sign ⟨f5, _, fun_mk (st := s_in_sign) l5 c5 k5, PySem.W.mg_of X G a5⟩ B C_O_Walker
  have G_hex_begun : HasG l.prog w K mg base "hex_begun" 1 (S_hex_begun a_Walker) := h_hex_begun ⟨f6, _, fun_mk (st := s_hex_begun) l6 c6 k6, PySem.W.mg_of X G a6⟩ B C_O_Walker
  have G_in_text : HasG l.prog w K mg base "in_text" 3 (S_in_text a_Walker) := h_in_text ⟨f7, _, fun_mk (st := s_in_text) l7 c7 k7, PySem.W.mg_of X G a7⟩ B C_LETTER_U C_SHORT C_BACKSLASH C_O_Walker G_in_hex G_in_plain G_in_sign G_hex_begun
  have G_is_white : Has l.prog w K mg base "is_white" 1 (S_is_white) := h_is_white ⟨f8, _, fun_mk (st := s_is_white) l8 c8 k8, PySem.W.mg_of X G a8⟩ B
  have G_closed : HasG l.prog w K mg base "closed" 2 (S_closed a_Walker) := h_closed ⟨f9, _, fun_mk (st := s_closed) l9 c9 k9, PySem.W.mg_of X G a9⟩ B C_O_Walker G_ended
  have G_behind : HasG l.prog w K mg base "behind" 3 (S_behind a_Walker) := h_behind ⟨f10, _, fun_mk (st := s_behind) l10 c10 k10, PySem.W.mg_of X G a10⟩ B C_COMMA C_FIELDS_END C_ROW_END C_O_Walker G_closed
  have G_number_over : HasG l.prog w K mg base "number_over" 4 (S_number_over a_Walker) := h_number_over ⟨f11, _, fun_mk (st := s_number_over) l11 c11 k11, PySem.W.mg_of X G a11⟩ B C_O_Walker G_ended G_is_white G_behind
  have G_is_figure : Has l.prog w K mg base "is_figure" 1 (S_is_figure) := h_is_figure ⟨f12, _, fun_mk (st := s_is_figure) l12 c12 k12, PySem.W.mg_of X G a12⟩ B
  have G_in_number : HasG l.prog w K mg base "in_number" 5 (S_in_number a_Walker) := h_in_number ⟨f13, _, fun_mk (st := s_in_number) l13 c13 k13, PySem.W.mg_of X G a13⟩ B C_POINT C_PLUS C_MINUS C_NOUGHT C_O_Walker G_number_over G_is_figure
  have G_in_word : HasG l.prog w K mg base "in_word" 2 (S_in_word a_Walker) := h_in_word ⟨f14, _, fun_mk (st := s_in_word) l14 c14 k14, PySem.W.mg_of X G a14⟩ B C_O_Walker G_ended
  have G_begun : HasG l.prog w K mg base "begun" 2 (S_begun a_Walker) := h_begun ⟨f15, _, fun_mk (st := s_begun) l15 c15 k15, PySem.W.mg_of X G a15⟩ B C_WORDS C_QUOTE C_MINUS C_ROW_BEGIN C_FIELDS_BEGIN C_MOST_BRACKETS C_NOUGHT C_O_Walker G_is_figure
  have G_between : HasG l.prog w K mg base "between" 4 (S_between a_Walker) := h_between ⟨f16, _, fun_mk (st := s_between) l16 c16 k16, PySem.W.mg_of X G a16⟩ B C_QUOTE C_COLON C_ROW_END C_FIELDS_END C_O_Walker G_begun G_closed G_behind
  have G_stepped : HasG l.prog w K mg base "stepped" 6 (S_stepped a_Walker) := h_stepped ⟨f17, _, fun_mk (st := s_stepped) l17 c17 k17, PySem.W.mg_of X G a17⟩ B C_TEXT_MODES C_NUMBER_MODES C_O_Walker G_in_text G_in_number G_in_word G_is_white G_between
  have G_over : HasG l.prog w K mg base "over" 1 (S_over a_Walker) := h_over ⟨f18, _, fun_mk (st := s_over) l18 c18 k18, PySem.W.mg_of X G a18⟩ B C_WHOLE_MODES C_O_Walker
  have G_l_cell : Has l.prog w K mg base "_law_cell" 1 (S_l_cell) := h_l_cell ⟨f19, _, fun_mk (st := s_l_cell) l19 c19 k19, PySem.W.mg_of X G a19⟩ B
  have G_l_mix : Has l.prog w K mg base "_law_mix" 2 (S_l_mix) := h_l_mix ⟨f20, _, fun_mk (st := s_l_mix) l20 c20 k20, PySem.W.mg_of X G a20⟩ B G_l_cell
  have G_fault : Has l.prog w K mg base "fault" 7 (S_fault) := h_fault ⟨f21, _, fun_mk (st := s_fault) l21 c21 k21, PySem.W.mg_of X G a21⟩ B C_O_Walker C_MK_Walker G_over G_stepped
  have G_l_hexes : Has l.prog w K mg base "_law_hexes" 1 (S_l_hexes) := h_l_hexes ⟨f22, _, fun_mk (st := s_l_hexes) l22 c22 k22, PySem.W.mg_of X G a22⟩ B
  have G_l_escape : Has l.prog w K mg base "_law_escape" 2 (S_l_escape) := h_l_escape ⟨f23, _, fun_mk (st := s_l_escape) l23 c23 k23, PySem.W.mg_of X G a23⟩ B G_l_hexes
  have G_l_sign_size : Has l.prog w K mg base "_law_sign_size" 1 (S_l_sign_size) := h_l_sign_size ⟨f24, _, fun_mk (st := s_l_sign_size) l24 c24 k24, PySem.W.mg_of X G a24⟩ B
  have G_l_text_read : Has l.prog w K mg base "_law_text_read" 3 (S_l_text_read) := h_l_text_read ⟨f25, _, fun_mk (st := s_l_text_read) l25 c25 k25, PySem.W.mg_of X G a25⟩ B G_l_escape G_l_sign_size
  have G_l_figures_k07 : Has l.prog w K mg base "_law_figures" 1 (S_l_figures_k07) := h_l_figures_k07 ⟨f26, _, fun_mk (st := s_l_figures_k07) l26 c26 k26, PySem.W.mg_of X G a26⟩ B
  have G_l_number_read : Has l.prog w K mg base "_law_number_read" 2 (S_l_number_read) := h_l_number_read ⟨f27, _, fun_mk (st := s_l_number_read) l27 c27 k27, PySem.W.mg_of X G a27⟩ B G_l_figures_k07
  have G_l_word_read : Has l.prog w K mg base "_law_word_read" 1 (S_l_word_read) := h_l_word_read ⟨f28, _, fun_mk (st := s_l_word_read) l28 c28 k28, PySem.W.mg_of X G a28⟩ B
  have G_l_plain_read : Has l.prog w K mg base "_law_plain_read" 4 (S_l_plain_read) := h_l_plain_read ⟨f29, _, fun_mk (st := s_l_plain_read) l29 c29 k29, PySem.W.mg_of X G a29⟩ B G_l_text_read G_l_number_read G_l_word_read
  have G_l_token : HasG l.prog w K mg base "_law_token" 5 (S_l_token) := h_l_token ⟨f30, _, fun_mk (st := s_l_token) l30 c30 k30, PySem.W.mg_of X G a30⟩ B G_l_text_read G_l_plain_read
  have G_l_whole : Has l.prog w K mg base "_law_whole" 1 (S_l_whole) := h_l_whole ⟨f31, _, fun_mk (st := s_l_whole) l31 c31 k31, PySem.W.mg_of X G a31⟩ B
  have G_l_wild : Has l.prog w K mg base "_law_wild" 1 (S_l_wild) := h_l_wild ⟨f32, _, fun_mk (st := s_l_wild) l32 c32 k32, PySem.W.mg_of X G a32⟩ B
  have G_l_piece : HasG l.prog w K mg base "_law_piece" 1 (S_l_piece) := h_l_piece ⟨f33, _, fun_mk (st := s_l_piece) l33 c33 k33, PySem.W.mg_of X G a33⟩ B
  have G_l_after : HasG l.prog w K mg base "_law_after" 1 (S_l_after) := h_l_after ⟨f34, _, fun_mk (st := s_l_after) l34 c34 k34, PySem.W.mg_of X G a34⟩ B
  have G_l_bytes : Has l.prog w K mg base "_law_bytes" 6 (S_l_bytes) := h_l_bytes ⟨f35, _, fun_mk (st := s_l_bytes) l35 c35 k35, PySem.W.mg_of X G a35⟩ B G_l_mix G_l_wild G_l_piece G_l_after
  exact law_ok (fun_mk (st := s_law) l36 c36 k36) B G_l_mix G_l_whole G_fault G_l_token G_l_bytes
end Kx
open PySem PySem.W PyProof.Rows in
set_option maxRecDepth 100000 in
set_option maxHeartbeats 0 in
theorem PySem.Challenge.cw_plainglass_k07_whole_any_bytes_holds : PySem.Challenge.rw_plainglass_k07_whole_any_bytes.Holds := by
  w_on; o_law; k_head; (case hw => w_witness2)
  k_fill
  refine L2.walk_of (l := PySem.Challenge.rw_plainglass_k07_whole_any_bytes) (n := 63) (k := 40) (x := "_law_script") (CX := fun w => L2.CX PySem.Challenge.rw_plainglass_k07_whole_any_bytes.prog w) (sp := fun w => DL.spF _ (DL.Pu DL.SLaw)) rfl (by decide) rfl ⟨rfl, by decide, by decide⟩ (fun w h Y => PySem.W.kIn_of Y) ?F (fun _ _ a ns hl _ hS => DL.sp_law hl hS) (fun _ _ _ _ _ h => DL.cx_no h)
  case F =>
    intro w mg fa h KX G hmg
    refine' Kx.all_mk KX G hmg ?a0 ?l0 ?c0 ?k0 ?a1 ?l1 ?c1 ?k1 ?a2 ?l2 ?c2 ?k2 ?a3 ?l3 ?c3 ?k3 ?a4 ?l4 ?c4 ?k4 ?a5 ?l5 ?c5 ?k5 ?a6 ?l6 ?c6 ?k6 ?a7 ?l7 ?c7 ?k7 ?a8 ?l8 ?c8 ?k8 ?a9 ?l9 ?c9 ?k9 ?a10 ?l10 ?c10 ?k10 ?a11 ?l11 ?c11 ?k11 ?a12 ?l12 ?c12 ?k12 ?a13 ?l13 ?c13 ?k13 ?a14 ?l14 ?c14 ?k14 ?a15 ?l15 ?c15 ?k15 ?a16 ?l16 ?c16 ?k16 ?a17 ?l17 ?c17 ?k17 ?a18 ?l18 ?c18 ?k18 ?a19 ?l19 ?c19 ?k19 ?a20 ?l20 ?c20 ?k20 ?a21 ?l21 ?c21 ?k21 ?a22 ?l22 ?c22 ?k22 ?a23 ?l23 ?c23 ?k23 ?a24 ?l24 ?c24 ?k24 ?a25 ?l25 ?c25 ?k25 ?a26 ?l26 ?c26 ?k26 ?a27 ?l27 ?c27 ?k27 ?a28 ?l28 ?c28 ?k28 ?a29 ?l29 ?c29 ?k29 ?a30 ?l30 ?c30 ?k30 ?a31 ?l31 ?c31 ?k31 ?a32 ?l32 ?c32 ?k32 ?a33 ?l33 ?c33 ?k33 ?a34 ?l34 ?c34 ?k34 ?a35 ?l35 ?c35 ?k35 ?a36 ?l36 ?c36 ?k36 ?z_len ?z_range ?z_list ?z_tuple ?z_isinstance ?z_all ?z_int ?z_str ?z_ord ?z_sum ?z_min ?z_max ?z_set ?z_bool ?xg_MK_Walker ?xm_MK_Walker ?xk_MK_Walker ?xi_MK_Walker ?xf_MK_Walker ?xl_MK_Walker ?xc_MK_Walker ?xo_MK_Walker ?opg_Walker ?ohd_Walker ?opo_Walker ?osa_Walker ?no_Walker_0 ?no_Walker_1 ?no_Walker_2 ?no_Walker_3 ?no_Walker_4 ?no_Walker_5 ?no_Walker_6 ?no_Walker_7 ?g_QUOTE ?g_BACKSLASH ?g_LETTER_U ?g_SHORT ?tl_SHORT ?g_COMMA ?g_FIELDS_END ?g_ROW_END ?g_POINT ?g_PLUS ?g_MINUS ?g_NOUGHT ?g_WORDS ?tl_WORDS ?ul2_WORDS ?ul1_WORDS ?ul0_WORDS ?g_ROW_BEGIN ?g_FIELDS_BEGIN ?g_MOST_BRACKETS ?g_COLON ?g_TEXT_MODES ?tl_TEXT_MODES ?g_NUMBER_MODES ?tl_NUMBER_MODES ?g_WHOLE_MODES ?tl_WHOLE_MODES
    (case a0 => k_is)
    (case l0 => k_is)
    (case c0 => k_is)
    (case k0 => k_is)
    (case a1 => k_is)
    (case l1 => k_is)
    (case c1 => k_is)
    (case k1 => k_is)
    (case a2 => k_is)
    (case l2 => k_is)
    (case c2 => k_is)
    (case k2 => k_is)
    (case a3 => k_is)
    (case l3 => k_is)
    (case c3 => k_is)
    (case k3 => k_is)
    (case a4 => k_is)
    (case l4 => k_is)
    (case c4 => k_is)
    (case k4 => k_is)
    (case a5 => k_is)
    (case l5 => k_is)
    (case c5 => k_is)
    (case k5 => k_is)
    (case a6 => k_is)
    (case l6 => k_is)
    (case c6 => k_is)
    (case k6 => k_is)
    (case a7 => k_is)
    (case l7 => k_is)
    (case c7 => k_is)
    (case k7 => k_is)
    (case a8 => k_is)
    (case l8 => k_is)
    (case c8 => k_is)
    (case k8 => k_is)
    (case a9 => k_is)
    (case l9 => k_is)
    (case c9 => k_is)
    (case k9 => k_is)
    (case a10 => k_is)
    (case l10 => k_is)
    (case c10 => k_is)
    (case k10 => k_is)
    (case a11 => k_is)
    (case l11 => k_is)
    (case c11 => k_is)
    (case k11 => k_is)
    (case a12 => k_is)
    (case l12 => k_is)
    (case c12 => k_is)
    (case k12 => k_is)
    (case a13 => k_is)
    (case l13 => k_is)
    (case c13 => k_is)
    (case k13 => k_is)
    (case a14 => k_is)
    (case l14 => k_is)
    (case c14 => k_is)
    (case k14 => k_is)
    (case a15 => k_is)
    (case l15 => k_is)
    (case c15 => k_is)
    (case k15 => k_is)
    (case a16 => k_is)
    (case l16 => k_is)
    (case c16 => k_is)
    (case k16 => k_is)
    (case a17 => k_is)
    (case l17 => k_is)
    (case c17 => k_is)
    (case k17 => k_is)
    (case a18 => k_is)
    (case l18 => k_is)
    (case c18 => k_is)
    (case k18 => k_is)
    (case a19 => k_is)
    (case l19 => k_is)
    (case c19 => k_is)
    (case k19 => k_is)
    (case a20 => k_is)
    (case l20 => k_is)
    (case c20 => k_is)
    (case k20 => k_is)
    (case a21 => k_is)
    (case l21 => k_is)
    (case c21 => k_is)
    (case k21 => k_is)
    (case a22 => k_is)
    (case l22 => k_is)
    (case c22 => k_is)
    (case k22 => k_is)
    (case a23 => k_is)
    (case l23 => k_is)
    (case c23 => k_is)
    (case k23 => k_is)
    (case a24 => k_is)
    (case l24 => k_is)
    (case c24 => k_is)
    (case k24 => k_is)
    (case a25 => k_is)
    (case l25 => k_is)
    (case c25 => k_is)
    (case k25 => k_is)
    (case a26 => k_is)
    (case l26 => k_is)
    (case c26 => k_is)
    (case k26 => k_is)
    (case a27 => k_is)
    (case l27 => k_is)
    (case c27 => k_is)
    (case k27 => k_is)
    (case a28 => k_is)
    (case l28 => k_is)
    (case c28 => k_is)
    (case k28 => k_is)
    (case a29 => k_is)
    (case l29 => k_is)
    (case c29 => k_is)
    (case k29 => k_is)
    (case a30 => k_is)
    (case l30 => k_is)
    (case c30 => k_is)
    (case k30 => k_is)
    (case a31 => k_is)
    (case l31 => k_is)
    (case c31 => k_is)
    (case k31 => k_is)
    (case a32 => k_is)
    (case l32 => k_is)
    (case c32 => k_is)
    (case k32 => k_is)
    (case a33 => k_is)
    (case l33 => k_is)
    (case c33 => k_is)
    (case k33 => k_is)
    (case a34 => k_is)
    (case l34 => k_is)
    (case c34 => k_is)
    (case k34 => k_is)
    (case a35 => k_is)
    (case l35 => k_is)
    (case c35 => k_is)
    (case k35 => k_is)
    (case a36 => k_is)
    (case l36 => k_is)
    (case c36 => k_is)
    (case k36 => k_is)
    (case z_len => k_is)
    (case z_range => k_is)
    (case z_list => k_is)
    (case z_tuple => k_is)
    (case z_isinstance => k_is)
    (case z_all => k_is)
    (case z_int => k_is)
    (case z_str => k_is)
    (case z_ord => k_is)
    (case z_sum => k_is)
    (case z_min => k_is)
    (case z_max => k_is)
    (case z_set => k_is)
    (case z_bool => k_is)
    (case xg_MK_Walker => k_is)
    (case xm_MK_Walker => k_is)
    (case xk_MK_Walker => k_is)
    (case xi_MK_Walker => k_is)
    (case xf_MK_Walker => k_is)
    (case xl_MK_Walker => k_is)
    (case xc_MK_Walker => k_is)
    (case xo_MK_Walker => k_is)
    (case opg_Walker => k_is)
    (case ohd_Walker => k_is)
    (case opo_Walker => k_is)
    (case osa_Walker => k_is)
    (case no_Walker_0 => k_is)
    (case no_Walker_1 => k_is)
    (case no_Walker_2 => k_is)
    (case no_Walker_3 => k_is)
    (case no_Walker_4 => k_is)
    (case no_Walker_5 => k_is)
    (case no_Walker_6 => k_is)
    (case no_Walker_7 => k_is)
    (case g_QUOTE => k_is)
    (case g_BACKSLASH => k_is)
    (case g_LETTER_U => k_is)
    (case g_SHORT => k_is)
    (case tl_SHORT => k_is)
    (case g_COMMA => k_is)
    (case g_FIELDS_END => k_is)
    (case g_ROW_END => k_is)
    (case g_POINT => k_is)
    (case g_PLUS => k_is)
    (case g_MINUS => k_is)
    (case g_NOUGHT => k_is)
    (case g_WORDS => k_is)
    (case tl_WORDS => k_is)
    (case ul2_WORDS => k_is)
    (case ul1_WORDS => k_is)
    (case ul0_WORDS => k_is)
    (case g_ROW_BEGIN => k_is)
    (case g_FIELDS_BEGIN => k_is)
    (case g_MOST_BRACKETS => k_is)
    (case g_COLON => k_is)
    (case g_TEXT_MODES => k_is)
    (case tl_TEXT_MODES => k_is)
    (case g_NUMBER_MODES => k_is)
    (case tl_NUMBER_MODES => k_is)
    (case g_WHOLE_MODES => k_is)
    (case tl_WHOLE_MODES => k_is)
#print axioms PySem.Challenge.cw_plainglass_k07_whole_any_bytes_holds
