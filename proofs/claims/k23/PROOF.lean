import PyProof.Rows.All
import PySem.Challenge.RW_alikeagain_k23_whole_order
import Wide.All
import OpenK.AllK
import Wide.FinOn
import HandS.ForMost
import HandS.Conv
import HandS.DictComp
import HandS.SetKeys
import HandS.IsInst
import HandS.TupAny
import HandS.TupMul
import HandS.SortInts
import HandS.Deep
import HandS.Style
import HandS.Wide
import KE.DataMinMax
import PyProof.ReprRoads
import HandS.Star
import KE.GoesEnum
import KE.GoesMore
import HandS.HeadEnd
import HandS.HeadHook1
import HandS.HeadHook2
import HandS.Defaults
import KE.SortData
import KE.KStateDown
import HandS.Head0
import HandS.Head1
import HandS.Head2
import HandS.HeadHook3
import HandS.HeadHook4
set_option Elab.async false
set_option linter.all false
set_option maxRecDepth 100000
set_option maxHeartbeats 1000000
/-! Part A1: readings over data. Immutable data stand in the heap outside of a hidden set W of addresses. -/
namespace G6
open PySem PySem.Spec PyProof.Rows L2

/-! ### heaps with hidden addresses -/
def hide (W : List Addr) (H : Hp) : Hp := fun a => if a ∈ W then none else H a
def OkW (W : List Addr) (H : Hp) : Prop := ∀ a, a ∈ W → H a ≠ none
theorem hide_in {W : List Addr} {H : Hp} {a : Addr} (h : a ∈ W) : hide W H a = none := if_pos h
theorem hide_out {W : List Addr} {H : Hp} {a : Addr} (h : a ∉ W) : hide W H a = H a := if_neg h
theorem hide_le {W : List Addr} {H : Hp} : Same (hide W H) H := fun a o h => by
  by_cases q : a ∈ W
  · rw [hide_in q] at h; cases h
  · rw [hide_out q] at h; exact h
theorem hide_same {W : List Addr} {H H' : Hp} (e : Same H H') : Same (hide W H) (hide W H') := fun a o h => by
  by_cases q : a ∈ W
  · rw [hide_in q] at h; cases h
  · rw [hide_out q] at h ⊢; exact e a o h
theorem hide_sub {W U : List Addr} {H : Hp} (h : ∀ a, a ∈ U → a ∈ W) : Same (hide W H) (hide U H) := fun a o e => by
  by_cases q : a ∈ W
  · rw [hide_in q] at e; cases e
  · rw [hide_out q] at e
    rw [hide_out fun z => q (h a z)]
    exact e
theorem hide_nil {H : Hp} : hide [] H = H := by
  funext a
  exact hide_out (by simp)
theorem OkW.same {W : List Addr} {H H' : Hp} (h : OkW W H) (e : Same H H') : OkW W H' := fun a ha q => by
  cases r : H a with
  | none => exact h a ha r
  | some o => rw [e a o r] at q; cases q
theorem OkW.notin {W : List Addr} {H : Hp} {p : Addr} (h : OkW W H) (hp : H p = none) : p ∉ W := fun q => h p q hp
theorem OkW.nil {H : Hp} : OkW [] H := fun _ h => nomatch h
theorem same_new {H : Hp} {p : Addr} {o : HO} (h : H p = none) : Same H (upd H p o) := fun a u e => by
  rw [upd_ne (ne_of_none e h)]; exact e
theorem hide_new {W : List Addr} {H : Hp} {p : Addr} {o : HO} (hW : OkW W H) (hp : H p = none) : hide W (upd H p o) p = some o := by
  rw [hide_out (hW.notin hp)]; exact upd_same
/-- a hidden object may change -/
theorem hide_mut {W : List Addr} {H : Hp} {p : Addr} {o : HO} (hp : p ∈ W) : hide W (upd H p o) = hide W H := by
  funext a
  by_cases q : a ∈ W
  · rw [hide_in q, hide_in q]
  · rw [hide_out q, hide_out q, upd_ne (fun e => q (by rw [e]; exact hp))]
theorem same_back {H H' : Hp} {p : Addr} (e : Same H H') (h : H' p = none) : H p = none := e.free h
theorem same_sqT {K : PySem.W.Frag} {H H' : Hp} {a : Addr} {xs : List V} (e : Same H H') (h : SqT K H a xs) : SqT K H' a xs := by
  rcases h with (h | ⟨o, h⟩) | h
  · exact .inl (.inl (e _ _ h))
  · exact .inl (.inr ⟨o, e _ _ h⟩)
  · exact .inr h

theorem same_sqL {K : PySem.W.Frag} {H H' : Hp} {a : Addr} {xs : List V} (e : Same H H') (h : SqL K H a xs) : SqL K H' a xs := by
  rcases h with (h | ⟨o, h⟩) | h
  · exact .inl (.inl (e _ _ h))
  · exact .inl (.inr ⟨o, e _ _ h⟩)
  · exact .inr h
/-! ### data in a heap: ints, truth values, texts, tuples; lists that are tracked -/
/-- the sign of an address that a name holds -/
def pinD (a : Addr) : PyData := .dict [(.str "", .int (a : Nat))]
/-- the sign of a list from outside -/
def sqD (ds : List PyData) : PyData := .dict [(.str "sq", .list ds)]
mutual
inductive Dv (K : PySem.W.Frag) (H : Hp) : V → PyData → Prop
  | non : Dv K H .non .none
  | bl (b : Bool) : Dv K H (.bl b) (.bool b)
  | int (i : Int) : Dv K H (.int i) (.int i)
  | str (x : Str) : Dv K H (.str x) (.str x)
  | lst {a : Addr} {xs : List V} {ds : List PyData} : H a = some (.lst xs) → DvAll K H xs ds → Dv K H (.ref a) (.list ds)
  | tup {a : Addr} {xs : List V} {ds : List PyData} : SqT K H a xs → DvAll K H xs ds → Dv K H (.ref a) (.tuple ds)
  /-- a dict with int keys: its keys alone -/
  | dic {a : Addr} {kvs : List (Key × V)} (ks : List Int) : H a = some (.dK kvs) → kvs.map (·.1) = ks.map Sum.inl → Dv K H (.ref a) (.dict (ks.map fun k => (.int k, .none)))
  /-- a name that holds the address a: no more is told of it -/
  | pin (a : Addr) : Dv K H (.ref a) (pinD a)
  /-- a list from outside, that nothing writes -/
  | sq {a : Addr} {xs : List V} {ds : List PyData} : SqL K H a xs → DvAll K H xs ds → Dv K H (.ref a) (sqD ds)
inductive DvAll (K : PySem.W.Frag) (H : Hp) : List V → List PyData → Prop
  | nil : DvAll K H [] []
  | cons {v : V} {vs : List V} {d : PyData} {ds : List PyData} : Dv K H v d → DvAll K H vs ds → DvAll K H (v :: vs) (d :: ds)
end
section
variable {K : PySem.W.Frag} {H H' : Hp}
mutual
theorem Dv.same (e : Same H H') : ∀ {v : V} {d : PyData}, Dv K H v d → Dv K H' v d
  | _, _, .non => .non
  | _, _, .bl b => .bl b
  | _, _, .int i => .int i
  | _, _, .str x => .str x
  | _, _, .lst h r => .lst (e _ _ h) (DvAll.same e r)
  | _, _, .tup h r => .tup (same_sqT e h) (DvAll.same e r)
  | _, _, .dic ks h r => .dic ks (e _ _ h) r
  | _, _, .pin a => .pin a
  | _, _, .sq h r => .sq (same_sqL e h) (DvAll.same e r)
theorem DvAll.same (e : Same H H') : ∀ {vs : List V} {ds : List PyData}, DvAll K H vs ds → DvAll K H' vs ds
  | _, _, .nil => .nil
  | _, _, .cons h r => .cons (Dv.same e h) (DvAll.same e r)
end
mutual
theorem Dv.dp : ∀ {v : V} {d : PyData}, Dv K H v d → PyData.canLay0 d = true → Dp K H v d
  | _, _, .non, _ => .non
  | _, _, .bl b, _ => .bl b
  | _, _, .int i, _ => .int i
  | _, _, .str x, _ => .str x
  | _, _, .lst h r, c => .lst (SqL.of h) (DvAll.dp r (by simpa only [PyData.canLay0] using c))
  | _, _, .tup h r, c => .tup h (DvAll.dp r (by simpa only [PyData.canLay0] using c))
  | _, _, .dic ks h r, c => by simp [PyData.canLay0] at c
  | _, _, .pin a, c => by simp [pinD, PyData.canLay0] at c
  | _, _, .sq h r, c => by simp [sqD, PyData.canLay0] at c
theorem DvAll.dp : ∀ {vs : List V} {ds : List PyData}, DvAll K H vs ds → PyData.canLayAll0 ds = true → DpAll K H vs ds
  | _, _, .nil, _ => .nil
  | _, _, .cons h r, c => by
    simp only [PyData.canLayAll0, Bool.and_eq_true] at c
    exact .cons (Dv.dp h c.1) (DvAll.dp r c.2)
end
theorem DvAll.length : ∀ {vs : List V} {ds : List PyData}, DvAll K H vs ds → vs.length = ds.length
  | _, _, .nil => rfl
  | _, _, .cons _ r => by rw [List.length_cons, List.length_cons, r.length]
theorem DvAll.get : ∀ {vs : List V} {ds : List PyData} {i : Nat} {d : PyData}, DvAll K H vs ds → ds[i]? = some d → ∃ v, vs[i]? = some v ∧ Dv K H v d
  | _, _, _, _, .nil, e => by simp at e
  | _, _, 0, _, .cons h _, e => by simp at e; subst e; exact ⟨_, rfl, h⟩
  | _, _, i + 1, d, .cons _ r, e => by
    obtain ⟨v, h1, h2⟩ := r.get (i := i) (d := d) (by simpa using e)
    exact ⟨v, by simpa using h1, h2⟩
theorem DvAll.getV : ∀ {vs : List V} {ds : List PyData} {i : Nat} {v : V}, DvAll K H vs ds → vs[i]? = some v → ∃ d, ds[i]? = some d ∧ Dv K H v d
  | _, _, _, _, .nil, e => by simp at e
  | _, _, 0, _, .cons h _, e => by simp at e; subst e; exact ⟨_, rfl, h⟩
  | _, _, i + 1, d, .cons _ r, e => by
    obtain ⟨v, h1, h2⟩ := r.getV (i := i) (v := d) (by simpa using e)
    exact ⟨v, by simpa using h1, h2⟩
theorem DvAll.append : ∀ {vs ws : List V} {ds es : List PyData}, DvAll K H vs ds → DvAll K H ws es → DvAll K H (vs ++ ws) (ds ++ es)
  | _, _, _, _, .nil, s => s
  | _, _, _, _, .cons h r, s => .cons h (r.append s)
theorem DvAll.one {v : V} {d : PyData} (h : Dv K H v d) : DvAll K H [v] [d] := .cons h .nil
theorem DvAll.take : ∀ {vs : List V} {ds : List PyData} (n : Nat), DvAll K H vs ds → DvAll K H (vs.take n) (ds.take n)
  | _, _, 0, _ => by simp; exact .nil
  | _, _, _ + 1, .nil => by simp; exact .nil
  | _, _, n + 1, .cons h r => .cons h (r.take n)
theorem DvAll.drop : ∀ {vs : List V} {ds : List PyData} (n : Nat), DvAll K H vs ds → DvAll K H (vs.drop n) (ds.drop n)
  | _, _, 0, r => r
  | _, _, _ + 1, .nil => .nil
  | _, _, n + 1, .cons h r => r.drop n
theorem DvAll.rep : ∀ (n : Nat) {vs : List V} {ds : List PyData}, DvAll K H vs ds → DvAll K H (List.replicate n vs).flatten (List.replicate n ds).flatten
  | 0, _, _, _ => .nil
  | n + 1, _, _, h => by
    rw [List.replicate_succ, List.replicate_succ, List.flatten_cons, List.flatten_cons]
    exact h.append (DvAll.rep n h)
theorem Dv.int_iff {v : V} {i : Int} (h : Dv K H v (.int i)) : v = .int i := by cases h; rfl
theorem Dv.bl_iff {v : V} {i : Bool} (h : Dv K H v (.bool i)) : v = .bl i := by cases h; rfl
theorem Dv.str_iff {v : V} {i : Str} (h : Dv K H v (.str i)) : v = .str i := by cases h; rfl
theorem Dv.non_iff {v : V} (h : Dv K H v .none) : v = .non := by cases h; rfl
theorem Dv.lst_iff {v : V} {ds : List PyData} (h : Dv K H v (.list ds)) : ∃ a xs, v = .ref a ∧ H a = some (.lst xs) ∧ DvAll K H xs ds := by
  cases h with
  | lst a b => exact ⟨_, _, rfl, a, b⟩
theorem Dv.tup_iff {v : V} {ds : List PyData} (h : Dv K H v (.tuple ds)) : ∃ a xs, v = .ref a ∧ SqT K H a xs ∧ DvAll K H xs ds := by
  cases h with
  | tup a b => exact ⟨_, _, rfl, a, b⟩
theorem Dv.dic_iff {v : V} {ks : List Int} (h : Dv K H v (.dict (ks.map fun k => (.int k, .none)))) : ∃ a kvs, v = .ref a ∧ H a = some (.dK kvs) ∧ kvs.map (·.1) = ks.map Sum.inl := by
  generalize hd : PyData.dict (ks.map fun k => (.int k, .none)) = d at h
  cases h with
  | @dic a kvs ks' e r =>
    injection hd with hd
    have e2 : ks = ks' := by
      have e3 := congrArg (List.map (fun p : PyData × PyData => p.1)) hd
      rw [List.map_map, List.map_map] at e3
      exact (List.map_inj_right (fun a b z => PyData.int.inj z)).mp e3
    subst e2
    exact ⟨a, kvs, rfl, e, r⟩
  | pin a =>
    unfold pinD at hd
    injection hd with hd
    cases ks with
    | nil => cases hd
    | cons k ks =>
      rw [List.map_cons] at hd
      injection hd with h1 h2
      injection h1 with h3 h4
      cases h3
  | sq =>
    unfold sqD at hd
    injection hd with hd
    cases ks with
    | nil => cases hd
    | cons k ks =>
      rw [List.map_cons] at hd
      injection hd with h1 h2
      injection h1 with h3 h4
      cases h3
  | _ => cases hd
theorem Dv.sq_iff {v : V} {ds : List PyData} (h : Dv K H v (sqD ds)) : ∃ a xs, v = .ref a ∧ SqL K H a xs ∧ DvAll K H xs ds := by
  unfold sqD at h
  generalize hd : PyData.dict [(.str "sq", .list ds)] = d at h
  cases h with
  | @dic b kvs ks e r =>
    injection hd with hd
    cases ks with
    | nil => cases hd
    | cons k ks =>
      rw [List.map_cons] at hd
      injection hd with h1 h2
      injection h1 with h3 h4
      cases h3
  | pin b =>
    unfold pinD at hd
    injection hd with hd
    injection hd with h1 h2
    injection h1 with h3 h4
    cases h4
  | @sq a xs ds' e r =>
    unfold sqD at hd
    injection hd with hd
    injection hd with h1 h2
    injection h1 with h3 h4
    injection h4 with h5
    subst h5
    exact ⟨a, xs, rfl, e, r⟩
  | _ => cases hd
theorem Dv.pin_iff {v : V} {a : Addr} (h : Dv K H v (pinD a)) : v = .ref a := by
  unfold pinD at h
  generalize hd : PyData.dict [(.str "", .int (a : Nat))] = d at h
  cases h with
  | @dic b kvs ks e r =>
    injection hd with hd
    cases ks with
    | nil => cases hd
    | cons k ks =>
      rw [List.map_cons] at hd
      injection hd with h1 h2
      injection h1 with h3 h4
      cases h3
  | pin b =>
    unfold pinD at hd
    injection hd with hd
    injection hd with h1 h2
    injection h1 with h3 h4
    injection h4 with h5
    have e : a = b := Int.ofNat.inj h5
    rw [e]
  | sq =>
    unfold sqD at hd
    injection hd with hd
    injection hd with h1 h2
    injection h1 with h3 h4
    cases h4
  | _ => cases hd
/-- ints -/
theorem DvAll.ints : ∀ {vs : List V} {ns : List Int}, DvAll K H vs (ns.map .int) → vs = ns.map V.int
  | _, [], h => by cases h; rfl
  | _, n :: ns, h => by
    cases h with
    | cons a b => rw [a.int_iff, DvAll.ints b]; rfl
theorem DvAll.of_ints : ∀ (ns : List Int), DvAll K H (ns.map V.int) (ns.map .int)
  | [] => .nil
  | n :: ns => .cons (.int n) (DvAll.of_ints ns)
theorem DvAll.bools : ∀ {vs : List V} {ns : List Bool}, DvAll K H vs (ns.map .bool) → vs = ns.map V.bl
  | _, [], h => by cases h; rfl
  | _, n :: ns, h => by
    cases h with
    | cons a b => rw [a.bl_iff, DvAll.bools b]; rfl
end

/-! ### environments -/
abbrev Env6 := List (Option PyData)
def EnvD (K : PySem.W.Frag) (h : Hp) (σ : L2.St) (ρ : Env6) : Prop := σ.length = ρ.length ∧ ∀ (i : Nat) (d : PyData), ρ[i]? = some (some d) → ∃ v, σ[i]? = some (some v) ∧ Dv K h v d
section
variable {K : PySem.W.Frag} {h h' : Hp} {σ : L2.St} {ρ ρ' : Env6}
theorem EnvD.same (E : EnvD K h σ ρ) (e : Same h h') : EnvD K h' σ ρ := ⟨E.1, fun i d q => by
  obtain ⟨v, a, b⟩ := E.2 i d q
  exact ⟨v, a, b.same e⟩⟩
theorem EnvD.set (E : EnvD K h σ ρ) {v : V} {d : PyData} (hv : Dv K h v d) (i : Nat) : EnvD K h (σ.set i (some v)) (ρ.set i (some d)) := by
  refine ⟨by rw [List.length_set, List.length_set, E.1], fun j e q => ?_⟩
  by_cases hij : i = j
  · subst hij
    by_cases hl : i < ρ.length
    · rw [List.getElem?_set_self hl] at q
      cases q
      exact ⟨v, by rw [List.getElem?_set_self (by rw [E.1]; exact hl)], hv⟩
    · rw [List.getElem?_eq_none (by rw [List.length_set]; omega)] at q
      cases q
  · rw [List.getElem?_set_ne hij] at q ⊢
    exact E.2 j e q
theorem EnvD.setN (E : EnvD K h σ ρ) {x : Option V} (i : Nat) : EnvD K h (σ.set i x) (ρ.set i none) := by
  refine ⟨by rw [List.length_set, List.length_set, E.1], fun j e q => ?_⟩
  by_cases hij : i = j
  · subst hij
    by_cases hl : i < ρ.length
    · rw [List.getElem?_set_self hl] at q
      cases q
    · rw [List.getElem?_eq_none (by rw [List.length_set]; omega)] at q
      cases q
  · rw [List.getElem?_set_ne hij] at q ⊢
    exact E.2 j e q
/-- a weaker environment -/
def leE : Env6 → Env6 → Prop
  | [], [] => True
  | some a :: r, some b :: r' => a = b ∧ leE r r'
  | _ :: r, none :: r' => leE r r'
  | _, _ => False
theorem leE_len : ∀ {ρ ρ' : Env6}, leE ρ ρ' → ρ.length = ρ'.length
  | [], [], _ => rfl
  | some a :: r, some b :: r', h => by
    have h : a = b ∧ leE r r' := h
    rw [List.length_cons, List.length_cons, leE_len h.2]
  | some a :: r, none :: r', h => by
    have h : leE r r' := h
    rw [List.length_cons, List.length_cons, leE_len h]
  | none :: r, none :: r', h => by
    have h : leE r r' := h
    rw [List.length_cons, List.length_cons, leE_len h]
  | none :: r, some _ :: r', h => h.elim
  | [], _ :: _, h => h.elim
  | some _ :: _, [], h => h.elim
  | none :: _, [], h => h.elim
theorem leE_at : ∀ {ρ ρ' : Env6}, leE ρ ρ' → ∀ {i : Nat} {d : PyData}, ρ'[i]? = some (some d) → ρ[i]? = some (some d)
  | [], [], _, _, _, q => q
  | some a :: r, some b :: r', h, i, d, q => by
    have h : a = b ∧ leE r r' := h
    cases i with
    | zero =>
      have q' : some (some b) = some (some d) := q
      rw [h.1]
      exact q'
    | succ i => exact leE_at h.2 (i := i) q
  | some a :: r, none :: r', h, i, d, q => by
    have h : leE r r' := h
    cases i with
    | zero => cases (show some (none : Option PyData) = some (some d) from q)
    | succ i => exact leE_at h (i := i) q
  | none :: r, none :: r', h, i, d, q => by
    have h : leE r r' := h
    cases i with
    | zero => cases (show some (none : Option PyData) = some (some d) from q)
    | succ i => exact leE_at h (i := i) q
  | none :: r, some _ :: r', h, _, _, _ => h.elim
  | [], _ :: _, h, _, _, _ => h.elim
  | some _ :: _, [], h, _, _, _ => h.elim
  | none :: _, [], h, _, _, _ => h.elim
theorem leE_refl : ∀ ρ : Env6, leE ρ ρ
  | [] => trivial
  | some a :: r => ⟨rfl, leE_refl r⟩
  | none :: r => (show leE r r from leE_refl r)
theorem EnvD.le (E : EnvD K h σ ρ) (l : leE ρ ρ') : EnvD K h σ ρ' := ⟨E.1.trans (leE_len l), fun i d q => E.2 i d (leE_at l q)⟩
/-- the slots of a comprehension's names forgotten -/
def wipeE (ρ : Env6) : List Nat → Env6
  | [] => ρ
  | v :: vs => (wipeE ρ vs).set v none
theorem EnvD.wipe (E : EnvD K h σ ρ) : ∀ vs : List Nat, EnvD K h (L2.wipe σ vs) (wipeE ρ vs)
  | [] => E
  | v :: vs => (EnvD.wipe E vs).setN v
theorem EnvD.start (N : List Str) {vs : List V} {ds : List PyData} (r : DvAll K h vs ds) : EnvD K h (L2.start N vs) (ds.map some ++ List.replicate (N.length - ds.length) none) := by
  have hl := r.length
  refine ⟨by unfold L2.start; simp [hl], fun i d q => ?_⟩
  by_cases hi : i < ds.length
  · rw [List.getElem?_append_left (by simpa using hi), List.getElem?_map] at q
    cases e : ds[i]? with
    | none => rw [e] at q; cases q
    | some d' =>
      rw [e] at q
      cases q
      obtain ⟨v, a, b⟩ := r.get e
      refine ⟨v, ?_, b⟩
      unfold L2.start
      rw [List.getElem?_append_left (by rw [List.length_map, hl]; exact hi), List.getElem?_map, a]
      rfl
  · rw [List.getElem?_append_right (by simpa using hi), List.getElem?_replicate] at q
    split at q <;> cases q
end
theorem wipe_ext : ∀ {vs : List Nat} {σ σ' : L2.St}, σ.length = σ'.length → (∀ i, i ∉ vs → σ[i]? = σ'[i]?) → L2.wipe σ vs = L2.wipe σ' vs := fun {vs σ σ'} hl h => by
  apply List.ext_getElem?
  intro i
  by_cases hi : i ∈ vs
  · have key : ∀ (τ : L2.St) (us : List Nat), i ∈ us → (L2.wipe τ us)[i]? = if i < τ.length then some none else none := by
      intro τ us
      induction us with
      | nil => intro h; cases h
      | cons u us ih =>
        intro hm
        show ((L2.wipe τ us).set u none)[i]? = _
        by_cases hu : u = i
        · subst hu
          by_cases hl : u < τ.length
          · rw [List.getElem?_set_self (by rw [wipe_length]; exact hl), if_pos hl]
          · rw [if_neg hl, List.getElem?_eq_none (by rw [List.length_set, wipe_length]; omega)]
        · rw [List.getElem?_set_ne hu]
          rcases List.mem_cons.mp hm with e | e
          · exact absurd e.symm hu
          · exact ih e
    rw [key σ vs hi, key σ' vs hi, hl]
  · rw [wipe_out hi, wipe_out hi]
    exact h i hi
theorem wipe_wipe {vs : List Nat} {σ : L2.St} : L2.wipe (L2.wipe σ vs) vs = L2.wipe σ vs := wipe_ext (wipe_length σ vs) fun i hi => wipe_out hi
end G6
/-! Part A2: what a reading gives, over data alone. -/
namespace G6
open PySem PySem.Spec PyProof.Rows L2
def EV (K : PySem.W.Frag) (te : TE) (ρ : Env6) (d : PyData) : Prop := ∀ (W : List Addr) (σ : L2.St) (H : Hp), OkW W H → EnvD K (hide W H) σ ρ → ∀ Q : VK, (∀ v H2, Same H H2 → Dv K (hide W H2) v d → Q v H2) → te σ H Q
def ET (K : PySem.W.Frag) (tt : TT) (ρ : Env6) (b : Bool) : Prop := ∀ (W : List Addr) (σ : L2.St) (H : Hp), OkW W H → EnvD K (hide W H) σ ρ → ∀ Q : Bool → Hp → Prop, (∀ H2, Same H H2 → Q b H2) → tt σ H Q
def EA (K : PySem.W.Frag) (ta : TA) (ρ : Env6) (ds : List PyData) : Prop := ∀ (W : List Addr) (σ : L2.St) (H : Hp), OkW W H → EnvD K (hide W H) σ ρ → ∀ Q : List V → Hp → Prop, (∀ vs H2, Same H H2 → DvAll K (hide W H2) vs ds → Q vs H2) → ta σ H Q
def EO (K : PySem.W.Frag) (tt : TO) (ρ : Env6) (o : Option Int) : Prop := ∀ (W : List Addr) (σ : L2.St) (H : Hp), OkW W H → EnvD K (hide W H) σ ρ → ∀ Q : Option Int → Hp → Prop, (∀ H2, Same H H2 → Q o H2) → tt σ H Q
def R2V (K : PySem.W.Frag) (r : R2) (a b c : PyData) : Prop := ∀ (W : List Addr) (x y : V) (H : Hp), OkW W H → Dv K (hide W H) x a → Dv K (hide W H) y b → ∀ Q : VK, (∀ v H2, Same H H2 → Dv K (hide W H2) v c → Q v H2) → r x y H Q
def R1V (K : PySem.W.Frag) (r : V → Hp → VK → Prop) (a c : PyData) : Prop := ∀ (W : List Addr) (x : V) (H : Hp), OkW W H → Dv K (hide W H) x a → ∀ Q : VK, (∀ v H2, Same H H2 → Dv K (hide W H2) v c → Q v H2) → r x H Q
def RCV (K : PySem.W.Frag) (r : List V → Hp → VK → Prop) (ds : List PyData) (c : PyData) : Prop := ∀ (W : List Addr) (vs : List V) (H : Hp), OkW W H → DvAll K (hide W H) vs ds → ∀ Q : VK, (∀ v H2, Same H H2 → Dv K (hide W H2) v c → Q v H2) → r vs H Q
def RMV (K : PySem.W.Frag) (r : V → List V → Hp → VK → Prop) (d : PyData) (ds : List PyData) (c : PyData) : Prop := ∀ (W : List Addr) (x : V) (vs : List V) (H : Hp), OkW W H → Dv K (hide W H) x d → DvAll K (hide W H) vs ds → ∀ Q : VK, (∀ v H2, Same H H2 → Dv K (hide W H2) v c → Q v H2) → r x vs H Q
section
variable {K : PySem.W.Frag} {ρ ρ' : Env6} {ta tb tc te : TE} {t u : TT} {a b c d : PyData}

theorem EV.le (h : EV K te ρ' d) (l : leE ρ ρ') : EV K te ρ d := fun W σ H o E Q q => h W σ H o (E.le l) Q q
theorem EV.is (h : EV K te ρ d) {d' : PyData} (e : d = d') : EV K te ρ d' := e ▸ h
theorem ET.is {x y : Bool} (h : ET K t ρ x) (e : x = y) : ET K t ρ y := e ▸ h

/-! ### names, constants -/
theorem ev_var {i : Nat} (h : ρ[i]? = some (some d)) : EV K (tVar i) ρ d := fun W σ H o E Q q => by
  obtain ⟨v, h1, h2⟩ := E.2 i d h
  exact ⟨v, h1, q v H (Same.refl H) h2⟩
theorem ev_con {v : V} (h : ∀ H, Dv K H v d) : EV K (tC v) ρ d := fun W σ H o E Q q => q v H (Same.refl H) (h _)
theorem ev_int {i : Int} : EV K (tC (.int i)) ρ (.int i) := ev_con fun _ => .int i
theorem ev_str {i : Str} : EV K (tC (.str i)) ρ (.str i) := ev_con fun _ => .str i
theorem ev_bl {i : Bool} : EV K (tC (.bl i)) ρ (.bool i) := ev_con fun _ => .bl i
theorem ev_non : EV K (tC .non) ρ .none := ev_con fun _ => .non

/-! ### operators -/
theorem ev_op {r : R2} (ha : EV K ta ρ a) (hb : EV K tb ρ b) (hr : R2V K r a b c) : EV K (tOp r ta tb) ρ c := fun W σ H o E Q q =>
  ha W σ H o E _ fun x H1 s1 x1 => hb W σ H1 (o.same s1) (E.same (hide_same s1)) _ fun y H2 s2 y2 =>
    hr W x y H2 (o.same (s1.trans s2)) (x1.same (hide_same s2)) y2 Q fun v H3 s3 v3 => q v H3 (s1.trans (s2.trans s3)) v3
theorem ev_un {r : V → Hp → VK → Prop} (ha : EV K ta ρ a) (hr : R1V K r a c) : EV K (tUn r ta) ρ c := fun W σ H o E Q q =>
  ha W σ H o E _ fun x H1 s1 x1 => hr W x H1 (o.same s1) x1 Q fun v H3 s3 v3 => q v H3 (s1.trans s3) v3
theorem ev_then {k : V → Hp → VK → Prop} (ha : EV K ta ρ a) (hr : R1V K k a c) : EV K (tThen ta k) ρ c := fun W σ H o E Q q =>
  ha W σ H o E _ fun x H1 s1 x1 => hr W x H1 (o.same s1) x1 Q fun v H3 s3 v3 => q v H3 (s1.trans s3) v3
theorem r2_I0 {g : Int → Int → V} {i j : Int} (h : ∀ H, Dv K H (g i j) c) : R2V K (rI0 g) (.int i) (.int j) c := fun W x y H o hx hy Q q => by
  exact ⟨i, j, hx.int_iff, hy.int_iff, q _ H (Same.refl H) (h _)⟩
theorem r2_I {C : Int → Int → Prop} {g : Int → Int → V} {i j : Int} (hc : C i j) (h : ∀ H, Dv K H (g i j) c) : R2V K (rI C g) (.int i) (.int j) c := fun W x y H o hx hy Q q => by
  exact ⟨i, j, hx.int_iff, hy.int_iff, hc, q _ H (Same.refl H) (h _)⟩
theorem r2_add {i j : Int} : R2V K (rI0 fun i j => .int (i + j)) (.int i) (.int j) (.int (i + j)) := r2_I0 fun _ => .int _
theorem r2_sub {i j : Int} : R2V K (rI0 fun i j => .int (i - j)) (.int i) (.int j) (.int (i - j)) := r2_I0 fun _ => .int _
theorem r2_or {i j : Int} : R2V K (rI0 fun i j => .int (Builtin.bitOr i j)) (.int i) (.int j) (.int (Builtin.bitOr i j)) := r2_I0 fun _ => .int _
theorem r2_lt {i j : Int} : R2V K (rI0 fun i j => .bl (decide (i < j))) (.int i) (.int j) (.bool (decide (i < j))) := r2_I0 fun _ => .bl _
theorem r2_le {i j : Int} : R2V K (rI0 fun i j => .bl (decide (i ≤ j))) (.int i) (.int j) (.bool (decide (i ≤ j))) := r2_I0 fun _ => .bl _
theorem r2_gt {i j : Int} : R2V K (rI0 fun i j => .bl (decide (j < i))) (.int i) (.int j) (.bool (decide (j < i))) := r2_I0 fun _ => .bl _
theorem r2_ge {i j : Int} : R2V K (rI0 fun i j => .bl (decide (j ≤ i))) (.int i) (.int j) (.bool (decide (j ≤ i))) := r2_I0 fun _ => .bl _
theorem r2_mul {i j : Int} (h : CMul i j) : R2V K (rI CMul fun i j => .int (i * j)) (.int i) (.int j) (.int (i * j)) := r2_I h fun _ => .int _
theorem r2_mod {i j : Int} (h : 0 < j) : R2V K (rI (fun _ j => 0 < j) fun i j => .int (i % j)) (.int i) (.int j) (.int (i % j)) := r2_I h fun _ => .int _
theorem r2_fdiv {i j : Int} (h : CDiv i j) : R2V K (rI CDiv fun i j => .int (i / j)) (.int i) (.int j) (.int (i / j)) := r2_I h fun _ => .int _
theorem r2_eqI {i j : Int} : R2V K rEq (.int i) (.int j) (.bool (decide (i = j))) := fun W x y H o hx hy Q q => by
  have ex := hx.int_iff
  have ey := hy.int_iff
  subst ex ey
  refine ⟨rfl, q _ H (Same.refl H) ?_⟩
  have e : decide (V.int i = V.int j) = decide (i = j) := by
    by_cases h : i = j
    · rw [h, decide_eq_true rfl, decide_eq_true rfl]
    · rw [decide_eq_false h, decide_eq_false (fun z => h (V.int.inj z))]
  rw [e]
  exact .bl _
theorem r2_neI {i j : Int} : R2V K rNe (.int i) (.int j) (.bool (!decide (i = j))) := fun W x y H o hx hy Q q => by
  have ex := hx.int_iff
  have ey := hy.int_iff
  subst ex ey
  refine ⟨rfl, q _ H (Same.refl H) ?_⟩
  have e : decide (V.int i = V.int j) = decide (i = j) := by
    by_cases h : i = j
    · rw [h, decide_eq_true rfl, decide_eq_true rfl]
    · rw [decide_eq_false h, decide_eq_false (fun z => h (V.int.inj z))]
  rw [e]
  exact .bl _
theorem r2_eqS {i j : Str} : R2V K rEq (.str i) (.str j) (.bool (decide (i = j))) := fun W x y H o hx hy Q q => by
  have ex := hx.str_iff
  have ey := hy.str_iff
  subst ex ey
  refine ⟨rfl, q _ H (Same.refl H) ?_⟩
  have e : decide (V.str i = V.str j) = decide (i = j) := by
    by_cases h : i = j
    · rw [h, decide_eq_true rfl, decide_eq_true rfl]
    · rw [decide_eq_false h, decide_eq_false (fun z => h (V.str.inj z))]
  rw [e]
  exact .bl _
/-- is not None, of None -/
theorem r2_notN_non : R2V K (fun x y H Q => y = .non ∧ Q (.bl (!decide (x = .non))) H) .none .none (.bool false) := fun W x y H o hx hy Q q => by
  have ex := hx.non_iff
  have ey := hy.non_iff
  subst ex ey
  exact ⟨rfl, q _ H (Same.refl H) (.bl false)⟩
theorem atI_dv {h : Hp} {vs : List V} {ds : List PyData} {i : Int} (r : DvAll K h vs ds) (e : atI ds i = some d) : ∃ v, atI vs i = some v ∧ Dv K h v d := by
  unfold atI at e ⊢
  rw [r.length]
  cases q : ixN ds.length i with
  | none => rw [q] at e; cases e
  | some j =>
    rw [q] at e
    exact r.get (i := j) e
theorem r2_ixT {ds : List PyData} {i : Int} (e : atI ds i = some d) : R2V K (rIx K) (.tuple ds) (.int i) d := fun W x y H o hx hy Q q => by
  obtain ⟨a, xs, rfl, h1, h2⟩ := hx.tup_iff
  have ey := hy.int_iff
  subst ey
  obtain ⟨v, h3, h4⟩ := atI_dv h2 e
  exact .inr (.inl ⟨a, xs, i, v, rfl, rfl, same_sqT hide_le h1, h3, q v H (Same.refl H) h4⟩)
theorem r2_ixL {ds : List PyData} {i : Int} (e : atI ds i = some d) : R2V K (rIx K) (.list ds) (.int i) d := fun W x y H o hx hy Q q => by
  obtain ⟨a, xs, rfl, h1, h2⟩ := hx.lst_iff
  have ey := hy.int_iff
  subst ey
  obtain ⟨v, h3, h4⟩ := atI_dv h2 e
  exact .inl ⟨a, xs, i, v, rfl, rfl, SqL.of (hide_le _ _ h1), h3, q v H (Same.refl H) h4⟩
theorem flat_ints (ns : List Int) : (ns.map V.int).all flatV = true := by
  rw [List.all_map]
  exact List.all_eq_true.mpr fun _ _ => rfl
theorem in_ints (i : Int) (ns : List Int) : inV (.int i) (ns.map V.int) = decide (i ∈ ns) := by
  unfold inV
  rw [List.any_map]
  by_cases h : i ∈ ns
  · rw [decide_eq_true h]
    exact List.any_eq_true.mpr ⟨i, h, by show (i == i) = true; simp⟩
  · rw [decide_eq_false h]
    refine List.any_eq_false.mpr fun j hj => ?_
    show ¬ (j == i) = true
    intro z
    have e : j = i := by simpa using z
    exact h (e ▸ hj)
theorem seq_ints {W : List Addr} {H : Hp} {y : V} {ns : List Int} (hy : Dv K (hide W H) y (.list (ns.map .int)) ∨ Dv K (hide W H) y (.tuple (ns.map .int))) : ∃ p, y = .ref p ∧ (SqL K H p (ns.map V.int) ∨ SqT K H p (ns.map V.int)) := by
  rcases hy with hy | hy
  · obtain ⟨a, xs, rfl, h1, h2⟩ := hy.lst_iff
    rw [h2.ints] at h1
    exact ⟨a, rfl, .inl (SqL.of (hide_le _ _ h1))⟩
  · obtain ⟨a, xs, rfl, h1, h2⟩ := hy.tup_iff
    rw [h2.ints] at h1
    exact ⟨a, rfl, .inr (same_sqT hide_le h1)⟩
theorem r2_inL {i : Int} {ns : List Int} : R2V K (rIn K false) (.int i) (.list (ns.map .int)) (.bool (decide (i ∈ ns))) := fun W x y H o hx hy Q q => by
  obtain ⟨p, rfl, hp⟩ := seq_ints (.inl hy)
  have ex := hx.int_iff
  subst ex
  refine ⟨p, _, rfl, hp, rfl, flat_ints ns, ?_⟩
  rw [in_ints]
  exact q _ H (Same.refl H) (.bl _)
theorem r2_inT {i : Int} {ns : List Int} : R2V K (rIn K false) (.int i) (.tuple (ns.map .int)) (.bool (decide (i ∈ ns))) := fun W x y H o hx hy Q q => by
  obtain ⟨p, rfl, hp⟩ := seq_ints (.inr hy)
  have ex := hx.int_iff
  subst ex
  refine ⟨p, _, rfl, hp, rfl, flat_ints ns, ?_⟩
  rw [in_ints]
  exact q _ H (Same.refl H) (.bl _)
theorem r2_niL {i : Int} {ns : List Int} : R2V K (rIn K true) (.int i) (.list (ns.map .int)) (.bool (!decide (i ∈ ns))) := fun W x y H o hx hy Q q => by
  obtain ⟨p, rfl, hp⟩ := seq_ints (.inl hy)
  have ex := hx.int_iff
  subst ex
  refine ⟨p, _, rfl, hp, rfl, flat_ints ns, ?_⟩
  rw [in_ints]
  exact q _ H (Same.refl H) (.bl _)
theorem r2_inD {d : PyData} {ds : List PyData} (h1 : SeqAt.shaped d = true) (h2 : SeqAt.shaped (.list ds) = true) : R2V K (rInD K) d (.list ds) (.bool (ds.any fun z => PyData.eqv z d)) := fun W x y H o hx hy Q q =>
  ⟨d, ds, (hx.same hide_le).dp (SeqAt.canLay_of_shaped h1), (hy.same hide_le).dp (SeqAt.canLay_of_shaped h2), h1, h2, q _ H (Same.refl H) (.bl _)⟩
theorem r2_eqD {d e : PyData} (h1 : SeqAt.shaped d = true) (h2 : SeqAt.shaped e = true) : R2V K (rEqD K) d e (.bool (PyData.eqv d e)) := fun W x y H o hx hy Q q =>
  ⟨d, e, (hx.same hide_le).dp (SeqAt.canLay_of_shaped h1), (hy.same hide_le).dp (SeqAt.canLay_of_shaped h2), h1, h2, q _ H (Same.refl H) (.bl _)⟩
theorem r2_neD {d e : PyData} (h1 : SeqAt.shaped d = true) (h2 : SeqAt.shaped e = true) : R2V K (rNeD K) d e (.bool (!PyData.eqv d e)) := fun W x y H o hx hy Q q =>
  ⟨d, e, (hx.same hide_le).dp (SeqAt.canLay_of_shaped h1), (hy.same hide_le).dp (SeqAt.canLay_of_shaped h2), h1, h2, q _ H (Same.refl H) (.bl _)⟩
theorem r2_catT {ds es : List PyData} (h : ds.length + es.length ≤ sizeLine) : R2V K (rCatA K) (.tuple ds) (.tuple es) (.tuple (ds ++ es)) := fun W x y H o hx hy Q q => by
  obtain ⟨a, xs, rfl, h1, h2⟩ := hx.tup_iff
  obtain ⟨b, ys, rfl, h3, h4⟩ := hy.tup_iff
  have l1 := h2.length
  have l2 := h4.length
  refine ⟨a, b, xs, ys, rfl, rfl, same_sqT hide_le h1, same_sqT hide_le h3, by omega, fun e => ?_, fun e1 e2 => ?_, fun e1 e2 p hp => ?_⟩
  · subst e
    cases h2
    exact q _ H (Same.refl H) hy
  · subst e2
    cases h4
    rw [List.append_nil] at q
    exact q _ H (Same.refl H) hx
  · have s := same_new (o := .tup (xs ++ ys)) hp
    exact q _ _ s (.tup (SqT.of (hide_new o hp)) ((h2.append h4).same (hide_same s)))
theorem r2_catL {ds es : List PyData} (h : ds.length + es.length ≤ sizeLine) : R2V K rCat (.list ds) (.list es) (.list (ds ++ es)) := fun W x y H o hx hy Q q => by
  obtain ⟨a, xs, rfl, h1, h2⟩ := hx.lst_iff
  obtain ⟨b, ys, rfl, h3, h4⟩ := hy.lst_iff
  have l1 := h2.length
  have l2 := h4.length
  refine ⟨a, b, xs, ys, rfl, rfl, hide_le _ _ h1, hide_le _ _ h3, by omega, fun p hp => ?_⟩
  have s := same_new (o := .lst (xs ++ ys)) hp
  exact q _ _ s (.lst (hide_new o hp) ((h2.append h4).same (hide_same s)))
theorem r2_repL {ds : List PyData} {k : Int} (h0 : 0 ≤ k ∧ k ≤ 1000) (h : ds.length ≤ 1000) : R2V K rRep (.list ds) (.int k) (.list (List.replicate k.toNat ds).flatten) := fun W x y H o hx hy Q q => by
  obtain ⟨a, xs, rfl, h1, h2⟩ := hx.lst_iff
  have ey := hy.int_iff
  subst ey
  have l1 := h2.length
  have lm : xs.length * k.toNat ≤ 1000 * 1000 := Nat.mul_le_mul (by omega) (by omega)
  refine ⟨a, k, xs, rfl, rfl, hide_le _ _ h1, by omega, by omega, Nat.le_trans lm (by decide), fun p hp => ?_⟩
  have s := same_new (o := .lst (List.replicate k.toNat xs).flatten) hp
  exact q _ _ s (.lst (hide_new o hp) ((DvAll.rep k.toNat h2).same (hide_same s)))
theorem r2_repT {ds : List PyData} {k : Int} (h0 : 2 ≤ k ∧ k ≤ 1000) (h : ds.length ≤ 1000) (hn : ds ≠ []) : R2V K (rRepT K) (.tuple ds) (.int k) (.tuple (List.replicate k.toNat ds).flatten) := fun W x y H o hx hy Q q => by
  obtain ⟨a, xs, rfl, h1, h2⟩ := hx.tup_iff
  have ey := hy.int_iff
  subst ey
  have l1 := h2.length
  refine ⟨a, k, xs, rfl, rfl, same_sqT hide_le h1, fun e => ?_, h0.1, h0.2, by omega, fun p hp => ?_⟩
  · subst e
    cases h2
    exact hn rfl
  have s := same_new (o := .tup (List.replicate k.toNat xs).flatten) hp
  exact q _ _ s (.tup (SqT.of (hide_new o hp)) ((DvAll.rep k.toNat h2).same (hide_same s)))

/-! ### tests -/
theorem et_test {x : Bool} (h : EV K te ρ (.bool x)) : ET K (tTest te) ρ x := fun W σ H o E Q q => h W σ H o E _ fun v H1 s1 v1 => ⟨x, v1.bl_iff, q H1 s1⟩
theorem et_B {x : Bool} (h : EV K te ρ (.bool x)) : ET K (tB te) ρ x := fun W σ H o E Q q => h W σ H o E _ fun v H1 s1 v1 => ⟨x, v1.bl_iff, q H1 s1⟩
theorem et_and {x y : Bool} (h1 : ET K t ρ x) (h2 : x = true → ET K u ρ y) : ET K (tAnd t u) ρ (x && y) := fun W σ H o E Q q => h1 W σ H o E _ fun H1 s1 => by
  cases x with
  | true =>
    show u σ H1 Q
    exact h2 rfl W σ H1 (o.same s1) (E.same (hide_same s1)) Q fun H2 s2 => q H2 (s1.trans s2)
  | false =>
    show Q false H1
    exact q H1 s1
theorem et_or {x y : Bool} (h1 : ET K t ρ x) (h2 : x = false → ET K u ρ y) : ET K (tOr t u) ρ (x || y) := fun W σ H o E Q q => h1 W σ H o E _ fun H1 s1 => by
  cases x with
  | true =>
    show Q true H1
    exact q H1 s1
  | false =>
    show u σ H1 Q
    exact h2 rfl W σ H1 (o.same s1) (E.same (hide_same s1)) Q fun H2 s2 => q H2 (s1.trans s2)
theorem et_not {x : Bool} (h1 : ET K t ρ x) : ET K (tNot t) ρ (!x) := fun W σ H o E Q q => h1 W σ H o E _ fun H1 s1 => q H1 s1
theorem et_yes : ET K tYes ρ true := fun W σ H o E Q q => q H (Same.refl H)
theorem ev_andV {x y : Bool} (h1 : EV K ta ρ (.bool x)) (h2 : x = true → EV K tb ρ (.bool y)) : EV K (tAndV ta tb) ρ (.bool (x && y)) := fun W σ H o E Q q => h1 W σ H o E _ fun v H1 s1 v1 => ⟨x, v1.bl_iff, by
  cases x with
  | true =>
    show tb σ H1 Q
    exact h2 rfl W σ H1 (o.same s1) (E.same (hide_same s1)) Q fun v H2 s2 v2 => q v H2 (s1.trans s2) v2
  | false =>
    show Q (.bl false) H1
    exact q _ H1 s1 (.bl _)⟩
theorem ev_orV {x y : Bool} (h1 : EV K ta ρ (.bool x)) (h2 : x = false → EV K tb ρ (.bool y)) : EV K (tOrV ta tb) ρ (.bool (x || y)) := fun W σ H o E Q q => h1 W σ H o E _ fun v H1 s1 v1 => ⟨x, v1.bl_iff, by
  cases x with
  | true =>
    show Q (.bl true) H1
    exact q _ H1 s1 (.bl _)
  | false =>
    show tb σ H1 Q
    exact h2 rfl W σ H1 (o.same s1) (E.same (hide_same s1)) Q fun v H2 s2 v2 => q v H2 (s1.trans s2) v2⟩
theorem ev_notV {x : Bool} (h1 : EV K ta ρ (.bool x)) : EV K (tNotV ta) ρ (.bool (!x)) := fun W σ H o E Q q => h1 W σ H o E _ fun v H1 s1 v1 => ⟨x, v1.bl_iff, q _ H1 s1 (.bl _)⟩
theorem ev_if {x : Bool} (h : ET K t ρ x) (h1 : x = true → EV K ta ρ d) (h2 : x = false → EV K tb ρ d) : EV K (tIf t ta tb) ρ d := fun W σ H o E Q q => h W σ H o E _ fun H1 s1 => by
  cases x with
  | true =>
    show ta σ H1 Q
    exact h1 rfl W σ H1 (o.same s1) (E.same (hide_same s1)) Q fun v H2 s2 v2 => q v H2 (s1.trans s2) v2
  | false =>
    show tb σ H1 Q
    exact h2 rfl W σ H1 (o.same s1) (E.same (hide_same s1)) Q fun v H2 s2 v2 => q v H2 (s1.trans s2) v2
theorem ev_chain {r r' : R2} {x y : Bool} (ha : EV K ta ρ a) (hb : EV K tb ρ b) (hr : R2V K r a b (.bool x)) (hc : x = true → EV K tc ρ c) (hr' : x = true → R2V K r' b c (.bool y)) : EV K (tChain r r' ta tb tc) ρ (.bool (x && y)) := fun W σ H o E Q q =>
  ha W σ H o E _ fun va H1 s1 a1 => hb W σ H1 (o.same s1) (E.same (hide_same s1)) _ fun vb H2 s2 b2 => hr W va vb H2 (o.same (s1.trans s2)) (a1.same (hide_same s2)) b2 _ fun z H3 s3 z3 => ⟨x, z3.bl_iff, by
    have s13 := s1.trans (s2.trans s3)
    cases x with
    | true =>
      show tc σ H3 fun w' H4 => r' vb w' H4 Q
      exact hc rfl W σ H3 (o.same s13) (E.same (hide_same s13)) _ fun vc H4 s4 c4 => hr' rfl W vb vc H4 (o.same (s13.trans s4)) (b2.same (hide_same (s3.trans s4))) c4 Q fun v H5 s5 v5 => q v H5 (s13.trans (s4.trans s5)) v5
    | false =>
      show Q (.bl false) H3
      exact q _ H3 s13 (.bl _)⟩

/-! ### argument lists, displays -/
theorem ea_nil : EA K tNil ρ [] := fun W σ H o E Q q => q [] H (Same.refl H) .nil
theorem ea_cons {tr : TA} {ds : List PyData} (h : EV K ta ρ a) (hr : EA K tr ρ ds) : EA K (tCons ta tr) ρ (a :: ds) := fun W σ H o E Q q =>
  h W σ H o E _ fun v H1 s1 v1 => hr W σ H1 (o.same s1) (E.same (hide_same s1)) _ fun vs H2 s2 r2 => q (v :: vs) H2 (s1.trans s2) (.cons (v1.same (hide_same s2)) r2)
theorem ev_tup {tr : TA} {ds : List PyData} (h : EA K tr ρ ds) (hl : ds.length ≤ sizeLine) : EV K (tTup tr) ρ (.tuple ds) := fun W σ H o E Q q =>
  h W σ H o E _ fun vs H1 s1 r1 => ⟨by rw [r1.length]; exact hl, fun p hp => by
    have s := same_new (o := .tup vs) hp
    exact q _ _ (s1.trans s) (.tup (SqT.of (hide_new (o.same s1) hp)) (r1.same (hide_same s)))⟩
theorem ev_lst {tr : TA} {ds : List PyData} (h : EA K tr ρ ds) (hl : ds.length ≤ sizeLine) : EV K (tLst tr) ρ (.list ds) := fun W σ H o E Q q =>
  h W σ H o E _ fun vs H1 s1 r1 => ⟨by rw [r1.length]; exact hl, fun p hp => by
    have s := same_new (o := .lst vs) hp
    exact q _ _ (s1.trans s) (.lst (hide_new (o.same s1) hp) (r1.same (hide_same s)))⟩

/-! ### calls -/
theorem ev_CB {r : List V → Hp → VK → Prop} {tr : TA} {ds : List PyData} (h : EA K tr ρ ds) (hr : RCV K r ds d) : EV K (tCB r tr) ρ d := fun W σ H o E Q q =>
  h W σ H o E _ fun vs H1 s1 r1 => hr W vs H1 (o.same s1) r1 Q fun v H2 s2 v2 => q v H2 (s1.trans s2) v2
/-- a def's promise: from data to a datum, by R; what is hidden stays -/
def PSp (K : PySem.W.Frag) (R : List PyData → PyData → Prop) : Sp := fun vs H Q _ => ∃ (W : List Addr) (ds : List PyData) (d : PyData), OkW W H ∧ DvAll K (hide W H) vs ds ∧ R ds d ∧ ∀ v H2, Same H H2 → Dv K (hide W H2) v d → Q v H2
theorem ev_call {R : List PyData → PyData → Prop} {E0' : XK} {tr : TA} {ds : List PyData} (h : EA K tr ρ ds) (hr : R ds d) : EV K (tCall (PSp K R) [] E0' tr) ρ d := fun W σ H o E Q q =>
  h W σ H o E _ fun vs H1 s1 r1 => ⟨W, ds, d, o.same s1, by rw [List.append_nil]; exact r1, hr, fun v H2 s2 v2 => q v H2 (s1.trans s2) v2⟩
def rLenS (K : PySem.W.Frag) : List V → Hp → VK → Prop := fun xs H Q => ∃ p ys, xs = [.ref p] ∧ (SqL K H p ys ∨ SqT K H p ys) ∧ Q (.int ys.length) H
theorem rc_lenT {ds : List PyData} : RCV K (fun xs H Q => ∃ p ys, xs = [.ref p] ∧ (SqL K H p ys ∨ SqT K H p ys) ∧ Q (.int ys.length) H) [.tuple ds] (.int (ds.length : Int)) := fun W vs H o r Q q => by
  cases r with
  | cons h1 h2 =>
    cases h2
    obtain ⟨a, xs, rfl, h3, h4⟩ := h1.tup_iff
    refine ⟨a, xs, rfl, .inr (same_sqT hide_le h3), ?_⟩
    rw [h4.length]
    exact q _ H (Same.refl H) (.int _)
theorem rc_lenL {ds : List PyData} : RCV K (fun xs H Q => ∃ p ys, xs = [.ref p] ∧ (SqL K H p ys ∨ SqT K H p ys) ∧ Q (.int ys.length) H) [.list ds] (.int (ds.length : Int)) := fun W vs H o r Q q => by
  cases r with
  | cons h1 h2 =>
    cases h2
    obtain ⟨a, xs, rfl, h3, h4⟩ := h1.lst_iff
    refine ⟨a, xs, rfl, .inl (SqL.of (hide_le _ _ h3)), ?_⟩
    rw [h4.length]
    exact q _ H (Same.refl H) (.int _)
theorem rc_tupL {ds : List PyData} : RCV K (fun xs H Q => ∃ p ys, xs = [.ref p] ∧ ((SqL K H p ys ∧ ∀ l, H l = none → Q (.ref l) (upd H l (.tup ys))) ∨ (SqT K H p ys ∧ Q (.ref p) H))) [.list ds] (.tuple ds) := fun W vs H o r Q q => by
  cases r with
  | cons h1 h2 =>
    cases h2
    obtain ⟨a, xs, rfl, h3, h4⟩ := h1.lst_iff
    refine ⟨a, xs, rfl, .inl ⟨SqL.of (hide_le _ _ h3), fun p hp => ?_⟩⟩
    have s := same_new (o := .tup xs) hp
    exact q _ _ s (.tup (SqT.of (hide_new o hp)) (h4.same (hide_same s)))
theorem rc_max {ns : List Int} {m : Int} (hm : m ∈ ns) (hx : ∀ y, y ∈ ns → y ≤ m) : RCV K (rMax K) [.list (ns.map .int)] (.int m) := fun W vs H o r Q q => by
  cases r with
  | cons h1 h2 =>
    cases h2
    obtain ⟨a, xs, rfl, h3, h4⟩ := h1.lst_iff
    rw [h4.ints] at h3
    refine ⟨a, ns, rfl, SqL.of (hide_le _ _ h3), List.length_pos_of_mem hm, fun k hk hle => ?_⟩
    have e : k = m := Int.le_antisymm (hx k hk) (hle m hm)
    rw [e]
    exact q _ H (Same.refl H) (.int _)
theorem rc_any {bs : List Bool} : RCV K (rAny K) [.list (bs.map .bool)] (.bool (bs.any id)) := fun W vs H o r Q q => by
  cases r with
  | cons h1 h2 =>
    cases h2
    obtain ⟨a, xs, rfl, h3, h4⟩ := h1.lst_iff
    rw [h4.bools] at h3
    exact ⟨a, bs, rfl, SqL.of (hide_le _ _ h3), q _ H (Same.refl H) (.bl _)⟩
theorem rc_all {bs : List Bool} : RCV K (rAll K) [.list (bs.map .bool)] (.bool (bs.all id)) := fun W vs H o r Q q => by
  cases r with
  | cons h1 h2 =>
    cases h2
    obtain ⟨a, xs, rfl, h3, h4⟩ := h1.lst_iff
    rw [h4.bools] at h3
    exact ⟨a, bs, rfl, SqL.of (hide_le _ _ h3), q _ H (Same.refl H) (.bl _)⟩
theorem rc_max2 {i j : Int} : RCV K (fun xs H Q => ∃ i j, xs = [.int i, .int j] ∧ Q (.int (if j > i then j else i)) H) [.int i, .int j] (.int (if j > i then j else i)) := fun W vs H o r Q q => by
  cases r with
  | cons h1 h2 =>
    cases h2 with
    | cons h3 h4 =>
      cases h4
      exact ⟨i, j, by rw [h1.int_iff, h3.int_iff], q _ H (Same.refl H) (.int _)⟩
theorem rc_min2 {i j : Int} : RCV K (fun xs H Q => ∃ i j, xs = [.int i, .int j] ∧ Q (.int (if j < i then j else i)) H) [.int i, .int j] (.int (if j < i then j else i)) := fun W vs H o r Q q => by
  cases r with
  | cons h1 h2 =>
    cases h2 with
    | cons h3 h4 =>
      cases h4
      exact ⟨i, j, by rw [h1.int_iff, h3.int_iff], q _ H (Same.refl H) (.int _)⟩
theorem rc_int1 {i : Int} : RCV K (fun xs H Q => (∃ i, xs = [.int i] ∧ Q (.int i) H) ∨ ∃ k, xs = [.bl k] ∧ Q (.int (if k then 1 else 0)) H) [.int i] (.int i) := fun W vs H o r Q q => by
  cases r with
  | cons h1 h2 =>
    cases h2
    exact .inl ⟨i, by rw [h1.int_iff], q _ H (Same.refl H) (.int _)⟩
/-- sorted, of ints: the one ascending list with the same items -/
theorem rc_sorted {ns ms : List Int} (hp : ms.Perm ns) (hs : ms.Pairwise (· ≤ ·)) : RCV K (rSortedI K) [.list (ns.map .int)] (.list (ms.map .int)) := fun W vs H o r Q q => by
  cases r with
  | cons h1 h2 =>
    cases h2
    obtain ⟨a, xs, rfl, h3, h4⟩ := h1.lst_iff
    rw [h4.ints] at h3
    refine ⟨a, ns, rfl, SqL.of (hide_le _ _ h3), fun ns' p hp' hs' hn => ?_⟩
    have e : ns' = ms := List.Perm.eq_of_pairwise (fun a b _ _ h1 h2 => Int.le_antisymm h1 h2) hs' hs (hp'.trans hp.symm)
    subst e
    have s := same_new (o := .lst (ns'.map V.int)) hn
    exact q _ _ s (.lst (hide_new o hn) (DvAll.of_ints ns'))
/-! ### isinstance -/
theorem tyX_int {h : Hp} {i : Int} : TyX K h (.int i) (.type "int") := .base (.int i)
theorem tyX_tup {h : Hp} {a : Addr} {xs : List V} (s : SqT K h a xs) : TyX K h (.ref a) (.type "tuple") := by
  rcases s with (s | ⟨o, s⟩) | ⟨o, its, n, e, c, _⟩
  · exact .base (.tup s)
  · exact .fTuple s
  · exact .kTuple e c
theorem rc_isiT {T : String} {r : Bool} {ds : List PyData} (h : kitB "tuple" T = some r) : ∀ (W : List Addr) (v : V) (H : Hp), Dv K (hide W H) v (.tuple ds) → ∀ Q : VK, Q (.bl r) H → rIsi K [v, .ty T] H Q := fun W v H hv Q q => by
  obtain ⟨a, xs, rfl, h1, h2⟩ := hv.tup_iff
  exact ⟨.ref a, .ty T, _, _, r, rfl, .ty T, tyX_tup (same_sqT hide_le h1), kit_ty h, q⟩
theorem rc_isiI {T : String} {r : Bool} {i : Int} (h : kitB "int" T = some r) : ∀ (W : List Addr) (v : V) (H : Hp), Dv K (hide W H) v (.int i) → ∀ Q : VK, Q (.bl r) H → rIsi K [v, .ty T] H Q := fun W v H hv Q q => by
  have e := hv.int_iff
  subst e
  exact ⟨.int i, .ty T, _, _, r, rfl, .ty T, tyX_int, kit_ty h, q⟩
theorem ev_isiT {T : String} {r : Bool} {ds : List PyData} (ha : EV K ta ρ (.tuple ds)) (h : kitB "tuple" T = some r) : EV K (tCB (rIsi K) (tCons ta (tCons (tC (.ty T)) tNil))) ρ (.bool r) := fun W σ H o E Q q =>
  ha W σ H o E _ fun v H1 s1 v1 => rc_isiT h W v H1 v1 Q (q _ H1 s1 (.bl _))
theorem ev_isiI {T : String} {r : Bool} {i : Int} (ha : EV K ta ρ (.int i)) (h : kitB "int" T = some r) : EV K (tCB (rIsi K) (tCons ta (tCons (tC (.ty T)) tNil))) ρ (.bool r) := fun W σ H o E Q q =>
  ha W σ H o E _ fun v H1 s1 v1 => rc_isiI h W v H1 v1 Q (q _ H1 s1 (.bl _))
/-! ### slices, list.index, list(range(..)) -/
theorem eo_none : EO K tNoPart ρ none := fun W σ H o E Q q => q H (Same.refl H)
theorem eo_some {i : Int} (h : EV K te ρ (.int i)) : EO K (tPart te) ρ (some i) := fun W σ H o E Q q => h W σ H o E _ fun v H1 s1 v1 => ⟨i, v1.int_iff, q H1 s1⟩
def cutD (xs : List PyData) (lo hi : Option Int) : List PyData := (xs.drop (HT.sIx xs.length 0 lo)).take (HT.sIx xs.length xs.length hi - HT.sIx xs.length 0 lo)
theorem DvAll.cut {h : Hp} {vs : List V} {ds : List PyData} (r : DvAll K h vs ds) (lo hi : Option Int) : DvAll K h (cutV vs lo hi) (cutD ds lo hi) := by
  unfold cutV cutD
  rw [r.length]
  exact (r.drop _).take _
theorem ev_sliceT {tl th : TO} {ds : List PyData} {lo hi : Option Int} (h : EV K te ρ (.tuple ds)) (h1 : EO K tl ρ lo) (h2 : EO K th ρ hi) : EV K (tSl (rSlA K) te tl th) ρ (.tuple (cutD ds lo hi)) := fun W σ H o E Q q =>
  h W σ H o E _ fun v H1 s1 v1 => h1 W σ H1 (o.same s1) (E.same (hide_same s1)) _ fun H2 s2 => h2 W σ H2 (o.same (s1.trans s2)) (E.same (hide_same (s1.trans s2))) _ fun H3 s3 => by
    obtain ⟨a, xs, rfl, h3, h4⟩ := (v1.same (hide_same (s2.trans s3))).tup_iff
    have s13 := s1.trans (s2.trans s3)
    refine ⟨a, xs, rfl, same_sqT hide_le h3, fun hw => ?_, fun hw p hp => ?_⟩
    · have e : cutD ds lo hi = ds := by
        unfold cutD
        rw [← h4.length, hw.1, hw.2, List.drop_zero, Nat.sub_zero, h4.length, List.take_length]
      rw [e] at q
      exact q _ H3 s13 (.tup h3 h4)
    · have s := same_new (o := .tup (cutV xs lo hi)) hp
      exact q _ _ (s13.trans s) (.tup (SqT.of (hide_new (o.same s13) hp)) ((h4.cut lo hi).same (hide_same s)))
theorem ev_BM {T : String} {r : V → List V → Hp → VK → Prop} {tr : TA} {ds : List PyData} (ha : EV K ta ρ a) (h : EA K tr ρ ds) (hty : ∀ (W : List Addr) (H : Hp) (v : V), Dv K (hide W H) v a → tyV K T v H) (hr : RMV K r a ds d) : EV K (tBM K T r ta tr) ρ d := fun W σ H o E Q q =>
  ha W σ H o E _ fun x H1 s1 x1 => ⟨hty W H1 x x1, h W σ H1 (o.same s1) (E.same (hide_same s1)) _ fun vs H2 s2 r2 => hr W x vs H2 (o.same (s1.trans s2)) (x1.same (hide_same s2)) r2 Q fun v H3 s3 v3 => q v H3 (s1.trans (s2.trans s3)) v3⟩
theorem ty_lst {ds : List PyData} (W : List Addr) (H : Hp) (v : V) (h : Dv K (hide W H) v (.list ds)) : tyV K "list" v H := by
  obtain ⟨a, xs, rfl, h3, h4⟩ := h.lst_iff
  exact .inl ⟨rfl, xs, SqL.of (hide_le _ _ h3)⟩
theorem rm_index {ns : List Int} {i : Int} {j : Nat} (h : ns[j]? = some i) (hno : ∀ m, m < j → ns[m]? ≠ some i) : RMV K (rIndex K) (.list (ns.map .int)) [.int i] (.int (j : Int)) := fun W x vs H o hx r Q q => by
  cases r with
  | cons h1 h2 =>
    cases h2
    obtain ⟨a, xs, rfl, h3, h4⟩ := hx.lst_iff
    rw [h4.ints] at h3
    refine ⟨a, ns.map V.int, .int i, j, .int i, rfl, by rw [h1.int_iff], SqL.of (hide_le _ _ h3), rfl, flat_ints ns, by rw [List.getElem?_map, h]; rfl, by show (i == i) = true; simp, fun m z hm hz => ?_, q _ H (Same.refl H) (.int _)⟩
    rw [List.getElem?_map] at hz
    cases e : ns[m]? with
    | none => rw [e] at hz; cases hz
    | some k =>
      rw [e] at hz
      have ez : V.int k = z := Option.some.inj hz
      subst ez
      show (k == i) = false
      refine beq_eq_false_iff_ne.mpr fun z => hno m hm ?_
      rw [e, z]
theorem rgV_dv {h : Hp} (n : Nat) : DvAll K h (rgV 0 (n : Int)) ((List.range n).map fun (i : Nat) => PyData.int (i : Int)) := by
  have e : rgV 0 (n : Int) = ((List.range n).map fun (i : Nat) => (i : Int)).map V.int := by
    unfold rgV
    rw [List.map_map, Int.sub_zero, Int.toNat_natCast]
    refine List.map_congr_left fun i _ => ?_
    show V.int (0 + (i : Int)) = V.int (i : Int)
    rw [Int.zero_add]
  have e2 : ((List.range n).map fun (i : Nat) => PyData.int (i : Int)) = ((List.range n).map fun (i : Nat) => (i : Int)).map .int := by
    rw [List.map_map]; rfl
  rw [e, e2]
  exact DvAll.of_ints _
theorem ev_listRg {n : Nat} (h : EV K ta ρ (.int (n : Int))) (hn : n ≤ 1000) : EV K (tLstRg (tRg1 ta)) ρ (.list ((List.range n).map fun (i : Nat) => PyData.int (i : Int))) := fun W σ H o E Q q =>
  h W σ H o E _ fun v H1 s1 v1 => ⟨(n : Int), v1.int_iff, RgOk.of_le (by omega) (by omega) (by omega) (by omega), fun p hp => by
    have s := same_new (o := .lst (rgV 0 (n : Int))) hp
    exact q _ _ (s1.trans s) (.lst (hide_new (o.same s1) hp) (rgV_dv n))⟩
end
end G6
/-! Part A3: statements, loops, comprehensions over data. -/
namespace G6
open PySem PySem.Spec PyProof.Rows L2
/-! ### targets: which slots they write -/
def GV (K : PySem.W.Frag) (g : TG) (ts : List Nat) (d : PyData) (ρ ρ' : Env6) : Prop := ∀ (W : List Addr) (v : V) (σ : L2.St) (H : Hp), EnvD K (hide W H) σ ρ → Dv K (hide W H) v d → ∀ Q : L2.St → Hp → Prop,
  (∀ σ', EnvD K (hide W H) σ' ρ' → (∀ i, i ∉ ts → σ[i]? = σ'[i]?) → σ.length = σ'.length → Q σ' H) → g v σ H Q
def GsV (K : PySem.W.Frag) (g : TGs) (ts : List Nat) (ds : List PyData) (ρ ρ' : Env6) : Prop := ∀ (W : List Addr) (vs : List V) (σ : L2.St) (H : Hp), EnvD K (hide W H) σ ρ → DvAll K (hide W H) vs ds → ∀ Q : L2.St → Hp → Prop,
  (∀ σ', EnvD K (hide W H) σ' ρ' → (∀ i, i ∉ ts → σ[i]? = σ'[i]?) → σ.length = σ'.length → Q σ' H) → g vs σ H Q
section
variable {K : PySem.W.Frag} {ρ ρ1 ρ' : Env6} {d : PyData}
theorem gv_name {i : Nat} {ts : List Nat} (hi : i ∈ ts) : GV K (gName i) ts d ρ (ρ.set i (some d)) := fun W v σ H E hv Q q =>
  q _ (E.set hv i) (fun j hj => (List.getElem?_set_ne (fun e => hj (by rw [← e]; exact hi))).symm) (List.length_set).symm
theorem gsv_nil {ts : List Nat} : GsV K gNil ts [] ρ ρ := fun W vs σ H E hv Q q => by
  cases hv
  exact ⟨rfl, q σ E (fun _ _ => rfl) rfl⟩
theorem gsv_cons {t : TG} {u : TGs} {ts : List Nat} {ds : List PyData} (h1 : GV K t ts d ρ ρ1) (h2 : GsV K u ts ds ρ1 ρ') : GsV K (gCons t u) ts (d :: ds) ρ ρ' := fun W vs σ H E hv Q q => by
  cases hv with
  | cons a r =>
    exact ⟨_, _, rfl, h1 W _ σ H E a _ fun σ1 E1 k1 l1 => h2 W _ σ1 H E1 r Q fun σ2 E2 k2 l2 => q σ2 E2 (fun i hi => (k1 i hi).trans (k2 i hi)) (l1.trans l2)⟩
theorem gv_tup {n : Nat} {t : TGs} {ts : List Nat} {ds : List PyData} (hn : ds.length = n) (h : GsV K t ts ds ρ ρ') : GV K (gTup K n t) ts (.tuple ds) ρ ρ' := fun W v σ H E hv Q q => by
  obtain ⟨a, xs, rfl, h1, h2⟩ := hv.tup_iff
  exact ⟨a, xs, rfl, same_sqT hide_le h1, h2.length.trans hn, h W xs σ H E h2 Q q⟩
end

/-! ### what is walked -/
structure SeqIt (K : PySem.W.Frag) (h : Hp) (J : It) (ds : List PyData) : Prop where
  go : ∀ (i : Nat) (H2 : Hp), Same h H2 → i < ds.length → J.go i H2
  yld : ∀ (i : Nat) (W : List Addr) (H2 : Hp) (x : V) (H3 : Hp), OkW W H2 → Same h (hide W H2) → J.yld i H2 x H3 → Same H2 H3 ∧ ∀ d, ds[i]? = some d → Dv K (hide W H3) x d
  stop : ∀ (i : Nat) (H2 : Hp), Same h H2 → ds.length ≤ i → J.stop i H2
def IV (K : PySem.W.Frag) (wi : TI) (ρ : Env6) (ds : List PyData) : Prop := ∀ (W : List Addr) (σ : L2.St) (H : Hp), OkW W H → EnvD K (hide W H) σ ρ → ∀ R : It → Hp → Prop, (∀ J H1, Same H H1 → SeqIt K (hide W H1) J ds → R J H1) → wi σ H R
section
variable {K : PySem.W.Frag} {ρ : Env6} {te : TE} {ta : TA} {ds : List PyData}
theorem seqIt_list {h : Hp} {a : Addr} {xs : List V} (e : h a = some (.lst xs)) (r : DvAll K h xs ds) : SeqIt K h (Itl K a) ds where
  go := fun i H2 s hi => by
    have hx : i < xs.length := by rw [r.length]; exact hi
    exact ⟨xs, xs[i], SqL.of (s _ _ e), List.getElem?_eq_getElem hx⟩
  yld := fun i W H2 x H3 o s y => by
    obtain ⟨rfl, f⟩ := y
    refine ⟨Same.refl _, fun d hd => ?_⟩
    obtain ⟨v, h1, h2⟩ := r.get hd
    have e := f xs (SqL.of (hide_le _ _ (s _ _ e)))
    rw [h1] at e
    rw [← Option.some.inj e]
    exact h2.same s
  stop := fun i H2 s hi => ⟨xs, SqL.of (s _ _ e), by rw [r.length]; exact hi⟩
theorem seqIt_tup {h : Hp} {a : Addr} {xs : List V} (e : SqT K h a xs) (r : DvAll K h xs ds) : SeqIt K h (Itt K a) ds where
  go := fun i H2 s hi => by
    have hx : i < xs.length := by rw [r.length]; exact hi
    exact ⟨xs, xs[i], same_sqT s e, List.getElem?_eq_getElem hx⟩
  yld := fun i W H2 x H3 o s y => by
    obtain ⟨rfl, f⟩ := y
    refine ⟨Same.refl _, fun d hd => ?_⟩
    obtain ⟨v, h1, h2⟩ := r.get hd
    have e := f xs (same_sqT hide_le (same_sqT s e))
    rw [h1] at e
    rw [← Option.some.inj e]
    exact h2.same s
  stop := fun i H2 s hi => ⟨xs, same_sqT s e, by rw [r.length]; exact hi⟩
theorem iv_list (h : EV K te ρ (.list ds)) : IV K (iList K te) ρ ds := fun W σ H o E R q => h W σ H o E _ fun v H1 s1 v1 => by
  obtain ⟨a, xs, rfl, h3, h4⟩ := v1.lst_iff
  exact ⟨a, rfl, ⟨xs, SqL.of (hide_le _ _ h3)⟩, q _ H1 s1 (seqIt_list h3 h4)⟩
theorem iv_tup (h : EV K te ρ (.tuple ds)) : IV K (iTup K te) ρ ds := fun W σ H o E R q => h W σ H o E _ fun v H1 s1 v1 => by
  obtain ⟨a, xs, rfl, h3, h4⟩ := v1.tup_iff
  exact ⟨a, rfl, ⟨xs, same_sqT hide_le h3⟩, q _ H1 s1 (seqIt_tup h3 h4)⟩
/-- a list or a tuple -/
def iSeq (K : PySem.W.Frag) (te : TE) : TI := fun σ H R => iList K te σ H R ∨ iTup K te σ H R
theorem pi_seq {X : Cx} {tg l : Expr} {tl : TE} (hl : PE X l tl) : PI X tg l (iSeq X.K tl) := ⟨fun pins s σ H R I h => h.elim (fun z => (pi_list hl).run pins s σ H R I z) (fun z => (pi_tup hl).run pins s σ H R I z)⟩
theorem iv_seqL (h : EV K te ρ (.list ds)) : IV K (iSeq K te) ρ ds := fun W σ H o E R q => .inl (iv_list h W σ H o E R q)
theorem iv_seqT (h : EV K te ρ (.tuple ds)) : IV K (iSeq K te) ρ ds := fun W σ H o E R q => .inr (iv_tup h W σ H o E R q)
theorem seqIt_range {h : Hp} {lo : Int} {n : Nat} : SeqIt K h (Itr lo n) ((List.range n).map fun (i : Nat) => .int (lo + (i : Int))) where
  go := fun i H2 s hi => by
    rw [List.length_map, List.length_range] at hi
    exact hi
  yld := fun i W H2 x H3 o s y => by
    obtain ⟨rfl, rfl⟩ := y
    refine ⟨Same.refl _, fun d hd => ?_⟩
    rw [List.getElem?_map] at hd
    by_cases hi : i < n
    · rw [List.getElem?_range hi] at hd
      have e : PyData.int (lo + (i : Int)) = d := Option.some.inj hd
      rw [← e]
      exact .int _
    · rw [List.getElem?_eq_none (by rw [List.length_range]; omega)] at hd
      cases hd
  stop := fun i H2 s hi => by
    rw [List.length_map, List.length_range] at hi
    exact hi
theorem iv_range1 {n : Nat} (h : EA K ta ρ [.int (n : Int)]) (hn : n ≤ 1000000) : IV K (iRng1 ta) ρ ((List.range n).map fun (i : Nat) => .int (i : Int)) := fun W σ H o E R q => h W σ H o E _ fun vs H1 s1 r => by
  cases r with
  | cons a b =>
    cases b
    refine ⟨(n : Int), by rw [a.int_iff], by omega, by omega, ?_⟩
    rw [Int.toNat_natCast]
    have e : ((List.range n).map fun (i : Nat) => PyData.int (i : Int)) = ((List.range n).map fun (i : Nat) => PyData.int (0 + (i : Int))) := List.map_congr_left fun i _ => by rw [Int.zero_add]
    refine q _ H1 s1 ?_
    rw [e]
    exact seqIt_range
theorem iv_range2 {lo hi : Int} (h : EA K ta ρ [.int lo, .int hi]) (hn : 0 ≤ lo ∧ lo ≤ 1000000 ∧ 0 ≤ hi ∧ hi ≤ 1000000) : IV K (iRng2 ta) ρ ((List.range (hi - lo).toNat).map fun (i : Nat) => .int (lo + (i : Int))) := fun W σ H o E R q => h W σ H o E _ fun vs H1 s1 r => by
  cases r with
  | cons a b =>
    cases b with
    | cons c b =>
      cases b
      exact ⟨lo, hi, by rw [a.int_iff, c.int_iff], ⟨by omega, by omega, by omega, by omega⟩, q _ H1 s1 seqIt_range⟩
end

/-! ### statements -/
inductive Out where
  | nx (ρ : Env6)
  | rt (d : PyData)
def SVK (K : PySem.W.Frag) (W : List Addr) (H : Hp) (D : Ends) : Out → Prop
  | .nx ρ => ∀ σ' H', Same H H' → EnvD K (hide W H') σ' ρ → D.nx σ' H'
  | .rt d => ∀ v H', Same H H' → Dv K (hide W H') v d → D.rt v H'
theorem SVK.after {K : PySem.W.Frag} {W : List Addr} {H H' : Hp} {D : Ends} (s : Same H H') : ∀ {o : Out}, SVK K W H D o → SVK K W H' D o
  | .nx _, h => fun σ H2 s2 => h σ H2 (s.trans s2)
  | .rt _, h => fun v H2 s2 => h v H2 (s.trans s2)
def SV (K : PySem.W.Frag) (ts : TS) (ρ : Env6) (o : Out) : Prop := ∀ (W : List Addr) (σ : L2.St) (H : Hp) (D : Ends), OkW W H → EnvD K (hide W H) σ ρ → SVK K W H D o → ts D σ H
section
variable {K : PySem.W.Frag} {ρ ρ1 ρ' : Env6} {te : TE} {tu tw tz ts : TS} {t : TT} {d : PyData} {o : Out}
theorem SV.le (h : SV K ts ρ' o) (l : leE ρ ρ') : SV K ts ρ o := fun W σ H D ok E q => h W σ H D ok (E.le l) q
theorem SV.to (h : SV K ts ρ (.nx ρ1)) (l : leE ρ1 ρ') : SV K ts ρ (.nx ρ') := fun W σ H D ok E q => h W σ H D ok E fun σ' H' s E' => q σ' H' s (E'.le l)
theorem sv_next : SV K tNext ρ (.nx ρ) := fun W σ H D ok E q => q σ H (Same.refl H) E
theorem sv_seq (h1 : SV K ts ρ (.nx ρ1)) (h2 : SV K tu ρ1 o) : SV K (tSeq ts tu) ρ o := fun W σ H D ok E q =>
  h1 W σ H { D with nx := tu D } ok E fun σ1 H1 s1 E1 => h2 W σ1 H1 D (ok.same s1) E1 (q.after s1)
theorem sv_seqR (h1 : SV K ts ρ (.rt d)) : SV K (tSeq ts tu) ρ (.rt d) := fun W σ H D ok E q => h1 W σ H { D with nx := tu D } ok E q
theorem sv_asg {g : TG} {us : List Nat} (h : EV K te ρ d) (hg : GV K g us d ρ ρ') : SV K (tAsg te g) ρ (.nx ρ') := fun W σ H D ok E q =>
  h W σ H ok E _ fun v H1 s1 v1 => hg W v σ H1 (E.same (hide_same s1)) v1 D.nx fun σ' E' _ _ => q σ' H1 s1 E'
theorem sv_set {i : Nat} (h : EV K te ρ d) : SV K (tAsg te (gName i)) ρ (.nx (ρ.set i (some d))) := sv_asg h (gv_name (ts := [i]) (by simp))
theorem sv_par {i j : Nat} {ta : TA} {a b : PyData} (h : EA K ta ρ [a, b]) : SV K (tPar i j ta) ρ (.nx ((ρ.set i (some a)).set j (some b))) := fun W σ H D ok E q =>
  h W σ H ok E _ fun vs H1 s1 r => by
    cases r with
    | cons x r =>
      cases r with
      | cons y r =>
        cases r
        exact ⟨_, _, rfl, q _ H1 s1 (((E.same (hide_same s1)).set x i).set y j)⟩
theorem sv_par3 {i j l : Nat} {ta : TA} {a b c : PyData} (h : EA K ta ρ [a, b, c]) : SV K (tPar3 i j l ta) ρ (.nx (((ρ.set i (some a)).set j (some b)).set l (some c))) := fun W σ H D ok E q =>
  h W σ H ok E _ fun vs H1 s1 r => by
    cases r with
    | cons x r =>
      cases r with
      | cons y r =>
        cases r with
        | cons z r =>
          cases r
          exact ⟨_, _, _, rfl, q _ H1 s1 ((((E.same (hide_same s1)).set x i).set y j).set z l)⟩
theorem sv_if {x : Bool} (h : ET K t ρ x) (h1 : x = true → SV K tu ρ o) (h2 : x = false → SV K tw ρ o) : SV K (tIfS t tu tw) ρ o := fun W σ H D ok E q =>
  h W σ H ok E _ fun H1 s1 => by
    cases x with
    | true =>
      show tu D σ H1
      exact h1 rfl W σ H1 D (ok.same s1) (E.same (hide_same s1)) (q.after s1)
    | false =>
      show tw D σ H1
      exact h2 rfl W σ H1 D (ok.same s1) (E.same (hide_same s1)) (q.after s1)
/-- a test whose answer is No -/
theorem sv_no (h : ET K t ρ false) (h2 : SV K tw ρ o) : SV K (tIfS t tu tw) ρ o := sv_if h (fun z => nomatch z) fun _ => h2
theorem sv_yes (h : ET K t ρ true) (h2 : SV K tu ρ o) : SV K (tIfS t tu tw) ρ o := sv_if h (fun _ => h2) fun z => nomatch z
theorem sv_ret (h : EV K te ρ d) : SV K (tRet te) ρ (.rt d) := fun W σ H D ok E q => h W σ H ok E _ fun v H1 s1 v1 => q v H1 s1 v1
theorem sv_drop (h : EV K te ρ d) : SV K (tDrop te) ρ (.nx ρ) := fun W σ H D ok E q => h W σ H ok E _ fun v H1 s1 v1 => q σ H1 s1 (E.same (hide_same s1))

/-! ### loops -/
/-- a for, turn by turn; f i: the names ahead of the turn i -/
theorem sv_for {wi : TI} {g : TG} {us : List Nat} {ds : List PyData} (f : Nat → Env6) (hi : IV K wi ρ ds) (h0 : leE ρ (f 0)) (hs : ∀ (i : Nat) (d : PyData), ds[i]? = some d → ∃ ρ1, GV K g us d (f i) ρ1 ∧ SV K tu ρ1 (.nx (f (i + 1)))) : SV K (tFor wi g tu) ρ (.nx (f ds.length)) := fun W σ H D ok E q =>
  hi W σ H ok E _ fun J H1 s1 S => by
    refine ⟨fun i m σ' H' => i ≤ ds.length ∧ m = ds.length - i ∧ Same H1 H' ∧ EnvD K (hide W H') σ' (f i), ⟨ds.length, Nat.zero_le _, rfl, Same.refl _, (E.same (hide_same s1)).le h0⟩, ?_⟩
    rintro i m σ' H' ⟨hi, rfl, s, E'⟩
    by_cases hl : i < ds.length
    · refine .inr ⟨S.go i H' (hide_le.trans s) hl, fun σ'' H'' => Same H1 H'' ∧ EnvD K (hide W H'') σ'' (f (i + 1)), fun σ'' H'' z => ⟨ds.length - (i + 1), by omega, hl, rfl, z.1, z.2⟩, fun x H2 y => ?_⟩
      obtain ⟨s2, hx⟩ := S.yld i W H' x H2 (ok.same (s1.trans s)) (hide_same s) y
      have hd : ds[i]? = some ds[i] := List.getElem?_eq_getElem hl
      obtain ⟨ρ1, hg, hb⟩ := hs i ds[i] hd
      refine hg W x σ' H2 (E'.same (hide_same s2)) (hx _ hd) _ fun σ3 E3 _ _ => ?_
      exact hb W σ3 H2 _ (ok.same (s1.trans (s.trans s2))) E3 fun σ4 H4 s4 E4 => ⟨(s.trans s2).trans s4, E4⟩
    · have e : i = ds.length := by omega
      subst e
      exact .inl ⟨S.stop _ H' (hide_le.trans s) (Nat.le_refl _), q σ' H' (s1.trans s) E'⟩
/-- a for that is left by a return in the turn k -/
theorem sv_forR {wi : TI} {g : TG} {us : List Nat} {ds : List PyData} (f : Nat → Env6) (k : Nat) (hk : k < ds.length) (hi : IV K wi ρ ds) (h0 : leE ρ (f 0)) (hs : ∀ (i : Nat) (e : PyData), i < k → ds[i]? = some e → ∃ ρ1, GV K g us e (f i) ρ1 ∧ SV K tu ρ1 (.nx (f (i + 1))))
    (hr : ∀ (e : PyData), ds[k]? = some e → ∃ ρ1, GV K g us e (f k) ρ1 ∧ SV K tu ρ1 (.rt d)) : SV K (tFor wi g tu) ρ (.rt d) := fun W σ H D ok E q =>
  hi W σ H ok E _ fun J H1 s1 S => by
    refine ⟨fun i m σ' H' => i ≤ k ∧ m = ds.length - i ∧ Same H1 H' ∧ EnvD K (hide W H') σ' (f i), ⟨ds.length, Nat.zero_le _, rfl, Same.refl _, (E.same (hide_same s1)).le h0⟩, ?_⟩
    rintro i m σ' H' ⟨hi, rfl, s, E'⟩
    have hl : i < ds.length := by omega
    have hd : ds[i]? = some ds[i] := List.getElem?_eq_getElem hl
    by_cases hik : i < k
    · refine .inr ⟨S.go i H' (hide_le.trans s) hl, fun σ'' H'' => Same H1 H'' ∧ EnvD K (hide W H'') σ'' (f (i + 1)), fun σ'' H'' z => ⟨ds.length - (i + 1), by omega, hik, rfl, z.1, z.2⟩, fun x H2 y => ?_⟩
      obtain ⟨s2, hx⟩ := S.yld i W H' x H2 (ok.same (s1.trans s)) (hide_same s) y
      obtain ⟨ρ1, hg, hb⟩ := hs i ds[i] hik hd
      refine hg W x σ' H2 (E'.same (hide_same s2)) (hx _ hd) _ fun σ3 E3 _ _ => ?_
      exact hb W σ3 H2 _ (ok.same (s1.trans (s.trans s2))) E3 fun σ4 H4 s4 E4 => ⟨(s.trans s2).trans s4, E4⟩
    · have e : i = k := by omega
      subst e
      refine .inr ⟨S.go i H' (hide_le.trans s) hl, fun _ _ => False, fun σ'' H'' z => z.elim, fun x H2 y => ?_⟩
      obtain ⟨s2, hx⟩ := S.yld i W H' x H2 (ok.same (s1.trans s)) (hide_same s) y
      obtain ⟨ρ1, hg, hb⟩ := hr ds[i] hd
      refine hg W x σ' H2 (E'.same (hide_same s2)) (hx _ hd) _ fun σ3 E3 _ _ => ?_
      exact hb W σ3 H2 _ (ok.same (s1.trans (s.trans s2))) E3 fun v H4 s4 v4 => q v H4 (s1.trans ((s.trans s2).trans s4)) v4
theorem sv_while (f : Nat → Env6) (n : Nat) (h0 : leE ρ (f 0)) (ht : ∀ i, i < n → ET K t (f i) true) (hb : ∀ i, i < n → SV K tu (f i) (.nx (f (i + 1)))) (he : ET K t (f n) false) : SV K (tWhile t tu) ρ (.nx (f n)) := fun W σ H D ok E q => by
  refine ⟨fun m σ' H' => ∃ i, i ≤ n ∧ m = n - i ∧ Same H H' ∧ EnvD K (hide W H') σ' (f i), ⟨n, 0, Nat.zero_le _, rfl, Same.refl _, E.le h0⟩, ?_⟩
  rintro m σ' H' ⟨i, hi, rfl, s, E'⟩
  by_cases hl : i < n
  · refine ht i hl W σ' H' (ok.same s) E' _ fun H1 s1 => ?_
    rw [if_pos rfl]
    refine ⟨fun σ'' H'' => Same H H'' ∧ EnvD K (hide W H'') σ'' (f (i + 1)), fun σ'' H'' z => ⟨n - (i + 1), by omega, i + 1, hl, rfl, z.1, z.2⟩, ?_⟩
    exact hb i hl W σ' H1 _ (ok.same (s.trans s1)) (E'.same (hide_same s1)) fun σ4 H4 s4 E4 => ⟨(s.trans s1).trans s4, E4⟩
  · have e : i = n := by omega
    subst e
    refine he W σ' H' (ok.same s) E' _ fun H1 s1 => ?_
    rw [if_neg Bool.false_ne_true]
    exact q σ' H1 (s.trans s1) (E'.same (hide_same s1))
end

/-! ### comprehensions -/
section
variable {K : PySem.W.Frag} {ρ : Env6} {te : TE} {t : TT}
/-- the items of a comprehension, so far -/
theorem filt_snoc {α β : Type} {p : α → Bool} {f : α → β} {xs : List α} {i : Nat} {x : α} (h : xs[i]? = some x) :
    ((xs.take (i + 1)).filter p).map f = ((xs.take i).filter p).map f ++ (if p x = true then [f x] else []) := by
  rw [List.take_add_one, h, List.filter_append, List.map_append]
  congr 1
  show (List.filter p [x]).map f = _
  by_cases hp : p x = true
  · rw [List.filter_cons_of_pos hp, if_pos hp]; rfl
  · rw [List.filter_cons_of_neg hp, if_neg hp]; rfl
theorem filt_len {α β : Type} {p : α → Bool} {f : α → β} {xs : List α} {i : Nat} : (((xs.take i).filter p).map f).length ≤ i := by
  rw [List.length_map]
  refine Nat.le_trans (List.length_filter_le _ _) ?_
  rw [List.length_take]
  exact Nat.min_le_left _ _
/-- a list that a comprehension fills, at D: what is known of it -/
def Filled (K : PySem.W.Frag) (W : List Addr) (H1 : Hp) (D : Addr) (H' : Hp) (es : List PyData) : Prop := Same H1 H' ∧ ∃ ys, H' D = some (.lst ys) ∧ DvAll K (hide (D :: W) H') ys es
theorem same_out {W : List Addr} {H1 H' : Hp} {D : Addr} (hD : H1 D = none) (s : Same H1 H') : Same (hide W H1) (hide (D :: W) H') := fun a o e => by
  by_cases q : a ∈ W
  · rw [hide_in q] at e; cases e
  · have e1 := hide_le _ _ e
    have hne : a ≠ D := ne_of_none e1 hD
    rw [hide_out (fun z => (List.mem_cons.mp z).elim hne q)]
    exact s _ _ e1
theorem Filled.ok {W : List Addr} {H1 H' : Hp} {D : Addr} {es : List PyData} (o : OkW W H1) (F : Filled K W H1 D H' es) : OkW (D :: W) H' := fun a ha e => by
  obtain ⟨s, ys, eD, _⟩ := F
  rcases List.mem_cons.mp ha with h | h
  · subst h; rw [eD] at e; cases e
  · exact (o.same s) a h e
theorem Filled.more {W : List Addr} {H1 H' H'' : Hp} {D : Addr} {es : List PyData} (F : Filled K W H1 D H' es) (s : Same H' H'') : Filled K W H1 D H'' es := by
  obtain ⟨s0, ys, eD, r⟩ := F
  exact ⟨s0.trans s, ys, s _ _ eD, r.same (hide_same s)⟩
theorem Filled.snoc {W : List Addr} {H1 H' : Hp} {D : Addr} {es : List PyData} {y : V} {e : PyData} (hD : H1 D = none) (F : Filled K W H1 D H' es) (hl : es.length < 10000000) (h : Dv K (hide (D :: W) H') y e) :
    ∃ acc, H' D = some (.lst acc) ∧ acc.length < sizeLine ∧ Filled K W H1 D (upd H' D (.lst (acc ++ [y]))) (es ++ [e]) := by
  obtain ⟨s0, ys, eD, r⟩ := F
  refine ⟨ys, eD, ?_, fun a o ha => ?_, ys ++ [y], upd_same, ?_⟩
  · rw [r.length]; exact Nat.lt_of_lt_of_le hl (by decide)
  · rw [upd_ne (ne_of_none ha hD)]; exact s0 a o ha
  · rw [hide_mut List.mem_cons_self]
    exact r.append (.one h)
/-- [f x for x in xs if p x] -/
theorem ev_lc {α : Type} {wi : TI} {g : TG} {vs : List Nat} {xs : List α} {enc : α → PyData} (p : α → Bool) (f : α → PyData) (hi : IV K wi ρ (xs.map enc)) (hl : xs.length ≤ 1000000)
    (hs : ∀ x, x ∈ xs → ∃ ρ1, GV K g vs (enc x) (wipeE ρ vs) ρ1 ∧ ET K t ρ1 (p x) ∧ (p x = true → EV K te ρ1 (f x))) : EV K (tLc wi g t te vs) ρ (.list ((xs.filter p).map f)) := fun W σ H ok E Q q =>
  hi W σ H ok E _ fun J H1 s1 S => by
    intro D hD
    have ok1 := ok.same s1
    refine ⟨fun i m H' => i ≤ xs.length ∧ m = xs.length - i ∧ Filled K W H1 D H' (((xs.take i).filter p).map f), ⟨xs.length, Nat.zero_le _, rfl, same_new hD, [], upd_same, .nil⟩, ?_⟩
    rintro i m H' ⟨hi, rfl, F⟩
    have ok' := F.ok ok1
    have so := same_out (W := W) hD F.1
    by_cases hl' : i < xs.length
    · refine .inr ⟨S.go i H' (so.trans hide_le) (by rw [List.length_map]; exact hl'), fun H'' => Filled K W H1 D H'' (((xs.take (i + 1)).filter p).map f),
        fun H'' z => ⟨xs.length - (i + 1), by omega, hl', rfl, z⟩, fun x H2 y => ?_⟩
      obtain ⟨s2, hx⟩ := S.yld i (D :: W) H' x H2 ok' so y
      have hxi : xs[i]? = some xs[i] := List.getElem?_eq_getElem hl'
      obtain ⟨ρ1, hg, htt, hte⟩ := hs xs[i] (List.getElem_mem hl')
      have hd := hx (enc xs[i]) (by rw [List.getElem?_map, hxi]; rfl)
      have ok2 := ok'.same s2
      have E2 : EnvD K (hide (D :: W) H2) (L2.wipe σ vs) (wipeE ρ vs) := ((E.same (hide_same s1)).same (so.trans (hide_same s2))).wipe vs
      refine hg (D :: W) x _ H2 E2 hd _ fun σ3 E3 k3 l3 => ?_
      refine ⟨?_, htt (D :: W) σ3 H2 ok2 E3 _ fun H3 s3 => ?_⟩
      · rw [← wipe_ext l3 fun i hi => k3 i hi]
        exact wipe_wipe
      · have F3 := F.more (s2.trans s3)
        rw [filt_snoc hxi]
        cases hp : p xs[i] with
        | true =>
          rw [if_pos rfl, if_pos rfl]
          refine hte hp (D :: W) σ3 H3 (ok2.same s3) (E3.same (hide_same s3)) _ fun v H4 s4 v4 => ?_
          have hll : (((xs.take i).filter p).map f).length ≤ i := filt_len
          exact (F3.more s4).snoc hD (by omega) v4
        | false =>
          rw [if_neg Bool.false_ne_true, if_neg Bool.false_ne_true, List.append_nil]
          exact F3
    · have e : i = xs.length := by omega
      subst e
      rw [List.take_length] at F
      obtain ⟨s0, ys, eD, r⟩ := F
      refine .inl ⟨S.stop _ H' (so.trans hide_le) (by rw [List.length_map]; exact Nat.le_refl _), q _ H' (s1.trans s0) (.lst ?_ (r.same (hide_sub fun a ha => List.mem_cons_of_mem _ ha)))⟩
      rw [hide_out (ok1.notin hD)]
      exact eD
theorem filter_all {α : Type} (xs : List α) : xs.filter (fun _ => true) = xs := List.filter_eq_self.mpr fun _ _ => rfl
/-- [f x for x in xs] -/
theorem ev_lcA {α : Type} {wi : TI} {g : TG} {vs : List Nat} {xs : List α} {enc : α → PyData} (f : α → PyData) (hi : IV K wi ρ (xs.map enc)) (hl : xs.length ≤ 1000000)
    (hs : ∀ x, x ∈ xs → ∃ ρ1, GV K g vs (enc x) (wipeE ρ vs) ρ1 ∧ EV K te ρ1 (f x)) : EV K (tLc wi g tYes te vs) ρ (.list (xs.map f)) := by
  have h := ev_lc (K := K) (ρ := ρ) (t := tYes) (te := te) (g := g) (vs := vs) (fun _ => true) f hi hl fun x hx => by
    obtain ⟨ρ1, h1, h2⟩ := hs x hx
    exact ⟨ρ1, h1, et_yes, fun _ => h2⟩
  rw [filter_all] at h
  exact h
/-- two clauses -/
theorem ev_lc2 {α β : Type} {wi wi1 : TI} {g g1 : TG} {tt1 : TT} {vs vs1 : List Nat} {xs : List α} {enc : α → PyData} {ys : α → List β} {enc1 : α → β → PyData} (p : α → β → Bool) (f : α → β → PyData) (hi : IV K wi ρ (xs.map enc)) (hl : xs.length ≤ 1000)
    (hly : ∀ x, (ys x).length ≤ 1000)
    (hs : ∀ x, x ∈ xs → ∃ ρ1, GV K g vs (enc x) (wipeE ρ vs) ρ1 ∧ IV K wi1 ρ1 ((ys x).map (enc1 x)) ∧
      ∀ y, y ∈ ys x → ∃ ρ2, GV K g1 vs1 (enc1 x y) (wipeE ρ1 vs1) ρ2 ∧ ET K tt1 ρ2 (p x y) ∧ (p x y = true → EV K te ρ2 (f x y))) :
    EV K (tLc2 wi g tYes wi1 g1 tt1 te vs vs1) ρ (.list (xs.flatMap fun x => ((ys x).filter (p x)).map (f x))) := fun W σ H ok E Q q =>
  hi W σ H ok E _ fun J H1 s1 S => by
    intro D hD
    have ok1 := ok.same s1
    have flen : ∀ i, i ≤ xs.length → ((xs.take i).flatMap fun x => ((ys x).filter (p x)).map (f x)).length ≤ i * 1000 := by
      intro i
      induction i with
      | zero => intro _; simp
      | succ i ih =>
        intro hi
        have hxi : xs[i]? = some xs[i] := List.getElem?_eq_getElem (by omega)
        rw [List.take_add_one, hxi, List.flatMap_append, List.length_append]
        have h1 := ih (by omega)
        have h2 : (((ys xs[i]).filter (p xs[i])).map (f xs[i])).length ≤ 1000 := by
          rw [List.length_map]
          exact Nat.le_trans (List.length_filter_le _ _) (hly _)
        have h3 : (List.flatMap (fun x => ((ys x).filter (p x)).map (f x)) (some xs[i]).toList) = ((ys xs[i]).filter (p xs[i])).map (f xs[i]) := by
          show List.flatMap _ [xs[i]] = _
          rw [List.flatMap_cons, List.flatMap_nil, List.append_nil]
        rw [h3]
        omega
    refine ⟨fun i m H' => i ≤ xs.length ∧ m = xs.length - i ∧ Filled K W H1 D H' ((xs.take i).flatMap fun x => ((ys x).filter (p x)).map (f x)), ⟨xs.length, Nat.zero_le _, rfl, same_new hD, [], upd_same, .nil⟩, ?_⟩
    rintro i m H' ⟨hi, rfl, F⟩
    have ok' := F.ok ok1
    have so := same_out (W := W) hD F.1
    by_cases hl' : i < xs.length
    · refine .inr ⟨S.go i H' (so.trans hide_le) (by rw [List.length_map]; exact hl'), fun H'' => Filled K W H1 D H'' ((xs.take (i + 1)).flatMap fun x => ((ys x).filter (p x)).map (f x)),
        fun H'' z => ⟨xs.length - (i + 1), by omega, hl', rfl, z⟩, fun x H2 y => ?_⟩
      obtain ⟨s2, hx⟩ := S.yld i (D :: W) H' x H2 ok' so y
      have hxi : xs[i]? = some xs[i] := List.getElem?_eq_getElem hl'
      obtain ⟨ρ1, hg, hit, hel⟩ := hs xs[i] (List.getElem_mem hl')
      have hd := hx (enc xs[i]) (by rw [List.getElem?_map, hxi]; rfl)
      have ok2 := ok'.same s2
      have E2 : EnvD K (hide (D :: W) H2) (L2.wipe σ vs) (wipeE ρ vs) := ((E.same (hide_same s1)).same (so.trans (hide_same s2))).wipe vs
      refine hg (D :: W) x _ H2 E2 hd _ fun σ3 E3 k3 l3 => ?_
      refine ⟨?_, ?_⟩
      · rw [← wipe_ext l3 fun i hi => k3 i hi]
        exact wipe_wipe
      dsimp only [tYes]
      rw [if_pos rfl]
      have F2 := F.more s2
      have tk : ((xs.take (i + 1)).flatMap fun x => ((ys x).filter (p x)).map (f x)) = ((xs.take i).flatMap fun x => ((ys x).filter (p x)).map (f x)) ++ ((ys xs[i]).filter (p xs[i])).map (f xs[i]) := by
        rw [List.take_add_one, hxi, List.flatMap_append]
        congr 1
        show List.flatMap _ [xs[i]] = _
        rw [List.flatMap_cons, List.flatMap_nil, List.append_nil]
      have fl := flen i hi
      rw [tk]
      generalize hpre : ((xs.take i).flatMap fun x => ((ys x).filter (p x)).map (f x)) = pre at F F2 fl
      have hly0 := hly xs[i]
      generalize hx0 : xs[i] = x0 at hit hel hly0
      refine hit (D :: W) σ3 H2 ok2 E3 _ fun J1 H3 s3 S1 => ?_
      have F3 := F2.more s3
      have E4 := E3.same (hide_same (W := D :: W) s3)
      refine ⟨fun j k H' => j ≤ (ys x0).length ∧ k = (ys x0).length - j ∧ Filled K W H1 D H' (pre ++ (((ys x0).take j).filter (p x0)).map (f x0)) ∧ Same (hide (D :: W) H3) (hide (D :: W) H'), ⟨(ys x0).length, Nat.zero_le _, rfl, ?_, Same.refl _⟩, ?_⟩
      · rw [List.take_zero, List.filter_nil, List.map_nil, List.append_nil]
        exact F3
      rintro j k H5 ⟨hj, rfl, F5, so5⟩
      have ok5 := F5.ok ok1
      by_cases hlj : j < (ys x0).length
      · refine .inr ⟨S1.go j H5 (so5.trans hide_le) (by rw [List.length_map]; exact hlj), fun H'' => Filled K W H1 D H'' (pre ++ (((ys x0).take (j + 1)).filter (p x0)).map (f x0)) ∧ Same (hide (D :: W) H3) (hide (D :: W) H''),
          fun H'' z => ⟨(ys x0).length - (j + 1), by omega, hlj, rfl, z.1, z.2⟩, fun x1 H6 y1 => ?_⟩
        obtain ⟨s6, hx1⟩ := S1.yld j (D :: W) H5 x1 H6 ok5 so5 y1
        have hyj : (ys x0)[j]? = some (ys x0)[j] := List.getElem?_eq_getElem hlj
        obtain ⟨ρ2, hg2, ht2, he2⟩ := hel (ys x0)[j] (List.getElem_mem hlj)
        have hd2 := hx1 (enc1 x0 (ys x0)[j]) (by rw [List.getElem?_map, hyj]; rfl)
        have ok6 := ok5.same s6
        have so6 := so5.trans (hide_same (W := D :: W) s6)
        have E6 : EnvD K (hide (D :: W) H6) (L2.wipe σ3 vs1) (wipeE ρ1 vs1) := (E4.same so6).wipe vs1
        refine hg2 (D :: W) x1 _ H6 E6 hd2 _ fun σ7 E7 k7 l7 => ?_
        refine ⟨?_, ht2 (D :: W) σ7 H6 ok6 E7 _ fun H8 s8 => ?_⟩
        · rw [← wipe_ext l7 fun i hi => k7 i hi]
          exact wipe_wipe
        · have F8 := F5.more (s6.trans s8)
          have so8 := so6.trans (hide_same (W := D :: W) s8)
          rw [filt_snoc hyj, ← List.append_assoc]
          cases hp : p x0 (ys x0)[j] with
          | true =>
            rw [if_pos rfl, if_pos rfl]
            refine he2 hp (D :: W) σ7 H8 (ok6.same s8) (E7.same (hide_same s8)) _ fun v H9 s9 v9 => ?_
            have hll : (((ys x0).take j |>.filter (p x0)).map (f x0)).length ≤ j := filt_len
            have hll2 : i * 1000 ≤ 1000 * 1000 := Nat.mul_le_mul (by omega) (Nat.le_refl _)
            obtain ⟨acc, h1, h2, h3⟩ := (F8.more s9).snoc hD (by rw [List.length_append]; omega) v9
            refine ⟨acc, h1, h2, h3, ?_⟩
            rw [hide_mut List.mem_cons_self]
            exact so8.trans (hide_same s9)
          | false =>
            rw [if_neg Bool.false_ne_true, if_neg Bool.false_ne_true, List.append_nil]
            exact ⟨F8, so8⟩
      · have e : j = (ys x0).length := by omega
        subst e
        rw [List.take_length] at F5
        exact .inl ⟨S1.stop _ H5 (so5.trans hide_le) (by rw [List.length_map]; exact Nat.le_refl _), F5⟩
    · have e : i = xs.length := by omega
      subst e
      rw [List.take_length] at F
      obtain ⟨s0, ys, eD, r⟩ := F
      refine .inl ⟨S.stop _ H' (so.trans hide_le) (by rw [List.length_map]; exact Nat.le_refl _), q _ H' (s1.trans s0) (.lst ?_ (r.same (hide_sub fun a ha => List.mem_cons_of_mem _ ha)))⟩
      rw [hide_out (ok1.notin hD)]
      exact eD
end
end G6
/-! Part A4a: enumerate over a tuple; the least of a list of tuples; the text of data. -/
namespace PySem
open AutoSeq1 (wpAny_loadPart')
theorem g6_enum_newT (l : Addr) (items : Array Value) (n : Nat) (dct : Option Addr) (sl : Array (Option Value)) :
    Meets (Builtin.«enumerate.__new__» ⟨[.type "enumerate", .ref l], []⟩) (fun _ R s => s.heap.get? l = some { cls := .type "tuple", dict := dct, data := .seq items n, slots := sl } ∧
      R (.ok (.ret (.ref (s.heap.push { cls := .type "tuple_iterator", data := .fields #[.ref l, .int 0 0] }).objs.size)))
        { s with heap := (s.heap.push { cls := .type "tuple_iterator", data := .fields #[.ref l, .int 0 0] }).push { cls := .type "enumerate", data := .fields #[.none, .bool false, .ref s.heap.objs.size, rawInt 0, .none, .none] } }) :=
  .of_wp fun prog w A R s h => by
    obtain ⟨hp, g, d, tk, os⟩ := s
    obtain ⟨hl, h⟩ := h
    have hsub := sub_enumerate
    have hL : Heap.IsTuple (Shared.heap ⟨hp, g, d, tk, os⟩) l items := ⟨_, hl, rfl, n, rfl⟩
    wp_walk using wpAny_loadPart' hl
    refine wpAny_stack_any fun st => wpAny_pure ?_
    split
    · rename_i c _ _ _ _ _
      cases (c == Value.type "enumerate") <;> (wp_walk using wpAny_loadPart' hl, wpAny_pyIter_tuple hL; exact ⟨_, rfl, h⟩)
    · wp_walk using wpAny_loadPart' hl, wpAny_pyIter_tuple hL
      exact ⟨_, rfl, h⟩
section
variable {prog : Program} {w : World} {A : Around} {E : Value → Shared → Prop} {s : Shared}
theorem g6_call_enumT {l : Addr} {items : Array Value} {Q : Value → Shared → Prop} (hL : s.heap.IsTuple l items)
    (h : ∀ h', IsEnum h' (s.heap.objs.size + 1) s.heap.objs.size 0 .none → h'.IsTupleIter s.heap.objs.size l 0 → h'.objs.size = s.heap.objs.size + 2 →
      (∀ b o, s.heap.get? b = some o → h'.get? b = some o) → Q (.ref (s.heap.objs.size + 1)) { s with heap := h' }) :
    wpAny (model prog w) A (call (.type "enumerate") [.ref l]) Q E s := by
  obtain ⟨⟨c, dct, dt, sl⟩, hl, hc, n, hd⟩ := hL
  have hc : c = .type "tuple" := hc
  have hd : dt = .seq items n := hd
  subst hc
  subst hd
  have z1 : (s.heap.push { cls := .type "tuple_iterator", data := .fields #[.ref l, .int 0 0] }).objs.size = s.heap.objs.size + 1 := Heap.size_push ..
  have z2 := Heap.get?_push_size (s.heap.push { cls := .type "tuple_iterator", data := .fields #[.ref l, .int 0 0] }) (o := { cls := .type "enumerate", data := .fields #[.none, .bool false, .ref s.heap.objs.size, rawInt 0, .none, .none] }) rfl
  rw [z1] at z2
  refine callType_new F.called_enumerate (by decide) (F.typeCall_enumerate_1 _) (F.newCall_enumerate_1 _) (fun obj => F.args_object_init_2 obj _) F.entry_enumerate_new (g6_enum_newT l items n dct sl) ⟨hl, ?_⟩
  show _ ∧ _
  rw [z1]
  exact ⟨⟨_, z2, rfl⟩, h _ z2 ⟨_, Heap.get?_push_of_some _ (Heap.get?_push_size _ rfl), rfl, rfl⟩ (by rw [Heap.size_push, z1]) fun b o x => Heap.get?_push_of_some _ (Heap.get?_push_of_some _ x)⟩
end
end PySem

namespace G6
open PySem PySem.Spec PyProof.Rows L2
/-- the tuple at a, each item in a new pair -/
def IteT (K : PySem.W.Frag) (a : Addr) : It :=
  ⟨fun i H => ∃ (xs : List V) (x : V), SqT K H a xs ∧ xs[i]? = some x, fun i H v H' => ∃ T x, v = .ref T ∧ H T = none ∧ H' = upd H T (.tup [.int (i : Nat), x]) ∧ ∀ xs, SqT K H a xs → xs[i]? = some x, fun i H => ∃ xs : List V, SqT K H a xs ∧ xs.length ≤ i⟩
theorem tup_enum_ne {h : Heap} {a e it : Addr} {c : Int} {old : Value} {its : Array Value} (p : h.IsTuple a its) (q : IsEnum h e it c old) : a ≠ e := fun z => by
  obtain ⟨o, h1, h2, _⟩ := p
  subst z
  have q' : h.get? a = some _ := q
  rw [h1] at q'
  have e2 := Option.some.inj q'
  rw [e2] at h2
  have h3 : Value.type "enumerate" = Value.type "tuple" := h2
  injection h3 with h4
  exact absurd h4 (by decide)
theorem tup_iter_ne {h : Heap} {a it : Addr} {i : Nat} {its : Array Value} {l : Addr} (p : h.IsTuple a its) (q : h.IsTupleIter it l i) : a ≠ it := fun z => by
  obtain ⟨o, h1, h2, _⟩ := p
  obtain ⟨o', h3, h4, _⟩ := q
  subst z
  rw [h1] at h3
  have e2 := Option.some.inj h3
  rw [← e2, h2] at h4
  injection h4 with h5
  exact absurd h5 (by decide)
theorem enum_end_tuple {prog : Program} {w : World} {A : Around} {E : Value → Shared → Prop} {s : Shared} {e it a : Addr} {i : Nat} {c : Int} {its : Array Value} {old : Value} {Q : Option Value → Shared → Prop} (hh : A.handled = none) (he : IsEnum s.heap e it c old) (hit : s.heap.IsTupleIter it a i)
    (p : s.heap.IsTuple a its) (hx : its[i]? = none) (hQ : ∀ h', Heap.ExtBut it s.heap h' → Q none { s with heap := h' }) : wpAny (model prog w) A (pyNext (.ref e)) Q E s := by
  have hT : s.TypeIs (.ref e) "enumerate" := ⟨_, he, rfl⟩
  unfold pyNext
  refine wpAny_bind (wpAny_attempt (wpAny_callSpecial?_slot (name := Str.ofString "__next__") hT PySem.F.slot_enumerate_next (wpAny_call_entry PySem.F.slot_enumerate_next hT PySem.F.entry_enumerate_next ?_ (PySem.F.args_enumerate_next_1 _))))
  show wpAny _ _ (field (.ref e) 2 >>= _) _ _ _
  refine wpAny_bind (wpAny_field he rfl (x := .ref it) rfl (wpAny_bind (wpAny_nextOf_tuple_end hh hit p hx fun h' x he' hx' => ?_)))
  obtain ⟨o, ho, hc⟩ := hx'
  exact wpAny_bind (wpAny_isInstance (T := "StopIteration") (b := true) ⟨o, ho, hc⟩ isSubtype_stop (wpAny_pure (hQ _ he')))
theorem turn_enumT {P : Program} {w : World} {K : PySem.W.Frag} {elts : List Expr} {kk : Nat} {tpos : Pos} (a e it : Addr) :
    Turn P w K (.Tuple elts kk tpos) (IteT K a) [e, it] e (fun i h => (∃ old, IsEnum h e it ((i : Nat) : Int) old) ∧ h.IsTupleIter it a i ∧ e ≠ it) where
  mem := by simp
  obj := fun i h st b hb => by
    obtain ⟨⟨old, he⟩, ⟨o, ho, hc, hd⟩, _⟩ := st
    have e' : b = e ∨ b = it := by simpa using hb
    rcases e' with z | z
    · rw [z]
      exact ⟨_, he, fun v q => nomatch q⟩
    · rw [z]
      exact ⟨o, ho, fun v q => by rw [hd] at q; cases q⟩
  keep := fun i h h' st k => ⟨⟨st.1.choose, k e (by simp) _ st.1.choose_spec⟩, st.2.1.at fun o q => k it (by simp) o q, st.2.2⟩
  item := by
    intro X hP hw hK hc i pins s σ H E I hf st hg
    subst hP hw hK
    obtain ⟨⟨old, he⟩, hit, hne⟩ := st
    obtain ⟨xs, x, hq, hx⟩ := hg
    obtain ⟨its, rv, p, hz⟩ := I.tuple hq
    have p : s.heap.IsTuple a its.toArray := p
    obtain ⟨u, hu, ru⟩ := rv.get hx
    have hel : e < s.heap.objs.size := Heap.lt_size he
    have hil : it < s.heap.objs.size := by
      obtain ⟨_, q, _⟩ := hit
      exact Heap.lt_size q
    have hae := tup_enum_ne p he
    have hai := tup_iter_ne p hit
    have hlen : i < its.toArray.size := by
      have h1 := (List.getElem?_eq_some_iff.mp hu).1
      simpa using h1
    refine wpAny_pyNext_enum_itemD (Draws.tuple (A := X.A.in1) (I.ok.hd hc) it a hai its.toArray) he ⟨hit, p⟩ hlen hne (fun z => ?_) fun u' h' tk hu' ho hst hT hsz hk => ?_
    · rcases List.mem_cons.mp z with z | z
      · exact hne z
      · exact hae (List.mem_singleton.mp z).symm
    have eu : u' = u := by
      have h2 : its.toArray[i]? = some u := by simpa using hu
      rw [h2] at hu'
      exact (Option.some.inj hu').symm
    subst eu
    refine ⟨_, rfl, wpAny_letOwnedTupleGo_enum (s := { s with heap := h', toks := tk + 1 }) ho fun h'' he' sb => ?_⟩
    have hT2 : h''.get? s.heap.objs.size = some { cls := .type "tuple", data := .seq #[.int i tk, u'] } := (sb.2 _ (Nat.ne_of_gt hel)).trans hT
    have new : ObjOk X.prog X.w (upd H s.heap.objs.size (.tup [.int (i : Nat), x])) h'' s.heap.objs.size (.tup [.int (i : Nat), x]) :=
      ⟨(by decide : 2 ≤ sizeLine), [.int i tk, u'], .cons ⟨_, rfl⟩ (.cons ru .nil), ⟨_, hT2, rfl, _, rfl⟩⟩
    have I1 : Inv X pins σ (upd H s.heap.objs.size (.tup [.int (i : Nat), x])) { s with heap := h'', toks := tk + 1 } :=
      I.turnedNew (ch := [e, it]) (fun b ob hb q => (sb.2 b (fun z => hb (by simp [z]))).trans (hk b ob (fun z => hb (by simp [z])) (fun z => hb (by simp [z])) q)) hf (Nat.le_refl _) new
    refine ⟨.ref s.heap.objs.size, _, I1, rfl, ⟨_, x, rfl, I.hok.fresh (Nat.le_refl _), rfl, fun ys hy => by rw [I.tuple_inj hy hq]; exact hx⟩, ⟨⟨u', ?_⟩, hst.1.at fun o q => (sb.2 it (Ne.symm hne)).trans q, hne⟩, fun b hb => ?_⟩
    · rw [show ((i + 1 : Nat) : Int) = (i : Int) + 1 by omega]
      exact he'
    · have hb' : b < s.heap.objs.size := by
        have e' : b = e ∨ b = it := by simpa using hb
        rcases e' with z | z <;> rw [z] <;> assumption
      rw [upd_ne (Nat.ne_of_lt hb')]
      exact (hf b hb).1
  done := by
    intro X hP hw hK hc i pins s σ H E I hf st hg
    subst hP hw hK
    obtain ⟨⟨old, he⟩, hit, hne⟩ := st
    obtain ⟨xs, hq, hx⟩ := hg
    obtain ⟨its, rv, p, hz⟩ := I.tuple hq
    have p : s.heap.IsTuple a its.toArray := p
    obtain ⟨f0, f1, f2, f3, f4, f5⟩ := hf it (by simp)
    have hl := rv.length
    refine enum_end_tuple (I.ok.hd hc) he hit p (by simp; omega) fun h' eb => ⟨rfl, I.turned (t' := s.toks) (fun b o hb q => eb b o hb q) f0 f1 f3 f4 f5⟩
  self := fun A i s Q E st h => wpAny_pyIter_enum st.1.choose_spec h
def iEnumT (K : PySem.W.Frag) (ta : TA) : TI := fun σ H R => ta σ H fun vs H1 => ∃ a xs, vs = [.ref a] ∧ SqT K H1 a xs ∧ R (IteT K a) H1
theorem pi_enumT {X : Cx} {e : Expr} {ta : TA} {p pos tpos : Pos} {elts : List Expr} {kk : Nat} (hg : Gl X "enumerate") (hm : X.mg "enumerate" = none) (ha : PA X [e] ta) (hs : starEach [e] X.env = [(false, eval e X.env)] := by rfl) :
    PI X (.Tuple elts kk tpos) (.Call (.Name "enumerate" p) [e] [] pos) (iEnumT X.K ta) := by
  refine ⟨fun pins s σ H R I h => Call_ (ld_blt I hg hm boot_enumerate (PyProof.Rows.callWith_type1 (thn (ha.run pos pins s σ H _ I h) fun us s1 ⟨vs, H1, I1, r1, a, xs, ex, hq, q⟩ => ?_) hs rfl))⟩
  subst ex
  cases r1 with
  | cons r rr =>
    cases rr
    cases r
    obtain ⟨its, rv, p', hz⟩ := I1.tuple hq
    refine g6_call_enumT (show s1.heap.IsTuple a its.toArray from p') fun h' he hit hsz hk => wpAny_pyIter_enum he ?_
    refine ⟨s1.heap.objs.size + 1, [s1.heap.objs.size + 1, s1.heap.objs.size], _, _, H1, rfl, I1.kept (t' := s1.toks) hk, turn_enumT a (s1.heap.objs.size + 1) s1.heap.objs.size, ⟨⟨.none, he⟩, hit, Nat.succ_ne_self _⟩, fun b hb => ?_, q⟩
    have hle : s1.heap.objs.size ≤ b := by
      have e' : b = s1.heap.objs.size + 1 ∨ b = s1.heap.objs.size := by simpa using hb
      rcases e' with z | z
      · rw [z]; exact Nat.le_add_right _ _
      · rw [z]; exact Nat.le_refl _
    exact I1.fpOk hle (I1.hok.fresh hle)
/-- enumerate of a tuple: pairs of the place and the item -/
theorem iv_enumT {K : PySem.W.Frag} {ρ : Env6} {te : TE} {ds : List PyData} (h : EV K te ρ (.tuple ds)) : IV K (iEnumT K (tCons te tNil)) ρ ((ds.zipIdx).map fun p => .tuple [.int (p.2 : Int), p.1]) := fun W σ H o E R q => h W σ H o E _ fun v H1 s1 v1 => by
  obtain ⟨a, xs, rfl, h3, h4⟩ := v1.tup_iff
  refine ⟨a, xs, rfl, same_sqT hide_le h3, q _ H1 s1 ⟨fun i H2 s hi => ?_, fun i W' H2 x H3 o' s y => ?_, fun i H2 s hi => ?_⟩⟩
  · rw [List.length_map, List.length_zipIdx] at hi
    have hx : i < xs.length := by rw [h4.length]; exact hi
    exact ⟨xs, xs[i], same_sqT s h3, List.getElem?_eq_getElem hx⟩
  · obtain ⟨T, z, rfl, hT, rfl, f⟩ := y
    have sn := same_new (o := .tup [.int (i : Nat), z]) hT
    refine ⟨sn, fun d hd => ?_⟩
    rw [List.getElem?_map, List.getElem?_zipIdx] at hd
    cases e : ds[i]? with
    | none => rw [e] at hd; cases hd
    | some d0 =>
      rw [e] at hd
      obtain ⟨v, h1, h2⟩ := h4.get e
      have e2 := f xs (same_sqT hide_le (same_sqT s h3))
      rw [h1] at e2
      have e3 : v = z := Option.some.inj e2
      subst e3
      have e4 : PyData.tuple [.int ((0 + i : Nat) : Int), d0] = d := Option.some.inj hd
      rw [← e4, Nat.zero_add]
      exact .tup (SqT.of (hide_new o' hT)) (.cons (.int _) (.cons (h2.same (s.trans (hide_same sn))) .nil))
  · rw [List.length_map, List.length_zipIdx] at hi
    exact ⟨xs, same_sqT s h3, by rw [h4.length]; exact hi⟩
end G6
/-! Part A4b: the least of a list of data; the text of data. -/
namespace G6
open PySem PySem.Spec PyProof.Rows L2
def rMinD (K : PySem.W.Frag) : List V → Hp → VK → Prop := fun vs H Q => ∃ (a : Addr) (xs : List V) (x : PyData) (ds : List PyData), vs = [V.ref a] ∧ SqL K H a xs ∧ DpAll K H xs (x :: ds) ∧ PyData.canLayAll0 (x :: ds) = true ∧ PySem.W.AlikeAll (x :: ds) ∧ PyData.depthAll (x :: ds) ≤ 60 ∧
  ∀ (i : Nat) (v : V), xs[i]? = some v → (x :: ds)[i]? = some (PySem.W.minD x ds) → Q v H
theorem cr_minD {X : Cx} (hc : X.calm = true) (hu : X.A.units + 64 < cLine) : CallR X (.builtin "min") (rMinD X.K) := by
  intro pins s σ H xs us Q I r h
  obtain ⟨a, vs, x, ds, rfl, hl, hd, hlay, hal, hdep, q⟩ := h
  cases r with
  | cons r rr =>
    cases rr
    cases r
    obtain ⟨its, rv, pl, hz⟩ := I.list hl
    obtain ⟨as, hr⟩ := Dp.readsAll I (x :: ds) vs its hd rv
    refine PySem.W.min_list_data (vs := its.toArray) (x := x) (xs := ds) (as := as) (I.ok.hd hc) pl.isList hr hal (by omega) fun i v h' tk bs hv hrd hk => ?_
    have hv' : its[i]? = some v := by simpa using hv
    obtain ⟨bs', hr', hlt, hmem, _⟩ := PySem.W.readsAll_at hr i v hv'
    have hlay' : (PyData.canLay0 ((x :: ds).getD i .none)) = true := by
      have key : ∀ (l : List PyData), PyData.canLayAll0 l = true → ∀ e ∈ l, PyData.canLay0 e = true := by
        intro l
        induction l with
        | nil => intro _ e he; cases he
        | cons y l ih =>
          intro hl e he
          simp only [PyData.canLayAll0, Bool.and_eq_true] at hl
          rcases List.mem_cons.mp he with z | z
          · rw [z]; exact hl.1
          · exact ih hl.2 e z
      exact key _ hlay _ hmem
    have eu := SeqAt.Reads.unique _ _ v _ _ hlay' (Reads.keeps hk hr') hrd
    have hxl : i < vs.length := by
      rw [rv.length]
      exact (List.getElem?_eq_some_iff.mp hv').1
    obtain ⟨u, hu1, hu2⟩ := rv.get (List.getElem?_eq_getElem hxl)
    rw [hv'] at hu1
    have eu1 : v = u := Option.some.inj hu1
    subst eu1
    refine ⟨vs[i], H, I.kept (t' := tk) hk, hu2, q i _ (List.getElem?_eq_getElem hxl) ?_⟩
    rw [List.getElem?_eq_getElem hlt]
    rw [List.getD_eq_getElem?_getD, List.getElem?_eq_getElem hlt] at eu
    exact congrArg some eu
theorem rc_minD {K : PySem.W.Frag} {x : PyData} {ds : List PyData} (h1 : PyData.canLayAll0 (x :: ds) = true) (h2 : PySem.W.AlikeAll (x :: ds)) (h3 : PyData.depthAll (x :: ds) ≤ 60) : RCV K (rMinD K) [.list (x :: ds)] (PySem.W.minD x ds) := fun W vs H o r Q q => by
  cases r with
  | cons h4 h5 =>
    cases h5
    obtain ⟨a, xs, rfl, h6, h7⟩ := h4.lst_iff
    refine ⟨a, xs, x, ds, rfl, SqL.of (hide_le _ _ h6), (h7.same hide_le).dp h1, h1, h2, h3, fun i v hv hd => ?_⟩
    obtain ⟨v', e1, e2⟩ := h7.get hd
    rw [hv] at e1
    have e3 : v = v' := Option.some.inj e1
    subst e3
    exact q v H (Same.refl H) e2
/-- repr(x) of data, where nothing's repr is under way -/
def rReprD (K : PySem.W.Frag) : List V → Hp → VK → Prop := fun vs H Q => ∃ (a : Addr) (d : PyData), vs = [V.ref a] ∧ Dp K H (.ref a) d ∧ d.showable = true ∧ d.hasDict = false ∧ d.depth ≤ 60 ∧ d.shown.length ≤ sizeLine ∧ Q (.str d.shown) H
theorem call_reprD {X : Cx} (hg : X.A.guards = some []) (hu : X.A.units + 64 < cLine) : CallR X (.builtin "repr") (rReprD X.K) := by
  intro pins s σ H xs us Q I r h
  obtain ⟨a, d, rfl, hd, h1, h2, h3, h4, q⟩ := h
  cases r with
  | cons r rr =>
    cases rr
    obtain ⟨as, hr⟩ := Dp.reads I d _ _ hd r
    cases r
    exact repr_of_reads' hr h1 (fun z => by rw [h2] at z; cases z) hg (by omega) (fun _ _ e => e) (fun h' u tk hk => ⟨.str d.shown, H, I.kept (t' := tk) hk, ⟨u, rfl⟩, q⟩) h4
theorem rc_reprT {K : PySem.W.Frag} {ds : List PyData} (h1 : (PyData.tuple ds).showable = true) (h2 : (PyData.tuple ds).canLay0 = true) (h3 : (PyData.tuple ds).depth ≤ 60) (h4 : (PyData.tuple ds).shown.length ≤ sizeLine) : RCV K (rReprD K) [.tuple ds] (.str (PyData.tuple ds).shown) := fun W vs H o r Q q => by
  cases r with
  | cons h5 h6 =>
    cases h6
    have h7 := (h5.same hide_le).dp h2
    obtain ⟨a, xs, rfl, _, _⟩ := h5.tup_iff
    exact ⟨a, _, rfl, h7, h1, PyData.hasDict_of_canLay _ h2, h3, h4, q _ H (Same.refl H) (.str _)⟩
theorem rc_reprL {K : PySem.W.Frag} {ds : List PyData} (h1 : (PyData.list ds).showable = true) (h2 : (PyData.list ds).canLay0 = true) (h3 : (PyData.list ds).depth ≤ 60) (h4 : (PyData.list ds).shown.length ≤ sizeLine) : RCV K (rReprD K) [.list ds] (.str (PyData.list ds).shown) := fun W vs H o r Q q => by
  cases r with
  | cons h5 h6 =>
    cases h6
    have h7 := (h5.same hide_le).dp h2
    obtain ⟨a, xs, rfl, _, _⟩ := h5.lst_iff
    exact ⟨a, _, rfl, h7, h1, PyData.hasDict_of_canLay _ h2, h3, h4, q _ H (Same.refl H) (.str _)⟩
/-- a starred part of a display -/
theorem ea_starT {K : PySem.W.Frag} {ρ : Env6} {te : TE} {tr : TA} {ds es : List PyData} (h : EV K te ρ (.tuple ds)) (hr : EA K tr ρ es) : EA K (StX.tStar K te tr) ρ (ds ++ es) := fun W σ H o E Q q =>
  h W σ H o E _ fun v H1 s1 v1 => by
    obtain ⟨a, xs, rfl, h3, h4⟩ := v1.tup_iff
    exact ⟨a, xs, rfl, .inl (same_sqT hide_le h3), hr W σ H1 (o.same s1) (E.same (hide_same s1)) _ fun vs H2 s2 r2 => q _ H2 (s1.trans s2) ((h4.same (hide_same s2)).append r2)⟩
end G6
/-! Part A5: calls of the text's defs; defs that want the guards clear; the law's end for such. -/
namespace G6
open PySem PySem.Spec PyProof.Rows L2
/-- a def stands at the module's name x, and keeps its promise -/
def Good (P : Program) (w : World) (K : PySem.W.Frag) (mg : Str → Option Value) (base : Heap) (k : Nat) (x : Str) (ps : List Str) (sp : Sp) : Prop :=
  ∃ f fd, mg x = some (.ref f) ∧ PySem.W.keepIn K (.ref f) = true ∧ Binds K fd ps [] ∧ FnOk P w K mg base CX0 k f fd ps sp
section
variable {X : Cx} {k : Nat} {x : Str} {ps : List Str} {sp : Sp} {e : Expr} {es : List Expr} {t : TA} {p pos : Pos}
theorem pe_cg (G : Good X.prog X.w X.K X.mg X.base k x ps sp) (hr : Room k X.A) (hg : Gl X x) (ha : PA X (e :: es) t) (hdb : (x == ("__debug__" : Str)) = false := by decide)
    (he : starEach (e :: es) X.env = (false, eval e X.env) :: starEach es X.env := by rfl) (hpl : (backTo pos (starEach es X.env)).any (·.1) = false := by rfl) : PE X (.Call (.Name x p) (e :: es) [] pos) (tCall sp [] E0 t) := by
  obtain ⟨f, fd, hm, hk, hb, F⟩ := G
  exact pe_call F hr hg hm hk hb .nil pass0 ha hdb he hpl
/-- constants of the module -/
theorem pe_gs {z : Str} (hg : Gl X x) (hm : ∃ t, X.mg x = some (.str z t)) (hd : (x == ("__debug__" : Str)) = false := by decide) : PE X (.Name x pos) (tC (.str z)) := by
  obtain ⟨t, h⟩ := hm
  exact pe_glob hg h ⟨t, rfl⟩ hd
theorem pe_gi {z : Int} (hg : Gl X x) (hm : ∃ t, X.mg x = some (.int z t)) (hd : (x == ("__debug__" : Str)) = false := by decide) : PE X (.Name x pos) (tC (.int z)) := by
  obtain ⟨t, h⟩ := hm
  exact pe_glob hg h ⟨t, rfl⟩ hd
end
section
variable {P : Program} {w : World} {K : PySem.W.Frag} {mg : Str → Option Value} {base : Heap}
/-- a def of data: its body gives d wherever R tells d -/
theorem good_of {x : Str} {st : Stmt} {N ps : List Str} {k : Nat} {R : List PyData → PyData → Prop} (hF : ∃ fd, mg x = some (.ref (He.ga K x)) ∧ FunD K x x (defArgs st) (defBody st) (defScope st) [] [] (He.ga K x) fd) (S : FnScope N ps (defScope st)) (hl : ∀ ds d, R ds d → ds.length = ps.length)
    (hb : ∀ (kV doc pm : Value) (an : Option Addr) (cdv ct : Value) (us : List Value), us.length = ps.length → bindArgs (PySem.W.fnOf x x (defArgs st) (defBody st) (defScope st) .none kV doc pm an cdv ct) ⟨us, []⟩ = pure (ps.zip us))
    (hbody : ∀ (cdv : Value) (A : Around) (outer : List Env) (s : Shared) (H : Hp) (E : XK), Room k (A.deeper (envOfC x (defScope st) s.heap.objs.size (He.ga K x) cdv)) →
      ∃ t, PSs (cxOf CX0 P w K mg base N x (defScope st) (He.ga K x) cdv A outer s H E).nox (defBody st) t ∧ ∀ ds d, R ds d → SV K t (ds.map some ++ List.replicate (N.length - ds.length) none) (.rt d)) :
    Good P w K mg base (k + 1) x ps (PSp K R) := by
  obtain ⟨fd, hm, F⟩ := hF
  refine ⟨_, fd, hm, F.kp, F.bindsN hb, F.ok S (fun vs H Q E h => ?_) fun cdv A outer s H vs Q E hr h => ?_⟩
  · obtain ⟨W, ds, d, _, r, hR, _⟩ := h
    rw [r.length]
    exact hl ds d hR
  · obtain ⟨W, ds, d, ok, r, hR, q⟩ := h
    obtain ⟨t, ht, hv⟩ := hbody cdv A outer s H E hr
    exact ⟨t, ht.nox, hv ds d hR W _ H _ ok (EnvD.start N r) fun v H' s' v' => q v H' s' v'⟩
end
end G6
/-! Part A6: defs that want the guards clear; the law's end over such a def; a dict against the empty one. -/
namespace G6
open PySem PySem.Spec PyProof.Rows L2
/-- a def called where no repr is under way -/
structure FnG (P : Program) (w : World) (K : PySem.W.Frag) (mg : Str → Option Value) (base : Heap) (k : Nat) (f : Addr) (fd : FuncData) (ps : List Str) (sp : Sp) : Prop where
  args : ∀ vs H Q E, sp vs H Q E → vs.length = ps.length
  go : ∀ (A : Around) (fr : List Env) (s : Shared) (H : Hp) (us : List Value) (vs : List V) (Q : VK), A.guards = some [] → Room k A → Env0 P w K mg base A fr s H → BindsTo s fd ⟨us, []⟩ (ps.zip us) → Vals vs us → sp vs H Q E0 →
    codeAny (model P w) A (.call (.ref f) ⟨us, []⟩) (CR CX0 fr P w H s Q E0) s
def GoodG (P : Program) (w : World) (K : PySem.W.Frag) (mg : Str → Option Value) (base : Heap) (k : Nat) (x : Str) (ps : List Str) (sp : Sp) : Prop :=
  ∃ f fd, mg x = some (.ref f) ∧ PySem.W.keepIn K (.ref f) = true ∧ Binds K fd ps [] ∧ FnG P w K mg base k f fd ps sp
section
variable {X : Cx} {k : Nat} {x : Str} {ps : List Str} {sp : Sp} {e : Expr} {es : List Expr} {t : TA} {p pos : Pos}
theorem pe_cgG (hgd : X.A.guards = some []) (G : GoodG X.prog X.w X.K X.mg X.base k x ps sp) (hr : Room k X.A) (hg : Gl X x) (ha : PA X (e :: es) t) (hdb : (x == ("__debug__" : Str)) = false := by decide)
    (he : starEach (e :: es) X.env = (false, eval e X.env) :: starEach es X.env := by rfl) (hpl : (backTo pos (starEach es X.env)).any (·.1) = false := by rfl) : PE X (.Call (.Name x p) (e :: es) [] pos) (tCall sp [] E0 t) := by
  obtain ⟨f, fd, hm, hk, hb, F⟩ := G
  refine ⟨fun pins s σ H Q I h => wpAny_Call_Name_kw (ld_glob I hg hm ?_ hdb)⟩
  refine PySem.W.callWith_K (h₀ := X.base) I.ok.mod.kin hk (thn (ha.run pos pins s σ H _ I h) fun us s1 ⟨vs, H1, I1, r, q⟩ => ⟨I1.kIn, ?_⟩) he hpl
  have q : sp (vs ++ []) H1 Q E0 := q
  rw [List.append_nil] at q
  have lu : us.length = ps.length := r.length.symm.trans (F.args _ _ _ _ q)
  have bt := hb s1 us I1.kIn (by rw [List.append_nil]; exact lu)
  rw [List.append_nil] at bt
  refine wpAny_call (codeAny_mono (F.go X.A X.stack s1 H1 us vs Q hgd hr I1.env0 bt r q) fun res s' z => ?_)
  rcases res with er | fl
  · exact (show False from z).elim
  · cases fl <;> first | exact (show False from z).elim | exact I1.after z
end
section
variable {P : Program} {w : World} {K : PySem.W.Frag} {mg : Str → Option Value} {base : Heap} {k : Nat}
/-- such a def by its body -/
theorem fnG_of {x qual : Str} {pr : Arguments} {body : List Stmt} {scope : Scope} {f : Addr} {fd : FuncData} {N ps : List Str} {sp : Sp} (F : FunD K x qual pr body scope [] [] f fd) (S : FnScope N ps scope) (len : ∀ vs H Q E, sp vs H Q E → vs.length = ps.length)
    (hb : ∀ (cd : Value) (A : Around) (fr : List Env) (s : Shared) (H : Hp) (vs : List V) (Q : VK), A.guards = some [] → Room k (A.deeper (envOfC qual scope s.heap.objs.size f cd)) → sp vs H Q E0 →
      ∃ t, PSs (cxOf CX0 P w K mg base N qual scope f cd A fr s H E0) body t ∧ t { nx := fun _ H' => Q .non H', rt := Q } (start N vs) H) : FnG P w K mg base (k + 1) f fd ps sp := by
  refine ⟨len, fun A fr s H us vs Q gd hr e0 bt r hs => ?_⟩
  obtain ⟨oc, od, dV, kV, doc, pm, an, cd, ct, sl, rfl, lk, hcd, _, _⟩ := F.ex
  have KX : K.In s.heap := e0.mod.kin.keeps fun b o e => (e0.bs b o e).1
  have nol : s.heap.NoLimit := e0.mod.nolimit.keeps fun b o e => (e0.bs b o e).1
  refine codeAny_call_function hr.depth (KX _ _ lk) rfl S.co S.gen rfl (PySem.W.codeRec_of KX hcd) (bt _ _ _ _ ?_)
  refine wpAny_newFunctionEnv_cells S.kind (fun y hy => ?_) fun env he s1 inc => ?_
  · have hm : y.1 ∈ ps := by
      obtain ⟨n, v⟩ := y
      exact (List.of_mem_zip hy).1
    exact (S.par y.1 hm).elim Or.inl fun z => .inr ⟨z, PySem.W.cellsFrom_some _ _ _ (.inl z)⟩
  subst he
  obtain ⟨t, pt, ht⟩ := hb cd A fr s H vs Q gd (hr.deeper _) hs
  have I := inv_start (CX := CX0) (P := P) (w := w) (K := K) (mg := mg) (base := base) (qual := qual) (f := f) (cd := cd) (E := E0) S hr.hd e0 (len _ _ _ _ hs) r inc
  refine ⟨nol.keeps inc.toInCall.keep, codeAny_func (wpAny_mono (pt.run [] s1 _ H _ I ht) (fun fl s' z => ?_) fun _ _ z => z)⟩
  cases fl with
  | next =>
    obtain ⟨σ', H', J, q⟩ := z
    exact ⟨V.non, H', J.os, J.bare, J.base, J.hok, rfl, q⟩
  | ret u =>
    obtain ⟨v, σ', H', J, rv, q⟩ := z
    exact ⟨v, H', J.os, J.bare, J.base, J.hok, rv, q⟩
  | brk =>
    obtain ⟨_, _, _, q⟩ := z
    exact (show False from q).elim
  | cont =>
    obtain ⟨_, _, _, q⟩ := z
    exact (show False from q).elim
/-- the entry: nothing but the script is tracked -/
theorem entry_env {H : Hp} {s1 : Shared} {mb : Str → Option Value} {a : Addr} {vs : List Value} (KX : K.In s1.heap) (hns : s1.heap.Ns mainGlobals mg) (hb : s1.heap.Ns builtinsNs mb) (hbb : ∀ x : Str, x ≠ "__name__" → mb x = bootBuiltins x) (hlim : s1.heap.NoLimit)
    (hg : s1.gens = #[]) (ha : s1.heap.get? a = some { cls := .type "list", data := .seq vs.toArray }) (ok : HOk P w H s1.heap) (hA : ∀ b, H b ≠ none → b = a) (hK : H a ≠ none → K.lookup a = none) :
    Env0 P w K mg (hidT s1.heap H) callerA [] s1 H ∧ K.In (hidT s1.heap H) ∧ (hidT s1.heap H).Ns mainGlobals mg := by
  have dicts : ∀ {b : Addr} {m : Str → Option Value}, s1.heap.Ns b m → (hidT s1.heap H).Ns b m := fun {b m} z => by
    obtain ⟨o, es, n, e, d, r⟩ := z
    refine ⟨o, es, n, hidT_get e ?_, d, r⟩
    cases q : H b with
    | none => rfl
    | some u =>
      have eb := hA b (by rw [q]; exact fun z => nomatch z)
      rw [eb, ha] at e
      rw [← Option.some.inj e] at d
      cases d
  have kin : K.In (hidT s1.heap H) := fun b o e => hidT_get (KX b o e) (by
    cases q : H b with
    | none => rfl
    | some u =>
      have eb := hA b (by rw [q]; exact fun z => nomatch z)
      subst eb
      rw [hK (by rw [q]; exact fun z => nomatch z)] at e
      cases e)
  obtain ⟨mc, l1, l2⟩ := hlim
  exact ⟨⟨rfl, ⟨kin, dicts hns, ⟨mb, dicts hb, hbb⟩, mc, dicts l1, l2⟩, fun b o e => of_hidT e, Nat.le_of_eq (hidT_size _ _), trivial, fun b z => absurd (show b ∈ ([] : List Addr) from z) List.not_mem_nil, ok, .of_eq hg⟩, kin, dicts hns⟩
/-- the law's call, its def wanting clear guards -/
theorem law_callG {mb : Str → Option Value} {fa a : Addr} {fd : FuncData} {x : Str} {sp : Sp} {s1 : Shared} {vs : List Value} {ns : List Int} (KX : K.In s1.heap) (hns : s1.heap.Ns mainGlobals mg) (hb : s1.heap.Ns builtinsNs mb)
    (hbb : ∀ x : Str, x ≠ "__name__" → mb x = bootBuiltins x) (hlim : s1.heap.NoLimit) (hg : s1.gens = #[]) (ha : s1.heap.get? a = some { cls := .type "list", data := .seq vs.toArray }) (hi : IntsAre vs ns) (hl : ns.length ≤ sizeLine) (hr : Room k callerA)
    (F : ∀ base : Heap, K.In base → base.Ns mainGlobals mg → FnG P w K mg base k fa fd [x] sp) (hbind : ∀ (s : Shared) (u : Value), BindsTo s fd ⟨[u], []⟩ [(x, u)])
    (hsp : ∀ H : Hp, Only H → SqL K H a (ns.map V.int) → sp [.ref a] H (fun v _ => v = .bl true) E0) :
    codeAny (model P w) callerA (.call (.ref fa) ⟨[.ref a], []⟩) (fun r s' => r = .ok (.ret (.bool true)) ∧ OldK s1.heap s'.heap ∧ s'.os = s1.os ∧ AllBare s'.gens) s1 := by
  have key : ∀ H : Hp, Only H → SqL K H a (ns.map V.int) → HOk P w H s1.heap → (∀ b, H b ≠ none → b = a) → (H a ≠ none → K.lookup a = none) →
      codeAny (model P w) callerA (.call (.ref fa) ⟨[.ref a], []⟩) (fun r s' => r = .ok (.ret (.bool true)) ∧ OldK s1.heap s'.heap ∧ s'.os = s1.os ∧ AllBare s'.gens) s1 := fun H hO hS ok hA hK => by
    obtain ⟨e0, kin, gl⟩ := entry_env (P := P) (w := w) KX hns hb hbb hlim hg ha ok hA hK
    refine codeAny_mono ((F _ kin gl).go callerA [] s1 H [.ref a] [.ref a] _ rfl hr e0 (hbind s1 _) (.cons rfl .nil) (hsp H hO hS)) fun res s' z => ?_
    rcases res with er | fl
    · exact (show False from z).elim
    cases fl with
    | ret u =>
      obtain ⟨v, H', os, bare, un, ok', rv, q⟩ := z
      have q : v = .bl true := q
      subst q
      have rv : u = Value.bool true := rv
      subst rv
      refine ⟨rfl, OldK.of_keep fun b o e => ?_, os, bare⟩
      rcases hO b with q | ⟨ob, xs, q⟩
      · exact un.keep b o e q (fun z => absurd (show b ∈ ([] : List Addr) from z) List.not_mem_nil) List.not_mem_nil
      · have c1 := (ok b _ q).1
        have c2 := (ok' b _ (un.frzs b ob _ q)).1
        rw [e] at c1
        rw [c2, ← Option.some.inj c1]
    | _ => exact (show False from z).elim
  have rv := vals_ints hi
  cases hk : K.lookup a with
  | some o =>
    have e := KX a o hk
    rw [ha] at e
    cases e
    refine key (fun _ => none) (fun _ => .inl rfl) (.inr ⟨_, vs.toArray, _, hk, rfl, rfl, rfl, ?_, ?_⟩) (fun b u z => nomatch (show (none : Option HO) = some u from z)) (fun b z => absurd rfl z) fun z => absurd rfl z
    · rw [List.size_toArray, hi.length]; exact hl
    · simpa using rv
  | none =>
    have at_a : (fun b : Addr => if b = a then some (HO.frz { cls := .type "list", data := .seq vs.toArray } (.lst (ns.map V.int))) else none) a = some (.frz { cls := .type "list", data := .seq vs.toArray } (.lst (ns.map V.int))) := if_pos rfl
    have only : ∀ (b : Addr) (u : HO), (if b = a then some (HO.frz { cls := .type "list", data := .seq vs.toArray } (.lst (ns.map V.int))) else none) = some u → b = a ∧ u = .frz { cls := .type "list", data := .seq vs.toArray } (.lst (ns.map V.int)) := fun b u z => by
      by_cases hb : b = a
      · rw [if_pos hb] at z
        exact ⟨hb, (Option.some.inj z).symm⟩
      · rw [if_neg hb] at z
        cases z
    refine key (fun b => if b = a then some (.frz { cls := .type "list", data := .seq vs.toArray } (.lst (ns.map V.int))) else none) (fun b => ?_) (.inl (.inr ⟨_, at_a⟩)) (fun b u z => ?_) (fun b z => ?_) fun _ => hk
    · by_cases hb : b = a
      · exact .inr ⟨_, _, if_pos hb⟩
      · exact .inl (if_neg hb)
    · obtain ⟨rfl, rfl⟩ := only b u z
      exact ⟨ha, by rw [List.length_map]; exact hl, vs, _, rv, ha⟩
    · by_cases hb : b = a
      · exact hb
      · exact absurd (if_neg hb) z
end
/-- the law's row, over a head by facts -/
theorem walk_ofG {l : PySem.W.OpenLaw} {n k : Nat} {q : Program} {loose : List Str} {XP : (Str → Option Value) → Heap → Prop} {YP : World → Heap → Prop} {d : DefRec} {x : Str} (hn : l.most = some n) (hn2 : n ≤ sizeLine) (hdf : d.params.defaults = []) (hr : Room k callerA)
    (F : ∀ (w : World) (mg : Str → Option Value) (fa : Addr) (h : Heap), YP w h → h.Ns mainGlobals mg → mg d.name = some (.ref fa) → ∃ (K : PySem.W.Frag) (fd : FuncData) (sp : Sp), K.In h ∧ (∀ (s : Shared) (u : Value), BindsTo s fd ⟨[u], []⟩ [(x, u)]) ∧
      (∀ (H : Hp) (a : Addr) (ns : List Int), ns.length ≤ n → Only H → SqL K H a (ns.map V.int) → sp [.ref a] H (fun v _ => v = .bl true) E0) ∧ ∀ base : Heap, K.In base → base.Ns mainGlobals mg → FnG l.prog w K mg base k fa fd [x] sp) :
    PySem.W.WalkO q loose XP YP l.row.toRowW d [] (fun f vs => PySem.call f vs) :=
  Att.attach_call hn hdf fun w s0 s1 mg mb fa o pm cd doc a vs ns G Y ho hd hcd hmg hobj hints hlen hg => by
    obtain ⟨K, fd, sp, KX, hb, hsp, hF⟩ := F w mg fa _ Y G.T.g hmg
    exact law_callG KX G.T.g G.T.b G.T.builtins G.T.nolimit hg hobj hints (Nat.le_trans hlen hn2) hr hF hb fun H hO hS => hsp H a ns hlen hO hS
/-! ### d != {} -/
def rNeDE : R2 := fun x y H Q => ∃ a b ks, x = .ref a ∧ y = .ref b ∧ H a = some (.dK ks) ∧ H b = some (.dK []) ∧ Q (.bl (!ks.isEmpty)) H
theorem op_ne_dE {X : Cx} (hu : X.A.units + 1 < cLine) : OpR X (compareOp .NotEq) rNeDE := by
  intro pins s σ H x y v u Q I rx ry h
  obtain ⟨a, b, ks, rfl, rfl, ea, eb, q⟩ := h
  have rx : v = Value.ref a := rx
  have ry : u = Value.ref b := ry
  subst rx
  subst ry
  obtain ⟨_, ya, va, ra, da⟩ := (show ObjOk X.prog X.w H s.heap a (.dK ks) from I.hok a _ ea)
  obtain ⟨_, yb, vb, rb, db⟩ := (show ObjOk X.prog X.w H s.heap b (.dK []) from I.hok b _ eb)
  have lb : vb.length = 0 := by rw [← rb.length]; rfl
  have la : va.length = ks.length := ra.length.symm
  refine PySem.W.keq_ne (knd := mixKind X.prog X.w) (r := true) ya yb da db (by omega) (fun e => ?_) (fin_bl I q ?_)
  · have z : va = [] := List.eq_nil_of_length_eq_zero (by omega)
    rw [z]
    exact .nil
  · rw [la, lb]
    cases ks <;> simp
end G6
/-! Part A7: the rules that look at the written part, K said (so that they stand in a comprehension's block). -/
namespace G6
open PySem PySem.Spec PyProof.Rows L2
def rLenK (K : PySem.W.Frag) : List V → Hp → VK → Prop := fun xs H Q => ∃ p ys, xs = [.ref p] ∧ (SqL K H p ys ∨ SqT K H p ys) ∧ Q (.int ys.length) H
def rTupK (K : PySem.W.Frag) : List V → Hp → VK → Prop := fun xs H Q => ∃ p ys, xs = [.ref p] ∧ ((SqL K H p ys ∧ ∀ l, H l = none → Q (.ref l) (upd H l (.tup ys))) ∨ (SqT K H p ys ∧ Q (.ref p) H))
section
variable {X : Cx} (K : PySem.W.Frag)
theorem ixK (h : X.K = K := by rfl) : IxR X (rIx K) := by subst h; exact ix_seq
theorem ixDK (w : World) (h : X.K = K := by rfl) (hw : X.w = w := by rfl) : IxR X (rIxD K w) := by subst h; subst hw; exact ix_kdict
theorem lenK (h : X.K = K := by rfl) : CallR X (.builtin "len") (rLenK K) := by subst h; exact call_len_seq
theorem tupK (h : X.K = K := by rfl) : CallR X (.type "tuple") (rTupK K) := by subst h; exact call_tuple_of
theorem maxK (hc : X.calm = true) (h : X.K = K := by rfl) : CallR X (.builtin "max") (rMax K) := by subst h; exact cr_max hc
theorem allK (hc : X.calm = true) (h : X.K = K := by rfl) : CallR X (.builtin "all") (rAll K) := by subst h; exact cr_all hc
theorem anyK (hc : X.calm = true) (h : X.K = K := by rfl) : CallR X (.builtin "any") (rAny K) := by subst h; exact cr_any hc
theorem minDK (hc : X.calm = true) (hu : X.A.units + 64 < cLine) (h : X.K = K := by rfl) : CallR X (.builtin "min") (rMinD K) := by subst h; exact cr_minD hc hu
theorem sortK (h : X.K = K := by rfl) : CallR X (.builtin "sorted") (rSortedI K) := by subst h; exact cr_sortedI
theorem isiK (h : X.K = K := by rfl) : CallR X (.builtin "isinstance") (rIsi K) := by subst h; exact call_isi
theorem reprK (hg : X.A.guards = some []) (hu : X.A.units + 64 < cLine) (h : X.K = K := by rfl) : CallR X (.builtin "repr") (rReprD K) := by subst h; exact call_reprD hg hu
theorem inK (h : X.K = K := by rfl) : OpR X (compareOp .In) (rIn K false) := by subst h; exact op_in_seq
theorem niK (h : X.K = K := by rfl) : OpR X (compareOp .NotIn) (rIn K true) := by subst h; exact op_notIn_seq
theorem inDK (hu : X.A.units + 65 < cLine) (h : X.K = K := by rfl) : OpR X (compareOp .In) (rInD K) := by subst h; exact op_inD hu
theorem eqDK (hu : X.A.units + 64 < cLine) (h : X.K = K := by rfl) : OpR X (compareOp .Eq) (rEqD K) := by subst h; exact op_eqD hu
theorem neDK (hu : X.A.units + 64 < cLine) (h : X.K = K := by rfl) : OpR X (compareOp .NotEq) (rNeD K) := by subst h; exact op_neD hu
theorem catAK (h : X.K = K := by rfl) : OpR X (binaryOp .Add) (rCatA K) := by subst h; exact op_catA
theorem repTK (h : X.K = K := by rfl) : OpR X (binaryOp .Mult) (rRepT K) := by subst h; exact op_repT
theorem slK (h : X.K = K := by rfl) : SlR X (rSlA K) := by subst h; exact sl_tupA
theorem idxK (h : X.K = K := by rfl) : MtR X "list.index" (rIndex K) := by subst h; exact mt_index
theorem piK {tg l : Expr} {tl : TE} (hl : PE X l tl) (h : X.K = K := by rfl) : PI X tg l (iSeq K tl) := by subst h; exact pi_seq hl
theorem enumK {e : Expr} {ta : TA} {p pos tpos : Pos} {elts : List Expr} {kk : Nat} (hg : Gl X "enumerate") (hm : X.mg "enumerate" = none) (ha : PA X [e] ta) (h : X.K = K := by rfl) (hs : starEach [e] X.env = [(false, eval e X.env)] := by rfl) :
    PI X (.Tuple elts kk tpos) (.Call (.Name "enumerate" p) [e] [] pos) (iEnumT K ta) := by subst h; exact pi_enumT hg hm ha hs
theorem starK {e : Expr} {es : List Expr} {te : TE} {t : TA} {p : Pos} (he : PE X e te) (hr : PA X es t) (h : X.K = K := by rfl) (hs : starEach (.Starred e p :: es) X.env = (true, eval e X.env) :: starEach es X.env := by rfl) : PA X (.Starred e p :: es) (StX.tStar K te t) := by
  subst h; exact StX.pa_star he hr hs
theorem gtK {es : List Expr} {k : Nat} {t : TGs} {n : Nat} {pos : Pos} (hc : X.calm = true) (hp : PGs X es t) (h : X.K = K := by rfl) (hn : (assignEach es X.env).length = n := by rfl) (hst : (assignEach es X.env).findIdx? (·.1) = none := by rfl) : PG X (.Tuple es k pos) (gTup K n t) := by
  subst h; exact pg_tup hc hp hn hst
theorem bmK {o e : Expr} {es : List Expr} {to : TE} {t : TA} {name : Str} {apos cpos : Pos} {T id : String} {r : V → List V → Hp → VK → Prop} (pa : PlainAttrs T) (slot : Slot T name id) (hty : typeOf (.builtin id) = pure (.type "method_descriptor")) (hm : MtR X id r) (ho : PE X o to) (ha : PA X (e :: es) t) (h : X.K = K := by rfl)
    (hbase : attributeBase o name X.env (eval o X.env) = eval o X.env := by rfl)
    (hfew : ((backTo cpos (starEach (e :: es) X.env)).all (fun x => !x.1) && (backToKw cpos (keywordEach [] X.env)).all (fun x => x.1.isSome) && decide ((e :: es).length + ([] : List Keyword).length + (if ([] : List Keyword).isEmpty then 0 else 1) < 30)) = true := by rfl)
    (hline : (apos.endLine == cpos.line) = true := by rfl) (hs : starEach (e :: es) X.env = (false, eval e X.env) :: starEach es X.env := by rfl) (hplain : (backTo cpos (starEach es X.env)).any (·.1) = false := by rfl) : PE X (.Call (.Attribute o name apos) (e :: es) [] cpos) (tBM K T r to t) := by
  subst h; exact pe_bm pa slot hty hm ho ha hbase hfew hline hs hplain
end
end G6
/-! Part B1: the mathematics of kinds: states that come, the order, joins, bricks. No program in sight. -/
namespace G6
structure Kd where
  st : Nat
  ups : List (List Nat)
  mg : List (List Nat)
  rd : List Nat
def Kd.n (k : Kd) : Nat := k.rd.length
def Kd.J (k : Kd) (a b : Nat) : Nat := (k.mg.getD a []).getD b 0
def Kd.U (r : List Nat) (a : Nat) : Nat := r.getD a 0
/-- a kind that joins, on all its states -/
structure Lat (k : Kd) : Prop where
  n1 : 1 ≤ k.n
  n8 : k.n ≤ 8
  st_lt : k.st < k.n
  ups1 : 1 ≤ k.ups.length
  ups4 : k.ups.length ≤ 4
  upsR : ∀ r, r ∈ k.ups → r.length = k.n ∧ ∀ x, x ∈ r → x < k.n
  mgL : k.mg.length = k.n
  mgR : ∀ r, r ∈ k.mg → r.length = k.n ∧ ∀ x, x ∈ r → x < k.n
  rdR : ∀ x, x ∈ k.rd → x ≤ 9
  comm : ∀ a b, a < k.n → b < k.n → k.J a b = k.J b a
  assoc : ∀ a b c, a < k.n → b < k.n → c < k.n → k.J (k.J a b) c = k.J a (k.J b c)
  idem : ∀ a, a < k.n → k.J a a = a
  unit : ∀ a, a < k.n → k.J k.st a = a
theorem getD_mem {α : Type} {l : List α} {i : Nat} {d : α} (h : i < l.length) : l.getD i d ∈ l := by
  rw [List.getD_eq_getElem?_getD, List.getElem?_eq_getElem h]
  exact List.getElem_mem h
section
variable {k : Kd}
theorem Lat.J_lt (L : Lat k) {a b : Nat} (ha : a < k.n) (hb : b < k.n) : k.J a b < k.n := by
  have h1 := L.mgR (k.mg.getD a []) (getD_mem (by rw [L.mgL]; exact ha))
  exact h1.2 _ (getD_mem (by rw [h1.1]; exact hb))
theorem Lat.U_lt (L : Lat k) {r : List Nat} {a : Nat} (hr : r ∈ k.ups) (ha : a < k.n) : Kd.U r a < k.n := by
  have h1 := L.upsR r hr
  exact h1.2 _ (getD_mem (by rw [h1.1]; exact ha))
theorem Lat.unit' (L : Lat k) {a : Nat} (ha : a < k.n) : k.J a k.st = a := by rw [L.comm a k.st ha L.st_lt, L.unit a ha]

/-! ### the states that come -/
inductive Rch (k : Kd) : Nat → Prop
  | st : Rch k k.st
  | up {x : Nat} {r : List Nat} : Rch k x → r ∈ k.ups → Rch k (Kd.U r x)
  | jn {x y : Nat} : Rch k x → Rch k y → Rch k (k.J x y)
theorem Rch.lt (L : Lat k) {x : Nat} (h : Rch k x) : x < k.n := by
  induction h with
  | st => exact L.st_lt
  | up _ hr ih => exact L.U_lt hr ih
  | jn _ _ h1 h2 => exact L.J_lt h1 h2
noncomputable def come (k : Kd) : List Nat := (List.range k.n).filter fun x => @decide (Rch k x) (Classical.propDecidable _)
theorem mem_come (L : Lat k) {x : Nat} : x ∈ come k ↔ Rch k x := by
  unfold come
  rw [List.mem_filter, List.mem_range]
  exact ⟨fun h => @of_decide_eq_true _ (Classical.propDecidable _) h.2, fun h => ⟨h.lt L, @decide_eq_true _ (Classical.propDecidable _) h⟩⟩
theorem come_lt (L : Lat k) {x : Nat} (h : x ∈ come k) : x < k.n := ((mem_come L).mp h).lt L
theorem come_asc : (come k).Pairwise (· < ·) := List.Pairwise.filter _ List.pairwise_lt_range
theorem come_nd : (come k).Nodup := come_asc.imp fun h => Nat.ne_of_lt h
theorem come_len (L : Lat k) : (come k).length ≤ 8 := by
  have h := List.length_filter_le (fun x => @decide (Rch k x) (Classical.propDecidable _)) (List.range k.n)
  rw [List.length_range] at h
  exact Nat.le_trans h L.n8
theorem st_come (L : Lat k) : k.st ∈ come k := (mem_come L).mpr .st
theorem jn_come (L : Lat k) {x y : Nat} (hx : x ∈ come k) (hy : y ∈ come k) : k.J x y ∈ come k := (mem_come L).mpr (.jn ((mem_come L).mp hx) ((mem_come L).mp hy))
theorem up_come (L : Lat k) {x : Nat} {r : List Nat} (hx : x ∈ come k) (hr : r ∈ k.ups) : Kd.U r x ∈ come k := (mem_come L).mpr (.up ((mem_come L).mp hx) hr)
/-- a list without repeats that is closed, and all of whose items come -/
structure Clo (k : Kd) (l : List Nat) : Prop where
  nd : l.Nodup
  st : k.st ∈ l
  up : ∀ x, x ∈ l → ∀ r, r ∈ k.ups → Kd.U r x ∈ l
  jn : ∀ x, x ∈ l → ∀ y, y ∈ l → k.J x y ∈ l
  rch : ∀ x, x ∈ l → Rch k x
theorem Clo.all {l : List Nat} (C : Clo k l) {x : Nat} (h : Rch k x) : x ∈ l := by
  induction h with
  | st => exact C.st
  | up _ hr ih => exact C.up _ ih _ hr
  | jn _ _ h1 h2 => exact C.jn _ h1 _ h2
theorem Clo.perm (L : Lat k) {l : List Nat} (C : Clo k l) : (come k).Perm l :=
  (List.perm_ext_iff_of_nodup come_nd C.nd).mpr fun x => ⟨fun h => C.all ((mem_come L).mp h), fun h => (mem_come L).mpr (C.rch x h)⟩
theorem Clo.eq (L : Lat k) {l : List Nat} (C : Clo k l) (h : l.Pairwise (· < ·)) : come k = l :=
  List.Perm.eq_of_pairwise (le := (· < ·)) (fun a b _ _ h1 h2 => absurd (Nat.lt_trans h1 h2) (Nat.lt_irrefl _)) come_asc h (C.perm L)

/-! ### at most -/
def Kd.le (k : Kd) (a b : Nat) : Bool := decide (k.J b a = b)
theorem le_iff {a b : Nat} : k.le a b = true ↔ k.J b a = b := decide_eq_true_iff
theorem le_refl (L : Lat k) {a : Nat} (ha : a < k.n) : k.le a a = true := le_iff.mpr (L.idem a ha)
theorem le_trans (L : Lat k) {a b c : Nat} (ha : a < k.n) (hb : b < k.n) (hc : c < k.n) (h1 : k.le a b = true) (h2 : k.le b c = true) : k.le a c = true := by
  rw [le_iff] at *
  calc k.J c a = k.J (k.J c b) a := by rw [h2]
    _ = k.J c (k.J b a) := L.assoc c b a hc hb ha
    _ = k.J c b := by rw [h1]
    _ = c := h2
theorem le_antisymm (L : Lat k) {a b : Nat} (ha : a < k.n) (hb : b < k.n) (h1 : k.le a b = true) (h2 : k.le b a = true) : a = b := by
  rw [le_iff] at *
  rw [← h2, L.comm a b ha hb, h1]
theorem le_join_right (L : Lat k) {a b : Nat} (ha : a < k.n) (hb : b < k.n) : k.le b (k.J a b) = true := by
  rw [le_iff, L.assoc a b b ha hb hb, L.idem b hb]
theorem le_join_left (L : Lat k) {a b : Nat} (ha : a < k.n) (hb : b < k.n) : k.le a (k.J a b) = true := by
  rw [L.comm a b ha hb]
  exact le_join_right L hb ha
theorem join_le (L : Lat k) {a b c : Nat} (ha : a < k.n) (hb : b < k.n) (hc : c < k.n) (h1 : k.le a c = true) (h2 : k.le b c = true) : k.le (k.J a b) c = true := by
  rw [le_iff] at *
  rw [← L.assoc c a b hc ha hb, h1, h2]
theorem st_le (L : Lat k) {a : Nat} (ha : a < k.n) : k.le k.st a = true := le_iff.mpr (L.unit' ha)

/-! ### joins of lists -/
def Kd.join (k : Kd) (xs : List Nat) : Nat := xs.foldl k.J k.st
theorem foldl_lt (L : Lat k) : ∀ (xs : List Nat) (a : Nat), a < k.n → (∀ x, x ∈ xs → x < k.n) → xs.foldl k.J a < k.n
  | [], _, ha, _ => ha
  | x :: xs, a, ha, h => foldl_lt L xs _ (L.J_lt ha (h x List.mem_cons_self)) fun y hy => h y (List.mem_cons_of_mem _ hy)
theorem join_lt (L : Lat k) {xs : List Nat} (h : ∀ x, x ∈ xs → x < k.n) : k.join xs < k.n := foldl_lt L xs _ L.st_lt h
theorem foldl_up (L : Lat k) : ∀ (xs : List Nat) (a : Nat), a < k.n → (∀ x, x ∈ xs → x < k.n) → k.le a (xs.foldl k.J a) = true ∧ ∀ x, x ∈ xs → k.le x (xs.foldl k.J a) = true
  | [], _, ha, _ => ⟨le_refl L ha, fun x h => nomatch h⟩
  | x :: xs, a, ha, h => by
    have hx := h x List.mem_cons_self
    have hxs := fun y hy => h y (List.mem_cons_of_mem x hy)
    have hj := L.J_lt ha hx
    obtain ⟨h1, h2⟩ := foldl_up L xs (k.J a x) hj hxs
    have hr := foldl_lt L xs (k.J a x) hj hxs
    refine ⟨le_trans L ha hj hr (le_join_left L ha hx) h1, fun y hy => ?_⟩
    rcases List.mem_cons.mp hy with e | e
    · rw [e]
      exact le_trans L hx hj hr (le_join_right L ha hx) h1
    · exact h2 y e
theorem foldl_least (L : Lat k) : ∀ (xs : List Nat) (a c : Nat), a < k.n → c < k.n → (∀ x, x ∈ xs → x < k.n) → k.le a c = true → (∀ x, x ∈ xs → k.le x c = true) → k.le (xs.foldl k.J a) c = true
  | [], _, _, _, _, _, h, _ => h
  | x :: xs, a, c, ha, hc, h, h1, h2 => by
    have hx := h x List.mem_cons_self
    exact foldl_least L xs _ c (L.J_lt ha hx) hc (fun y hy => h y (List.mem_cons_of_mem x hy)) (join_le L ha hx hc h1 (h2 x List.mem_cons_self)) fun y hy => h2 y (List.mem_cons_of_mem x hy)
theorem join_up (L : Lat k) {xs : List Nat} (h : ∀ x, x ∈ xs → x < k.n) {x : Nat} (hx : x ∈ xs) : k.le x (k.join xs) = true := (foldl_up L xs k.st L.st_lt h).2 x hx
theorem join_least (L : Lat k) {xs : List Nat} {c : Nat} (h : ∀ x, x ∈ xs → x < k.n) (hc : c < k.n) (h2 : ∀ x, x ∈ xs → k.le x c = true) : k.le (k.join xs) c = true := foldl_least L xs k.st c L.st_lt hc h (st_le L hc) h2
/-- only what is in the lists matters -/
theorem join_ext (L : Lat k) {xs ys : List Nat} (h : ∀ x, x ∈ xs → x < k.n) (e : ∀ x, x ∈ xs ↔ x ∈ ys) : k.join xs = k.join ys := by
  have h' : ∀ y, y ∈ ys → y < k.n := fun y hy => h y ((e y).mpr hy)
  exact le_antisymm L (join_lt L h) (join_lt L h') (join_least L h (join_lt L h') fun x hx => join_up L h' ((e x).mp hx)) (join_least L h' (join_lt L h) fun x hx => join_up L h ((e x).mpr hx))
theorem join_come (L : Lat k) : ∀ {xs : List Nat}, (∀ x, x ∈ xs → x ∈ come k) → k.join xs ∈ come k := by
  have key : ∀ (xs : List Nat) (a : Nat), a ∈ come k → (∀ x, x ∈ xs → x ∈ come k) → xs.foldl k.J a ∈ come k := by
    intro xs
    induction xs with
    | nil => intro a ha _; exact ha
    | cons x xs ih => intro a ha h; exact ih _ (jn_come L ha (h x List.mem_cons_self)) fun y hy => h y (List.mem_cons_of_mem _ hy)
  exact fun {xs} h => key xs _ (st_come L) h

/-! ### bricks -/
def Kd.under (k : Kd) (some : List Nat) (s : Nat) : List Nat := some.filter fun one => decide (one ≠ s) && k.le one s
def Kd.isBrick (k : Kd) (some : List Nat) (s : Nat) : Bool := decide (k.join (k.under some s) ≠ s)
noncomputable def Kd.bricks (k : Kd) : List Nat := (come k).filter fun s => k.isBrick (come k) s
noncomputable def Kd.bricksOf (k : Kd) (s : Nat) : List Nat := k.bricks.filter fun one => k.le one s
theorem bricksOf_mem {s b : Nat} : b ∈ k.bricksOf s ↔ (b ∈ come k ∧ k.isBrick (come k) b = true) ∧ k.le b s = true := by
  unfold Kd.bricksOf Kd.bricks
  rw [List.mem_filter, List.mem_filter]
theorem filter_lt {α : Type} {p q : α → Bool} : ∀ {l : List α} {a : α}, a ∈ l → (∀ x, x ∈ l → p x = true → q x = true) → q a = true → p a = false → (l.filter p).length < (l.filter q).length
  | [], a, h, _, _, _ => nomatch h
  | x :: l, a, h, hpq, hq, hp => by
    have hle : ∀ (l : List α), (∀ x, x ∈ l → p x = true → q x = true) → (l.filter p).length ≤ (l.filter q).length := by
      intro l
      induction l with
      | nil => intro _; exact Nat.le_refl _
      | cons y l ih =>
        intro h
        have h2 := ih fun z hz => h z (List.mem_cons_of_mem _ hz)
        cases e : p y with
        | true =>
          rw [List.filter_cons_of_pos e, List.filter_cons_of_pos (h y List.mem_cons_self e), List.length_cons, List.length_cons]
          omega
        | false =>
          rw [List.filter_cons_of_neg (by rw [e]; decide)]
          cases e2 : q y with
          | true => rw [List.filter_cons_of_pos e2, List.length_cons]; omega
          | false => rw [List.filter_cons_of_neg (by rw [e2]; decide)]; exact h2
    have hl := hle l fun z hz => hpq z (List.mem_cons_of_mem _ hz)
    rcases List.mem_cons.mp h with e | e
    · subst e
      rw [List.filter_cons_of_neg (by rw [hp]; decide), List.filter_cons_of_pos hq, List.length_cons]
      omega
    · have ih := filter_lt e (fun z hz => hpq z (List.mem_cons_of_mem _ hz)) hq hp
      cases e1 : p x with
      | true =>
        rw [List.filter_cons_of_pos e1, List.filter_cons_of_pos (hpq x List.mem_cons_self e1), List.length_cons, List.length_cons]
        omega
      | false =>
        rw [List.filter_cons_of_neg (by rw [e1]; decide)]
        cases e2 : q x with
        | true => rw [List.filter_cons_of_pos e2, List.length_cons]; omega
        | false => rw [List.filter_cons_of_neg (by rw [e2]; decide)]; exact ih
theorem under_mem {some : List Nat} {s t : Nat} : t ∈ k.under some s ↔ t ∈ some ∧ t ≠ s ∧ k.le t s = true := by
  unfold Kd.under
  rw [List.mem_filter, Bool.and_eq_true, decide_eq_true_iff]
theorem under_lt (L : Lat k) {s t : Nat} (hs : s ∈ come k) (ht : t ∈ k.under (come k) s) : (k.under (come k) t).length < (k.under (come k) s).length := by
  obtain ⟨h1, h2, h3⟩ := under_mem.mp ht
  refine filter_lt h1 (fun x hx hp => ?_) (by rw [Bool.and_eq_true]; exact ⟨decide_eq_true h2, h3⟩) ?_
  · rw [Bool.and_eq_true, decide_eq_true_iff] at hp ⊢
    refine ⟨fun e => ?_, le_trans L (come_lt L hx) (come_lt L h1) (come_lt L hs) hp.2 h3⟩
    subst e
    exact hp.1 (le_antisymm L (come_lt L hx) (come_lt L h1) hp.2 h3)
  · rw [show decide (t ≠ t) = false from decide_eq_false fun z => z rfl, Bool.false_and]
/-- each state that comes is the join of the bricks that are at most it -/
theorem bricks_join (L : Lat k) : ∀ (m s : Nat), (k.under (come k) s).length ≤ m → s ∈ come k → k.join (k.bricksOf s) = s := by
  intro m
  induction m with
  | zero =>
    intro s hm hs
    have hu : k.under (come k) s = [] := List.eq_nil_of_length_eq_zero (by omega)
    have hsn := come_lt L hs
    have hB : ∀ x, x ∈ k.bricksOf s → x < k.n := fun x hx => come_lt L (bricksOf_mem.mp hx).1.1
    refine le_antisymm L (join_lt L hB) hsn (join_least L hB hsn fun x hx => (bricksOf_mem.mp hx).2) ?_
    by_cases e : k.isBrick (come k) s = true
    · exact join_up L hB (bricksOf_mem.mpr ⟨⟨hs, e⟩, le_refl L hsn⟩)
    · unfold Kd.isBrick at e
      rw [hu, decide_eq_true_iff] at e
      have e2 : k.st = s := Classical.not_not.mp e
      have h3 := st_le L (join_lt L hB)
      rw [e2] at h3
      exact h3
  | succ m ih =>
    intro s hm hs
    have hsn := come_lt L hs
    have hB : ∀ x, x ∈ k.bricksOf s → x < k.n := fun x hx => come_lt L (bricksOf_mem.mp hx).1.1
    refine le_antisymm L (join_lt L hB) hsn (join_least L hB hsn fun x hx => (bricksOf_mem.mp hx).2) ?_
    by_cases e : k.isBrick (come k) s = true
    · exact join_up L hB (bricksOf_mem.mpr ⟨⟨hs, e⟩, le_refl L hsn⟩)
    · unfold Kd.isBrick at e
      rw [decide_eq_true_iff] at e
      have e2 : k.join (k.under (come k) s) = s := Classical.not_not.mp e
      have hU : ∀ x, x ∈ k.under (come k) s → x < k.n := fun x hx => come_lt L (under_mem.mp hx).1
      have h3 : k.le (k.join (k.under (come k) s)) (k.join (k.bricksOf s)) = true := by
        refine join_least L hU (join_lt L hB) fun t ht => ?_
        obtain ⟨h1, h2, h3⟩ := under_mem.mp ht
        have ht2 := ih t (by have := under_lt L hs ht; omega) h1
        have hBt : ∀ x, x ∈ k.bricksOf t → x < k.n := fun x hx => come_lt L (bricksOf_mem.mp hx).1.1
        have h4 : k.le (k.join (k.bricksOf t)) (k.join (k.bricksOf s)) = true := join_least L hBt (join_lt L hB) fun b hb => by
          obtain ⟨hb1, hb2⟩ := bricksOf_mem.mp hb
          exact join_up L hB (bricksOf_mem.mpr ⟨hb1, le_trans L (come_lt L hb1.1) (come_lt L h1) hsn hb2 h3⟩)
        rw [ht2] at h4
        exact h4
      rw [e2] at h3
      exact h3
end
end G6
/-! Part B2: the mathematics of chains, lots, pairs. -/
namespace G6
/-! ### the order of tuples -/
def ltN : List Nat → List Nat → Bool
  | [], [] => false
  | [], _ :: _ => true
  | _ :: _, [] => false
  | x :: xs, y :: ys => decide (x < y) || (decide (x = y) && ltN xs ys)
theorem ltN_irrefl : ∀ a : List Nat, ltN a a = false
  | [] => rfl
  | x :: xs => by
    unfold ltN
    rw [ltN_irrefl xs, decide_eq_false (Nat.lt_irrefl x)]
    simp
theorem ltN_trans : ∀ {a b c : List Nat}, ltN a b = true → ltN b c = true → ltN a c = true
  | [], [], _, h, _ => by simp [ltN] at h
  | [], _ :: _, [], _, h => by simp [ltN] at h
  | [], _ :: _, _ :: _, _, _ => by simp [ltN]
  | _ :: _, [], _, h, _ => by simp [ltN] at h
  | _ :: _, _ :: _, [], _, h => by simp [ltN] at h
  | x :: xs, y :: ys, z :: zs, h1, h2 => by
    simp only [ltN, Bool.or_eq_true, Bool.and_eq_true, decide_eq_true_eq] at *
    rcases h1 with h1 | ⟨h1, h1'⟩
    · rcases h2 with h2 | ⟨h2, _⟩
      · exact .inl (Nat.lt_trans h1 h2)
      · exact .inl (h2 ▸ h1)
    · rcases h2 with h2 | ⟨h2, h2'⟩
      · exact .inl (h1 ▸ h2)
      · exact .inr ⟨h1.trans h2, ltN_trans h1' h2'⟩
theorem ltN_total : ∀ {a b : List Nat}, ltN a b = false → ltN b a = false → a = b
  | [], [], _, _ => rfl
  | [], _ :: _, h, _ => by simp [ltN] at h
  | _ :: _, [], _, h => by simp [ltN] at h
  | x :: xs, y :: ys, h1, h2 => by
    simp only [ltN, Bool.or_eq_false_iff, Bool.and_eq_false_iff, decide_eq_false_iff_not] at h1 h2
    have e : x = y := by omega
    subst e
    rw [ltN_total (h1.2.resolve_left fun z => z rfl) (h2.2.resolve_left fun z => z rfl)]
/-- b is no less than a, c no less than b: c is no less than a -/
theorem ltN_ge {a b c : List Nat} (h1 : ltN b a = false) (h2 : ltN c b = false) : ltN c a = false := by
  cases e : ltN c a with
  | false => rfl
  | true =>
    cases e2 : ltN a b with
    | true =>
      rw [ltN_trans e e2] at h2
      cases h2
    | false =>
      rw [ltN_total e2 h1, h2] at e
      cases e
def minStep (a y : List Nat) : List Nat := if ltN y a = true then y else a
def minL : List (List Nat) → List Nat
  | [] => []
  | x :: xs => xs.foldl minStep x
theorem minF : ∀ (xs : List (List Nat)) (x : List Nat), (xs.foldl minStep x = x ∨ xs.foldl minStep x ∈ xs) ∧ ltN x (xs.foldl minStep x) = false ∧ ∀ y, y ∈ xs → ltN y (xs.foldl minStep x) = false
  | [], x => ⟨.inl rfl, ltN_irrefl x, fun y h => nomatch h⟩
  | z :: xs, x => by
    obtain ⟨h1, h2, h3⟩ := minF xs (minStep x z)
    rw [List.foldl_cons]
    have hx : ltN x (minStep x z) = false := by
      unfold minStep
      split
      · rename_i h
        cases e : ltN x z with
        | false => rfl
        | true =>
          have := ltN_trans e h
          rw [ltN_irrefl] at this
          cases this
      · exact ltN_irrefl x
    have hz : ltN z (minStep x z) = false := by
      unfold minStep
      split
      · exact ltN_irrefl z
      · rename_i h
        simpa using h
    refine ⟨?_, ltN_ge h2 hx, fun y hy => ?_⟩
    · rcases h1 with h1 | h1
      · rw [h1]
        unfold minStep
        split
        · exact .inr List.mem_cons_self
        · exact .inl rfl
      · exact .inr (List.mem_cons_of_mem _ h1)
    · rcases List.mem_cons.mp hy with e | e
      · rw [e]
        exact ltN_ge h2 hz
      · exact h3 y e
theorem minL_mem : ∀ {l : List (List Nat)}, l ≠ [] → minL l ∈ l
  | [], h => absurd rfl h
  | x :: xs, _ => by
    rcases (minF xs x).1 with h | h
    · show xs.foldl minStep x ∈ x :: xs
      rw [h]
      exact List.mem_cons_self
    · exact List.mem_cons_of_mem _ h
theorem minL_le : ∀ {l : List (List Nat)} {y : List Nat}, y ∈ l → ltN y (minL l) = false
  | x :: xs, y, h => by
    rcases List.mem_cons.mp h with e | e
    · rw [e]
      exact (minF xs x).2.1
    · exact (minF xs x).2.2 y e
def maxL (l : List Nat) : Nat := l.foldl max 0
theorem maxF : ∀ (l : List Nat) (a : Nat), a ≤ l.foldl max a ∧ (∀ x, x ∈ l → x ≤ l.foldl max a) ∧ (l.foldl max a = a ∨ l.foldl max a ∈ l)
  | [], a => ⟨Nat.le_refl _, fun x h => (nomatch h), .inl rfl⟩
  | y :: l, a => by
    obtain ⟨h1, h2, h3⟩ := maxF l (max a y)
    rw [List.foldl_cons]
    refine ⟨by omega, fun x hx => ?_, ?_⟩
    · rcases List.mem_cons.mp hx with e | e
      · rw [e]; omega
      · exact h2 x e
    · rcases h3 with h3 | h3
      · rw [h3]
        by_cases h : a ≤ y
        · exact .inr (by rw [Nat.max_eq_right h]; exact List.mem_cons_self)
        · exact .inl (Nat.max_eq_left (by omega))
      · exact .inr (List.mem_cons_of_mem _ h3)
theorem maxL_ge {l : List Nat} {x : Nat} (h : x ∈ l) : x ≤ maxL l := (maxF l 0).2.1 x h
theorem maxL_mem {l : List Nat} (h : l ≠ []) : maxL l ∈ l := by
  rcases (maxF l 0).2.2 with e | e
  · cases l with
    | nil => exact absurd rfl h
    | cons x l =>
      have h2 := maxL_ge (l := x :: l) List.mem_cons_self
      have e : maxL (x :: l) = 0 := e
      have e3 : x = 0 := by omega
      rw [e, ← e3]
      exact List.mem_cons_self
  · exact e
theorem maxL_or (l : List Nat) : maxL l = 0 ∨ maxL l ∈ l := (maxF l 0).2.2

section
variable {k : Kd}
/-! ### chains -/
def Kd.lt (k : Kd) (a b : Nat) : Prop := a ≠ b ∧ k.le a b = true
def Kd.above (k : Kd) (os : List Nat) (s : Nat) : List Nat := os.filter fun one => decide (one ≠ s) && k.le s one
theorem above_mem {os : List Nat} {s t : Nat} : t ∈ k.above os s ↔ t ∈ os ∧ k.lt s t := by
  unfold Kd.above Kd.lt
  rw [List.mem_filter, Bool.and_eq_true, decide_eq_true_iff]
  exact ⟨fun h => ⟨h.1, fun e => h.2.1 e.symm, h.2.2⟩, fun h => ⟨h.1, fun e => h.2.1 e.symm, h.2.2⟩⟩
theorem lt_trans' (L : Lat k) {a b c : Nat} (ha : a < k.n) (hb : b < k.n) (hc : c < k.n) (h1 : k.lt a b) (h2 : k.lt b c) : k.lt a c := by
  refine ⟨fun e => ?_, le_trans L ha hb hc h1.2 h2.2⟩
  subst e
  exact h1.1 (le_antisymm L ha hb h1.2 h2.2)
/-- a chain of states that come -/
structure SC (k : Kd) (c : List Nat) : Prop where
  mem : ∀ x, x ∈ c → x ∈ come k
  asc : c.Pairwise (k.lt)
theorem above_lt (L : Lat k) {s t : Nat} (hs : s ∈ come k) (ht : t ∈ k.above (come k) s) : (k.above (come k) t).length < (k.above (come k) s).length := by
  obtain ⟨h1, h2⟩ := above_mem.mp ht
  refine filter_lt h1 (fun x hx hp => ?_) (by rw [Bool.and_eq_true, decide_eq_true_iff]; exact ⟨fun e => h2.1 e.symm, h2.2⟩) (by rw [show decide (t ≠ t) = false from decide_eq_false fun z => z rfl, Bool.false_and])
  rw [Bool.and_eq_true, decide_eq_true_iff] at hp
  have h3 := lt_trans' L (come_lt L hs) (come_lt L h1) (come_lt L hx) h2 ⟨fun e => hp.1 e.symm, hp.2⟩
  rw [Bool.and_eq_true, decide_eq_true_iff]
  exact ⟨fun e => h3.1 e.symm, h3.2⟩
theorem SC.tail {s : Nat} {c : List Nat} (h : SC k (s :: c)) : SC k c := ⟨fun x hx => h.mem x (List.mem_cons_of_mem _ hx), (List.pairwise_cons.mp h.asc).2⟩
/-- a chain is no longer than there are states above its first one, and that one -/
theorem SC.len (L : Lat k) : ∀ {c : List Nat} {s : Nat}, SC k (s :: c) → c.length ≤ (k.above (come k) s).length
  | [], _, _ => Nat.zero_le _
  | t :: c, s, h => by
    have hs := h.mem s List.mem_cons_self
    have ht : t ∈ k.above (come k) s := above_mem.mpr ⟨h.mem t (List.mem_cons_of_mem _ List.mem_cons_self), (List.pairwise_cons.mp h.asc).1 t List.mem_cons_self⟩
    have h1 := SC.len L h.tail
    have h2 := above_lt L hs ht
    rw [List.length_cons]
    omega
theorem above_len (L : Lat k) (s : Nat) : (k.above (come k) s).length ≤ 8 := by
  unfold Kd.above
  exact Nat.le_trans (List.length_filter_le _ _) (come_len L)
/-- the program's: the least of the longest chains that begin with s, at most m turns deep -/
def Kd.upF (k : Kd) (os : List Nat) : Nat → Nat → List Nat
  | 0, s => [s]
  | m + 1, s =>
    let longer := (k.above os s).map (k.upF os m)
    let most := maxL (longer.map List.length)
    if 0 < most then s :: minL (longer.filter fun c => decide (c.length = most)) else [s]
structure Best (k : Kd) (s : Nat) (b : List Nat) : Prop where
  sc : SC k b
  head : ∃ r, b = s :: r
  most : ∀ r, SC k (s :: r) → (s :: r).length ≤ b.length
  least : ∀ r, SC k (s :: r) → (s :: r).length = b.length → ltN (s :: r) b = false
theorem SC.one {s : Nat} (h : s ∈ come k) : SC k [s] := ⟨fun x hx => (List.mem_singleton.mp hx) ▸ h, List.pairwise_singleton _ _⟩
theorem best_one (L : Lat k) {s : Nat} (hs : s ∈ come k) (h : k.above (come k) s = []) : Best k s [s] := by
  have key : ∀ r, SC k (s :: r) → r = [] := fun r hr => by
    have := SC.len L hr
    rw [h] at this
    exact List.eq_nil_of_length_eq_zero (Nat.le_zero.mp this)
  refine ⟨.one hs, ⟨[], rfl⟩, fun r hr => ?_, fun r hr _ => ?_⟩
  · rw [key r hr]; exact Nat.le_refl _
  · rw [key r hr]; exact ltN_irrefl _
theorem upF_best (L : Lat k) : ∀ (m s : Nat), s ∈ come k → (k.above (come k) s).length ≤ m → Best k s (k.upF (come k) m s)
  | 0, s, hs, h => best_one L hs (List.eq_nil_of_length_eq_zero (Nat.le_zero.mp h))
  | m + 1, s, hs, h => by
    have ih : ∀ t, t ∈ k.above (come k) s → Best k t (k.upF (come k) m t) := fun t ht => upF_best L m t (above_mem.mp ht).1 (by have := above_lt L hs ht; omega)
    unfold Kd.upF
    dsimp only
    generalize hl : (k.above (come k) s).map (k.upF (come k) m) = longer
    generalize hm : maxL (longer.map List.length) = most
    have inl : ∀ c, c ∈ longer ↔ ∃ t, t ∈ k.above (come k) s ∧ k.upF (come k) m t = c := fun c => by rw [← hl, List.mem_map]
    by_cases h0 : 0 < most
    · rw [if_pos h0]
      have hne : longer.filter (fun c => decide (c.length = most)) ≠ [] := by
        have h1 : most ∈ longer.map List.length := by
          rw [← hm]
          refine maxL_mem fun e => ?_
          rw [e] at hm
          have : maxL ([] : List Nat) = 0 := rfl
          omega
        obtain ⟨c, h2, h3⟩ := List.mem_map.mp h1
        exact List.ne_nil_of_mem (List.mem_filter.mpr ⟨h2, decide_eq_true h3⟩)
      have hb := minL_mem hne
      generalize hbm : minL (longer.filter fun c => decide (c.length = most)) = b at hb
      obtain ⟨hb1, hb2⟩ := List.mem_filter.mp hb
      have hbl : b.length = most := of_decide_eq_true hb2
      obtain ⟨t, ht, e⟩ := (inl b).mp hb1
      have Bt := ih t ht
      rw [e] at Bt
      obtain ⟨ht1, ht2⟩ := above_mem.mp ht
      obtain ⟨r, hr⟩ := Bt.head
      have scb : SC k (s :: b) := by
        refine ⟨fun x hx => ?_, List.pairwise_cons.mpr ⟨fun x hx => ?_, Bt.sc.asc⟩⟩
        · rcases List.mem_cons.mp hx with e | e
          · rw [e]; exact hs
          · exact Bt.sc.mem x e
        · have hxc := Bt.sc.mem x hx
          rw [hr] at hx
          rcases List.mem_cons.mp hx with e2 | e2
          · rw [e2]; exact ht2
          · have asc := Bt.sc.asc
            rw [hr] at asc
            exact lt_trans' L (come_lt L hs) (come_lt L ht1) (come_lt L hxc) ht2 ((List.pairwise_cons.mp asc).1 x e2)
      -- any chain from s on: its rest is one of a state above
      have rest : ∀ c, SC k (s :: c) → c.length ≤ most ∧ (c.length = most → ltN c b = false) := fun c hc => by
        cases c with
        | nil => exact ⟨Nat.zero_le _, fun z => by rw [List.length_nil] at z; omega⟩
        | cons u c =>
          have hu : u ∈ k.above (come k) s := above_mem.mpr ⟨hc.mem u (List.mem_cons_of_mem _ List.mem_cons_self), (List.pairwise_cons.mp hc.asc).1 u List.mem_cons_self⟩
          have Bu := ih u hu
          have hin := (inl (k.upF (come k) m u)).mpr ⟨u, hu, rfl⟩
          have h1 := Bu.most c hc.tail
          have h2 : (k.upF (come k) m u).length ≤ most := by
            rw [← hm]
            exact maxL_ge (List.mem_map.mpr ⟨_, hin, rfl⟩)
          refine ⟨Nat.le_trans h1 h2, fun e => ?_⟩
          have e2 : (k.upF (come k) m u).length = most := by omega
          have h3 := Bu.least c hc.tail (by omega)
          have h4 : ltN (k.upF (come k) m u) b = false := by
            rw [← hbm]
            exact minL_le (List.mem_filter.mpr ⟨hin, decide_eq_true e2⟩)
          exact ltN_ge h4 h3
      refine ⟨scb, ⟨b, rfl⟩, fun c hc => ?_, fun c hc e => ?_⟩
      · rw [List.length_cons, List.length_cons, hbl]
        exact Nat.succ_le_succ (rest c hc).1
      · rw [List.length_cons, List.length_cons, hbl] at e
        unfold ltN
        rw [(rest c hc).2 (by omega), decide_eq_false (Nat.lt_irrefl s)]
        simp
    · rw [if_neg h0]
      refine best_one L hs ?_
      cases e : k.above (come k) s with
      | nil => rfl
      | cons t l =>
        have ht : t ∈ k.above (come k) s := by rw [e]; exact List.mem_cons_self
        obtain ⟨r, hr⟩ := (ih t ht).head
        have h1 : (k.upF (come k) m t).length ≤ most := by
          rw [← hm]
          exact maxL_ge (List.mem_map.mpr ⟨_, (inl _).mpr ⟨t, ht, rfl⟩, rfl⟩)
        rw [hr, List.length_cons] at h1
        omega
/-- the program's longest chain, its height -/
noncomputable def Kd.ups8 (k : Kd) : List (List Nat) := (come k).map (k.upF (come k) 8)
noncomputable def Kd.height (k : Kd) : Nat := maxL (k.ups8.map List.length)
noncomputable def Kd.longest (k : Kd) : List Nat := minL (k.ups8.filter fun c => decide (c.length = k.height))

/-! ### the law's chains, layer by layer -/
def Kd.nextL (k : Kd) (os : List Nat) (l : List (List Nat)) : List (List Nat) := l.flatMap fun c => (os.filter fun s => decide (s ≠ c.getLastD 0) && k.le (c.getLastD 0) s).map fun s => c ++ [s]
def Kd.layer (k : Kd) (os : List Nat) : Nat → List (List Nat)
  | 0 => os.map fun s => [s]
  | i + 1 => k.nextL os (k.layer os i)
theorem lt_last (L : Lat k) {c : List Nat} {s : Nat} (h : SC k c) (hs : s ∈ come k) (hn : c ≠ []) (hl : k.lt (c.getLastD 0) s) : ∀ x, x ∈ c → k.lt x s := fun x hx => by
  have e : c.getLastD 0 = c.getLast hn := by rw [List.getLastD_eq_getLast?, List.getLast?_eq_some_getLast hn]; rfl
  rw [e] at hl
  rw [← List.dropLast_concat_getLast hn] at hx
  have asc := h.asc
  rw [← List.dropLast_concat_getLast hn] at asc
  rcases List.mem_append.mp hx with hx | hx
  · have h2 := (List.pairwise_append.mp asc).2.2 x hx (c.getLast hn) List.mem_cons_self
    exact lt_trans' L (come_lt L (h.mem x ((List.dropLast_sublist _).subset hx))) (come_lt L (h.mem _ (List.getLast_mem hn))) (come_lt L hs) h2 hl
  · rw [List.mem_singleton.mp hx]
    exact hl
theorem layer_mem (L : Lat k) : ∀ (i : Nat) (c : List Nat), c ∈ k.layer (come k) i ↔ SC k c ∧ c.length = i + 1
  | 0, c => by
    unfold Kd.layer
    rw [List.mem_map]
    constructor
    · rintro ⟨s, hs, rfl⟩
      exact ⟨.one hs, rfl⟩
    · rintro ⟨h, hl⟩
      obtain ⟨s, rfl⟩ := List.length_eq_one_iff.mp hl
      exact ⟨s, h.mem s List.mem_cons_self, rfl⟩
  | i + 1, c => by
    unfold Kd.layer Kd.nextL
    rw [List.mem_flatMap]
    constructor
    · rintro ⟨c0, h0, h1⟩
      obtain ⟨hc0, hl0⟩ := (layer_mem L i c0).mp h0
      obtain ⟨s, hs, rfl⟩ := List.mem_map.mp h1
      obtain ⟨hs1, hs2⟩ := List.mem_filter.mp hs
      rw [Bool.and_eq_true, decide_eq_true_iff] at hs2
      have hn : c0 ≠ [] := fun e => by rw [e] at hl0; cases hl0
      refine ⟨⟨fun x hx => ?_, List.pairwise_append.mpr ⟨hc0.asc, List.pairwise_singleton _ _, fun x hx y hy => ?_⟩⟩, by rw [List.length_append, hl0]; rfl⟩
      · rcases List.mem_append.mp hx with hx | hx
        · exact hc0.mem x hx
        · rw [List.mem_singleton.mp hx]; exact hs1
      · rw [List.mem_singleton.mp hy]
        exact lt_last L hc0 hs1 hn ⟨fun e => hs2.1 e.symm, hs2.2⟩ x hx
    · rintro ⟨h, hl⟩
      have hn : c ≠ [] := fun e => by rw [e] at hl; cases hl
      have e1 := List.dropLast_concat_getLast hn
      have hl2 : c.dropLast.length = i + 1 := by rw [List.length_dropLast, hl]; rfl
      have asc := h.asc
      rw [← e1] at asc
      obtain ⟨a1, _, a3⟩ := List.pairwise_append.mp asc
      have hd : SC k c.dropLast := ⟨fun x hx => h.mem x ((List.dropLast_sublist _).subset hx), a1⟩
      have hn2 : c.dropLast ≠ [] := fun e => by rw [e] at hl2; cases hl2
      refine ⟨c.dropLast, (layer_mem L i _).mpr ⟨hd, hl2⟩, List.mem_map.mpr ⟨c.getLast hn, List.mem_filter.mpr ⟨h.mem _ (List.getLast_mem hn), ?_⟩, e1⟩⟩
      have e2 : c.dropLast.getLastD 0 = c.dropLast.getLast hn2 := by rw [List.getLastD_eq_getLast?, List.getLast?_eq_some_getLast hn2]; rfl
      have h3 := a3 (c.dropLast.getLast hn2) (List.getLast_mem hn2) (c.getLast hn) List.mem_cons_self
      rw [e2, Bool.and_eq_true, decide_eq_true_iff]
      exact ⟨fun e => h3.1 e.symm, h3.2⟩
theorem layer_none (L : Lat k) : k.layer (come k) 9 = [] := by
  cases e : k.layer (come k) 9 with
  | nil => rfl
  | cons c l =>
    obtain ⟨h1, h2⟩ := (layer_mem L 9 c).mp (by rw [e]; exact List.mem_cons_self)
    cases c with
    | nil => cases h2
    | cons s c =>
      have := SC.len L h1
      have := above_len L s
      rw [List.length_cons] at h2
      omega
/-- what the law's min and max of a list with all chains, none but chains, are -/
theorem chains_all (L : Lat k) {cs : List (List Nat)} (h : ∀ c, c ∈ cs ↔ SC k c ∧ c ≠ []) : maxL (cs.map List.length) = k.height ∧ minL (cs.filter fun c => decide (c.length = k.height)) = k.longest := by
  have B : ∀ s, s ∈ come k → Best k s (k.upF (come k) 8 s) := fun s hs => upF_best L 8 s hs (above_len L s)
  have inU : ∀ c, c ∈ k.ups8 ↔ ∃ s, s ∈ come k ∧ k.upF (come k) 8 s = c := fun c => by unfold Kd.ups8; rw [List.mem_map]
  have scU : ∀ c, c ∈ k.ups8 → SC k c ∧ c ≠ [] := fun c hc => by
    obtain ⟨s, hs, e⟩ := (inU c).mp hc
    have b := B s hs
    rw [e] at b
    obtain ⟨r, hr⟩ := b.head
    exact ⟨b.sc, by rw [hr]; exact List.cons_ne_nil _ _⟩
  have hne : k.ups8.map List.length ≠ [] := fun e => by
    have h1 := (inU _).mpr ⟨k.st, st_come L, rfl⟩
    rw [List.map_eq_nil_iff.mp e] at h1
    cases h1
  have hne2 : cs.map List.length ≠ [] := fun e => by
    have h1 := (h [k.st]).mpr ⟨.one (st_come L), List.cons_ne_nil _ _⟩
    rw [List.map_eq_nil_iff.mp e] at h1
    cases h1
  have le1 : ∀ c, SC k c → c ≠ [] → c.length ≤ k.height := fun c hc hn => by
    cases c with
    | nil => exact absurd rfl hn
    | cons s r =>
      have b := B s (hc.mem s List.mem_cons_self)
      exact Nat.le_trans (b.most r hc) (maxL_ge (List.mem_map.mpr ⟨_, (inU _).mpr ⟨s, hc.mem s List.mem_cons_self, rfl⟩, rfl⟩))
  have e1 : maxL (cs.map List.length) = k.height := by
    obtain ⟨c, hc, hl⟩ := List.mem_map.mp (maxL_mem hne2)
    obtain ⟨c2, hc2, hl2⟩ := List.mem_map.mp (maxL_mem hne)
    have a1 := le1 c ((h c).mp hc).1 ((h c).mp hc).2
    have a2 : c2.length ≤ maxL (cs.map List.length) := maxL_ge (List.mem_map.mpr ⟨c2, (h c2).mpr (scU c2 hc2), rfl⟩)
    have hl2 : c2.length = k.height := hl2
    omega
  refine ⟨e1, ?_⟩
  have n1 : cs.filter (fun c => decide (c.length = k.height)) ≠ [] := by
    obtain ⟨c, hc, hl⟩ := List.mem_map.mp (maxL_mem hne2)
    exact List.ne_nil_of_mem (List.mem_filter.mpr ⟨hc, decide_eq_true (by omega)⟩)
  have n2 : k.ups8.filter (fun c => decide (c.length = k.height)) ≠ [] := by
    obtain ⟨c, hc, hl⟩ := List.mem_map.mp (maxL_mem hne)
    exact List.ne_nil_of_mem (List.mem_filter.mpr ⟨hc, decide_eq_true hl⟩)
  have m1 := minL_mem n1
  have m2 := minL_mem n2
  show minL (cs.filter fun c => decide (c.length = k.height)) = minL (k.ups8.filter fun c => decide (c.length = k.height))
  generalize ha : minL (cs.filter fun c => decide (c.length = k.height)) = a at m1
  generalize hb : minL (k.ups8.filter fun c => decide (c.length = k.height)) = b at m2
  obtain ⟨a1, a2⟩ := List.mem_filter.mp m1
  obtain ⟨b1, b2⟩ := List.mem_filter.mp m2
  have la : a.length = k.height := of_decide_eq_true a2
  refine ltN_total ?_ ?_
  · obtain ⟨hc, hn⟩ := (h a).mp a1
    cases a with
    | nil => exact absurd rfl hn
    | cons s r =>
      have hs := hc.mem s List.mem_cons_self
      have bs := B s hs
      have iu := (inU _).mpr ⟨s, hs, rfl⟩
      have lu : (k.upF (come k) 8 s).length = k.height := Nat.le_antisymm (le1 _ (scU _ iu).1 (scU _ iu).2) (by rw [← la]; exact bs.most r hc)
      have h3 := bs.least r hc (by omega)
      have h4 : ltN (k.upF (come k) 8 s) b = false := by
        rw [← hb]
        exact minL_le (List.mem_filter.mpr ⟨iu, decide_eq_true lu⟩)
      exact ltN_ge h4 h3
  · rw [← ha]
    exact minL_le (List.mem_filter.mpr ⟨(h b).mpr (scU b b1), b2⟩)

/-! ### pairs -/
def Kd.pairs (k : Kd) (os : List Nat) : List (Nat × Nat) := os.flatMap fun a => (os.filter fun b => decide (a ≠ b) && k.le a b).map fun b => (a, b)
theorem pairs_mem {os : List Nat} {a b : Nat} : (a, b) ∈ k.pairs os ↔ a ∈ os ∧ b ∈ os ∧ a ≠ b ∧ k.le a b = true := by
  unfold Kd.pairs
  rw [List.mem_flatMap]
  constructor
  · rintro ⟨x, hx, h⟩
    obtain ⟨y, hy, e⟩ := List.mem_map.mp h
    obtain ⟨h1, h2⟩ := List.mem_filter.mp hy
    rw [Bool.and_eq_true, decide_eq_true_iff] at h2
    cases e
    exact ⟨hx, h1, h2.1, h2.2⟩
  · rintro ⟨h1, h2, h3, h4⟩
    exact ⟨a, h1, List.mem_map.mpr ⟨b, List.mem_filter.mpr ⟨h2, by rw [Bool.and_eq_true, decide_eq_true_iff]; exact ⟨h3, h4⟩⟩, rfl⟩⟩
/-- the ones that are below s, off the pairs -/
theorem pairs_under {s : Nat} : ∀ (as os : List Nat), os.Nodup → s ∈ os → ((as.flatMap fun a => (os.filter fun b => decide (a ≠ b) && k.le a b).map fun b => (a, b)).filter fun p => decide (p.2 = s)).map (·.1) = as.filter fun a => decide (a ≠ s) && k.le a s
  | [], _, _, _ => rfl
  | a :: as, os, nd, hs => by
    rw [List.flatMap_cons, List.filter_append, List.map_append, pairs_under as os nd hs]
    have h1 : (((os.filter fun b => decide (a ≠ b) && k.le a b).map fun b => (a, b)).filter fun p => decide (p.2 = s)) = (os.filter fun b => decide (b = s) && (decide (a ≠ b) && k.le a b)).map fun b => (a, b) := by
      rw [List.filter_map, List.filter_filter]
      rfl
    have h2 : ∀ (l : List Nat), l.Nodup → s ∈ l → (l.filter fun b => decide (b = s) && (decide (a ≠ b) && k.le a b)) = if (decide (a ≠ s) && k.le a s) = true then [s] else [] := by
      intro l
      induction l with
      | nil => intro _ h; cases h
      | cons b l ih =>
        intro nd h
        obtain ⟨n1, n2⟩ := List.nodup_cons.mp nd
        by_cases e : b = s
        · subst e
          have rest : (l.filter fun x => decide (x = b) && (decide (a ≠ x) && k.le a x)) = [] := List.filter_eq_nil_iff.mpr fun x hx => by
            have : x ≠ b := fun e => n1 (e ▸ hx)
            rw [decide_eq_false this]
            simp
          by_cases hp : (decide (a ≠ b) && k.le a b) = true
          · rw [List.filter_cons_of_pos (by rw [decide_eq_true rfl, hp]; rfl), rest, if_pos hp]
          · rw [List.filter_cons_of_neg (by rw [decide_eq_true rfl, Bool.true_and]; exact hp), rest, if_neg hp]
        · rw [List.filter_cons_of_neg (by rw [decide_eq_false e]; simp)]
          exact ih n2 ((List.mem_cons.mp h).resolve_left fun z => e z.symm)
    rw [h1, h2 os nd hs]
    by_cases hp : (decide (a ≠ s) && k.le a s) = true
    · rw [if_pos hp, List.filter_cons, if_pos hp]
      rfl
    · rw [if_neg hp, List.filter_cons, if_neg hp]
      rfl

/-! ### lots -/
def lotsOf (os : List Nat) : List (List Nat) := os.foldl (fun acc s => acc ++ acc.map fun l => l ++ [s]) [[]]
def Kd.tight (k : Kd) (lot : List Nat) : Bool := !(lot.any fun s => decide (k.join (lot.filter fun one => decide (one ≠ s)) = k.join lot))
noncomputable def Kd.breadth (k : Kd) : Nat := maxL (((lotsOf (come k)).filter k.tight).map List.length)
theorem lotsF : ∀ (os : List Nat) (acc : List (List Nat)) (u : List Nat), (∀ l, l ∈ acc → l.Sublist u) → ∀ l, l ∈ os.foldl (fun acc s => acc ++ acc.map fun l => l ++ [s]) acc → l.Sublist (u ++ os)
  | [], acc, u, h, l, hl => by rw [List.append_nil]; exact h l hl
  | s :: os, acc, u, h, l, hl => by
    have h1 := lotsF os (acc ++ acc.map fun l => l ++ [s]) (u ++ [s]) (fun l hl => by
      rcases List.mem_append.mp hl with hl | hl
      · exact (h l hl).trans (List.sublist_append_left _ _)
      · obtain ⟨l0, h0, rfl⟩ := List.mem_map.mp hl
        exact (h l0 h0).append (List.Sublist.refl _)) l hl
    rw [List.append_assoc] at h1
    exact h1
theorem lots_sub {os l : List Nat} (h : l ∈ lotsOf os) : l.Sublist os := lotsF os [[]] [] (fun l hl => by rw [List.mem_singleton.mp hl]; exact List.Sublist.refl _) l h
theorem lotsLen : ∀ (os : List Nat) (acc : List (List Nat)), (os.foldl (fun acc s => acc ++ acc.map fun l => l ++ [s]) acc).length = acc.length * 2 ^ os.length
  | [], acc => by simp
  | s :: os, acc => by
    rw [List.foldl_cons, lotsLen os, List.length_append, List.length_map, List.length_cons, Nat.pow_succ]
    rw [show acc.length + acc.length = acc.length * 2 by omega, Nat.mul_assoc, Nat.mul_comm 2]
theorem lots_len {os : List Nat} (h : os.length ≤ 8) : (lotsOf os).length ≤ 256 := by
  unfold lotsOf
  rw [lotsLen]
  have : 2 ^ os.length ≤ 2 ^ 8 := Nat.pow_le_pow_right (by omega) h
  simp
  omega
theorem lots_nil (os : List Nat) : [] ∈ lotsOf os := by
  have key : ∀ (os : List Nat) (acc : List (List Nat)), [] ∈ acc → [] ∈ os.foldl (fun acc s => acc ++ acc.map fun l => l ++ [s]) acc := by
    intro os
    induction os with
    | nil => intro acc h; exact h
    | cons s os ih => intro acc h; exact ih _ (List.mem_append_left _ h)
  exact key os [[]] List.mem_cons_self
theorem filter_ne : ∀ {lot : List Nat} {i : Nat} {s : Nat}, lot.Nodup → lot[i]? = some s → lot.filter (fun one => decide (one ≠ s)) = lot.take i ++ lot.drop (i + 1)
  | x :: l, 0, s, nd, h => by
    have e : x = s := Option.some.inj h
    subst e
    obtain ⟨n1, n2⟩ := List.nodup_cons.mp nd
    rw [List.filter_cons_of_neg (by simp)]
    show l.filter _ = [] ++ l
    rw [List.nil_append]
    exact List.filter_eq_self.mpr fun y hy => decide_eq_true fun e => n1 (e ▸ hy)
  | x :: l, i + 1, s, nd, h => by
    have h : l[i]? = some s := h
    obtain ⟨n1, n2⟩ := List.nodup_cons.mp nd
    have hx : x ≠ s := fun e => n1 (e ▸ List.mem_of_getElem? h)
    rw [List.filter_cons, if_pos (by simpa using hx), filter_ne n2 h]
    rfl
/-- the law's test of a lot -/
def Kd.lessSo (k : Kd) (lot : List Nat) : List Nat := (List.range lot.length).filter fun i => decide (k.join (lot.take i ++ lot.drop (i + 1)) = k.join lot)
theorem tight_less {lot : List Nat} (nd : lot.Nodup) : k.tight lot = decide (k.lessSo lot = []) := by
  unfold Kd.tight Kd.lessSo
  by_cases h : ((List.range lot.length).filter fun i => decide (k.join (lot.take i ++ lot.drop (i + 1)) = k.join lot)) = []
  · rw [decide_eq_true h]
    have h2 := List.filter_eq_nil_iff.mp h
    rw [Bool.not_eq_true']
    refine List.any_eq_false.mpr fun s hs z => ?_
    obtain ⟨i, hi, e⟩ := List.mem_iff_getElem.mp hs
    have e2 : lot[i]? = some s := by rw [List.getElem?_eq_getElem hi, e]
    rw [filter_ne nd e2] at z
    exact h2 i (List.mem_range.mpr hi) z
  · rw [decide_eq_false h]
    obtain ⟨i, hi⟩ := List.exists_mem_of_ne_nil _ h
    obtain ⟨h1, h2⟩ := List.mem_filter.mp hi
    have hi2 := List.mem_range.mp h1
    rw [Bool.not_eq_false']
    refine List.any_eq_true.mpr ⟨lot[i], List.getElem_mem hi2, ?_⟩
    rw [filter_ne nd (List.getElem?_eq_getElem hi2)]
    exact h2
def Kd.lawMost (k : Kd) (lots : List (List Nat)) (m : Nat) : Nat := lots.foldl (fun m lot => if k.lessSo lot = [] then max m lot.length else m) m
theorem lawMost_eq : ∀ (lots : List (List Nat)) (m : Nat), (∀ l, l ∈ lots → l.Nodup) → k.lawMost lots m = ((lots.filter k.tight).map List.length).foldl max m
  | [], m, _ => rfl
  | l :: lots, m, h => by
    have ht := tight_less (k := k) (h l List.mem_cons_self)
    have ih := fun m => lawMost_eq lots m fun l hl => h l (List.mem_cons_of_mem _ hl)
    show k.lawMost lots (if k.lessSo l = [] then max m l.length else m) = _
    rw [ih]
    by_cases e : k.lessSo l = []
    · rw [if_pos e, List.filter_cons_of_pos (by rw [ht]; exact decide_eq_true e), List.map_cons, List.foldl_cons]
    · rw [if_neg e, List.filter_cons_of_neg (by rw [ht, decide_eq_false e]; decide)]
theorem law_breadth (L : Lat k) : k.lawMost (lotsOf (come k)) 0 = k.breadth := lawMost_eq _ 0 fun l hl => (lots_sub hl).nodup come_nd
end
end G6
/-! Part A8: data of naturals; the rules over them; loops with a measure. -/
namespace G6
open PySem PySem.Spec PyProof.Rows L2
def nD (n : Nat) : PyData := .int (n : Int)
def tD (xs : List Nat) : PyData := .tuple (xs.map nD)
def lD (xs : List Nat) : PyData := .list (xs.map nD)
def mD (m : List (List Nat)) : PyData := .tuple (m.map tD)
def kD (k : Kd) : PyData := .tuple [nD k.st, mD k.ups, mD k.mg, tD k.rd]
def pD (p : Nat × Nat) : PyData := .tuple [nD p.1, nD p.2]
def cI (xs : List Nat) : List Int := xs.map fun (n : Nat) => (n : Int)
theorem cI_map (xs : List Nat) : (cI xs).map PyData.int = xs.map nD := by
  unfold cI
  rw [List.map_map]
  rfl
theorem lD_int (xs : List Nat) : lD xs = .list ((cI xs).map .int) := by rw [cI_map]; rfl
theorem tD_int (xs : List Nat) : tD xs = .tuple ((cI xs).map .int) := by rw [cI_map]; rfl
theorem mem_cI {n : Nat} {xs : List Nat} : (n : Int) ∈ cI xs ↔ n ∈ xs := by
  unfold cI
  rw [List.mem_map]
  constructor
  · rintro ⟨m, h, e⟩
    have : m = n := by omega
    exact this ▸ h
  · exact fun h => ⟨n, h, rfl⟩
theorem atI_nat {α : Type} {xs : List α} {i : Nat} (h : i < xs.length) : atI xs (i : Int) = xs[i]? := by
  unfold atI ixN
  rw [if_pos (by omega), if_pos (by omega)]
  rfl
theorem atI_last {α : Type} {xs : List α} (h : xs ≠ []) : atI xs (-1) = xs.getLast? := by
  have hl : 0 < xs.length := List.length_pos_iff.mpr h
  unfold atI ixN
  rw [if_neg (by omega), if_pos (by omega)]
  show xs[(-1 + (xs.length : Int)).toNat]? = _
  rw [List.getLast?_eq_getElem?]
  congr 1
  omega
theorem get_map {α β : Type} {xs : List α} {f : α → β} {i : Nat} {x : α} (h : i < xs.length) : (xs.map f)[i]? = some (f (xs.getD i x)) := by
  rw [List.getElem?_map, List.getD_eq_getElem?_getD, List.getElem?_eq_getElem h]
  rfl
theorem ltN_cI : ∀ a b : List Nat, decide (cI a < cI b) = ltN a b
  | [], [] => rfl
  | [], _ :: _ => by unfold cI ltN; simp
  | _ :: _, [] => by unfold cI ltN; simp
  | x :: xs, y :: ys => by
    have ih := ltN_cI xs ys
    unfold ltN
    rw [← ih]
    unfold cI
    rw [List.map_cons, List.map_cons]
    by_cases h : x < y
    · rw [decide_eq_true h, Bool.true_or]
      exact decide_eq_true (List.cons_lt_cons_iff.mpr (.inl (by omega)))
    · rw [decide_eq_false h, Bool.false_or]
      by_cases e : x = y
      · subst e
        rw [decide_eq_true rfl, Bool.true_and]
        congr 1
        exact propext ⟨fun z => (List.cons_lt_cons_iff.mp z).elim (fun q => absurd q (by omega)) fun q => q.2, fun z => List.cons_lt_cons_iff.mpr (.inr ⟨rfl, z⟩)⟩
      · rw [decide_eq_false e, Bool.false_and]
        exact decide_eq_false fun z => (List.cons_lt_cons_iff.mp z).elim (fun q => h (by omega)) fun q => e (by omega)
theorem lt_tD (a b : List Nat) : PySem.W.dataLt (tD a) (tD b) = ltN a b := by
  rw [tD_int, tD_int, PySem.W.dataLt_tuple]
  exact (PySem.W.dataLt_ints (cI a) (cI b)).trans (ltN_cI a b)
theorem minD_tD : ∀ (cs : List (List Nat)) (c : List Nat), PySem.W.minD (tD c) (cs.map tD) = tD (cs.foldl minStep c)
  | [], _ => rfl
  | d :: cs, c => by
    unfold PySem.W.minD
    rw [List.map_cons, List.foldl_cons, List.foldl_cons]
    have e : (if PySem.W.dataLt (tD d) (tD c) = true then tD d else tD c) = tD (minStep c d) := by
      rw [lt_tD]
      unfold minStep
      split <;> rfl
    rw [e]
    exact minD_tD cs (minStep c d)
theorem lay_ints : ∀ xs : List Nat, PyData.canLayAll0 (xs.map nD) = true
  | [] => rfl
  | x :: xs => by
    rw [List.map_cons]
    unfold PyData.canLayAll0
    rw [lay_ints xs]
    rfl
theorem lay_tD (xs : List Nat) : PyData.canLay0 (tD xs) = true := by
  unfold tD PyData.canLay0
  exact lay_ints xs
theorem lay_lD (xs : List Nat) : PyData.canLay0 (lD xs) = true := by
  unfold lD PyData.canLay0
  exact lay_ints xs
theorem lay_all {ds : List PyData} (h : ∀ d, d ∈ ds → PyData.canLay0 d = true) : PyData.canLayAll0 ds = true := by
  induction ds with
  | nil => rfl
  | cons d ds ih =>
    unfold PyData.canLayAll0
    rw [h d List.mem_cons_self, ih fun e he => h e (List.mem_cons_of_mem _ he)]
    rfl
theorem depth_all {ds : List PyData} {n : Nat} (h : ∀ d, d ∈ ds → PyData.depth d ≤ n) : PyData.depthAll ds ≤ n := by
  induction ds with
  | nil => unfold PyData.depthAll; exact Nat.zero_le _
  | cons d ds ih =>
    unfold PyData.depthAll
    exact Nat.max_le.mpr ⟨h d List.mem_cons_self, ih fun e he => h e (List.mem_cons_of_mem _ he)⟩
theorem depth_nD (n : Nat) : PyData.depth (nD n) ≤ 1 := by unfold nD PyData.depth; omega
theorem depth_tD (xs : List Nat) : PyData.depth (tD xs) ≤ 2 := by
  unfold tD PyData.depth
  have := depth_all (ds := xs.map nD) (n := 1) fun d hd => by
    obtain ⟨n, _, rfl⟩ := List.mem_map.mp hd
    exact depth_nD n
  omega
theorem alike_ints : ∀ xs ys : List Nat, PySem.W.alikeAll (xs.map nD) (ys.map nD) = true
  | [], _ => by unfold PySem.W.alikeAll; rfl
  | _ :: _, [] => by unfold PySem.W.alikeAll; rfl
  | x :: xs, y :: ys => by
    rw [List.map_cons, List.map_cons]
    unfold PySem.W.alikeAll
    rw [alike_ints xs ys]
    rfl
theorem alike_tD (a b : List Nat) : PySem.W.alike (tD a) (tD b) = true := by
  unfold tD PySem.W.alike
  exact alike_ints a b

section
variable {K : PySem.W.Frag} {ρ ρ' : Env6} {ta tb tc te : TE} {t u : TT} {a b c d : PyData} {k : Kd}
theorem ev_nat {n : Nat} : EV K (tC (.int (n : Int))) ρ (nD n) := ev_int
theorem r2_ixN {xs : List Nat} {i : Nat} (h : i < xs.length) : R2V K (rIx K) (tD xs) (nD i) (nD (xs.getD i 0)) :=
  r2_ixT (by rw [atI_nat (by rw [List.length_map]; exact h)]; exact get_map h)
theorem r2_ixNL {xs : List Nat} {i : Nat} (h : i < xs.length) : R2V K (rIx K) (lD xs) (nD i) (nD (xs.getD i 0)) :=
  r2_ixL (by rw [atI_nat (by rw [List.length_map]; exact h)]; exact get_map h)
theorem r2_ixM {m : List (List Nat)} {i : Nat} (h : i < m.length) : R2V K (rIx K) (mD m) (nD i) (tD (m.getD i [])) :=
  r2_ixT (by rw [atI_nat (by rw [List.length_map]; exact h)]; exact get_map h)
theorem r2_ixLast {xs : List Nat} (h : xs ≠ []) : R2V K (rIx K) (tD xs) (.int (-1)) (nD (xs.getLastD 0)) :=
  r2_ixT (by
    rw [atI_last (by simpa using h), List.getLast?_map, List.getLast?_eq_some_getLast h, List.getLastD_eq_getLast?, List.getLast?_eq_some_getLast h]
    rfl)
/-- merge[a][b] -/
theorem ev_J (L : Lat k) {x y : Nat} (hm : EV K ta ρ (mD k.mg)) (hx : EV K tb ρ (nD x)) (hy : EV K tc ρ (nD y)) (lx : x < k.n) (ly : y < k.n) : EV K (tOp (rIx K) (tOp (rIx K) ta tb) tc) ρ (nD (k.J x y)) :=
  ev_op (ev_op hm hx (r2_ixM (by rw [L.mgL]; exact lx))) hy (r2_ixN (by rw [(L.mgR _ (getD_mem (by rw [L.mgL]; exact lx))).1]; exact ly))
/-- kind[2] -/
theorem ev_k2 (h : EV K ta ρ (kD k)) : EV K (tOp (rIx K) ta (tC (.int 2))) ρ (mD k.mg) := ev_op h ev_int (r2_ixT rfl)
theorem ev_k0 (h : EV K ta ρ (kD k)) : EV K (tOp (rIx K) ta (tC (.int 0))) ρ (nD k.st) := ev_op h ev_int (r2_ixT rfl)
theorem ev_k1 (h : EV K ta ρ (kD k)) : EV K (tOp (rIx K) ta (tC (.int 1))) ρ (mD k.ups) := ev_op h ev_int (r2_ixT rfl)
theorem ev_k3 (h : EV K ta ρ (kD k)) : EV K (tOp (rIx K) ta (tC (.int 3))) ρ (tD k.rd) := ev_op h ev_int (r2_ixT rfl)
theorem r2_eqN {i j : Nat} : R2V K rEq (nD i) (nD j) (.bool (decide (i = j))) := by
  have h := r2_eqI (K := K) (i := (i : Int)) (j := (j : Int))
  rwa [show decide ((i : Int) = (j : Int)) = decide (i = j) from decide_eq_decide.mpr (by omega)] at h
theorem r2_neN {i j : Nat} : R2V K rNe (nD i) (nD j) (.bool (decide (i ≠ j))) := by
  have h := r2_neI (K := K) (i := (i : Int)) (j := (j : Int))
  rwa [show (!decide ((i : Int) = (j : Int))) = decide (i ≠ j) from by rw [← decide_not]; exact decide_eq_decide.mpr (by omega)] at h
theorem r2_leN {i j : Nat} : R2V K (rI0 fun i j => .bl (decide (i ≤ j))) (nD i) (nD j) (.bool (decide (i ≤ j))) := by
  have h := r2_le (K := K) (i := (i : Int)) (j := (j : Int))
  rwa [show decide ((i : Int) ≤ (j : Int)) = decide (i ≤ j) from decide_eq_decide.mpr (by omega)] at h
theorem r2_ltN {i j : Nat} : R2V K (rI0 fun i j => .bl (decide (i < j))) (nD i) (nD j) (.bool (decide (i < j))) := by
  have h := r2_lt (K := K) (i := (i : Int)) (j := (j : Int))
  rwa [show decide ((i : Int) < (j : Int)) = decide (i < j) from decide_eq_decide.mpr (by omega)] at h
theorem r2_gtN {i j : Nat} : R2V K (rI0 fun i j => .bl (decide (j < i))) (nD i) (nD j) (.bool (decide (j < i))) := by
  have h := r2_gt (K := K) (i := (i : Int)) (j := (j : Int))
  rwa [show decide ((j : Int) < (i : Int)) = decide (j < i) from decide_eq_decide.mpr (by omega)] at h
theorem r2_addN {i j : Nat} : R2V K (rI0 fun i j => .int (i + j)) (nD i) (nD j) (nD (i + j)) := r2_add
theorem r2_inN {i : Nat} {xs : List Nat} : R2V K (rIn K false) (nD i) (lD xs) (.bool (decide (i ∈ xs))) := by
  have h := r2_inL (K := K) (i := (i : Int)) (ns := cI xs)
  rw [show decide ((i : Int) ∈ cI xs) = decide (i ∈ xs) from decide_eq_decide.mpr mem_cI] at h
  rw [lD_int]
  exact h
theorem r2_niN {i : Nat} {xs : List Nat} : R2V K (rIn K true) (nD i) (lD xs) (.bool (decide (i ∉ xs))) := by
  have h := r2_niL (K := K) (i := (i : Int)) (ns := cI xs)
  rw [show (!decide ((i : Int) ∈ cI xs)) = decide (i ∉ xs) from by rw [← decide_not]; exact decide_eq_decide.mpr (not_congr mem_cI)] at h
  rw [lD_int]
  exact h
/-! ### builtins -/
theorem ev_lenT {ds : List PyData} (h : EV K ta ρ (.tuple ds)) : EV K (tCB (rLenK K) (tCons ta tNil)) ρ (nD ds.length) := ev_CB (ea_cons h ea_nil) rc_lenT
theorem ev_lenL {ds : List PyData} (h : EV K ta ρ (.list ds)) : EV K (tCB (rLenK K) (tCons ta tNil)) ρ (nD ds.length) := ev_CB (ea_cons h ea_nil) rc_lenL
theorem ev_lenN {xs : List Nat} (h : EV K ta ρ (tD xs)) : EV K (tCB (rLenK K) (tCons ta tNil)) ρ (nD xs.length) := by
  have h1 := ev_lenT h
  rwa [List.length_map] at h1
theorem ev_lenM {xs : List (List Nat)} (h : EV K ta ρ (mD xs)) : EV K (tCB (rLenK K) (tCons ta tNil)) ρ (nD xs.length) := by
  have h1 := ev_lenT h
  rwa [List.length_map] at h1
theorem ev_lenNL {xs : List Nat} (h : EV K ta ρ (lD xs)) : EV K (tCB (rLenK K) (tCons ta tNil)) ρ (nD xs.length) := by
  have h1 := ev_lenL h
  rwa [List.length_map] at h1
theorem ev_tupL {ds : List PyData} (h : EV K ta ρ (.list ds)) : EV K (tCB (rTupK K) (tCons ta tNil)) ρ (.tuple ds) := ev_CB (ea_cons h ea_nil) rc_tupL
theorem ev_maxN {xs : List Nat} (h : EV K ta ρ (lD xs)) (hn : xs ≠ []) : EV K (tCB (rMax K) (tCons ta tNil)) ρ (nD (maxL xs)) := by
  rw [lD_int] at h
  refine ev_CB (ea_cons h ea_nil) (rc_max (mem_cI.mpr (maxL_mem hn)) fun y hy => ?_)
  unfold cI at hy
  obtain ⟨x, hx, rfl⟩ := List.mem_map.mp hy
  have := maxL_ge hx
  omega
theorem ev_minC {cs : List (List Nat)} (h : EV K ta ρ (.list (cs.map tD))) (hn : cs ≠ []) : EV K (tCB (rMinD K) (tCons ta tNil)) ρ (tD (minL cs)) := by
  cases cs with
  | nil => exact absurd rfl hn
  | cons c cs =>
    have key : ∀ d, d ∈ (c :: cs).map tD → ∃ x, d = tD x := fun d hd => by
      obtain ⟨x, _, rfl⟩ := List.mem_map.mp hd
      exact ⟨x, rfl⟩
    have h1 : RCV K (rMinD K) [.list (tD c :: cs.map tD)] (PySem.W.minD (tD c) (cs.map tD)) := rc_minD (lay_all fun d hd => by
        obtain ⟨x, rfl⟩ := key d hd
        exact lay_tD x)
      ⟨fun x hx y hy => by
        obtain ⟨a, rfl⟩ := key x hx
        obtain ⟨b, rfl⟩ := key y hy
        exact alike_tD a b, fun x hx e => by
        obtain ⟨a, rfl⟩ := key x hx
        exact PyData.noConfusion e⟩
      (depth_all fun d hd => by
        obtain ⟨x, rfl⟩ := key d hd
        exact Nat.le_trans (depth_tD x) (by decide))
    rw [minD_tD] at h1
    exact ev_CB (ea_cons h ea_nil) h1
theorem ev_sortN {xs ys : List Nat} (h : EV K ta ρ (lD xs)) (hp : ys.Perm xs) (hs : ys.Pairwise (· < ·)) : EV K (tCB (rSortedI K) (tCons ta tNil)) ρ (lD ys) := by
  rw [lD_int] at h
  rw [lD_int ys]
  exact ev_CB (ea_cons h ea_nil) (rc_sorted (hp.map _) (List.pairwise_map.mpr (hs.imp fun z => by omega)))
theorem ev_anyB {bs : List Bool} (h : EV K ta ρ (.list (bs.map .bool))) : EV K (tCB (rAny K) (tCons ta tNil)) ρ (.bool (bs.any id)) := ev_CB (ea_cons h ea_nil) rc_any
theorem ev_allB {bs : List Bool} (h : EV K ta ρ (.list (bs.map .bool))) : EV K (tCB (rAll K) (tCons ta tNil)) ρ (.bool (bs.all id)) := ev_CB (ea_cons h ea_nil) rc_all
theorem ev_isIntN {n : Nat} {T : String} {r : Bool} (ha : EV K ta ρ (nD n)) (h : kitB "int" T = some r) : EV K (tCB (rIsi K) (tCons ta (tCons (tC (.ty T)) tNil))) ρ (.bool r) := ev_isiI ha h
theorem ev_rgN {n : Nat} (h : EV K ta ρ (nD n)) (hn : n ≤ 1000) : EV K (tLstRg (tRg1 ta)) ρ (lD (List.range n)) := ev_listRg h hn
theorem iv_rgN {n : Nat} (h : EV K ta ρ (nD n)) (hn : n ≤ 1000000) : IV K (iRng1 (tCons ta tNil)) ρ ((List.range n).map nD) := iv_range1 (ea_cons h ea_nil) hn
theorem iv_L {α : Type} {xs : List α} {enc : α → PyData} (h : EV K ta ρ (.list (xs.map enc))) : IV K (iSeq K ta) ρ (xs.map enc) := iv_seqL h
theorem iv_T {α : Type} {xs : List α} {enc : α → PyData} (h : EV K ta ρ (.tuple (xs.map enc))) : IV K (iSeq K ta) ρ (xs.map enc) := iv_seqT h

/-! ### loops -/
/-- a for over data that a function wrote, turn by turn -/
theorem sv_forN {α : Type} {wi : TI} {g : TG} {us : List Nat} {tu : TS} {xs : List α} {enc : α → PyData} (f : Nat → Env6) (hi : IV K wi ρ (xs.map enc)) (h0 : leE ρ (f 0)) (hs : ∀ (i : Nat) (x : α), xs[i]? = some x → ∃ ρ1, GV K g us (enc x) (f i) ρ1 ∧ SV K tu ρ1 (.nx (f (i + 1)))) : SV K (tFor wi g tu) ρ (.nx (f xs.length)) := by
  have h := sv_for (K := K) (tu := tu) (us := us) (g := g) f hi h0 fun i d hd => by
    rw [List.getElem?_map] at hd
    cases e : xs[i]? with
    | none => rw [e] at hd; cases hd
    | some x =>
      rw [e] at hd
      have e2 : enc x = d := Option.some.inj hd
      rw [← e2]
      exact hs i x e
  rwa [List.length_map] at h
/-- while, with a measure; what follows -/
theorem sv_whileK {α : Type} {tu tz : TS} {o : Out} (f : α → Env6) (I : α → Prop) (m : α → Nat) (x : α) (h0 : leE ρ (f x)) (i0 : I x)
    (hs : ∀ x, I x → ∃ r, ET K t (f x) r ∧ (r = true → ∃ y, I y ∧ m y < m x ∧ SV K tu (f x) (.nx (f y))) ∧ (r = false → SV K tz (f x) o)) : SV K (tSeq (tWhile t tu) tz) ρ o := fun W σ H D ok E q => by
  refine ⟨fun n σ' H' => ∃ x, I x ∧ n = m x ∧ Same H H' ∧ EnvD K (hide W H') σ' (f x), ⟨m x, x, i0, rfl, Same.refl _, E.le h0⟩, ?_⟩
  rintro n σ' H' ⟨x, ix, rfl, s, E'⟩
  obtain ⟨r, ht, hy, hn⟩ := hs x ix
  refine ht W σ' H' (ok.same s) E' _ fun H1 s1 => ?_
  cases r with
  | true =>
    rw [if_pos rfl]
    obtain ⟨y, iy, ly, hb⟩ := hy rfl
    refine ⟨fun σ'' H'' => Same H H'' ∧ EnvD K (hide W H'') σ'' (f y), fun σ'' H'' z => ⟨m y, ly, y, iy, rfl, z.1, z.2⟩, ?_⟩
    exact hb W σ' H1 _ (ok.same (s.trans s1)) (E'.same (hide_same s1)) fun σ4 H4 s4 E4 => ⟨(s.trans s1).trans s4, E4⟩
  | false =>
    rw [if_neg Bool.false_ne_true]
    exact hn rfl W σ' H1 D (ok.same (s.trans s1)) (E'.same (hide_same s1)) (q.after (s.trans s1))
/-- a call by a promise of data -/
theorem R_self {R : List PyData → PyData → Prop} {ds : List PyData} (h : R ds d) : R ds d := h
end
end G6
/-! Part A9: a def whose body may fall off its end; defs with promises of another kind. -/
namespace G6
open PySem PySem.Spec PyProof.Rows L2
def SVr (K : PySem.W.Frag) (t : TS) (ρ : Env6) (d : PyData) : Prop := SV K t ρ (.rt d) ∨ (d = .none ∧ ∃ ρ', SV K t ρ (.nx ρ'))
section
variable {P : Program} {w : World} {K : PySem.W.Frag} {mg : Str → Option Value} {base : Heap}
theorem SVr.run {t : TS} {ρ : Env6} {d : PyData} (h : SVr K t ρ d) {W : List Addr} {σ : L2.St} {H : Hp} {Q : VK} (ok : OkW W H) (E : EnvD K (hide W H) σ ρ) (q : ∀ v H2, Same H H2 → Dv K (hide W H2) v d → Q v H2) : t { nx := fun _ H' => Q .non H', rt := Q } σ H := by
  rcases h with h | ⟨rfl, ρ', h⟩
  · exact h W σ H _ ok E fun v H' s' v' => q v H' s' v'
  · exact h W σ H _ ok E fun σ' H' s' _ => q _ H' s' .non
/-- a def of data: its body gives d wherever R tells d -/
theorem good_of2 {x : Str} {st : Stmt} {N ps : List Str} {k : Nat} {R : List PyData → PyData → Prop} (hF : ∃ fd, mg x = some (.ref (He.ga K x)) ∧ FunD K x x (defArgs st) (defBody st) (defScope st) [] [] (He.ga K x) fd) (S : FnScope N ps (defScope st)) (hl : ∀ ds d, R ds d → ds.length = ps.length)
    (hb : ∀ (kV doc pm : Value) (an : Option Addr) (cdv ct : Value) (us : List Value), us.length = ps.length → bindArgs (PySem.W.fnOf x x (defArgs st) (defBody st) (defScope st) .none kV doc pm an cdv ct) ⟨us, []⟩ = pure (ps.zip us))
    (hbody : ∀ (cdv : Value) (A : Around) (outer : List Env) (s : Shared) (H : Hp) (E : XK), Room k (A.deeper (envOfC x (defScope st) s.heap.objs.size (He.ga K x) cdv)) →
      ∃ t, PSs (cxOf CX0 P w K mg base N x (defScope st) (He.ga K x) cdv A outer s H E).nox (defBody st) t ∧ ∀ ds d, R ds d → SVr K t (ds.map some ++ List.replicate (N.length - ds.length) none) d) :
    Good P w K mg base (k + 1) x ps (PSp K R) := by
  obtain ⟨fd, hm, F⟩ := hF
  refine ⟨_, fd, hm, F.kp, F.bindsN hb, F.ok S (fun vs H Q E h => ?_) fun cdv A outer s H vs Q E hr h => ?_⟩
  · obtain ⟨W, ds, d, _, r, hR, _⟩ := h
    rw [r.length]
    exact hl ds d hR
  · obtain ⟨W, ds, d, ok, r, hR, q⟩ := h
    obtain ⟨t, ht, hv⟩ := hbody cdv A outer s H E hr
    exact ⟨t, ht.nox, (hv ds d hR).run ok (EnvD.start N r) q⟩
/-- a def with any promise -/
theorem good_raw {x : Str} {st : Stmt} {N ps : List Str} {k : Nat} {sp : Sp} (hF : ∃ fd, mg x = some (.ref (He.ga K x)) ∧ FunD K x x (defArgs st) (defBody st) (defScope st) [] [] (He.ga K x) fd) (S : FnScope N ps (defScope st)) (hl : ∀ vs H Q E, sp vs H Q E → vs.length = ps.length)
    (hb : ∀ (kV doc pm : Value) (an : Option Addr) (cdv ct : Value) (us : List Value), us.length = ps.length → bindArgs (PySem.W.fnOf x x (defArgs st) (defBody st) (defScope st) .none kV doc pm an cdv ct) ⟨us, []⟩ = pure (ps.zip us))
    (hbody : ∀ (cdv : Value) (A : Around) (outer : List Env) (s : Shared) (H : Hp) (E : XK), Room k (A.deeper (envOfC x (defScope st) s.heap.objs.size (He.ga K x) cdv)) →
      ∃ t, PSs (cxOf CX0 P w K mg base N x (defScope st) (He.ga K x) cdv A outer s H E).nox (defBody st) t ∧ ∀ vs Q, sp vs H Q E → t { nx := fun _ H' => Q .non H', rt := Q } (start N vs) H) :
    Good P w K mg base (k + 1) x ps sp := by
  obtain ⟨fd, hm, F⟩ := hF
  refine ⟨_, fd, hm, F.kp, F.bindsN hb, F.ok S hl fun cdv A outer s H vs Q E hr h => ?_⟩
  obtain ⟨t, ht, hv⟩ := hbody cdv A outer s H E hr
  exact ⟨t, ht.nox, hv vs Q h⟩
/-- a def of data that wants the guards clear -/
theorem goodG_of2 {x : Str} {st : Stmt} {N ps : List Str} {k : Nat} {R : List PyData → PyData → Prop} (hF : ∃ fd, mg x = some (.ref (He.ga K x)) ∧ FunD K x x (defArgs st) (defBody st) (defScope st) [] [] (He.ga K x) fd) (S : FnScope N ps (defScope st)) (hl : ∀ ds d, R ds d → ds.length = ps.length)
    (hb : ∀ (kV doc pm : Value) (an : Option Addr) (cdv ct : Value) (us : List Value), us.length = ps.length → bindArgs (PySem.W.fnOf x x (defArgs st) (defBody st) (defScope st) .none kV doc pm an cdv ct) ⟨us, []⟩ = pure (ps.zip us))
    (hbody : ∀ (cdv : Value) (A : Around) (outer : List Env) (s : Shared) (H : Hp), A.guards = some [] → Room k (A.deeper (envOfC x (defScope st) s.heap.objs.size (He.ga K x) cdv)) →
      ∃ t, PSs (cxOf CX0 P w K mg base N x (defScope st) (He.ga K x) cdv A outer s H E0) (defBody st) t ∧ ∀ ds d, R ds d → SVr K t (ds.map some ++ List.replicate (N.length - ds.length) none) d) :
    GoodG P w K mg base (k + 1) x ps (PSp K R) := by
  obtain ⟨fd, hm, F⟩ := hF
  refine ⟨_, fd, hm, F.kp, F.bindsN hb, fnG_of F S (fun vs H Q E h => ?_) fun cdv A outer s H vs Q gd hr h => ?_⟩
  · obtain ⟨W, ds, d, _, r, hR, _⟩ := h
    rw [r.length]
    exact hl ds d hR
  · obtain ⟨W, ds, d, ok, r, hR, q⟩ := h
    obtain ⟨t, ht, hv⟩ := hbody cdv A outer s H gd hr
    exact ⟨t, ht, (hv ds d hR).run ok (EnvD.start N r) q⟩
end
end G6
/-! Part Rs: what each def gives, as relations of data. -/
namespace G6
open PySem PySem.Spec PyProof.Rows L2
def R_is_between (ds : List PyData) (d : PyData) : Prop := ∃ x b : Nat, x ≤ b ∧ ds = [nD x, nD 0, nD b] ∧ d = .bool true
def R_is_tuple_of (ds : List PyData) (d : PyData) : Prop := ∃ (xs : List Nat) (m : Nat), xs.length ≤ 1000 ∧ (∀ x, x ∈ xs → x ≤ m) ∧ ds = [tD xs, nD xs.length, nD m] ∧ d = .bool true
def R_need_rows (ds : List PyData) (d : PyData) : Prop := ∃ (m : List (List Nat)) (spot many : Nat), 1 ≤ many ∧ many ≤ 8 ∧ m.length ≤ 8 ∧ (∀ r, r ∈ m → r.length = many ∧ ∀ x, x ∈ r → x < many) ∧ ds = [mD m, nD spot, nD many] ∧ d = .none
def R_need_kind (ds : List PyData) (d : PyData) : Prop := ∃ k, Lat k ∧ ds = [kD k] ∧ d = kD k
def sizeS (r : Str) : Nat := if r = "start" then 1 else if r = "twice" then 1 else if r = "turn" then 2 else 3
def RuleS (r : Str) : Prop := r = "start" ∨ r = "twice" ∨ r = "turn" ∨ r = "group"
def R_does_break (ds : List PyData) (d : PyData) : Prop := ∃ (k : Kd) (r : Str) (xs : List Nat), Lat k ∧ RuleS r ∧ (∀ x, x ∈ xs → x < k.n) ∧ xs.length = sizeS r ∧ ds = [kD k, .str r, tD xs] ∧ d = .bool false
def rowsN (xs : List Nat) : Nat → List (List Nat)
  | 0 => [[]]
  | n + 1 => (rowsN xs n).flatMap fun row => xs.map fun one => row ++ [one]
theorem rowsN_len {xs : List Nat} (h : xs.length ≤ 8) : ∀ n, n ≤ 3 → (rowsN xs n).length ≤ 8 ^ n
  | 0, _ => Nat.le_refl 1
  | n + 1, hn => by
    have ih := rowsN_len h n (by omega)
    have key : ∀ l : List (List Nat), (l.flatMap fun row => xs.map fun one => row ++ [one]).length ≤ l.length * 8 := by
      intro l
      induction l with
      | nil => simp
      | cons r l ih2 =>
        rw [List.flatMap_cons, List.length_append, List.length_map, List.length_cons]
        omega
    have := key (rowsN xs n)
    show (List.flatMap _ (rowsN xs n)).length ≤ _
    rw [Nat.pow_succ]
    omega
theorem rowsN_mem {xs : List Nat} : ∀ (n : Nat) (r : List Nat), r ∈ rowsN xs n → r.length = n ∧ ∀ x, x ∈ r → x ∈ xs
  | 0, r, h => by
    rw [List.mem_singleton.mp h]
    exact ⟨rfl, fun x hx => nomatch hx⟩
  | n + 1, r, h => by
    obtain ⟨r0, h0, h1⟩ := List.mem_flatMap.mp h
    obtain ⟨x, hx, rfl⟩ := List.mem_map.mp h1
    obtain ⟨h2, h3⟩ := rowsN_mem n r0 h0
    refine ⟨by rw [List.length_append, h2]; rfl, fun y hy => ?_⟩
    rcases List.mem_append.mp hy with z | z
    · exact h3 y z
    · rw [List.mem_singleton.mp z]; exact hx
def R_rows_over (ds : List PyData) (d : PyData) : Prop := ∃ (xs : List Nat) (n : Nat), xs.length ≤ 8 ∧ n ≤ 3 ∧ ds = [lD xs, nD n] ∧ d = .list ((rowsN xs n).map tD)
def R_first_broken (ds : List PyData) (d : PyData) : Prop := ∃ (k : Kd) (r : Str), Lat k ∧ RuleS r ∧ ds = [kD k, .str r, lD (come k)] ∧ d = .none
def rulesD : PyData := .tuple ((["start", "twice", "turn", "group"] : List Str).map .str)
def R_broken_in (ds : List PyData) (d : PyData) : Prop := ∃ k, Lat k ∧ ds = [kD k, rulesD, lD (come k)] ∧ d = .list []
def R_need_joins (ds : List PyData) (d : PyData) : Prop := ∃ k, Lat k ∧ ds = [kD k] ∧ d = kD k
/-! the states on from some, as the program finds them -/
def insN (acc : List Nat) (y : Nat) : List Nat := if y ∈ acc then acc else acc ++ [y]
def waysL (k : Kd) (xs : List Nat) : List Nat := xs.flatMap fun x => (k.ups.map fun r => Kd.U r x) ++ xs.map fun y => k.J x y
def ways (k : Kd) (xs : List Nat) : List Nat := ((waysL k xs).foldl insN []).filter fun y => decide (y ∉ xs)
def dD (xs : List Nat) : PyData := .dict ((cI xs).map fun k => (.int k, .none))
def R_ways_on (ds : List PyData) (d : PyData) : Prop := ∃ (k : Kd) (xs : List Nat), Lat k ∧ xs.length ≤ 8 ∧ (∀ x, x ∈ xs → x < k.n) ∧ ds = [kD k, lD xs, lD (List.range k.ups.length)] ∧ d = dD (ways k xs)
def R_come_by (ds : List PyData) (d : PyData) : Prop := ∃ k, Lat k ∧ ds = [kD k, lD (List.range k.ups.length)] ∧ d = lD (come k)
def R_come_in (ds : List PyData) (d : PyData) : Prop := ∃ k, Lat k ∧ ds = [kD k] ∧ d = lD (come k)
def R_need_come (ds : List PyData) (d : PyData) : Prop := ∃ k s, Lat k ∧ s ∈ come k ∧ ds = [kD k, nD s] ∧ d = .none
def R_at_most_in (ds : List PyData) (d : PyData) : Prop := ∃ k a b, Lat k ∧ a < k.n ∧ b < k.n ∧ ds = [kD k, nD a, nD b] ∧ d = .bool (k.le a b)
def R_joined_in (ds : List PyData) (d : PyData) : Prop := ∃ k xs, Lat k ∧ (∀ x, x ∈ xs → x < k.n) ∧ (ds = [kD k, lD xs] ∨ ds = [kD k, tD xs]) ∧ d = nD (k.join xs)
def R_below (ds : List PyData) (d : PyData) : Prop := ∃ k, Lat k ∧ ds = [kD k] ∧ d = .tuple ((k.pairs (come k)).map pD)
def R_joined (ds : List PyData) (d : PyData) : Prop := ∃ k xs, Lat k ∧ xs.length ≤ 60 ∧ (∀ x, x ∈ xs → x ∈ come k) ∧ ds = [kD k, tD xs] ∧ d = nD (k.join xs)
def R_top_in (ds : List PyData) (d : PyData) : Prop := ∃ k, Lat k ∧ ds = [kD k] ∧ d = nD (k.join (come k))
def R_top (ds : List PyData) (d : PyData) : Prop := ∃ k, Lat k ∧ ds = [kD k] ∧ d = nD (k.join (come k))
def R_is_brick (ds : List PyData) (d : PyData) : Prop := ∃ k s, Lat k ∧ s ∈ come k ∧ ds = [kD k, lD (come k), nD s] ∧ d = .bool (k.isBrick (come k) s)
def R_bricks_in (ds : List PyData) (d : PyData) : Prop := ∃ k, Lat k ∧ ds = [kD k] ∧ d = lD k.bricks
def R_bricks (ds : List PyData) (d : PyData) : Prop := ∃ k, Lat k ∧ ds = [kD k] ∧ d = tD k.bricks
def R_bricks_of (ds : List PyData) (d : PyData) : Prop := ∃ k s, Lat k ∧ s ∈ come k ∧ ds = [kD k, nD s] ∧ d = tD (k.bricksOf s)
def R_chains_upM (m : Nat) (ds : List PyData) (d : PyData) : Prop := ∃ k s, Lat k ∧ s ∈ come k ∧ (k.above (come k) s).length ≤ m ∧ ds = [kD k, lD (come k), nD s] ∧ d = tD (k.upF (come k) m s)
abbrev R_chains_up := R_chains_upM 8
def R_longest_chain (ds : List PyData) (d : PyData) : Prop := ∃ k, Lat k ∧ ds = [kD k] ∧ d = tD k.longest
def R_height_in (ds : List PyData) (d : PyData) : Prop := ∃ k, Lat k ∧ ds = [kD k] ∧ d = nD k.height
def R_height (ds : List PyData) (d : PyData) : Prop := ∃ k, Lat k ∧ ds = [kD k] ∧ d = nD k.height
def R_is_tight (ds : List PyData) (d : PyData) : Prop := ∃ k xs, Lat k ∧ xs.length ≤ 8 ∧ (∀ x, x ∈ xs → x < k.n) ∧ ds = [kD k, tD xs] ∧ d = .bool (k.tight xs)
def R_breadth (ds : List PyData) (d : PyData) : Prop := ∃ k, Lat k ∧ ds = [kD k] ∧ d = nD k.breadth
/-! ### of the law -/
def mixI (c n : Int) : Int := ((c * (3 + 2 * n) * 69621) % 2147483647 + 104729 * n * n + 7919 * n) * 48271 % 2147483629 / 9
def R__law_mixed (ds : List PyData) (d : PyData) : Prop := ∃ c n : Int, 0 ≤ c ∧ c ≤ 2 ^ 33 ∧ 0 ≤ n ∧ n ≤ 2000000 ∧ ds = [.int c, .int n] ∧ d = .int (mixI c n)
def R__law_join (ds : List PyData) (d : PyData) : Prop := ∃ k xs, Lat k ∧ (∀ x, x ∈ xs → x < k.n) ∧ (ds = [kD k, lD xs] ∨ ds = [kD k, tD xs]) ∧ d = nD (k.join xs)
def R__law_come (ds : List PyData) (d : PyData) : Prop := ∃ k, Lat k ∧ ds = [kD k] ∧ d = lD (come k)
def allC (k : Kd) (xs : List Nat) : Nat → List (List Nat)
  | 0 => []
  | n + 1 => allC k xs n ++ k.layer xs n
def R__law_all_chains (ds : List PyData) (d : PyData) : Prop := ∃ k, Lat k ∧ ds = [kD k, lD (come k)] ∧ d = .list ((allC k (come k) 9).map tD)
def R__law_tight (ds : List PyData) (d : PyData) : Prop := ∃ k, Lat k ∧ ds = [kD k, lD (come k)] ∧ d = nD (k.lawMost (lotsOf (come k)) 0)
def okR (d : PyData) : Prop := d.showable = true ∧ d.canLay0 = true ∧ d.depth ≤ 60 ∧ d.shown.length ≤ sizeLine
def R__law_like (ds : List PyData) (d : PyData) : Prop := ∃ xs, okR (.list xs) ∧ ds = [.list xs, .list xs] ∧ d = .bool true
end G6
/-! Part A10: lists that a def fills in its own time; a machine that is drawn from. -/
namespace G6
open PySem PySem.Spec PyProof.Rows L2
structure Mch where
  pm : Addr
  pg : Addr
  pc : Addr
def adr : Option Mch → List Addr
  | none => []
  | some m => [m.pm, m.pg, m.pc]
abbrev keyS (x : Str) : Key := .inr x
/-- the machine as it stands; at least b draws are left -/
def Mach (m : Option Mch) (b : Nat) (H : Hp) : Prop := match m with
  | none => True
  | some m => m.pg ≠ m.pc ∧ ∃ (n : Nat) (cs gs : List Int), n + b ≤ 1000000 ∧ H m.pm = some (.dK [(keyS "cells", .ref m.pc), (keyS "great", .ref m.pg), (keyS "spot", .int n)]) ∧ H m.pc = some (.lst (cs.map V.int)) ∧ cs.length = 64 ∧ (∀ c, c ∈ cs → 0 ≤ c ∧ c < 2147483648) ∧ H m.pg = some (.lst (gs.map V.int)) ∧ gs.length ≤ sizeLine
def StepM (m : Option Mch) (H H' : Hp) : Prop := ∀ a o, a ∉ adr m → H a = some o → H' a = some o
theorem StepM.refl {m : Option Mch} (H : Hp) : StepM m H H := fun a o _ h => h
theorem StepM.trans {m : Option Mch} {H H1 H2 : Hp} (a : StepM m H H1) (b : StepM m H1 H2) : StepM m H H2 := fun x o h e => b x o h (a x o h e)
theorem StepM.of {m : Option Mch} {H H1 : Hp} (a : Same H H1) : StepM m H H1 := fun x o h e => a x o e
theorem Mach.keep {m : Option Mch} {b : Nat} {H H' : Hp} (h : Mach m b H) (k : ∀ a, a ∈ adr m → ∀ o, H a = some o → H' a = some o) : Mach m b H' := by
  cases m with
  | none => trivial
  | some m =>
    obtain ⟨h0, n, cs, gs, h1, h2, h3, h4, h5, h6, h7⟩ := h
    exact ⟨h0, n, cs, gs, h1, k _ (by simp [adr]) _ h2, k _ (by simp [adr]) _ h3, h4, h5, k _ (by simp [adr]) _ h6, h7⟩
theorem Mach.same {m : Option Mch} {b : Nat} {H H' : Hp} (h : Mach m b H) (s : Same H H') : Mach m b H' := h.keep fun a _ o e => s a o e
theorem Mach.less {m : Option Mch} {b c : Nat} {H : Hp} (h : Mach m b H) (l : c ≤ b) : Mach m c H := by
  cases m with
  | none => trivial
  | some m =>
    obtain ⟨h0, n, cs, gs, h1, r⟩ := h
    exact ⟨h0, n, cs, gs, by omega, r⟩
theorem Mach.here {m : Option Mch} {b : Nat} {H : Hp} (h : Mach m b H) : ∀ a, a ∈ adr m → H a ≠ none := fun a ha e => by
  cases m with
  | none => cases ha
  | some m =>
    obtain ⟨_, n, cs, gs, _, h2, h3, _, _, h6, _⟩ := h
    have ha : a ∈ [m.pm, m.pg, m.pc] := ha
    simp only [List.mem_cons, List.not_mem_nil, or_false] at ha
    rcases ha with rfl | rfl | rfl
    · rw [h2] at e; cases e
    · rw [h6] at e; cases e
    · rw [h3] at e; cases e
abbrev Own := List (Addr × List PyData)
abbrev hid (M : Own) (W : List Addr) : List Addr := M.map (·.1) ++ W
/-- how it stands within a def: H0 ahead of it, M the lists it fills, W what is the callers' own -/
structure StM (K : PySem.W.Frag) (m : Option Mch) (W : List Addr) (H0 : Hp) (σ : L2.St) (H : Hp) (ρ : Env6) (M : Own) (b : Nat) : Prop where
  step : StepM m H0 H
  mach : Mach m b H
  min : ∀ a, a ∈ adr m → a ∈ W
  ok : OkW (hid M W) H
  nd : (M.map (·.1)).Nodup
  new : ∀ p, p ∈ M.map (·.1) → H0 p = none ∧ p ∉ W
  env : EnvD K (hide (hid M W) H) σ ρ
  own : ∀ q, q ∈ M → ∃ xs, H q.1 = some (.lst xs) ∧ DvAll K (hide (hid M W) H) xs q.2
section
variable {K : PySem.W.Frag} {m : Option Mch} {W : List Addr} {H0 H H' : Hp} {σ : L2.St} {ρ ρ' : Env6} {M : Own} {b c : Nat}
theorem StM.move (s : StM K m W H0 σ H ρ M b) (st : StepM m H H') (mc : Mach m c H') : StM K m W H0 σ H' ρ M c := by
  have nin : ∀ p, p ∈ M.map (·.1) → p ∉ adr m := fun p hp ha => (s.new p hp).2 (s.min p ha)
  have sm : Same (hide (hid M W) H) (hide (hid M W) H') := fun a o e => by
    by_cases q : a ∈ hid M W
    · rw [hide_in q] at e; cases e
    · rw [hide_out q] at e ⊢
      exact st a o (fun z => q (List.mem_append_right _ (s.min a z))) e
  refine ⟨s.step.trans st, mc, s.min, fun a ha e => ?_, s.nd, s.new, s.env.same sm, fun q hq => ?_⟩
  · by_cases z : a ∈ adr m
    · exact mc.here a z e
    · cases h : H a with
      | none => exact s.ok a ha h
      | some o => rw [st a o z h] at e; cases e
  · obtain ⟨xs, h1, h2⟩ := s.own q hq
    exact ⟨xs, st _ _ (nin _ (List.mem_map.mpr ⟨q, hq, rfl⟩)) h1, h2.same sm⟩
theorem StM.same (s : StM K m W H0 σ H ρ M b) (e : Same H H') : StM K m W H0 σ H' ρ M b := s.move (.of e) (s.mach.same e)
theorem StM.less (s : StM K m W H0 σ H ρ M b) (l : c ≤ b) : StM K m W H0 σ H ρ M c := s.move (.refl _) (s.mach.less l)
theorem StM.le (s : StM K m W H0 σ H ρ M b) (l : leE ρ ρ') : StM K m W H0 σ H ρ' M b := { s with env := s.env.le l }
theorem StM.withEnv {σ' : L2.St} (s : StM K m W H0 σ H ρ M b) (E : EnvD K (hide (hid M W) H) σ' ρ') : StM K m W H0 σ' H ρ' M b := { s with env := E }
/-- data under all that is hidden is data for the callers -/
theorem Dv.out {v : V} {d : PyData} (h : Dv K (hide (hid M W) H) v d) : Dv K (hide W H) v d := h.same (hide_sub fun a ha => List.mem_append_right _ ha)
/-- another heap to start from: that of now, without the lists of now -/
theorem StM.base (s : StM K m W H0 σ H ρ M b) : StM K m W (hide (M.map (·.1)) H) σ H ρ M b :=
  { s with step := fun a o _ e => hide_le _ _ e, new := fun p hp => ⟨hide_in hp, (s.new p hp).2⟩ }
theorem StM.step_back (s : StM K m W H0 σ H ρ M b) {H2 : Hp} (t : StepM m (hide (M.map (·.1)) H) H2) : StepM m H0 H2 := fun a o ha e => by
  refine t a o ha ?_
  have hn : a ∉ M.map (·.1) := fun z => by rw [(s.new a z).1] at e; cases e
  rw [hide_out hn]
  exact s.step a o ha e
theorem StM.back (s : StM K m W H0 σ H ρ M b) {σ2 : L2.St} {H2 : Hp} {ρ2 : Env6} {M2 : Own} (t : StM K m W (hide (M.map (·.1)) H) σ2 H2 ρ2 M2 c) : StM K m W H0 σ2 H2 ρ2 M2 c := by
  refine { t with step := s.step_back t.step, new := fun p hp => ⟨?_, (t.new p hp).2⟩ }
  cases e : H0 p with
  | none => rfl
  | some o =>
    have h1 := (t.new p hp).1
    have hn : p ∉ M.map (·.1) := fun z => by rw [(s.new p z).1] at e; cases e
    rw [hide_out hn, s.step p o (fun z => (t.new p hp).2 (s.min p z)) e] at h1
    cases h1
/-- what could be seen there is seen here -/
theorem StM.vis (s : StM K m W H0 σ H ρ M b) {σ2 : L2.St} {H2 : Hp} {ρ2 : Env6} {M2 : Own} (t : StM K m W (hide (M.map (·.1)) H) σ2 H2 ρ2 M2 c) : Same (hide (hid M W) H) (hide (hid M2 W) H2) := fun a o e => by
  by_cases q : a ∈ hid M W
  · rw [hide_in q] at e; cases e
  · rw [hide_out q] at e
    have q1 : a ∉ M.map (·.1) := fun z => q (List.mem_append_left _ z)
    have q2 : a ∉ W := fun z => q (List.mem_append_right _ z)
    have e1 : hide (M.map (·.1)) H a = some o := by rw [hide_out q1]; exact e
    have q3 : a ∉ hid M2 W := fun z => (List.mem_append.mp z).elim (fun z => by rw [(t.new a z).1] at e1; cases e1) q2
    rw [hide_out q3]
    exact t.step a o (fun z => q2 (s.min a z)) e1
end

/-! ### readings -/
def EM (K : PySem.W.Frag) (m : Option Mch) (te : TE) (ρ : Env6) (M : Own) (c : Nat) (R : PyData → Prop) : Prop := ∀ (W : List Addr) (H0 : Hp) (σ : L2.St) (H : Hp) (b : Nat), StM K m W H0 σ H ρ M (b + c) →
  ∀ Q : VK, (∀ v H2 d, R d → StM K m W H0 σ H2 ρ M b → Dv K (hide (hid M W) H2) v d → Q v H2) → te σ H Q
section
variable {K : PySem.W.Frag} {m : Option Mch} {ρ ρ' : Env6} {M : Own} {c c1 c2 : Nat} {ta tb te : TE} {R R1 R2' : PyData → Prop} {d : PyData}
theorem EM.to (h : EM K m te ρ M c R) {R' : PyData → Prop} (q : ∀ d, R d → R' d) : EM K m te ρ M c R' := fun W H0 σ H b s Q k => h W H0 σ H b s Q fun v H2 d r s2 v2 => k v H2 d (q d r) s2 v2
theorem EM.more (h : EM K m te ρ M c R) (l : c ≤ c1) : EM K m te ρ M c1 R := fun W H0 σ H b s Q k => h W H0 σ H b (s.less (by omega)) Q k
theorem em_ev (h : EV K te ρ d) : EM K m te ρ M 0 (· = d) := fun W H0 σ H b s Q k => h _ σ H s.ok s.env Q fun v H2 e v2 => k v H2 d rfl (s.same e) v2
theorem em_evR (h : EV K te ρ d) (r : R d) : EM K m te ρ M 0 R := (em_ev h).to fun _ e => e ▸ r
theorem em_op {r : R2} (ha : EM K m ta ρ M c1 R1) (hb : EM K m tb ρ M c2 R2') (hr : ∀ x y, R1 x → R2' y → ∃ z, R2V K r x y z ∧ R z) : EM K m (tOp r ta tb) ρ M (c2 + c1) R := fun W H0 σ H b s Q k =>
  ha W H0 σ H (b + c2) (by rw [Nat.add_assoc]; exact s) _ fun x H1 dx rx s1 x1 => by
    exact hb W _ σ H1 b s1.base _ fun y H2 dy ry s2 y2 => by
      obtain ⟨z, h1, h2⟩ := hr dx dy rx ry
      exact h1 _ x y H2 s2.ok (x1.same (s1.vis s2)) y2 Q fun v H3 e v3 => k v H3 z h2 ((s1.back s2).same e) v3
def AM (K : PySem.W.Frag) (m : Option Mch) (ta : TA) (ρ : Env6) (M : Own) (c : Nat) (R : List PyData → Prop) : Prop := ∀ (W : List Addr) (H0 : Hp) (σ : L2.St) (H : Hp) (b : Nat), StM K m W H0 σ H ρ M (b + c) →
  ∀ Q : List V → Hp → Prop, (∀ vs H2 ds, R ds → StM K m W H0 σ H2 ρ M b → DvAll K (hide (hid M W) H2) vs ds → Q vs H2) → ta σ H Q
theorem am_nil : AM K m tNil ρ M 0 (· = []) := fun W H0 σ H b s Q k => k [] H [] rfl s .nil
theorem am_cons {tr : TA} {Rs Rz : List PyData → Prop} (h : EM K m ta ρ M c1 R) (hr : AM K m tr ρ M c2 Rs) (q : ∀ d ds, R d → Rs ds → Rz (d :: ds)) : AM K m (tCons ta tr) ρ M (c2 + c1) Rz := fun W H0 σ H b s Q k =>
  h W H0 σ H (b + c2) (by rw [Nat.add_assoc]; exact s) _ fun x H1 dx rx s1 x1 =>
    hr W _ σ H1 b s1.base _ fun vs H2 ds rs s2 v2 => k _ H2 _ (q dx ds rx rs) (s1.back s2) (.cons (x1.same (s1.vis s2)) v2)
theorem am_ea {tr : TA} {ds : List PyData} (h : EA K tr ρ ds) : AM K m tr ρ M 0 (· = ds) := fun W H0 σ H b s Q k => h _ σ H s.ok s.env Q fun v H2 e v2 => k v H2 ds rfl (s.same e) v2
theorem AM.to {tr : TA} {Rs Rz : List PyData → Prop} (h : AM K m tr ρ M c Rs) (q : ∀ d, Rs d → Rz d) : AM K m tr ρ M c Rz := fun W H0 σ H b s Q k => h W H0 σ H b s Q fun v H2 d r s2 v2 => k v H2 d (q d r) s2 v2
theorem em_tup {tr : TA} {Rs : List PyData → Prop} (h : AM K m tr ρ M c Rs) (hl : ∀ ds, Rs ds → ds.length ≤ sizeLine) : EM K m (tTup tr) ρ M c (fun d => ∃ ds, Rs ds ∧ d = .tuple ds) := fun W H0 σ H b s Q k =>
  h W H0 σ H b s _ fun vs H2 ds r s2 v2 => ⟨by rw [v2.length]; exact hl ds r, fun p hp => by
    have e := same_new (o := .tup vs) hp
    exact k _ _ _ ⟨ds, r, rfl⟩ (s2.same e) (.tup (SqT.of (hide_new s2.ok hp)) (v2.same (hide_same e)))⟩
/-- a builtin of one reading -/
theorem em_CB {r : List V → Hp → VK → Prop} {tr : TA} {Rs : List PyData → Prop} (h : AM K m tr ρ M c Rs) (hr : ∀ ds, Rs ds → ∃ z, RCV K r ds z ∧ R z) : EM K m (tCB r tr) ρ M c R := fun W H0 σ H b s Q k =>
  h W H0 σ H b s _ fun vs H2 ds r s2 v2 => by
    obtain ⟨z, h1, h2⟩ := hr ds r
    exact h1 _ vs H2 s2.ok v2 Q fun v H3 e v3 => k v H3 z h2 (s2.same e) v3
/-! ### calls that draw -/
/-- a def that draws: c draws at most; its first argument is the machine -/
def SpM (K : PySem.W.Frag) (c : Nat) (Ra : List PyData → (PyData → Prop) → Prop) : Sp := fun vs H Q _ => ∃ (m : Mch) (W : List Addr) (ws : List V) (ds : List PyData) (R : PyData → Prop) (b : Nat), vs = .ref m.pm :: ws ∧ OkW W H ∧ (∀ a, a ∈ adr (some m) → a ∈ W) ∧ Mach (some m) (b + c) H ∧ DvAll K (hide W H) ws ds ∧ Ra ds R ∧
  ∀ v H2 d, R d → StepM (some m) H H2 → Mach (some m) b H2 → Dv K (hide W H2) v d → Q v H2
theorem em_callM {m : Mch} {i : Nat} {E0' : XK} {tr : TA} {Rs : List PyData → Prop} {Ra : List PyData → (PyData → Prop) → Prop} (hi : ρ[i]? = some (some (pinD m.pm))) (h : AM K (some m) tr ρ M c1 Rs) (hr : ∀ ds, Rs ds → Ra ds R) : EM K (some m) (tCall (SpM K c Ra) [] E0' (tCons (tVar i) tr)) ρ M (c + c1) R := fun W H0 σ H b s Q k => by
  obtain ⟨v, h1, h2⟩ := s.env.2 i _ hi
  refine ⟨v, h1, h W H0 σ H (b + c) (by rw [Nat.add_assoc]; exact s) _ fun vs H2 ds r s2 v2 => ?_⟩
  rw [h2.pin_iff]
  show SpM K c Ra (_ ++ []) H2 Q E0'
  rw [List.append_nil]
  exact ⟨m, hid M W, vs, ds, R, b, rfl, s2.ok, fun a ha => List.mem_append_right _ (s2.min a ha), s2.mach, v2, hr ds r, fun v H3 d rd st mc v3 => k v H3 d rd (s2.move st mc) v3⟩

/-! ### reading a list that is being filled -/
theorem EnvD.put {h : Hp} {σ : L2.St} (E : EnvD K h σ ρ) {i : Nat} {v : V} {d : PyData} (hv : σ[i]? = some (some v)) (r : Dv K h v d) : EnvD K h σ (ρ.set i (some d)) := by
  refine ⟨E.1.trans (List.length_set).symm, fun j e q => ?_⟩
  by_cases hj : i = j
  · subst hj
    by_cases hl : i < ρ.length
    · rw [List.getElem?_set_self hl] at q
      have e2 : d = e := Option.some.inj (Option.some.inj q)
      subst e2
      exact ⟨v, hv, r⟩
    · rw [List.getElem?_eq_none (by rw [List.length_set]; omega)] at q
      cases q
  · rw [List.getElem?_set_ne hj] at q
    exact E.2 j e q
/-- the lists that stay hidden where p's is read -/
def but (M : Own) (W : List Addr) (p : Addr) : List Addr := (hid M W).filter fun a => decide (a ≠ p)
theorem StM.open {W : List Addr} {H0 H : Hp} {σ : L2.St} {b : Nat} (s : StM K m W H0 σ H ρ M b) {p : Addr} {ds : List PyData} (hp : (p, ds) ∈ M) {i : Nat} (hi : ρ[i]? = some (some (pinD p))) :
    OkW (but M W p) H ∧ EnvD K (hide (but M W p) H) σ (ρ.set i (some (.list ds))) := by
  have sub : ∀ a, a ∈ but M W p → a ∈ hid M W := fun a ha => (List.mem_filter.mp ha).1
  obtain ⟨xs, h1, h2⟩ := s.own _ hp
  obtain ⟨v, h3, h4⟩ := s.env.2 i _ hi
  rw [h4.pin_iff] at h3
  refine ⟨fun a ha => s.ok a (sub a ha), (s.env.same (hide_sub sub)).put h3 (.lst (xs := xs) ?_ (h2.same (hide_sub sub)))⟩
  rw [hide_out (fun z => by
    have := (List.mem_filter.mp z).2
    exact of_decide_eq_true this rfl)]
  exact h1
/-- what needs no heap -/
def flat : PyData → Bool
  | .none => true
  | .bool _ => true
  | .int _ => true
  | .str _ => true
  | _ => false
theorem Dv.flat {h h' : Hp} {v : V} {d : PyData} (r : Dv K h v d) (f : G6.flat d = true) : Dv K h' v d := by
  cases r with
  | non => exact .non
  | bl b => exact .bl b
  | int i => exact .int i
  | str x => exact .str x
  | lst => cases f
  | tup => cases f
  | dic => cases f
  | pin => cases f
  | sq => cases f
theorem em_open {p : Addr} {ds : List PyData} {i : Nat} (hp : (p, ds) ∈ M) (hi : ρ[i]? = some (some (pinD p))) (h : EV K te (ρ.set i (some (.list ds))) d) (f : flat d = true) : EM K m te ρ M 0 (· = d) := fun W H0 σ H b s Q k => by
  obtain ⟨o, E⟩ := s.open hp hi
  exact h _ σ H o E Q fun v H2 e v2 => k v H2 d rfl (s.same e) (v2.flat f)
/-- a test -/
def TM (K : PySem.W.Frag) (m : Option Mch) (tt : TT) (ρ : Env6) (M : Own) (x : Bool) : Prop := ∀ (W : List Addr) (H0 : Hp) (σ : L2.St) (H : Hp) (b : Nat), StM K m W H0 σ H ρ M b →
  ∀ Q : Bool → Hp → Prop, (∀ H2, StM K m W H0 σ H2 ρ M b → Q x H2) → tt σ H Q
theorem tm_et {tt : TT} {x : Bool} (h : ET K tt ρ x) : TM K m tt ρ M x := fun W H0 σ H b s Q k => h _ σ H s.ok s.env Q fun H2 e => k H2 (s.same e)
theorem tm_open {tt : TT} {x : Bool} {p : Addr} {ds : List PyData} {i : Nat} (hp : (p, ds) ∈ M) (hi : ρ[i]? = some (some (pinD p))) (h : ET K tt (ρ.set i (some (.list ds))) x) : TM K m tt ρ M x := fun W H0 σ H b s Q k => by
  obtain ⟨o, E⟩ := s.open hp hi
  exact h _ σ H o E Q fun H2 e => k H2 (s.same e)
/-- tuple(x) of a list that is being filled -/
theorem em_tupOwn {p : Addr} {ds : List PyData} {i : Nat} (hp : (p, ds) ∈ M) (hi : ρ[i]? = some (some (pinD p))) : EM K m (tCB (rTupK K) (tCons (tVar i) tNil)) ρ M 0 (· = .tuple ds) := fun W H0 σ H b s Q k => by
  obtain ⟨xs, h1, h2⟩ := s.own _ hp
  obtain ⟨v, h3, h4⟩ := s.env.2 i _ hi
  refine ⟨v, h3, p, xs, by rw [h4.pin_iff], .inl ⟨SqL.of h1, fun l hl => ?_⟩⟩
  have e := same_new (o := .tup xs) hl
  exact k _ _ _ rfl (s.same e) (.tup (SqT.of (hide_new s.ok hl)) (h2.same (hide_same e)))
/-- two lists of naturals, one behind the other, where a list that is being filled is read -/
theorem em_catOpen {p : Addr} {ds : List PyData} {i : Nat} {xs ys : List Nat} (hp : (p, ds) ∈ M) (hi : ρ[i]? = some (some (pinD p))) (ha : EV K ta (ρ.set i (some (.list ds))) (lD xs)) (hb : EV K tb (ρ.set i (some (.list ds))) (lD ys)) (hl : xs.length + ys.length ≤ sizeLine) : EM K m (tOp rCat ta tb) ρ M 0 (· = lD (xs ++ ys)) := fun W H0 σ H b s Q k => by
  obtain ⟨o, E⟩ := s.open hp hi
  refine ha _ σ H o E _ fun x H1 e1 x1 => ?_
  have s1 := s.same e1
  obtain ⟨o1, E1⟩ := s1.open hp hi
  refine hb _ σ H1 o1 E1 _ fun y H2 e2 y2 => ?_
  have s2 := s1.same e2
  obtain ⟨a1, vs, rfl, h1, h2⟩ := (x1.same (hide_same e2)).lst_iff
  obtain ⟨a2, ws, rfl, h3, h4⟩ := y2.lst_iff
  have r := h2.append h4
  rw [← List.map_append, ← cI_map] at r
  have er := r.ints
  have l1 := h2.length
  have l2 := h4.length
  rw [List.length_map] at l1 l2
  refine ⟨a1, a2, vs, ws, rfl, rfl, hide_le _ _ h1, hide_le _ _ h3, by omega, fun q hq => ?_⟩
  have e := same_new (o := .lst (vs ++ ws)) hq
  refine k _ _ _ rfl (s2.same e) ?_
  rw [lD_int]
  refine .lst (hide_new s2.ok hq) ?_
  rw [er]
  exact .of_ints _

/-! ### statements -/
def SM (K : PySem.W.Frag) (m : Option Mch) (ts : TS) (ρ : Env6) (M : Own) (c : Nat) (N : Env6 → Own → Prop) (R : PyData → Prop) : Prop := ∀ (W : List Addr) (H0 : Hp) (σ : L2.St) (H : Hp) (b : Nat) (D : Ends), StM K m W H0 σ H ρ M (b + c) →
  (∀ σ' H' ρ' M', N ρ' M' → StM K m W H0 σ' H' ρ' M' b → D.nx σ' H') → (∀ v H' d, R d → StepM m H0 H' → Mach m b H' → Dv K (hide W H') v d → D.rt v H') → ts D σ H
variable {ts tu tz : TS} {N N1 : Env6 → Own → Prop} {tt : TT}
theorem SM.to (h : SM K m ts ρ M c N R) {N' : Env6 → Own → Prop} (q : ∀ r M, N r M → N' r M) : SM K m ts ρ M c N' R := fun W H0 σ H b D s k1 k2 => h W H0 σ H b D s (fun σ' H' r M' n => k1 σ' H' r M' (q r M' n)) k2
theorem SM.more (h : SM K m ts ρ M c N R) (l : c ≤ c1) : SM K m ts ρ M c1 N R := fun W H0 σ H b D s k1 k2 => h W H0 σ H b D (s.less (by omega)) k1 k2
theorem SM.from (h : SM K m ts ρ' M c N R) (l : leE ρ ρ') : SM K m ts ρ M c N R := fun W H0 σ H b D s k1 k2 => h W H0 σ H b D (s.le l) k1 k2
theorem sm_next : SM K m tNext ρ M 0 (fun r N => r = ρ ∧ N = M) R := fun W H0 σ H b D s k1 k2 => k1 σ H ρ M ⟨rfl, rfl⟩ s
theorem sm_seq (h1 : SM K m ts ρ M c1 N1 R) (h2 : ∀ r M', N1 r M' → SM K m tu r M' c2 N R) : SM K m (tSeq ts tu) ρ M (c2 + c1) N R := fun W H0 σ H b D s k1 k2 =>
  h1 W H0 σ H (b + c2) { D with nx := tu D } (by rw [Nat.add_assoc]; exact s) (fun σ' H' r M' n s' => h2 r M' n W H0 σ' H' b D s' k1 k2) fun v H' d r st mc v' => k2 v H' d r st (mc.less (by omega)) v'
theorem sm_sv (h : SV K ts ρ (.nx ρ')) : SM K m ts ρ M 0 (fun r N => r = ρ' ∧ N = M) R := fun W H0 σ H b D s k1 k2 =>
  h _ σ H D s.ok s.env fun σ' H' e E' => k1 σ' H' ρ' M ⟨rfl, rfl⟩ ((s.same e).withEnv E')
theorem sm_svR {d : PyData} (h : SV K ts ρ (.rt d)) (r : R d) : SM K m ts ρ M 0 N R := fun W H0 σ H b D s k1 k2 =>
  h _ σ H D s.ok s.env fun v H' e v' => k2 v H' d r (s.same e).step (s.same e).mach v'.out
theorem sm_ret (h : EM K m te ρ M c R) : SM K m (tRet te) ρ M c N R := fun W H0 σ H b D s k1 k2 =>
  h W H0 σ H b s _ fun v H' d r s' v' => k2 v H' d r s'.step s'.mach v'.out
theorem sm_asg {g : TG} {us : List Nat} {R' : PyData → Prop} (h : EM K m te ρ M c R') (hg : ∀ d, R' d → ∃ ρ', GV K g us d ρ ρ' ∧ N ρ' M) : SM K m (tAsg te g) ρ M c N R := fun W H0 σ H b D s k1 k2 =>
  h W H0 σ H b s _ fun v H' d r s' v' => by
    obtain ⟨ρ', g1, n⟩ := hg d r
    exact g1 _ v σ H' s'.env v' D.nx fun σ' E' _ _ => k1 σ' H' ρ' M n (s'.withEnv E')
theorem sm_set {i : Nat} {R' : PyData → Prop} (h : EM K m te ρ M c R') : SM K m (tAsg te (gName i)) ρ M c (fun r N => ∃ d, R' d ∧ r = ρ.set i (some d) ∧ N = M) R :=
  sm_asg (us := [i]) h fun d r => ⟨_, gv_name (by simp), d, r, rfl, rfl⟩
theorem sm_drop {R' : PyData → Prop} (h : EM K m te ρ M c R') : SM K m (tDrop te) ρ M c (fun r N => r = ρ ∧ N = M) R := fun W H0 σ H b D s k1 k2 =>
  h W H0 σ H b s _ fun v H' d r s' v' => k1 σ H' ρ M ⟨rfl, rfl⟩ s'
theorem sm_if {x : Bool} (h : TM K m tt ρ M x) (h1 : x = true → SM K m ts ρ M c N R) (h2 : x = false → SM K m tu ρ M c N R) : SM K m (tIfS tt ts tu) ρ M c N R := fun W H0 σ H b D s k1 k2 =>
  h W H0 σ H _ s _ fun H' s' => by
    cases x with
    | true => rw [if_pos rfl]; exact h1 rfl W H0 σ H' b D s' k1 k2
    | false => rw [if_neg Bool.false_ne_true]; exact h2 rfl W H0 σ H' b D s' k1 k2
/-- a test that draws -/
theorem sm_ifM {R' : PyData → Prop} (h : EM K m te ρ M c1 R') (hx : ∀ d, R' d → ∃ x, d = .bool x) (h1 : SM K m ts ρ M c N R) (h2 : SM K m tu ρ M c N R) : SM K m (tIfS (tTest te) ts tu) ρ M (c + c1) N R := fun W H0 σ H b D s k1 k2 =>
  h W H0 σ H (b + c) (by rw [Nat.add_assoc]; exact s) _ fun v H' d r s' v' => by
    obtain ⟨x, rfl⟩ := hx d r
    refine ⟨x, v'.bl_iff, ?_⟩
    cases x with
    | true => rw [if_pos rfl]; exact h1 W H0 σ H' b D s' k1 k2
    | false => rw [if_neg Bool.false_ne_true]; exact h2 W H0 σ H' b D s' k1 k2
/-- a list is made, to be filled -/
theorem StM.made {W : List Addr} {H0 H : Hp} {σ : L2.St} {b : Nat} (s : StM K m W H0 σ H ρ M b) {p : Addr} {vs : List V} {ds : List PyData} (hp : H p = none) (r : DvAll K (hide (hid M W) H) vs ds) : StM K m W H0 σ (upd H p (.lst vs)) ρ ((p, ds) :: M) b := by
  have e := same_new (o := .lst vs) hp
  have s1 := s.same e
  have nin : p ∉ hid M W := s.ok.notin hp
  have vis : Same (hide (hid M W) H) (hide (hid ((p, ds) :: M) W) (upd H p (.lst vs))) := fun a o q => by
    by_cases z : a ∈ hid M W
    · rw [hide_in z] at q; cases q
    · rw [hide_out z] at q
      have hne : a ≠ p := ne_of_none q hp
      have hh : hid ((p, ds) :: M) W = p :: hid M W := rfl
      rw [hh, hide_out (fun y => (List.mem_cons.mp y).elim hne z)]
      exact e a o q
  refine ⟨s1.step, s1.mach, s.min, fun a ha => ?_, List.nodup_cons.mpr ⟨fun z => nin (List.mem_append_left _ z), s.nd⟩, fun q hq => ?_, s.env.same vis, fun q hq => ?_⟩
  · rcases List.mem_cons.mp ha with z | z
    · rw [z, upd_same]; exact fun y => nomatch y
    · exact s1.ok a z
  · rcases List.mem_cons.mp hq with z | z
    · rw [z]
      refine ⟨?_, fun y => nin (List.mem_append_right _ y)⟩
      cases e0 : H0 p with
      | none => rfl
      | some o =>
        rw [s.step p o (fun y => nin (List.mem_append_right _ (s.min p y))) e0] at hp
        cases hp
    · exact s.new q z
  · rcases List.mem_cons.mp hq with z | z
    · rw [z]
      exact ⟨vs, upd_same, r.same vis⟩
    · obtain ⟨xs, h1, h2⟩ := s.own q z
      exact ⟨xs, e _ _ h1, h2.same vis⟩
theorem sm_new {i : Nat} (q : ∀ p, N (ρ.set i (some (pinD p))) ((p, []) :: M)) : SM K m (tAsg (tLst tNil) (gName i)) ρ M 0 N R := fun W H0 σ H b D s k1 k2 =>
  ⟨Nat.zero_le _, fun p hp => by
    have s1 := s.made hp (vs := []) (ds := []) .nil
    exact k1 _ _ _ _ (q p) (s1.withEnv (s1.env.set (.pin p) i))⟩
/-- a, b = e, [] -/
theorem sm_parNew {i j : Nat} {R' : PyData → Prop} (h : EM K m ta ρ M c R') (q : ∀ d p, R' d → N ((ρ.set i (some d)).set j (some (pinD p))) ((p, []) :: M)) : SM K m (tPar i j (tCons ta (tCons (tLst tNil) tNil))) ρ M c N R := fun W H0 σ H b D s k1 k2 =>
  h W H0 σ H b s _ fun v H' d r s' v' => ⟨Nat.zero_le _, fun p hp => by
    have s1 := s'.made hp (vs := []) (ds := []) .nil
    refine ⟨_, _, rfl, k1 _ _ _ _ (q d p r) (s1.withEnv ((s1.env.set (v := v) (d := d) ?_ i).set (.pin p) j))⟩
    refine v'.same fun a o e => ?_
    by_cases z : a ∈ hid M W
    · rw [hide_in z] at e; cases e
    · rw [hide_out z] at e
      have hne : a ≠ p := ne_of_none e hp
      have hh : hid ((p, []) :: M) W = p :: hid M W := rfl
      rw [hh, hide_out (fun y => (List.mem_cons.mp y).elim hne z)]
      exact same_new hp a o e⟩
/-- the list at p is written anew -/
theorem StM.wrote {W : List Addr} {H0 H : Hp} {σ : L2.St} {b : Nat} {M1 M2 : Own} {p : Addr} {ds es : List PyData} (s : StM K m W H0 σ H ρ (M1 ++ (p, ds) :: M2) b) {ys : List V} (r : DvAll K (hide (hid (M1 ++ (p, ds) :: M2) W) H) ys es) :
    StM K m W H0 σ (upd H p (.lst ys)) ρ (M1 ++ (p, es) :: M2) b := by
  have fst : (M1 ++ (p, es) :: M2).map (·.1) = (M1 ++ (p, ds) :: M2).map (·.1) := by simp
  have eh : hid (M1 ++ (p, es) :: M2) W = hid (M1 ++ (p, ds) :: M2) W := by unfold hid; rw [fst]
  have pin : p ∈ (M1 ++ (p, ds) :: M2).map (·.1) := by simp
  have pin2 : p ∈ hid (M1 ++ (p, ds) :: M2) W := List.mem_append_left _ pin
  have hm : hide (hid (M1 ++ (p, es) :: M2) W) (upd H p (.lst ys)) = hide (hid (M1 ++ (p, ds) :: M2) W) H := by rw [eh]; exact hide_mut pin2
  have pw : p ∉ W := (s.new p pin).2
  have uniq : ∀ q, q ∈ M1 ∨ q ∈ M2 → q.1 ≠ p := fun q hq e => by
    have nd := s.nd
    rw [List.map_append, List.map_cons] at nd
    obtain ⟨n1, n2, n3⟩ := List.nodup_append.mp nd
    rcases hq with h | h
    · exact n3 q.1 (List.mem_map.mpr ⟨q, h, rfl⟩) p List.mem_cons_self e
    · exact (List.nodup_cons.mp n2).1 (e ▸ List.mem_map.mpr ⟨q, h, rfl⟩)
  refine ⟨fun a o ha e => ?_, s.mach.keep fun a ha o e => ?_, s.min, fun a ha => ?_, by rw [fst]; exact s.nd, fun q hq => s.new q (fst ▸ hq), by rw [hm]; exact s.env, fun q hq => ?_⟩
  · have hne : a ≠ p := fun z => by rw [z, (s.new p pin).1] at e; cases e
    rw [upd_ne hne]
    exact s.step a o ha e
  · have hne : a ≠ p := fun z => pw (z ▸ s.min a ha)
    rw [upd_ne hne]
    exact e
  · by_cases z : a = p
    · rw [z, upd_same]; exact fun y => nomatch y
    · rw [upd_ne z]
      exact s.ok a (eh ▸ ha)
  · rw [hm]
    rcases List.mem_append.mp hq with h | h
    · obtain ⟨xs, h1, h2⟩ := s.own q (List.mem_append_left _ h)
      exact ⟨xs, by rw [upd_ne (uniq q (.inl h))]; exact h1, h2⟩
    · rcases List.mem_cons.mp h with h | h
      · rw [h]
        exact ⟨ys, upd_same, r⟩
      · obtain ⟨xs, h1, h2⟩ := s.own q (List.mem_append_right _ (List.mem_cons_of_mem _ h))
        exact ⟨xs, by rw [upd_ne (uniq q (.inr h))]; exact h1, h2⟩
theorem sm_append {i : Nat} {R' : PyData → Prop} {M1 M2 : Own} {p : Addr} {ds : List PyData} (hM : M = M1 ++ (p, ds) :: M2) (hi : ρ[i]? = some (some (pinD p))) (h : EM K m te ρ M c R') (hl : ds.length < 1000000) (q : ∀ d, R' d → N ρ (M1 ++ (p, ds ++ [d]) :: M2)) :
    SM K m (tDrop (tBM K "list" rAppend (tVar i) (tCons te tNil))) ρ M c N R := fun W H0 σ H b D s k1 k2 => by
  obtain ⟨v, h3, h4⟩ := s.env.2 i _ hi
  rw [h4.pin_iff] at h3
  have hmem : (p, ds) ∈ M := by rw [hM]; simp
  obtain ⟨xs0, h01, _⟩ := s.own _ hmem
  refine ⟨_, h3, (show tyV K "list" (.ref p) H from .inl ⟨rfl, xs0, SqL.of h01⟩), h W H0 σ H b s _ fun v' H' d r s' dv => ?_⟩
  obtain ⟨xs, h1, h2⟩ := s'.own _ hmem
  refine ⟨p, xs, v', rfl, rfl, h1, ?_, ?_⟩
  · rw [h2.length]
    exact Nat.lt_of_lt_of_le hl (by decide)
  · subst hM
    exact k1 _ _ _ _ (q d r) (s'.wrote (h2.append (.one dv)))
/-- a ghost step: only what is said of it changes -/
theorem sm_ghost {M' : Own} (g : ∀ W H0 σ H b, StM K m W H0 σ H ρ M b → StM K m W H0 σ H ρ' M' b) (h : SM K m ts ρ' M' c N R) : SM K m ts ρ M c N R := fun W H0 σ H b D s k1 k2 => h W H0 σ H b D (g _ _ _ _ _ s) k1 k2
/-- no more is said of the list -/
theorem StM.loose {W : List Addr} {H0 H : Hp} {σ : L2.St} {b : Nat} {p : Addr} {ds : List PyData} (s : StM K m W H0 σ H ρ ((p, ds) :: M) b) : StM K m W H0 σ H ρ M b := by
  have sub : ∀ a, a ∈ hid M W → a ∈ hid ((p, ds) :: M) W := fun a ha => List.mem_cons_of_mem _ ha
  refine ⟨s.step, s.mach, s.min, fun a ha => s.ok a (sub a ha), (List.nodup_cons.mp s.nd).2, fun q hq => s.new q (List.mem_cons_of_mem _ hq), s.env.same (hide_sub sub), fun q hq => ?_⟩
  obtain ⟨ys, e1, e2⟩ := s.own q (List.mem_cons_of_mem _ hq)
  exact ⟨ys, e1, e2.same (hide_sub sub)⟩
/-- the list is full: from now on it is data -/
theorem StM.full {W : List Addr} {H0 H : Hp} {σ : L2.St} {b : Nat} {p : Addr} {ds : List PyData} (s : StM K m W H0 σ H ρ ((p, ds) :: M) b) {i : Nat} (hi : ρ[i]? = some (some (pinD p))) : StM K m W H0 σ H (ρ.set i (some (.list ds))) M b := by
  have sub : ∀ a, a ∈ hid M W → a ∈ hid ((p, ds) :: M) W := fun a ha => List.mem_cons_of_mem _ ha
  obtain ⟨xs, h1, h2⟩ := s.own _ List.mem_cons_self
  obtain ⟨v, h3, h4⟩ := s.env.2 i _ hi
  rw [h4.pin_iff] at h3
  have np : p ∉ hid M W := fun z => (List.mem_append.mp z).elim (List.nodup_cons.mp s.nd).1 (s.new p List.mem_cons_self).2
  refine ⟨s.step, s.mach, s.min, fun a ha => s.ok a (sub a ha), (List.nodup_cons.mp s.nd).2, fun q hq => s.new q (List.mem_cons_of_mem _ hq), (s.env.same (hide_sub sub)).put h3 (.lst (xs := xs) (by rw [hide_out np]; exact h1) (h2.same (hide_sub sub))), fun q hq => ?_⟩
  obtain ⟨ys, e1, e2⟩ := s.own q (List.mem_cons_of_mem _ hq)
  exact ⟨ys, e1, e2.same (hide_sub sub)⟩
/-- return of the list itself -/
theorem sm_retOwn {i : Nat} {p : Addr} {ds : List PyData} (hi : ρ[i]? = some (some (pinD p))) (r : R (.list ds)) : SM K m (tRet (tVar i)) ρ [(p, ds)] 0 N R :=
  sm_ghost (M' := []) (ρ' := ρ.set i (some (.list ds))) (fun _ _ _ _ _ s => s.full hi) (sm_ret (em_evR (ev_var (by
    have hl : i < ρ.length := (List.getElem?_eq_some_iff.mp hi).1
    exact List.getElem?_set_self hl)) r))

/-! ### loops -/
def IM (K : PySem.W.Frag) (m : Option Mch) (wi : TI) (ρ : Env6) (M : Own) (c : Nat) (Rd : List PyData → Prop) : Prop := ∀ (W : List Addr) (H0 : Hp) (σ : L2.St) (H : Hp) (b : Nat), StM K m W H0 σ H ρ M (b + c) →
  ∀ R : It → Hp → Prop, (∀ J H2 ds, Rd ds → StM K m W H0 σ H2 ρ M b → SeqIt K (hide (hid M W) H2) J ds → R J H2) → wi σ H R
variable {wi : TI} {Rd : List PyData → Prop}
theorem im_iv {ds : List PyData} (h : IV K wi ρ ds) : IM K m wi ρ M 0 (· = ds) := fun W H0 σ H b s R k => h _ σ H s.ok s.env R fun J H2 e S => k J H2 ds rfl (s.same e) S
theorem im_rng {L : Nat} (h : EM K m te ρ M c (fun d => ∃ n, n ≤ L ∧ d = nD n)) (hL : L ≤ 1000000) : IM K m (iRng1 (tCons te tNil)) ρ M c (fun ds => ∃ n, n ≤ L ∧ ds = (List.range n).map nD) := fun W H0 σ H b s R k =>
  h W H0 σ H b s _ fun v H2 d r s2 v2 => by
    obtain ⟨n, hn, rfl⟩ := r
    refine ⟨(n : Int), by rw [v2.int_iff], by omega, by omega, ?_⟩
    rw [Int.toNat_natCast]
    have e : (List.range n).map nD = ((List.range n).map fun (i : Nat) => PyData.int (0 + (i : Int))) := List.map_congr_left fun i _ => by rw [Int.zero_add]; rfl
    refine k _ H2 _ ⟨n, hn, rfl⟩ s2 ?_
    rw [e]
    exact seqIt_range
theorem sm_for {g : TG} {us : List Nat} (Inv : List PyData → Nat → Env6 → Own → Prop) (L : Nat) (hi : IM K m wi ρ M c1 Rd) (hL : ∀ ds, Rd ds → ds.length ≤ L) (h0 : ∀ ds, Rd ds → ∃ ρ0, leE ρ ρ0 ∧ Inv ds 0 ρ0 M)
    (hs : ∀ ds, Rd ds → ∀ (i : Nat) (d : PyData) (r : Env6) (M1 : Own), ds[i]? = some d → Inv ds i r M1 → ∃ r1, GV K g us d r r1 ∧ SM K m tu r1 M1 c (fun r' M' => ∃ r2, leE r' r2 ∧ Inv ds (i + 1) r2 M') R) :
    SM K m (tFor wi g tu) ρ M (c * L + c1) (fun r M' => ∃ ds, Rd ds ∧ Inv ds ds.length r M') R := fun W H0 σ H b D s k1 k2 =>
  hi W H0 σ H (b + c * L) (by rw [Nat.add_assoc]; exact s) _ fun J H1 ds rd s1 S => by
    have hl := hL ds rd
    obtain ⟨ρ0, l0, i0⟩ := h0 ds rd
    refine ⟨fun i n σ' H' => i ≤ ds.length ∧ n = ds.length - i ∧ ∃ r M1, Inv ds i r M1 ∧ StM K m W (hide (M.map (·.1)) H1) σ' H' r M1 (b + c * (L - i)), ⟨ds.length, Nat.zero_le _, rfl, ρ0, M, i0, s1.base.le l0⟩, ?_⟩
    rintro i n σ' H' ⟨hi, rfl, r, M1, inv, s'⟩
    have vis := s1.vis s'
    by_cases hl' : i < ds.length
    · refine .inr ⟨S.go i H' (vis.trans hide_le) hl', fun σ'' H'' => ∃ r M1, Inv ds (i + 1) r M1 ∧ StM K m W (hide (M.map (·.1)) H1) σ'' H'' r M1 (b + c * (L - (i + 1))), fun σ'' H'' z => ⟨ds.length - (i + 1), by omega, hl', rfl, z⟩, fun x H2 y => ?_⟩
      obtain ⟨e2, hx⟩ := S.yld i (hid M1 W) H' x H2 s'.ok vis y
      have hd : ds[i]? = some ds[i] := List.getElem?_eq_getElem hl'
      obtain ⟨r1, hg, hb⟩ := hs ds rd i ds[i] r M1 hd inv
      have s2 := s'.same e2
      refine hg _ x σ' H2 s2.env (hx _ hd) _ fun σ3 E3 _ _ => ?_
      have eb : b + c * (L - i) = (b + c * (L - (i + 1))) + c := by
        have e : L - i = (L - (i + 1)) + 1 := by omega
        rw [e, Nat.mul_add, Nat.mul_one, Nat.add_assoc]
      rw [eb] at s2
      refine hb W _ σ3 H2 _ _ (s2.withEnv E3) (fun σ4 H4 r4 M4 n4 s4 => ?_) fun v H4 d4 r4 st4 mc4 v4 => k2 v H4 d4 r4 (s1.step_back st4) (mc4.less (by omega)) v4
      obtain ⟨r5, l5, inv5⟩ := n4
      exact ⟨r5, M4, inv5, s4.le l5⟩
    · have e : i = ds.length := by omega
      subst e
      exact .inl ⟨S.stop _ H' (vis.trans hide_le) (Nat.le_refl _), k1 σ' H' r M1 ⟨ds, rd, inv⟩ ((s1.back s').less (by omega))⟩
theorem sm_while (Inv : Env6 → Own → Nat → Prop) {n0 : Nat} (h0 : ∃ ρ0, leE ρ ρ0 ∧ Inv ρ0 M n0)
    (hs : ∀ (r : Env6) (M1 : Own) (n : Nat), Inv r M1 n → ∃ x, TM K m tt r M1 x ∧ (x = true → SM K m tu r M1 0 (fun r' M' => ∃ r2 n', leE r' r2 ∧ n' < n ∧ Inv r2 M' n') R) ∧ (x = false → N r M1)) : SM K m (tWhile tt tu) ρ M 0 N R := fun W H0 σ H b D s k1 k2 => by
  obtain ⟨ρ0, l0, i0⟩ := h0
  refine ⟨fun n σ' H' => ∃ r M1, Inv r M1 n ∧ StM K m W H0 σ' H' r M1 b, ⟨n0, ρ0, M, i0, s.le l0⟩, ?_⟩
  rintro n σ' H' ⟨r, M1, inv, s'⟩
  obtain ⟨x, ht, h1, h2⟩ := hs r M1 n inv
  refine ht W H0 σ' H' b s' _ fun H2 s2 => ?_
  cases x with
  | true =>
    rw [if_pos rfl]
    refine ⟨fun σ'' H'' => ∃ r M1 n', n' < n ∧ Inv r M1 n' ∧ StM K m W H0 σ'' H'' r M1 b, ?_, h1 rfl W H0 σ' H2 b _ s2 (fun σ4 H4 r4 M4 n4 s4 => ?_) k2⟩
    · rintro σ'' H'' ⟨r5, M5, n5, l5, i5, s5⟩
      exact ⟨n5, l5, r5, M5, i5, s5⟩
    · obtain ⟨r5, n5, l5, l6, inv5⟩ := n4
      exact ⟨r5, M4, n5, l6, inv5, s4.le l5⟩
  | false =>
    rw [if_neg Bool.false_ne_true]
    exact k1 σ' H2 r M1 (h2 rfl) s2
/-- [e for x in it], where e draws -/
theorem em_lc {g : TG} {vs : List Nat} {Re : List PyData → Nat → PyData → Prop} (L : Nat) (hLL : L ≤ 1000000) (hi : IM K m wi ρ M c1 Rd) (hL : ∀ ds, Rd ds → ds.length ≤ L)
    (hs : ∀ ds, Rd ds → ∀ (i : Nat) (d : PyData), ds[i]? = some d → ∃ r1, GV K g vs d (wipeE ρ vs) r1 ∧ ∀ M1, EM K m te r1 M1 c (Re ds i)) :
    EM K m (tLc wi g tYes te vs) ρ M (c * L + c1) (fun d => ∃ ds es, Rd ds ∧ es.length = ds.length ∧ (∀ (i : Nat) (e : PyData), es[i]? = some e → Re ds i e) ∧ d = .list es) := fun W H0 σ H b s Q k =>
  hi W H0 σ H (b + c * L) (by rw [Nat.add_assoc]; exact s) _ fun J H1 ds rd s1 S => by
    have hl := hL ds rd
    intro D hD
    refine ⟨fun i n H' => i ≤ ds.length ∧ n = ds.length - i ∧ ∃ es, es.length = i ∧ (∀ (j : Nat) (e : PyData), es[j]? = some e → Re ds j e) ∧ StM K m W (hide (M.map (·.1)) H1) σ H' ρ ((D, es) :: M) (b + c * (L - i)), ⟨ds.length, Nat.zero_le _, rfl, [], rfl, fun j e h => (nomatch h), s1.base.made hD .nil⟩, ?_⟩
    rintro i n H' ⟨hi, rfl, es, le, re, s'⟩
    have vis := s1.vis s'
    by_cases hl' : i < ds.length
    · refine .inr ⟨S.go i H' (vis.trans hide_le) hl', fun H'' => ∃ es, es.length = i + 1 ∧ (∀ (j : Nat) (e : PyData), es[j]? = some e → Re ds j e) ∧ StM K m W (hide (M.map (·.1)) H1) σ H'' ρ ((D, es) :: M) (b + c * (L - (i + 1))), fun H'' z => ⟨ds.length - (i + 1), by omega, hl', rfl, z⟩, fun x H2 y => ?_⟩
      obtain ⟨e2, hx⟩ := S.yld i (hid ((D, es) :: M) W) H' x H2 s'.ok vis y
      have hd : ds[i]? = some ds[i] := List.getElem?_eq_getElem hl'
      obtain ⟨r1, hg, hb⟩ := hs ds rd i ds[i] hd
      have s2 := s'.same e2
      refine hg _ x _ H2 (s2.env.wipe vs) (hx _ hd) _ fun σ3 E3 k3 l3 => ?_
      refine ⟨?_, ?_⟩
      · rw [← wipe_ext l3 fun i hi => k3 i hi]
        exact wipe_wipe
      dsimp only [tYes]
      rw [if_pos rfl]
      have eb : b + c * (L - i) = (b + c * (L - (i + 1))) + c := by
        have e : L - i = (L - (i + 1)) + 1 := by omega
        rw [e, Nat.mul_add, Nat.mul_one, Nat.add_assoc]
      rw [eb] at s2
      refine hb ((D, es) :: M) W _ σ3 H2 _ (s2.base.withEnv E3) _ fun v H4 d4 r4 s4 v4 => ?_
      have s5 := (s2.back s4).withEnv (s2.env.same (s2.vis s4))
      obtain ⟨xs, h1, h2⟩ := s4.own _ List.mem_cons_self
      refine ⟨xs, h1, by rw [h2.length]; exact Nat.lt_of_lt_of_le (m := 1000001) (by show es.length < 1000001; omega) (by decide), es ++ [d4], by rw [List.length_append, le]; rfl, fun j e hj => ?_, ?_⟩
      · by_cases hj2 : j < es.length
        · rw [List.getElem?_append_left hj2] at hj
          exact re j e hj
        · rw [List.getElem?_append_right (by omega)] at hj
          have hj3 : j = es.length := by
            have := (List.getElem?_eq_some_iff.mp hj).1
            have l1 : [d4].length = 1 := rfl
            omega
          rw [hj3, Nat.sub_self] at hj
          have e4 : d4 = e := Option.some.inj hj
          rw [hj3, le, ← e4]
          exact r4
      · exact s5.wrote (M1 := []) (h2.append (.one v4))
    · have e : i = ds.length := by omega
      subst e
      obtain ⟨xs, h1, h2⟩ := s'.own _ List.mem_cons_self
      have s6 := s'.loose
      refine .inl ⟨S.stop _ H' (vis.trans hide_le) (Nat.le_refl _), k _ H' _ ⟨ds, es, rd, le, re, rfl⟩ ((s1.back s6).less (by omega)) ?_⟩
      have np : D ∉ hid M W := fun z => (List.mem_append.mp z).elim (List.nodup_cons.mp s'.nd).1 (s'.new D List.mem_cons_self).2
      exact .lst (by rw [hide_out np]; exact h1) (h2.same (hide_sub fun a ha => List.mem_cons_of_mem _ ha))
end
end G6
/-! Part A11: defs whose bodies fill lists or draw; what the law's defs that draw give. -/
namespace G6
open PySem PySem.Spec PyProof.Rows L2
section
variable {P : Program} {w : World} {K : PySem.W.Frag} {mg : Str → Option Value} {base : Heap}
theorem SM.sv {t : TS} {ρ : Env6} {d : PyData} (h : SM K none t ρ [] 0 (fun _ _ => False) (· = d)) : SV K t ρ (.rt d) := fun W σ H D ok E q =>
  h W H σ H 0 D ⟨StepM.refl _, trivial, fun _ z => (nomatch z), ok, List.nodup_nil, fun _ z => (nomatch z), E, fun _ z => (nomatch z)⟩ (fun _ _ _ _ z => z.elim) fun v H' d' e st _ v' => q v H' (fun a o z => st a o (fun y => nomatch y) z) (e ▸ v')
theorem run_SpM {m : Mch} {t : TS} {N : List Str} {ws : List V} {ds : List PyData} {R : PyData → Prop} {b c : Nat} {W : List Addr} {H : Hp} {Q : VK}
    (h : SM K (some m) t ((pinD m.pm :: ds).map some ++ List.replicate (N.length - (pinD m.pm :: ds).length) none) [] c (fun _ _ => False) R)
    (ok : OkW W H) (min : ∀ a, a ∈ adr (some m) → a ∈ W) (mc : Mach (some m) (b + c) H) (r : DvAll K (hide W H) ws ds) (q : ∀ v H2 d, R d → StepM (some m) H H2 → Mach (some m) b H2 → Dv K (hide W H2) v d → Q v H2) :
    t { nx := fun _ H' => Q .non H', rt := Q } (start N (.ref m.pm :: ws)) H :=
  h W H _ H b _ ⟨StepM.refl _, mc, min, ok, List.nodup_nil, fun _ z => (nomatch z), EnvD.start N (.cons (.pin _) r), fun _ z => (nomatch z)⟩ (fun _ _ _ _ z => z.elim) fun v H' d e st mc' v' => q v H' d e st mc' v'
/-- a def that draws -/
theorem good_ofS {x : Str} {st : Stmt} {N ps : List Str} {k c : Nat} {Ra : List PyData → (PyData → Prop) → Prop} (hF : ∃ fd, mg x = some (.ref (He.ga K x)) ∧ FunD K x x (defArgs st) (defBody st) (defScope st) [] [] (He.ga K x) fd) (S : FnScope N ps (defScope st)) (hl : ∀ ds R, Ra ds R → ds.length + 1 = ps.length)
    (hb : ∀ (kV doc pm : Value) (an : Option Addr) (cdv ct : Value) (us : List Value), us.length = ps.length → bindArgs (PySem.W.fnOf x x (defArgs st) (defBody st) (defScope st) .none kV doc pm an cdv ct) ⟨us, []⟩ = pure (ps.zip us))
    (hbody : ∀ (cdv : Value) (A : Around) (outer : List Env) (s : Shared) (H : Hp) (E : XK), Room k (A.deeper (envOfC x (defScope st) s.heap.objs.size (He.ga K x) cdv)) →
      ∃ t, PSs (cxOf CX0 P w K mg base N x (defScope st) (He.ga K x) cdv A outer s H E).nox (defBody st) t ∧ ∀ (m : Mch) ds R, Ra ds R → SM K (some m) t ((pinD m.pm :: ds).map some ++ List.replicate (N.length - (pinD m.pm :: ds).length) none) [] c (fun _ _ => False) R) :
    Good P w K mg base (k + 1) x ps (SpM K c Ra) := by
  obtain ⟨fd, hm, F⟩ := hF
  refine ⟨_, fd, hm, F.kp, F.bindsN hb, F.ok S (fun vs H Q E h => ?_) fun cdv A outer s H vs Q E hr h => ?_⟩
  · obtain ⟨m, W, ws, ds, R, b, rfl, _, _, _, r, hR, _⟩ := h
    rw [List.length_cons, r.length]
    exact hl ds R hR
  · obtain ⟨m, W, ws, ds, R, b, rfl, ok, min, mc, r, hR, q⟩ := h
    obtain ⟨t, ht, hv⟩ := hbody cdv A outer s H E hr
    exact ⟨t, ht.nox, run_SpM (hv m ds R hR) ok min mc r q⟩
theorem goodG_ofS {x : Str} {st : Stmt} {N ps : List Str} {k c : Nat} {Ra : List PyData → (PyData → Prop) → Prop} (hF : ∃ fd, mg x = some (.ref (He.ga K x)) ∧ FunD K x x (defArgs st) (defBody st) (defScope st) [] [] (He.ga K x) fd) (S : FnScope N ps (defScope st)) (hl : ∀ ds R, Ra ds R → ds.length + 1 = ps.length)
    (hb : ∀ (kV doc pm : Value) (an : Option Addr) (cdv ct : Value) (us : List Value), us.length = ps.length → bindArgs (PySem.W.fnOf x x (defArgs st) (defBody st) (defScope st) .none kV doc pm an cdv ct) ⟨us, []⟩ = pure (ps.zip us))
    (hbody : ∀ (cdv : Value) (A : Around) (outer : List Env) (s : Shared) (H : Hp), A.guards = some [] → Room k (A.deeper (envOfC x (defScope st) s.heap.objs.size (He.ga K x) cdv)) →
      ∃ t, PSs (cxOf CX0 P w K mg base N x (defScope st) (He.ga K x) cdv A outer s H E0) (defBody st) t ∧ ∀ (m : Mch) ds R, Ra ds R → SM K (some m) t ((pinD m.pm :: ds).map some ++ List.replicate (N.length - (pinD m.pm :: ds).length) none) [] c (fun _ _ => False) R) :
    GoodG P w K mg base (k + 1) x ps (SpM K c Ra) := by
  obtain ⟨fd, hm, F⟩ := hF
  refine ⟨_, fd, hm, F.kp, F.bindsN hb, fnG_of F S (fun vs H Q E h => ?_) fun cdv A outer s H vs Q gd hr h => ?_⟩
  · obtain ⟨m, W, ws, ds, R, b, rfl, _, _, _, r, hR, _⟩ := h
    rw [List.length_cons, r.length]
    exact hl ds R hR
  · obtain ⟨m, W, ws, ds, R, b, rfl, ok, min, mc, r, hR, q⟩ := h
    obtain ⟨t, ht, hv⟩ := hbody cdv A outer s H gd hr
    exact ⟨t, ht, run_SpM (hv m ds R hR) ok min mc r q⟩
end
def Ra__law_draw (ds : List PyData) (R : PyData → Prop) : Prop := ∃ l : Nat, 1 ≤ l ∧ l ≤ 1000 ∧ ds = [nD l] ∧ R = fun d => ∃ j, j < l ∧ d = nD j
def Ra__law_of (ds : List PyData) (R : PyData → Prop) : Prop := ∃ xs : List Nat, xs ≠ [] ∧ xs.length ≤ 1000 ∧ ds = [lD xs] ∧ R = fun d => ∃ x, x ∈ xs ∧ d = nD x
def Ra__law_order (ds : List PyData) (R : PyData → Prop) : Prop := ∃ n : Nat, n ≤ 8 ∧ ds = [nD n] ∧ R = fun d => ∃ ys, ys.Perm (List.range n) ∧ d = lD ys
def isK (d : PyData) : Prop := ∃ k, Lat k ∧ d = kD k
def Ra__law_lots_kind (ds : List PyData) (R : PyData → Prop) : Prop := ∃ n : Nat, 1 ≤ n ∧ n ≤ 3 ∧ ds = [nD n] ∧ R = isK
def Ra__law_row_kind (ds : List PyData) (R : PyData → Prop) : Prop := ∃ n : Nat, 2 ≤ n ∧ n ≤ 6 ∧ ds = [nD n] ∧ R = isK
def Ra__law_wide_kind (ds : List PyData) (R : PyData → Prop) : Prop := ∃ n : Nat, 1 ≤ n ∧ n ≤ 5 ∧ ds = [nD n] ∧ R = isK
def Ra__law_joining (ds : List PyData) (R : PyData → Prop) : Prop := ds = [] ∧ R = isK
def Ra__law_right (ds : List PyData) (R : PyData → Prop) : Prop := ∃ k, Lat k ∧ ds = [kD k] ∧ R = (· = .bool true)
end G6
/-! Part A12: comprehensions whose list is filled on; stores; a list that is given from outside. -/
namespace G6
open PySem PySem.Spec PyProof.Rows L2
section
variable {K : PySem.W.Frag} {m : Option Mch} {ρ ρ' : Env6} {M : Own} {c c1 c2 : Nat} {ta tb te : TE} {R R1 R2' : PyData → Prop} {d : PyData} {ts tu tz : TS} {N N1 : Env6 → Own → Prop} {tt : TT} {wi : TI} {Rd : List PyData → Prop}
/-- [e for x in it], where e draws: the list itself -/
theorem lcM_core {g : TG} {vs : List Nat} {Re : List PyData → Nat → PyData → Prop} (L : Nat) (hLL : L ≤ 1000000) (hi : IM K m wi ρ M c1 Rd) (hL : ∀ ds, Rd ds → ds.length ≤ L)
    (hs : ∀ ds, Rd ds → ∀ (i : Nat) (d : PyData), ds[i]? = some d → ∃ r1, GV K g vs d (wipeE ρ vs) r1 ∧ ∀ M1, EM K m te r1 M1 c (Re ds i))
    (W : List Addr) (H0 : Hp) (σ : L2.St) (H : Hp) (b : Nat) (s : StM K m W H0 σ H ρ M (b + (c * L + c1))) (Q : VK) (k : ∀ D H2 ds es, Rd ds → es.length = ds.length → (∀ (i : Nat) (e : PyData), es[i]? = some e → Re ds i e) → StM K m W H0 σ H2 ρ ((D, es) :: M) b → Q (.ref D) H2) : tLc wi g tYes te vs σ H Q :=
  hi W H0 σ H (b + c * L) (by rw [Nat.add_assoc]; exact s) _ fun J H1 ds rd s1 S => by
    have hl := hL ds rd
    intro D hD
    refine ⟨fun i n H' => i ≤ ds.length ∧ n = ds.length - i ∧ ∃ es, es.length = i ∧ (∀ (j : Nat) (e : PyData), es[j]? = some e → Re ds j e) ∧ StM K m W (hide (M.map (·.1)) H1) σ H' ρ ((D, es) :: M) (b + c * (L - i)), ⟨ds.length, Nat.zero_le _, rfl, [], rfl, fun j e h => (nomatch h), s1.base.made hD .nil⟩, ?_⟩
    rintro i n H' ⟨hi, rfl, es, le, re, s'⟩
    have vis := s1.vis s'
    by_cases hl' : i < ds.length
    · refine .inr ⟨S.go i H' (vis.trans hide_le) hl', fun H'' => ∃ es, es.length = i + 1 ∧ (∀ (j : Nat) (e : PyData), es[j]? = some e → Re ds j e) ∧ StM K m W (hide (M.map (·.1)) H1) σ H'' ρ ((D, es) :: M) (b + c * (L - (i + 1))), fun H'' z => ⟨ds.length - (i + 1), by omega, hl', rfl, z⟩, fun x H2 y => ?_⟩
      obtain ⟨e2, hx⟩ := S.yld i (hid ((D, es) :: M) W) H' x H2 s'.ok vis y
      have hd : ds[i]? = some ds[i] := List.getElem?_eq_getElem hl'
      obtain ⟨r1, hg, hb⟩ := hs ds rd i ds[i] hd
      have s2 := s'.same e2
      refine hg _ x _ H2 (s2.env.wipe vs) (hx _ hd) _ fun σ3 E3 k3 l3 => ?_
      refine ⟨?_, ?_⟩
      · rw [← wipe_ext l3 fun i hi => k3 i hi]
        exact wipe_wipe
      dsimp only [tYes]
      rw [if_pos rfl]
      have eb : b + c * (L - i) = (b + c * (L - (i + 1))) + c := by
        have e : L - i = (L - (i + 1)) + 1 := by omega
        rw [e, Nat.mul_add, Nat.mul_one, Nat.add_assoc]
      rw [eb] at s2
      refine hb ((D, es) :: M) W _ σ3 H2 _ (s2.base.withEnv E3) _ fun v H4 d4 r4 s4 v4 => ?_
      have s5 := (s2.back s4).withEnv (s2.env.same (s2.vis s4))
      obtain ⟨xs, h1, h2⟩ := s4.own _ List.mem_cons_self
      refine ⟨xs, h1, by rw [h2.length]; exact Nat.lt_of_lt_of_le (m := 1000001) (by show es.length < 1000001; omega) (by decide), es ++ [d4], by rw [List.length_append, le]; rfl, fun j e hj => ?_, ?_⟩
      · by_cases hj2 : j < es.length
        · rw [List.getElem?_append_left hj2] at hj
          exact re j e hj
        · rw [List.getElem?_append_right (by omega)] at hj
          have hj3 : j = es.length := by
            have := (List.getElem?_eq_some_iff.mp hj).1
            have l1 : [d4].length = 1 := rfl
            omega
          rw [hj3, Nat.sub_self] at hj
          have e4 : d4 = e := Option.some.inj hj
          rw [hj3, le, ← e4]
          exact r4
      · exact s5.wrote (M1 := []) (h2.append (.one v4))
    · have e : i = ds.length := by omega
      subst e
      exact .inl ⟨S.stop _ H' (vis.trans hide_le) (Nat.le_refl _), k D H' ds es rd le re ((s1.back s').less (by omega))⟩

theorem sm_setLc {g : TG} {vs : List Nat} {i : Nat} {Re : List PyData → Nat → PyData → Prop} (L : Nat) (hLL : L ≤ 1000000) (hi : IM K m wi ρ M c1 Rd) (hL : ∀ ds, Rd ds → ds.length ≤ L)
    (hs : ∀ ds, Rd ds → ∀ (i : Nat) (d : PyData), ds[i]? = some d → ∃ r1, GV K g vs d (wipeE ρ vs) r1 ∧ ∀ M1, EM K m te r1 M1 c (Re ds i))
    (q : ∀ D ds es, Rd ds → es.length = ds.length → (∀ (i : Nat) (e : PyData), es[i]? = some e → Re ds i e) → N (ρ.set i (some (pinD D))) ((D, es) :: M)) : SM K m (tAsg (tLc wi g tYes te vs) (gName i)) ρ M (c * L + c1) N R := fun W H0 σ H b D s k1 k2 =>
  lcM_core L hLL hi hL hs W H0 σ H b s _ fun D' H2 ds es rd le re s2 => k1 _ _ _ _ (q D' ds es rd le re) (s2.withEnv (s2.env.set (.pin D') i))
theorem DvAll.set {h : Hp} {v : V} {d : PyData} (hv : Dv K h v d) : ∀ {vs : List V} {ds : List PyData} (n : Nat), DvAll K h vs ds → DvAll K h (vs.set n v) (ds.set n d)
  | _, _, _, .nil => .nil
  | _, _, 0, .cons _ r => .cons hv r
  | _, _, n + 1, .cons h r => .cons h (DvAll.set hv n r)
/-- found[j] = e -/
theorem sm_store {i : Nat} {j : Nat} {ti : TE} {p : Addr} {ds : List PyData} {M1 M2 : Own} (hM : M = M1 ++ (p, ds) :: M2) (hi : ρ[i]? = some (some (pinD p))) (h : EM K m te ρ M c R1) (hj : EV K ti ρ (nD j)) (hl : j < ds.length) (q : ∀ d, R1 d → N ρ (M1 ++ (p, ds.set j d) :: M2)) :
    SM K m (tAsg te (gSub (tVar i) ti rSetL)) ρ M c N R := fun W H0 σ H b D s k1 k2 =>
  h W H0 σ H b s _ fun v H1 d r s1 v1 => by
    obtain ⟨u, h3, h4⟩ := s1.env.2 i _ hi
    rw [h4.pin_iff] at h3
    refine ⟨_, h3, hj _ σ H1 s1.ok s1.env _ fun y H2 e2 y2 => ?_⟩
    have s2 := s1.same e2
    have hmem : (p, ds) ∈ M := by rw [hM]; simp
    obtain ⟨xs, h1, h2⟩ := s2.own _ hmem
    refine ⟨p, xs, (j : Int), j, rfl, y2.int_iff, h1, ?_, ?_⟩
    · unfold ixN
      rw [if_pos (by omega), h2.length, if_pos (by show (j : Int) < (ds.length : Int); omega)]
      rfl
    · subst hM
      exact k1 _ _ _ _ (q d r) (s2.wrote (DvAll.set (v1.same (hide_same e2)) j h2))
theorem seqIt_sq {h : Hp} {a : Addr} {ns : List Int} (q : SqL K h a (ns.map V.int)) : SeqIt K h (Itl K a) (ns.map .int) where
  go := fun i H2 s hi => by
    rw [List.length_map] at hi
    exact ⟨_, .int ns[i], same_sqL s q, by rw [List.getElem?_map, List.getElem?_eq_getElem hi]; rfl⟩
  yld := fun i W H2 x H3 o s y => by
    obtain ⟨rfl, f⟩ := y
    refine ⟨Same.refl _, fun d hd => ?_⟩
    have e := f _ (same_sqL hide_le (same_sqL s q))
    rw [List.getElem?_map] at e hd
    cases z : ns[i]? with
    | none => rw [z] at e; cases e
    | some n =>
      rw [z] at e hd
      have e1 : V.int n = x := Option.some.inj e
      have e2 : PyData.int n = d := Option.some.inj hd
      rw [← e1, ← e2]
      exact .int n
  stop := fun i H2 s hi => ⟨_, same_sqL s q, by rw [List.length_map] at hi ⊢; exact hi⟩
theorem seqIt_enumL {h : Hp} {a : Addr} {ns : List Int} (q : SqL K h a (ns.map V.int)) : SeqIt K h (Ite K a) ((ns.zipIdx).map fun z => .tuple [.int (z.2 : Int), .int z.1]) where
  go := fun i H2 s hi => by
    rw [List.length_map, List.length_zipIdx] at hi
    exact ⟨_, .int ns[i], same_sqL s q, by rw [List.getElem?_map, List.getElem?_eq_getElem hi]; rfl⟩
  yld := fun i W H2 x H3 o s y => by
    obtain ⟨T, z, rfl, hT, rfl, f⟩ := y
    refine ⟨same_new hT, fun d hd => ?_⟩
    have e := f _ (same_sqL hide_le (same_sqL s q))
    rw [List.getElem?_map] at e hd
    rw [List.getElem?_zipIdx] at hd
    cases w : ns[i]? with
    | none => rw [w] at e; cases e
    | some n =>
      rw [w] at e hd
      have e1 : V.int n = z := Option.some.inj e
      have e2 : PyData.tuple [.int ((0 + i : Nat) : Int), .int n] = d := Option.some.inj hd
      rw [Nat.zero_add] at e2
      rw [← e1, ← e2]
      exact .tup (SqT.of (hide_new o hT)) (.cons (.int _) (.cons (.int n) .nil))
  stop := fun i H2 s hi => ⟨_, same_sqL s q, by rw [List.length_map, List.length_zipIdx] at hi; rw [List.length_map]; exact hi⟩

theorem iv_sq {ns : List Int} (h : EV K te ρ (sqD (ns.map .int))) : IV K (iSeq K te) ρ (ns.map .int) := fun W σ H o E R q => .inl (h W σ H o E _ fun v H1 s1 v1 => by
  obtain ⟨a, xs, rfl, h3, h4⟩ := v1.sq_iff
  rw [h4.ints] at h3
  exact ⟨a, rfl, ⟨_, same_sqL hide_le h3⟩, q _ H1 s1 (seqIt_sq h3)⟩)
theorem iv_enumL {ns : List Int} (h : EV K te ρ (sqD (ns.map .int))) : IV K (iEnum K (tCons te tNil)) ρ ((ns.zipIdx).map fun z => .tuple [.int (z.2 : Int), .int z.1]) := fun W σ H o E R q => h W σ H o E _ fun v H1 s1 v1 => by
  obtain ⟨a, xs, rfl, h3, h4⟩ := v1.sq_iff
  rw [h4.ints] at h3
  exact ⟨a, _, rfl, same_sqL hide_le h3, q _ H1 s1 (seqIt_enumL h3)⟩
theorem ev_lenSq {ns : List Int} (h : EV K te ρ (sqD (ns.map .int))) : EV K (tCB (rLenK K) (tCons te tNil)) ρ (nD ns.length) := ev_CB (ea_cons h ea_nil) fun W vs H o r Q q => by
  cases r with
  | cons h1 h2 =>
    cases h2
    obtain ⟨a, xs, rfl, h3, h4⟩ := h1.sq_iff
    have hl := h4.length
    rw [List.length_map] at hl
    refine ⟨a, xs, rfl, .inl (same_sqL hide_le h3), ?_⟩
    rw [hl]
    exact q _ H (Same.refl H) (.int _)
end
end G6
/-! Part B3: the states on from some; the law's own closure. -/
namespace G6
section
variable {k : Kd}
theorem take_len1 {l : List Nat} {i : Nat} {x : Nat} (h : l[i]? = some x) : l.take (i + 1) = l.take i ++ [x] := by
  rw [List.take_add_one, h]
  rfl
theorem take_len1K {l : List (List Nat)} {i : Nat} {x : List Nat} (h : l[i]? = some x) : l.take (i + 1) = l.take i ++ [x] := by
  rw [List.take_add_one, h]
  rfl
theorem insN_mem {acc : List Nat} {y z : Nat} : z ∈ insN acc y ↔ z ∈ acc ∨ z = y := by
  unfold insN
  split
  · rename_i h
    exact ⟨.inl, fun q => q.elim id fun e => e ▸ h⟩
  · rw [List.mem_append, List.mem_singleton]
theorem insN_nd {acc : List Nat} {y : Nat} (h : acc.Nodup) : (insN acc y).Nodup := by
  unfold insN
  split
  · exact h
  · rename_i hn
    exact List.nodup_append.mpr ⟨h, List.pairwise_singleton _ _, fun a ha b hb e => hn (by rw [List.mem_singleton.mp hb] at e; exact e ▸ ha)⟩
theorem insF_mem {z : Nat} : ∀ (ys acc : List Nat), z ∈ ys.foldl insN acc ↔ z ∈ acc ∨ z ∈ ys
  | [], acc => by simp
  | y :: ys, acc => by
    rw [List.foldl_cons, insF_mem ys, insN_mem, List.mem_cons, or_assoc]
theorem insF_nd : ∀ (ys acc : List Nat), acc.Nodup → (ys.foldl insN acc).Nodup
  | [], acc, h => h
  | y :: ys, acc, h => insF_nd ys _ (insN_nd h)
theorem insF_len : ∀ (ys acc : List Nat), (ys.foldl insN acc).length ≤ acc.length + ys.length
  | [], acc => by simp
  | y :: ys, acc => by
    have h := insF_len ys (insN acc y)
    have h2 : (insN acc y).length ≤ acc.length + 1 := by
      unfold insN
      split
      · omega
      · rw [List.length_append]; exact Nat.le_refl _
    rw [List.foldl_cons, List.length_cons]
    omega
theorem waysL_mem {xs : List Nat} {z : Nat} : z ∈ waysL k xs ↔ ∃ x, x ∈ xs ∧ ((∃ r, r ∈ k.ups ∧ Kd.U r x = z) ∨ ∃ y, y ∈ xs ∧ k.J x y = z) := by
  unfold waysL
  rw [List.mem_flatMap]
  constructor
  · rintro ⟨x, hx, h⟩
    rw [List.mem_append, List.mem_map, List.mem_map] at h
    exact ⟨x, hx, h⟩
  · rintro ⟨x, hx, h⟩
    exact ⟨x, hx, by rw [List.mem_append, List.mem_map, List.mem_map]; exact h⟩
theorem ways_mem {xs : List Nat} {z : Nat} : z ∈ ways k xs ↔ z ∉ xs ∧ ∃ x, x ∈ xs ∧ ((∃ r, r ∈ k.ups ∧ Kd.U r x = z) ∨ ∃ y, y ∈ xs ∧ k.J x y = z) := by
  unfold ways
  rw [List.mem_filter, insF_mem, waysL_mem, decide_eq_true_iff]
  exact ⟨fun h => ⟨h.2, h.1.elim (fun q => nomatch q) id⟩, fun h => ⟨.inr h.2, h.1⟩⟩
theorem ways_nd (xs : List Nat) : (ways k xs).Nodup := (insF_nd _ _ List.nodup_nil).filter _
/-- some states that are found so far -/
structure Sofar (k : Kd) (l : List Nat) : Prop where
  nd : l.Nodup
  st : k.st ∈ l
  rch : ∀ x, x ∈ l → Rch k x
theorem Sofar.lt (L : Lat k) {l : List Nat} (S : Sofar k l) : ∀ x, x ∈ l → x < k.n := fun x h => (S.rch x h).lt L
theorem nd_len {l : List Nat} {n : Nat} (nd : l.Nodup) (h : ∀ x, x ∈ l → x < n) : l.length ≤ n := by
  have h1 : ((List.range n).filter fun x => decide (x ∈ l)).Perm l := (List.perm_ext_iff_of_nodup (List.nodup_range.filter _) nd).mpr fun x => by
    rw [List.mem_filter, List.mem_range, decide_eq_true_iff]
    exact ⟨fun q => q.2, fun q => ⟨h x q, q⟩⟩
  have h2 := h1.length_eq
  have h3 := List.length_filter_le (fun x => decide (x ∈ l)) (List.range n)
  rw [List.length_range] at h3
  omega
theorem Sofar.len (L : Lat k) {l : List Nat} (S : Sofar k l) : l.length ≤ k.n := nd_len S.nd (S.lt L)
theorem Sofar.one (k : Kd) : Sofar k [k.st] := ⟨List.pairwise_singleton _ _, List.mem_cons_self, fun x h => by rw [List.mem_singleton.mp h]; exact .st⟩
theorem Sofar.ways {l : List Nat} (S : Sofar k l) : Sofar k (l ++ ways k l) := by
  refine ⟨List.nodup_append.mpr ⟨S.nd, ways_nd l, fun a ha b hb e => (ways_mem.mp hb).1 (e ▸ ha)⟩, List.mem_append_left _ S.st, fun x hx => ?_⟩
  rcases List.mem_append.mp hx with h | h
  · exact S.rch x h
  · obtain ⟨_, y, hy, h⟩ := ways_mem.mp h
    rcases h with ⟨r, hr, rfl⟩ | ⟨z, hz, rfl⟩
    · exact .up (S.rch y hy) hr
    · exact .jn (S.rch y hy) (S.rch z hz)
theorem Sofar.clo {l : List Nat} (S : Sofar k l) (h : G6.ways k l = []) : Clo k l := by
  have no : ∀ z, z ∉ l → ¬ ∃ x, x ∈ l ∧ ((∃ r, r ∈ k.ups ∧ Kd.U r x = z) ∨ ∃ y, y ∈ l ∧ k.J x y = z) := fun z hz q => by
    have := ways_mem.mpr ⟨hz, q⟩
    rw [h] at this
    cases this
  refine ⟨S.nd, S.st, fun x hx r hr => ?_, fun x hx y hy => ?_, S.rch⟩
  · by_cases q : Kd.U r x ∈ l
    · exact q
    · exact (no _ q ⟨x, hx, .inl ⟨r, hr, rfl⟩⟩).elim
  · by_cases q : k.J x y ∈ l
    · exact q
    · exact (no _ q ⟨x, hx, .inr ⟨y, hy, rfl⟩⟩).elim
theorem Clo.sorted (L : Lat k) {l : List Nat} (C : Clo k l) : (come k).Perm l := C.perm L
/-! ### the law's: found one by one, the last n of them looked at -/
def stepL (k : Kd) (found : List Nat) (here : Nat) : List Nat := (k.ups.map fun r => Kd.U r here) ++ (found.map fun far => k.J here far) ++ found.map fun far => k.J far here
/-- the first n of them lead nowhere else -/
def Seen (k : Kd) (l : List Nat) (n : Nat) : Prop := ∀ i x, i < n → l[i]? = some x → (∀ r, r ∈ k.ups → Kd.U r x ∈ l) ∧ ∀ y, y ∈ l → k.J x y ∈ l ∧ k.J y x ∈ l
theorem stepL_rch {l : List Nat} (S : Sofar k l) {x : Nat} (hx : x ∈ l) {z : Nat} (hz : z ∈ stepL k l x) : Rch k z := by
  unfold stepL at hz
  rw [List.mem_append, List.mem_append, List.mem_map, List.mem_map, List.mem_map] at hz
  rcases hz with (⟨r, hr, rfl⟩ | ⟨y, hy, rfl⟩) | ⟨y, hy, rfl⟩
  · exact .up (S.rch x hx) hr
  · exact .jn (S.rch x hx) (S.rch y hy)
  · exact .jn (S.rch y hy) (S.rch x hx)
theorem Sofar.ins {l : List Nat} (S : Sofar k l) {z : Nat} (hz : Rch k z) : Sofar k (insN l z) := by
  refine ⟨insN_nd S.nd, insN_mem.mpr (.inl S.st), fun x hx => ?_⟩
  rcases insN_mem.mp hx with h | h
  · exact S.rch x h
  · rw [h]; exact hz
theorem Sofar.insF {l : List Nat} (S : Sofar k l) : ∀ (zs : List Nat), (∀ z, z ∈ zs → Rch k z) → Sofar k (zs.foldl insN l) := by
  intro zs
  induction zs generalizing l with
  | nil => intro _; exact S
  | cons z zs ih => intro h; exact ih (S.ins (h z List.mem_cons_self)) fun y hy => h y (List.mem_cons_of_mem _ hy)
theorem insF_grow : ∀ (zs l : List Nat), l.length ≤ (zs.foldl insN l).length
  | [], l => Nat.le_refl _
  | z :: zs, l => by
    have h1 := insF_grow zs (insN l z)
    have h2 : l.length ≤ (insN l z).length := by
      unfold insN
      split
      · exact Nat.le_refl _
      · rw [List.length_append]; omega
    rw [List.foldl_cons]
    omega
/-- nothing new: the list stands -/
theorem insF_none : ∀ (zs l : List Nat), (∀ z, z ∈ zs → z ∈ l) → zs.foldl insN l = l
  | [], l, _ => rfl
  | z :: zs, l, h => by
    rw [List.foldl_cons]
    have e : insN l z = l := if_pos (h z List.mem_cons_self)
    rw [e]
    exact insF_none zs l fun y hy => h y (List.mem_cons_of_mem _ hy)
/-- something new: it grew -/
theorem insF_some : ∀ (zs l : List Nat), (∃ z, z ∈ zs ∧ z ∉ l) → l.length < (zs.foldl insN l).length
  | [], l, h => by obtain ⟨z, h, _⟩ := h; cases h
  | y :: zs, l, h => by
    rw [List.foldl_cons]
    by_cases hy : y ∈ l
    · have e : insN l y = l := if_pos hy
      rw [e]
      obtain ⟨z, h1, h2⟩ := h
      rcases List.mem_cons.mp h1 with q | q
      · exact absurd (q ▸ hy) h2
      · exact insF_some zs l ⟨z, q, h2⟩
    · have e : insN l y = l ++ [y] := if_neg hy
      have h2 := insF_grow zs (insN l y)
      rw [e] at h2 ⊢
      rw [List.length_append] at h2
      have h3 : [y].length = 1 := rfl
      omega
theorem Seen.clo {l : List Nat} (S : Sofar k l) (h : Seen k l l.length) : Clo k l := by
  refine ⟨S.nd, S.st, fun x hx r hr => ?_, fun x hx y hy => ?_, S.rch⟩
  · obtain ⟨i, hi, e⟩ := List.mem_iff_getElem.mp hx
    exact (h i x hi (by rw [List.getElem?_eq_getElem hi, e])).1 r hr
  · obtain ⟨i, hi, e⟩ := List.mem_iff_getElem.mp hx
    exact ((h i x hi (by rw [List.getElem?_eq_getElem hi, e])).2 y hy).1
theorem Seen.zero (l : List Nat) : Seen k l 0 := fun i x h => absurd h (Nat.not_lt_zero i)
theorem Seen.next {l : List Nat} {n x : Nat} (h : Seen k l n) (e : l[n]? = some x) (q : ∀ z, z ∈ stepL k l x → z ∈ l) : Seen k l (n + 1) := fun i y hi hy => by
  by_cases hn : i = n
  · subst hn
    rw [e] at hy
    have exy : x = y := Option.some.inj hy
    subst exy
    unfold stepL at q
    refine ⟨fun r hr => q _ (List.mem_append_left _ (List.mem_append_left _ (List.mem_map.mpr ⟨r, hr, rfl⟩))), fun y hy => ⟨q _ (List.mem_append_left _ (List.mem_append_right _ (List.mem_map.mpr ⟨y, hy, rfl⟩))), q _ (List.mem_append_right _ (List.mem_map.mpr ⟨y, hy, rfl⟩))⟩⟩
  · exact h i y (by omega) hy
end
end G6
/-! Part B4: how many chains there are. -/
namespace G6
section
variable {k : Kd}
theorem sc_nd (L : Lat k) {c : List Nat} (h : SC k c) : c.Nodup := h.asc.imp fun q => q.1
theorem last_mem {c : List Nat} (hn : c ≠ []) : c.getLastD 0 ∈ c := by
  rw [List.getLastD_eq_getLast?, List.getLast?_eq_some_getLast hn]
  exact List.getLast_mem hn
theorem sc_last (L : Lat k) {c : List Nat} (h : SC k c) (hn : c ≠ []) {x : Nat} (hx : x ∈ c) : x = c.getLastD 0 ∨ k.lt x (c.getLastD 0) := by
  have e : c.getLastD 0 = c.getLast hn := by rw [List.getLastD_eq_getLast?, List.getLast?_eq_some_getLast hn]; rfl
  rw [e]
  have asc := h.asc
  rw [← List.dropLast_concat_getLast hn] at hx asc
  rcases List.mem_append.mp hx with q | q
  · exact .inr ((List.pairwise_append.mp asc).2.2 x q _ List.mem_cons_self)
  · exact .inl (List.mem_singleton.mp q)
theorem above_few (L : Lat k) {c : List Nat} (h : SC k c) (hn : c ≠ []) : c.length + (k.above (come k) (c.getLastD 0)).length ≤ 8 := by
  have hl := h.mem _ (last_mem hn)
  have nd : (c ++ k.above (come k) (c.getLastD 0)).Nodup := List.nodup_append.mpr ⟨sc_nd L h, come_nd.filter _, fun a ha b hb e => by
    subst e
    obtain ⟨h1, h2⟩ := above_mem.mp hb
    rcases sc_last L h hn ha with q | q
    · exact h2.1 q.symm
    · exact q.1 (le_antisymm L (come_lt L h1) (come_lt L hl) q.2 h2.2)⟩
  have h2 := nd_len (n := k.n) nd fun x hx => by
    rcases List.mem_append.mp hx with q | q
    · exact come_lt L (h.mem x q)
    · exact come_lt L (above_mem.mp q).1
  have n8 := L.n8
  rw [List.length_append] at h2
  omega
theorem next_len (L : Lat k) {n : Nat} : ∀ l : List (List Nat), (∀ c, c ∈ l → (k.above (come k) (c.getLastD 0)).length ≤ n) → (k.nextL (come k) l).length ≤ l.length * n
  | [], _ => by unfold Kd.nextL; simp
  | c :: l, h => by
    have ih := next_len L l fun d hd => h d (List.mem_cons_of_mem _ hd)
    have h1 := h c List.mem_cons_self
    unfold Kd.nextL at ih ⊢
    have e : ((come k).filter fun s => decide (s ≠ c.getLastD 0) && k.le (c.getLastD 0) s) = k.above (come k) (c.getLastD 0) := rfl
    rw [List.flatMap_cons, List.length_append, List.length_map, e, List.length_cons, Nat.add_mul, Nat.one_mul]
    omega
def boundB : Nat → Nat
  | 0 => 8
  | i + 1 => boundB i * (7 - i)
theorem layer_len (L : Lat k) : ∀ i, (k.layer (come k) i).length ≤ boundB i
  | 0 => by
    unfold Kd.layer boundB
    rw [List.length_map]
    exact come_len L
  | i + 1 => by
    have ih := layer_len L i
    have h := next_len L (n := 7 - i) (k.layer (come k) i) fun c hc => by
      obtain ⟨h1, h2⟩ := (layer_mem L i c).mp hc
      have := above_few L h1 (fun e => by rw [e] at h2; cases h2)
      omega
    exact Nat.le_trans h (Nat.mul_le_mul_right _ ih)
theorem bound_le : ∀ i, i ≤ 9 → boundB i ≤ 40320 := by decide
theorem all_len (L : Lat k) : ∀ i, i ≤ 9 → (allC k (come k) i).length ≤ i * 40320
  | 0, _ => Nat.le_refl _
  | i + 1, h => by
    have ih := all_len L i (by omega)
    have h1 := layer_len L i
    have h2 := bound_le i (by omega)
    unfold allC
    rw [List.length_append]
    omega
theorem all_stop {i : Nat} (h : k.layer (come k) i = []) : ∀ j, k.layer (come k) (i + j) = [] ∧ allC k (come k) (i + j) = allC k (come k) i
  | 0 => ⟨h, rfl⟩
  | j + 1 => by
    obtain ⟨h1, h2⟩ := all_stop h j
    refine ⟨?_, ?_⟩
    · show k.nextL (come k) (k.layer (come k) (i + j)) = []
      rw [h1]
      rfl
    · show allC k (come k) (i + j) ++ k.layer (come k) (i + j) = _
      rw [h1, h2, List.append_nil]
/-- all the chains, none but chains -/
theorem all_mem (L : Lat k) (c : List Nat) : c ∈ allC k (come k) 9 ↔ SC k c ∧ c ≠ [] := by
  have key : ∀ n, c ∈ allC k (come k) n ↔ ∃ i, i < n ∧ c ∈ k.layer (come k) i := by
    intro n
    induction n with
    | zero => exact ⟨fun h => (nomatch h), fun q => by obtain ⟨i, h, _⟩ := q; exact absurd h (Nat.not_lt_zero i)⟩
    | succ n ih =>
      show c ∈ allC k (come k) n ++ k.layer (come k) n ↔ _
      rw [List.mem_append, ih]
      constructor
      · rintro (⟨i, h1, h2⟩ | h)
        · exact ⟨i, by omega, h2⟩
        · exact ⟨n, by omega, h⟩
      · rintro ⟨i, h1, h2⟩
        by_cases e : i = n
        · exact .inr (e ▸ h2)
        · exact .inl ⟨i, by omega, h2⟩
  rw [key]
  constructor
  · rintro ⟨i, _, h⟩
    obtain ⟨h1, h2⟩ := (layer_mem L i c).mp h
    exact ⟨h1, fun e => by rw [e] at h2; cases h2⟩
  · rintro ⟨h1, h2⟩
    have hl : 0 < c.length := List.length_pos_iff.mpr h2
    have l8 : c.length ≤ 8 := Nat.le_trans (nd_len (sc_nd L h1) fun x hx => come_lt L (h1.mem x hx)) L.n8
    exact ⟨c.length - 1, by omega, (layer_mem L _ c).mpr ⟨h1, by omega⟩⟩
end
end G6
/-! Part Hd: the head: what the top leaves, by facts. -/
namespace G6
open PySem PySem.Spec PyProof.Rows L2
def topS (i : Nat) : Stmt := PySem.Challenge.pw_alikeagain_k23_whole_order.main.body.getD i (.Pass ⟨0, 0, 0, 0⟩)
abbrev sis_between : Stmt := topS 10
abbrev sis_tuple_of : Stmt := topS 11
abbrev sneed_rows : Stmt := topS 12
abbrev sneed_kind : Stmt := topS 13
abbrev sways_on : Stmt := topS 14
abbrev scome_by : Stmt := topS 15
abbrev scome_in : Stmt := topS 16
abbrev sneed_come : Stmt := topS 17
abbrev sdoes_break : Stmt := topS 26
abbrev srows_over : Stmt := topS 27
abbrev sfirst_broken : Stmt := topS 28
abbrev sbroken_in : Stmt := topS 29
abbrev sneed_joins : Stmt := topS 30
abbrev sat_most_in : Stmt := topS 33
abbrev sjoined_in : Stmt := topS 34
abbrev sbelow : Stmt := topS 35
abbrev sjoined : Stmt := topS 36
abbrev stop_in : Stmt := topS 37
abbrev stop : Stmt := topS 38
abbrev sis_brick : Stmt := topS 39
abbrev sbricks_in : Stmt := topS 40
abbrev sbricks : Stmt := topS 41
abbrev sbricks_of : Stmt := topS 42
abbrev schains_up : Stmt := topS 43
abbrev slongest_chain : Stmt := topS 44
abbrev sheight_in : Stmt := topS 45
abbrev sheight : Stmt := topS 46
abbrev sis_tight : Stmt := topS 47
abbrev sbreadth : Stmt := topS 48
abbrev s_law_mixed : Stmt := topS 50
abbrev s_law_folded : Stmt := topS 51
abbrev s_law_draw : Stmt := topS 52
abbrev s_law_begun : Stmt := topS 53
abbrev s_law_like : Stmt := topS 54
abbrev s_law_of : Stmt := topS 55
abbrev s_law_join : Stmt := topS 56
abbrev s_law_come : Stmt := topS 57
abbrev s_law_lots_kind : Stmt := topS 58
abbrev s_law_row_kind : Stmt := topS 59
abbrev s_law_wide_kind : Stmt := topS 60
abbrev s_law_order : Stmt := topS 61
abbrev s_law_joining : Stmt := topS 62
abbrev s_law_all_chains : Stmt := topS 63
abbrev s_law_tight : Stmt := topS 64
abbrev s_law_right : Stmt := topS 65
abbrev slaw : Stmt := topS 66
def dis_between : He.DefD := ⟨("is_between", none), "is_between", "is_between", defArgs sis_between, defBody sis_between, defScope sis_between, [], []⟩
def dis_tuple_of : He.DefD := ⟨("is_tuple_of", none), "is_tuple_of", "is_tuple_of", defArgs sis_tuple_of, defBody sis_tuple_of, defScope sis_tuple_of, [], []⟩
def dneed_rows : He.DefD := ⟨("need_rows", none), "need_rows", "need_rows", defArgs sneed_rows, defBody sneed_rows, defScope sneed_rows, [], []⟩
def dneed_kind : He.DefD := ⟨("need_kind", none), "need_kind", "need_kind", defArgs sneed_kind, defBody sneed_kind, defScope sneed_kind, [], []⟩
def dways_on : He.DefD := ⟨("ways_on", none), "ways_on", "ways_on", defArgs sways_on, defBody sways_on, defScope sways_on, [], []⟩
def dcome_by : He.DefD := ⟨("come_by", none), "come_by", "come_by", defArgs scome_by, defBody scome_by, defScope scome_by, [], []⟩
def dcome_in : He.DefD := ⟨("come_in", none), "come_in", "come_in", defArgs scome_in, defBody scome_in, defScope scome_in, [], []⟩
def dneed_come : He.DefD := ⟨("need_come", none), "need_come", "need_come", defArgs sneed_come, defBody sneed_come, defScope sneed_come, [], []⟩
def ddoes_break : He.DefD := ⟨("does_break", none), "does_break", "does_break", defArgs sdoes_break, defBody sdoes_break, defScope sdoes_break, [], []⟩
def drows_over : He.DefD := ⟨("rows_over", none), "rows_over", "rows_over", defArgs srows_over, defBody srows_over, defScope srows_over, [], []⟩
def dfirst_broken : He.DefD := ⟨("first_broken", none), "first_broken", "first_broken", defArgs sfirst_broken, defBody sfirst_broken, defScope sfirst_broken, [], []⟩
def dbroken_in : He.DefD := ⟨("broken_in", none), "broken_in", "broken_in", defArgs sbroken_in, defBody sbroken_in, defScope sbroken_in, [], []⟩
def dneed_joins : He.DefD := ⟨("need_joins", none), "need_joins", "need_joins", defArgs sneed_joins, defBody sneed_joins, defScope sneed_joins, [], []⟩
def dat_most_in : He.DefD := ⟨("at_most_in", none), "at_most_in", "at_most_in", defArgs sat_most_in, defBody sat_most_in, defScope sat_most_in, [], []⟩
def djoined_in : He.DefD := ⟨("joined_in", none), "joined_in", "joined_in", defArgs sjoined_in, defBody sjoined_in, defScope sjoined_in, [], []⟩
def dbelow : He.DefD := ⟨("below", none), "below", "below", defArgs sbelow, defBody sbelow, defScope sbelow, [], []⟩
def djoined : He.DefD := ⟨("joined", none), "joined", "joined", defArgs sjoined, defBody sjoined, defScope sjoined, [], []⟩
def dtop_in : He.DefD := ⟨("top_in", none), "top_in", "top_in", defArgs stop_in, defBody stop_in, defScope stop_in, [], []⟩
def dtop : He.DefD := ⟨("top", none), "top", "top", defArgs stop, defBody stop, defScope stop, [], []⟩
def dis_brick : He.DefD := ⟨("is_brick", none), "is_brick", "is_brick", defArgs sis_brick, defBody sis_brick, defScope sis_brick, [], []⟩
def dbricks_in : He.DefD := ⟨("bricks_in", none), "bricks_in", "bricks_in", defArgs sbricks_in, defBody sbricks_in, defScope sbricks_in, [], []⟩
def dbricks : He.DefD := ⟨("bricks", none), "bricks", "bricks", defArgs sbricks, defBody sbricks, defScope sbricks, [], []⟩
def dbricks_of : He.DefD := ⟨("bricks_of", none), "bricks_of", "bricks_of", defArgs sbricks_of, defBody sbricks_of, defScope sbricks_of, [], []⟩
def dchains_up : He.DefD := ⟨("chains_up", none), "chains_up", "chains_up", defArgs schains_up, defBody schains_up, defScope schains_up, [], []⟩
def dlongest_chain : He.DefD := ⟨("longest_chain", none), "longest_chain", "longest_chain", defArgs slongest_chain, defBody slongest_chain, defScope slongest_chain, [], []⟩
def dheight_in : He.DefD := ⟨("height_in", none), "height_in", "height_in", defArgs sheight_in, defBody sheight_in, defScope sheight_in, [], []⟩
def dheight : He.DefD := ⟨("height", none), "height", "height", defArgs sheight, defBody sheight, defScope sheight, [], []⟩
def dis_tight : He.DefD := ⟨("is_tight", none), "is_tight", "is_tight", defArgs sis_tight, defBody sis_tight, defScope sis_tight, [], []⟩
def dbreadth : He.DefD := ⟨("breadth", none), "breadth", "breadth", defArgs sbreadth, defBody sbreadth, defScope sbreadth, [], []⟩
def d_law_mixed : He.DefD := ⟨("_law_mixed", none), "_law_mixed", "_law_mixed", defArgs s_law_mixed, defBody s_law_mixed, defScope s_law_mixed, [], []⟩
def d_law_folded : He.DefD := ⟨("_law_folded", none), "_law_folded", "_law_folded", defArgs s_law_folded, defBody s_law_folded, defScope s_law_folded, [], []⟩
def d_law_draw : He.DefD := ⟨("_law_draw", none), "_law_draw", "_law_draw", defArgs s_law_draw, defBody s_law_draw, defScope s_law_draw, [], []⟩
def d_law_begun : He.DefD := ⟨("_law_begun", none), "_law_begun", "_law_begun", defArgs s_law_begun, defBody s_law_begun, defScope s_law_begun, [], []⟩
def d_law_like : He.DefD := ⟨("_law_like", none), "_law_like", "_law_like", defArgs s_law_like, defBody s_law_like, defScope s_law_like, [], []⟩
def d_law_of : He.DefD := ⟨("_law_of", none), "_law_of", "_law_of", defArgs s_law_of, defBody s_law_of, defScope s_law_of, [], []⟩
def d_law_join : He.DefD := ⟨("_law_join", none), "_law_join", "_law_join", defArgs s_law_join, defBody s_law_join, defScope s_law_join, [], []⟩
def d_law_come : He.DefD := ⟨("_law_come", none), "_law_come", "_law_come", defArgs s_law_come, defBody s_law_come, defScope s_law_come, [], []⟩
def d_law_lots_kind : He.DefD := ⟨("_law_lots_kind", none), "_law_lots_kind", "_law_lots_kind", defArgs s_law_lots_kind, defBody s_law_lots_kind, defScope s_law_lots_kind, [], []⟩
def d_law_row_kind : He.DefD := ⟨("_law_row_kind", none), "_law_row_kind", "_law_row_kind", defArgs s_law_row_kind, defBody s_law_row_kind, defScope s_law_row_kind, [], []⟩
def d_law_wide_kind : He.DefD := ⟨("_law_wide_kind", none), "_law_wide_kind", "_law_wide_kind", defArgs s_law_wide_kind, defBody s_law_wide_kind, defScope s_law_wide_kind, [], []⟩
def d_law_order : He.DefD := ⟨("_law_order", none), "_law_order", "_law_order", defArgs s_law_order, defBody s_law_order, defScope s_law_order, [], []⟩
def d_law_joining : He.DefD := ⟨("_law_joining", none), "_law_joining", "_law_joining", defArgs s_law_joining, defBody s_law_joining, defScope s_law_joining, [], []⟩
def d_law_all_chains : He.DefD := ⟨("_law_all_chains", none), "_law_all_chains", "_law_all_chains", defArgs s_law_all_chains, defBody s_law_all_chains, defScope s_law_all_chains, [], []⟩
def d_law_tight : He.DefD := ⟨("_law_tight", none), "_law_tight", "_law_tight", defArgs s_law_tight, defBody s_law_tight, defScope s_law_tight, [], []⟩
def d_law_right : He.DefD := ⟨("_law_right", none), "_law_right", "_law_right", defArgs s_law_right, defBody s_law_right, defScope s_law_right, [], []⟩
def dlaw : He.DefD := ⟨("law", none), "law", "law", defArgs slaw, defBody slaw, defScope slaw, [], []⟩
def hdFn : List He.DefD := [dis_between, dis_tuple_of, dneed_rows, dneed_kind, dways_on, dcome_by, dcome_in, dneed_come, ddoes_break, drows_over, dfirst_broken, dbroken_in, dneed_joins, dat_most_in, djoined_in, dbelow, djoined, dtop_in, dtop, dis_brick, dbricks_in, dbricks] ++ ([dbricks_of, dchains_up, dlongest_chain, dheight_in, dheight, dis_tight, dbreadth, d_law_mixed, d_law_folded, d_law_draw, d_law_begun, d_law_like, d_law_of, d_law_join, d_law_come, d_law_lots_kind, d_law_row_kind, d_law_wide_kind, d_law_order, d_law_joining, d_law_all_chains, d_law_tight, d_law_right, dlaw] : List He.DefD)
def hdFa1 : List He.Fa := [.glo "is_between", .glo "is_tuple_of", .glo "need_rows", .glo "need_kind", .glo "ways_on", .glo "come_by", .glo "come_in", .glo "need_come", .glo "does_break", .glo "rows_over", .glo "first_broken", .glo "broken_in", .glo "need_joins", .glo "at_most_in", .glo "joined_in", .glo "below", .glo "joined", .glo "top_in", .glo "top", .glo "is_brick", .glo "bricks_in", .glo "bricks"]
def hdFa2 : List He.Fa := [.glo "bricks_of", .glo "chains_up", .glo "longest_chain", .glo "height_in", .glo "height", .glo "is_tight", .glo "breadth", .glo "_law_mixed", .glo "_law_folded", .glo "_law_draw", .glo "_law_begun", .glo "_law_like", .glo "_law_of", .glo "_law_join", .glo "_law_come", .glo "_law_lots_kind", .glo "_law_row_kind", .glo "_law_wide_kind", .glo "_law_order", .glo "_law_joining", .glo "_law_all_chains", .glo "_law_tight", .glo "_law_right", .glo "law"]
def hdFa3 : List He.Fa := [.free "isinstance", .free "tuple", .free "len", .free "all", .free "enumerate", .free "int", .free "bool", .free "list", .free "range", .free "sorted", .free "max", .free "min", .free "any", .free "repr", .str "DO" "do", .str "HEAR" "hear", .str "START" "start", .str "TWICE" "twice", .str "TURN" "turn", .str "GROUP" "group", .str "AGAIN" "again", .int "MOST_STATES" 8, .int "MOST_READ" 9, .int "MOST_UPDATES" 4, .int "MOST_JOINED" 60, .glo "RULES", .glo "SIZES"]
def hdFa : List He.Fa := hdFa1 ++ (hdFa2 ++ hdFa3)
def hdTs : List He.Tab := [(fun K => He.ga K "SIZES", ["start", "twice", "turn", "group", "again"])]
def hdEx (K : PySem.W.Frag) : Bool := He.tupB K "RULES" [.str "start", .str "twice", .str "turn", .str "group"] && He.valsB K (He.ga K "SIZES") [("start", .int 1), ("twice", .int 1), ("turn", .int 2), ("group", .int 3), ("again", .int 2)]
def hdLoose1 : List PySem.Str := ["AlikeError", "BadKind", "BadState", "DO", "HEAR", "MOST_STATES", "MOST_READ", "MOST_UPDATES", "START", "TWICE", "TURN", "GROUP", "AGAIN", "RULES", "SIZES", "MOST_JOINED", "is_between", "is_tuple_of", "need_rows", "need_kind", "ways_on", "come_by", "come_in", "need_come", "does_break", "rows_over", "first_broken", "broken_in", "need_joins", "at_most_in"]
def hdLoose2 : List PySem.Str := ["joined_in", "below", "joined", "top_in", "top", "is_brick", "bricks_in", "bricks", "bricks_of", "chains_up", "longest_chain", "height_in", "height", "is_tight", "breadth", "_law_mixed", "_law_folded", "_law_draw", "_law_begun", "_law_like", "_law_of", "_law_join", "_law_come", "_law_lots_kind", "_law_row_kind", "_law_wide_kind", "_law_order", "_law_joining", "_law_all_chains", "_law_tight", "_law_right"]
def hdLoose : List PySem.Str := hdLoose1 ++ hdLoose2
abbrev hdR : PySem.W.OpenRow := PySem.W.OpenLaw.row PySem.Challenge.rw_alikeagain_k23_whole_order
abbrev hdHk : PySem.W.Hook := He.hookX 4 hdFa hdFn hdTs [] hdEx
def hdOb (s : PySem.W.SharedT) : He.AlX := He.obsX 4 hdFa hdFn hdTs [] hdEx (HandSHeadRun.getT s)
theorem hdOb_eq (s : PySem.W.SharedT) : hdOb s = hdHk.obs s.abs := He.obsX_eq (HandSHeadRun.getT_eq s)
theorem hdRun (w : World) : HandSHeadRun.RunEq hdR (PySem.W.view hdR.prog [66]) hdHk hdOb 6000 hdLoose w := by
  refine PySem.W.byRow2 "special-get-raises" (P := fun w => HandSHeadRun.RunEq hdR (PySem.W.view hdR.prog [66]) hdHk hdOb 6000 hdLoose w) (fun w os => ?_) (fun w os => ?_) w
  · kernel_rfl
  · kernel_rfl
end G6
/-! Part Tx: what the text leaves, as one structure; the scopes. -/
namespace G6
open PySem PySem.Spec PyProof.Rows L2
structure Txt (w : World) (K : PySem.W.Frag) (mg : Str → Option Value) : Prop where
  F_is_between : ∃ fd, mg "is_between" = some (.ref (He.ga K "is_between")) ∧ FunD K "is_between" "is_between" (defArgs sis_between) (defBody sis_between) (defScope sis_between) [] [] (He.ga K "is_between") fd
  F_is_tuple_of : ∃ fd, mg "is_tuple_of" = some (.ref (He.ga K "is_tuple_of")) ∧ FunD K "is_tuple_of" "is_tuple_of" (defArgs sis_tuple_of) (defBody sis_tuple_of) (defScope sis_tuple_of) [] [] (He.ga K "is_tuple_of") fd
  F_need_rows : ∃ fd, mg "need_rows" = some (.ref (He.ga K "need_rows")) ∧ FunD K "need_rows" "need_rows" (defArgs sneed_rows) (defBody sneed_rows) (defScope sneed_rows) [] [] (He.ga K "need_rows") fd
  F_need_kind : ∃ fd, mg "need_kind" = some (.ref (He.ga K "need_kind")) ∧ FunD K "need_kind" "need_kind" (defArgs sneed_kind) (defBody sneed_kind) (defScope sneed_kind) [] [] (He.ga K "need_kind") fd
  F_ways_on : ∃ fd, mg "ways_on" = some (.ref (He.ga K "ways_on")) ∧ FunD K "ways_on" "ways_on" (defArgs sways_on) (defBody sways_on) (defScope sways_on) [] [] (He.ga K "ways_on") fd
  F_come_by : ∃ fd, mg "come_by" = some (.ref (He.ga K "come_by")) ∧ FunD K "come_by" "come_by" (defArgs scome_by) (defBody scome_by) (defScope scome_by) [] [] (He.ga K "come_by") fd
  F_come_in : ∃ fd, mg "come_in" = some (.ref (He.ga K "come_in")) ∧ FunD K "come_in" "come_in" (defArgs scome_in) (defBody scome_in) (defScope scome_in) [] [] (He.ga K "come_in") fd
  F_need_come : ∃ fd, mg "need_come" = some (.ref (He.ga K "need_come")) ∧ FunD K "need_come" "need_come" (defArgs sneed_come) (defBody sneed_come) (defScope sneed_come) [] [] (He.ga K "need_come") fd
  F_does_break : ∃ fd, mg "does_break" = some (.ref (He.ga K "does_break")) ∧ FunD K "does_break" "does_break" (defArgs sdoes_break) (defBody sdoes_break) (defScope sdoes_break) [] [] (He.ga K "does_break") fd
  F_rows_over : ∃ fd, mg "rows_over" = some (.ref (He.ga K "rows_over")) ∧ FunD K "rows_over" "rows_over" (defArgs srows_over) (defBody srows_over) (defScope srows_over) [] [] (He.ga K "rows_over") fd
  F_first_broken : ∃ fd, mg "first_broken" = some (.ref (He.ga K "first_broken")) ∧ FunD K "first_broken" "first_broken" (defArgs sfirst_broken) (defBody sfirst_broken) (defScope sfirst_broken) [] [] (He.ga K "first_broken") fd
  F_broken_in : ∃ fd, mg "broken_in" = some (.ref (He.ga K "broken_in")) ∧ FunD K "broken_in" "broken_in" (defArgs sbroken_in) (defBody sbroken_in) (defScope sbroken_in) [] [] (He.ga K "broken_in") fd
  F_need_joins : ∃ fd, mg "need_joins" = some (.ref (He.ga K "need_joins")) ∧ FunD K "need_joins" "need_joins" (defArgs sneed_joins) (defBody sneed_joins) (defScope sneed_joins) [] [] (He.ga K "need_joins") fd
  F_at_most_in : ∃ fd, mg "at_most_in" = some (.ref (He.ga K "at_most_in")) ∧ FunD K "at_most_in" "at_most_in" (defArgs sat_most_in) (defBody sat_most_in) (defScope sat_most_in) [] [] (He.ga K "at_most_in") fd
  F_joined_in : ∃ fd, mg "joined_in" = some (.ref (He.ga K "joined_in")) ∧ FunD K "joined_in" "joined_in" (defArgs sjoined_in) (defBody sjoined_in) (defScope sjoined_in) [] [] (He.ga K "joined_in") fd
  F_below : ∃ fd, mg "below" = some (.ref (He.ga K "below")) ∧ FunD K "below" "below" (defArgs sbelow) (defBody sbelow) (defScope sbelow) [] [] (He.ga K "below") fd
  F_joined : ∃ fd, mg "joined" = some (.ref (He.ga K "joined")) ∧ FunD K "joined" "joined" (defArgs sjoined) (defBody sjoined) (defScope sjoined) [] [] (He.ga K "joined") fd
  F_top_in : ∃ fd, mg "top_in" = some (.ref (He.ga K "top_in")) ∧ FunD K "top_in" "top_in" (defArgs stop_in) (defBody stop_in) (defScope stop_in) [] [] (He.ga K "top_in") fd
  F_top : ∃ fd, mg "top" = some (.ref (He.ga K "top")) ∧ FunD K "top" "top" (defArgs stop) (defBody stop) (defScope stop) [] [] (He.ga K "top") fd
  F_is_brick : ∃ fd, mg "is_brick" = some (.ref (He.ga K "is_brick")) ∧ FunD K "is_brick" "is_brick" (defArgs sis_brick) (defBody sis_brick) (defScope sis_brick) [] [] (He.ga K "is_brick") fd
  F_bricks_in : ∃ fd, mg "bricks_in" = some (.ref (He.ga K "bricks_in")) ∧ FunD K "bricks_in" "bricks_in" (defArgs sbricks_in) (defBody sbricks_in) (defScope sbricks_in) [] [] (He.ga K "bricks_in") fd
  F_bricks : ∃ fd, mg "bricks" = some (.ref (He.ga K "bricks")) ∧ FunD K "bricks" "bricks" (defArgs sbricks) (defBody sbricks) (defScope sbricks) [] [] (He.ga K "bricks") fd
  F_bricks_of : ∃ fd, mg "bricks_of" = some (.ref (He.ga K "bricks_of")) ∧ FunD K "bricks_of" "bricks_of" (defArgs sbricks_of) (defBody sbricks_of) (defScope sbricks_of) [] [] (He.ga K "bricks_of") fd
  F_chains_up : ∃ fd, mg "chains_up" = some (.ref (He.ga K "chains_up")) ∧ FunD K "chains_up" "chains_up" (defArgs schains_up) (defBody schains_up) (defScope schains_up) [] [] (He.ga K "chains_up") fd
  F_longest_chain : ∃ fd, mg "longest_chain" = some (.ref (He.ga K "longest_chain")) ∧ FunD K "longest_chain" "longest_chain" (defArgs slongest_chain) (defBody slongest_chain) (defScope slongest_chain) [] [] (He.ga K "longest_chain") fd
  F_height_in : ∃ fd, mg "height_in" = some (.ref (He.ga K "height_in")) ∧ FunD K "height_in" "height_in" (defArgs sheight_in) (defBody sheight_in) (defScope sheight_in) [] [] (He.ga K "height_in") fd
  F_height : ∃ fd, mg "height" = some (.ref (He.ga K "height")) ∧ FunD K "height" "height" (defArgs sheight) (defBody sheight) (defScope sheight) [] [] (He.ga K "height") fd
  F_is_tight : ∃ fd, mg "is_tight" = some (.ref (He.ga K "is_tight")) ∧ FunD K "is_tight" "is_tight" (defArgs sis_tight) (defBody sis_tight) (defScope sis_tight) [] [] (He.ga K "is_tight") fd
  F_breadth : ∃ fd, mg "breadth" = some (.ref (He.ga K "breadth")) ∧ FunD K "breadth" "breadth" (defArgs sbreadth) (defBody sbreadth) (defScope sbreadth) [] [] (He.ga K "breadth") fd
  F__law_mixed : ∃ fd, mg "_law_mixed" = some (.ref (He.ga K "_law_mixed")) ∧ FunD K "_law_mixed" "_law_mixed" (defArgs s_law_mixed) (defBody s_law_mixed) (defScope s_law_mixed) [] [] (He.ga K "_law_mixed") fd
  F__law_folded : ∃ fd, mg "_law_folded" = some (.ref (He.ga K "_law_folded")) ∧ FunD K "_law_folded" "_law_folded" (defArgs s_law_folded) (defBody s_law_folded) (defScope s_law_folded) [] [] (He.ga K "_law_folded") fd
  F__law_draw : ∃ fd, mg "_law_draw" = some (.ref (He.ga K "_law_draw")) ∧ FunD K "_law_draw" "_law_draw" (defArgs s_law_draw) (defBody s_law_draw) (defScope s_law_draw) [] [] (He.ga K "_law_draw") fd
  F__law_begun : ∃ fd, mg "_law_begun" = some (.ref (He.ga K "_law_begun")) ∧ FunD K "_law_begun" "_law_begun" (defArgs s_law_begun) (defBody s_law_begun) (defScope s_law_begun) [] [] (He.ga K "_law_begun") fd
  F__law_like : ∃ fd, mg "_law_like" = some (.ref (He.ga K "_law_like")) ∧ FunD K "_law_like" "_law_like" (defArgs s_law_like) (defBody s_law_like) (defScope s_law_like) [] [] (He.ga K "_law_like") fd
  F__law_of : ∃ fd, mg "_law_of" = some (.ref (He.ga K "_law_of")) ∧ FunD K "_law_of" "_law_of" (defArgs s_law_of) (defBody s_law_of) (defScope s_law_of) [] [] (He.ga K "_law_of") fd
  F__law_join : ∃ fd, mg "_law_join" = some (.ref (He.ga K "_law_join")) ∧ FunD K "_law_join" "_law_join" (defArgs s_law_join) (defBody s_law_join) (defScope s_law_join) [] [] (He.ga K "_law_join") fd
  F__law_come : ∃ fd, mg "_law_come" = some (.ref (He.ga K "_law_come")) ∧ FunD K "_law_come" "_law_come" (defArgs s_law_come) (defBody s_law_come) (defScope s_law_come) [] [] (He.ga K "_law_come") fd
  F__law_lots_kind : ∃ fd, mg "_law_lots_kind" = some (.ref (He.ga K "_law_lots_kind")) ∧ FunD K "_law_lots_kind" "_law_lots_kind" (defArgs s_law_lots_kind) (defBody s_law_lots_kind) (defScope s_law_lots_kind) [] [] (He.ga K "_law_lots_kind") fd
  F__law_row_kind : ∃ fd, mg "_law_row_kind" = some (.ref (He.ga K "_law_row_kind")) ∧ FunD K "_law_row_kind" "_law_row_kind" (defArgs s_law_row_kind) (defBody s_law_row_kind) (defScope s_law_row_kind) [] [] (He.ga K "_law_row_kind") fd
  F__law_wide_kind : ∃ fd, mg "_law_wide_kind" = some (.ref (He.ga K "_law_wide_kind")) ∧ FunD K "_law_wide_kind" "_law_wide_kind" (defArgs s_law_wide_kind) (defBody s_law_wide_kind) (defScope s_law_wide_kind) [] [] (He.ga K "_law_wide_kind") fd
  F__law_order : ∃ fd, mg "_law_order" = some (.ref (He.ga K "_law_order")) ∧ FunD K "_law_order" "_law_order" (defArgs s_law_order) (defBody s_law_order) (defScope s_law_order) [] [] (He.ga K "_law_order") fd
  F__law_joining : ∃ fd, mg "_law_joining" = some (.ref (He.ga K "_law_joining")) ∧ FunD K "_law_joining" "_law_joining" (defArgs s_law_joining) (defBody s_law_joining) (defScope s_law_joining) [] [] (He.ga K "_law_joining") fd
  F__law_all_chains : ∃ fd, mg "_law_all_chains" = some (.ref (He.ga K "_law_all_chains")) ∧ FunD K "_law_all_chains" "_law_all_chains" (defArgs s_law_all_chains) (defBody s_law_all_chains) (defScope s_law_all_chains) [] [] (He.ga K "_law_all_chains") fd
  F__law_tight : ∃ fd, mg "_law_tight" = some (.ref (He.ga K "_law_tight")) ∧ FunD K "_law_tight" "_law_tight" (defArgs s_law_tight) (defBody s_law_tight) (defScope s_law_tight) [] [] (He.ga K "_law_tight") fd
  F__law_right : ∃ fd, mg "_law_right" = some (.ref (He.ga K "_law_right")) ∧ FunD K "_law_right" "_law_right" (defArgs s_law_right) (defBody s_law_right) (defScope s_law_right) [] [] (He.ga K "_law_right") fd
  F_law : ∃ fd, mg "law" = some (.ref (He.ga K "law")) ∧ FunD K "law" "law" (defArgs slaw) (defBody slaw) (defScope slaw) [] [] (He.ga K "law") fd
  m_isinstance : mg "isinstance" = none
  m_tuple : mg "tuple" = none
  m_len : mg "len" = none
  m_all : mg "all" = none
  m_enumerate : mg "enumerate" = none
  m_int : mg "int" = none
  m_bool : mg "bool" = none
  m_list : mg "list" = none
  m_range : mg "range" = none
  m_sorted : mg "sorted" = none
  m_max : mg "max" = none
  m_min : mg "min" = none
  m_any : mg "any" = none
  m_repr : mg "repr" = none
  s_DO : ∃ t, mg "DO" = some (.str "do" t)
  s_HEAR : ∃ t, mg "HEAR" = some (.str "hear" t)
  s_START : ∃ t, mg "START" = some (.str "start" t)
  s_TWICE : ∃ t, mg "TWICE" = some (.str "twice" t)
  s_TURN : ∃ t, mg "TURN" = some (.str "turn" t)
  s_GROUP : ∃ t, mg "GROUP" = some (.str "group" t)
  s_AGAIN : ∃ t, mg "AGAIN" = some (.str "again" t)
  i_MOST_STATES : ∃ t, mg "MOST_STATES" = some (.int 8 t)
  i_MOST_READ : ∃ t, mg "MOST_READ" = some (.int 9 t)
  i_MOST_UPDATES : ∃ t, mg "MOST_UPDATES" = some (.int 4 t)
  i_MOST_JOINED : ∃ t, mg "MOST_JOINED" = some (.int 60 t)
  r_RULES : mg "RULES" = some (.ref (He.ga K "RULES"))
  r_SIZES : mg "SIZES" = some (.ref (He.ga K "SIZES"))
  rules : ∀ H, SqT K H (He.ga K "RULES") [.str "start", .str "twice", .str "turn", .str "group"]
  sizes : ∀ q ∈ ([("start", .int 1), ("twice", .int 1), ("turn", .int 2), ("group", .int 3)] : List (Str × V)), KDct K w (He.ga K "SIZES") q.1 q.2
theorem txt_of {w : World} {K : PySem.W.Frag} {h : Heap} {mg : Str → Option Value} (X : K.In h) (G : h.Ns mainGlobals mg) (c : He.SaysX hdFa hdFn hdTs [] hdEx w h K) : Txt w K mg := by
  have fa : ∀ f ∈ hdFa, f.ok K = true := fun f hf => c.t.d.facts hf
  have mem1 : ∀ f, f ∈ hdFa1 → f ∈ hdFa := fun f h => List.mem_append_left _ h
  have mem2 : ∀ f, f ∈ hdFa2 → f ∈ hdFa := fun f h => List.mem_append_right _ (List.mem_append_left _ h)
  have mem3 : ∀ f, f ∈ hdFa3 → f ∈ hdFa := fun f h => List.mem_append_right _ (List.mem_append_right _ h)
  have fr : ∀ x : Str, He.Fa.free x ∈ hdFa3 → mg x = none := fun x h => He.free_ok X G (fa _ (mem3 _ h))
  have gl : ∀ x : Str, He.Fa.glo x ∈ hdFa3 → mg x = some (.ref (He.ga K x)) := fun x h => He.glo_ok X G (fa _ (mem3 _ h))
  have st : ∀ x z : Str, He.Fa.str x z ∈ hdFa3 → ∃ t, mg x = some (.str z t) := fun x z h => He.str_ok X G (fa _ (mem3 _ h))
  have it : ∀ (x : Str) (z : Int), He.Fa.int x z ∈ hdFa3 → ∃ t, mg x = some (.int z t) := fun x z h => He.int_ok X G (fa _ (mem3 _ h))
  obtain ⟨ex1, ex2⟩ := He.ba c.more
  obtain ⟨es, n, kd1, kd2, kd3⟩ := c.t.tab 0
  refine { F_is_between := ?_, F_is_tuple_of := ?_, F_need_rows := ?_, F_need_kind := ?_, F_ways_on := ?_, F_come_by := ?_, F_come_in := ?_, F_need_come := ?_, F_does_break := ?_, F_rows_over := ?_, F_first_broken := ?_, F_broken_in := ?_, F_need_joins := ?_, F_at_most_in := ?_, F_joined_in := ?_, F_below := ?_, F_joined := ?_, F_top_in := ?_, F_top := ?_, F_is_brick := ?_, F_bricks_in := ?_, F_bricks := ?_, F_bricks_of := ?_, F_chains_up := ?_, F_longest_chain := ?_, F_height_in := ?_, F_height := ?_, F_is_tight := ?_, F_breadth := ?_, F__law_mixed := ?_, F__law_folded := ?_, F__law_draw := ?_, F__law_begun := ?_, F__law_like := ?_, F__law_of := ?_, F__law_join := ?_, F__law_come := ?_, F__law_lots_kind := ?_, F__law_row_kind := ?_, F__law_wide_kind := ?_, F__law_order := ?_, F__law_joining := ?_, F__law_all_chains := ?_, F__law_tight := ?_, F__law_right := ?_, F_law := ?_, m_isinstance := fr "isinstance" (by simp [hdFa3]), m_tuple := fr "tuple" (by simp [hdFa3]), m_len := fr "len" (by simp [hdFa3]), m_all := fr "all" (by simp [hdFa3]), m_enumerate := fr "enumerate" (by simp [hdFa3]), m_int := fr "int" (by simp [hdFa3]), m_bool := fr "bool" (by simp [hdFa3]), m_list := fr "list" (by simp [hdFa3]), m_range := fr "range" (by simp [hdFa3]), m_sorted := fr "sorted" (by simp [hdFa3]), m_max := fr "max" (by simp [hdFa3]), m_min := fr "min" (by simp [hdFa3]), m_any := fr "any" (by simp [hdFa3]), m_repr := fr "repr" (by simp [hdFa3]), s_DO := st "DO" "do" (by simp [hdFa3]), s_HEAR := st "HEAR" "hear" (by simp [hdFa3]), s_START := st "START" "start" (by simp [hdFa3]), s_TWICE := st "TWICE" "twice" (by simp [hdFa3]), s_TURN := st "TURN" "turn" (by simp [hdFa3]), s_GROUP := st "GROUP" "group" (by simp [hdFa3]), s_AGAIN := st "AGAIN" "again" (by simp [hdFa3]), i_MOST_STATES := it "MOST_STATES" 8 (by simp [hdFa3]), i_MOST_READ := it "MOST_READ" 9 (by simp [hdFa3]), i_MOST_UPDATES := it "MOST_UPDATES" 4 (by simp [hdFa3]), i_MOST_JOINED := it "MOST_JOINED" 60 (by simp [hdFa3]), r_RULES := gl "RULES" (by simp [hdFa3]), r_SIZES := gl "SIZES" (by simp [hdFa3]), rules := fun H => He.tupB_ok ex1 H, sizes := ?_ }
  · obtain ⟨fd, F⟩ := c.t.d.def_ 0 (d := dis_between)
    exact ⟨fd, He.glo_ok X G (fa (.glo "is_between") (mem1 _ (by simp [hdFa1]))), F⟩
  · obtain ⟨fd, F⟩ := c.t.d.def_ 1 (d := dis_tuple_of)
    exact ⟨fd, He.glo_ok X G (fa (.glo "is_tuple_of") (mem1 _ (by simp [hdFa1]))), F⟩
  · obtain ⟨fd, F⟩ := c.t.d.def_ 2 (d := dneed_rows)
    exact ⟨fd, He.glo_ok X G (fa (.glo "need_rows") (mem1 _ (by simp [hdFa1]))), F⟩
  · obtain ⟨fd, F⟩ := c.t.d.def_ 3 (d := dneed_kind)
    exact ⟨fd, He.glo_ok X G (fa (.glo "need_kind") (mem1 _ (by simp [hdFa1]))), F⟩
  · obtain ⟨fd, F⟩ := c.t.d.def_ 4 (d := dways_on)
    exact ⟨fd, He.glo_ok X G (fa (.glo "ways_on") (mem1 _ (by simp [hdFa1]))), F⟩
  · obtain ⟨fd, F⟩ := c.t.d.def_ 5 (d := dcome_by)
    exact ⟨fd, He.glo_ok X G (fa (.glo "come_by") (mem1 _ (by simp [hdFa1]))), F⟩
  · obtain ⟨fd, F⟩ := c.t.d.def_ 6 (d := dcome_in)
    exact ⟨fd, He.glo_ok X G (fa (.glo "come_in") (mem1 _ (by simp [hdFa1]))), F⟩
  · obtain ⟨fd, F⟩ := c.t.d.def_ 7 (d := dneed_come)
    exact ⟨fd, He.glo_ok X G (fa (.glo "need_come") (mem1 _ (by simp [hdFa1]))), F⟩
  · obtain ⟨fd, F⟩ := c.t.d.def_ 8 (d := ddoes_break)
    exact ⟨fd, He.glo_ok X G (fa (.glo "does_break") (mem1 _ (by simp [hdFa1]))), F⟩
  · obtain ⟨fd, F⟩ := c.t.d.def_ 9 (d := drows_over)
    exact ⟨fd, He.glo_ok X G (fa (.glo "rows_over") (mem1 _ (by simp [hdFa1]))), F⟩
  · obtain ⟨fd, F⟩ := c.t.d.def_ 10 (d := dfirst_broken)
    exact ⟨fd, He.glo_ok X G (fa (.glo "first_broken") (mem1 _ (by simp [hdFa1]))), F⟩
  · obtain ⟨fd, F⟩ := c.t.d.def_ 11 (d := dbroken_in)
    exact ⟨fd, He.glo_ok X G (fa (.glo "broken_in") (mem1 _ (by simp [hdFa1]))), F⟩
  · obtain ⟨fd, F⟩ := c.t.d.def_ 12 (d := dneed_joins)
    exact ⟨fd, He.glo_ok X G (fa (.glo "need_joins") (mem1 _ (by simp [hdFa1]))), F⟩
  · obtain ⟨fd, F⟩ := c.t.d.def_ 13 (d := dat_most_in)
    exact ⟨fd, He.glo_ok X G (fa (.glo "at_most_in") (mem1 _ (by simp [hdFa1]))), F⟩
  · obtain ⟨fd, F⟩ := c.t.d.def_ 14 (d := djoined_in)
    exact ⟨fd, He.glo_ok X G (fa (.glo "joined_in") (mem1 _ (by simp [hdFa1]))), F⟩
  · obtain ⟨fd, F⟩ := c.t.d.def_ 15 (d := dbelow)
    exact ⟨fd, He.glo_ok X G (fa (.glo "below") (mem1 _ (by simp [hdFa1]))), F⟩
  · obtain ⟨fd, F⟩ := c.t.d.def_ 16 (d := djoined)
    exact ⟨fd, He.glo_ok X G (fa (.glo "joined") (mem1 _ (by simp [hdFa1]))), F⟩
  · obtain ⟨fd, F⟩ := c.t.d.def_ 17 (d := dtop_in)
    exact ⟨fd, He.glo_ok X G (fa (.glo "top_in") (mem1 _ (by simp [hdFa1]))), F⟩
  · obtain ⟨fd, F⟩ := c.t.d.def_ 18 (d := dtop)
    exact ⟨fd, He.glo_ok X G (fa (.glo "top") (mem1 _ (by simp [hdFa1]))), F⟩
  · obtain ⟨fd, F⟩ := c.t.d.def_ 19 (d := dis_brick)
    exact ⟨fd, He.glo_ok X G (fa (.glo "is_brick") (mem1 _ (by simp [hdFa1]))), F⟩
  · obtain ⟨fd, F⟩ := c.t.d.def_ 20 (d := dbricks_in)
    exact ⟨fd, He.glo_ok X G (fa (.glo "bricks_in") (mem1 _ (by simp [hdFa1]))), F⟩
  · obtain ⟨fd, F⟩ := c.t.d.def_ 21 (d := dbricks)
    exact ⟨fd, He.glo_ok X G (fa (.glo "bricks") (mem1 _ (by simp [hdFa1]))), F⟩
  · obtain ⟨fd, F⟩ := c.t.d.def_ 22 (d := dbricks_of)
    exact ⟨fd, He.glo_ok X G (fa (.glo "bricks_of") (mem2 _ (by simp [hdFa2]))), F⟩
  · obtain ⟨fd, F⟩ := c.t.d.def_ 23 (d := dchains_up)
    exact ⟨fd, He.glo_ok X G (fa (.glo "chains_up") (mem2 _ (by simp [hdFa2]))), F⟩
  · obtain ⟨fd, F⟩ := c.t.d.def_ 24 (d := dlongest_chain)
    exact ⟨fd, He.glo_ok X G (fa (.glo "longest_chain") (mem2 _ (by simp [hdFa2]))), F⟩
  · obtain ⟨fd, F⟩ := c.t.d.def_ 25 (d := dheight_in)
    exact ⟨fd, He.glo_ok X G (fa (.glo "height_in") (mem2 _ (by simp [hdFa2]))), F⟩
  · obtain ⟨fd, F⟩ := c.t.d.def_ 26 (d := dheight)
    exact ⟨fd, He.glo_ok X G (fa (.glo "height") (mem2 _ (by simp [hdFa2]))), F⟩
  · obtain ⟨fd, F⟩ := c.t.d.def_ 27 (d := dis_tight)
    exact ⟨fd, He.glo_ok X G (fa (.glo "is_tight") (mem2 _ (by simp [hdFa2]))), F⟩
  · obtain ⟨fd, F⟩ := c.t.d.def_ 28 (d := dbreadth)
    exact ⟨fd, He.glo_ok X G (fa (.glo "breadth") (mem2 _ (by simp [hdFa2]))), F⟩
  · obtain ⟨fd, F⟩ := c.t.d.def_ 29 (d := d_law_mixed)
    exact ⟨fd, He.glo_ok X G (fa (.glo "_law_mixed") (mem2 _ (by simp [hdFa2]))), F⟩
  · obtain ⟨fd, F⟩ := c.t.d.def_ 30 (d := d_law_folded)
    exact ⟨fd, He.glo_ok X G (fa (.glo "_law_folded") (mem2 _ (by simp [hdFa2]))), F⟩
  · obtain ⟨fd, F⟩ := c.t.d.def_ 31 (d := d_law_draw)
    exact ⟨fd, He.glo_ok X G (fa (.glo "_law_draw") (mem2 _ (by simp [hdFa2]))), F⟩
  · obtain ⟨fd, F⟩ := c.t.d.def_ 32 (d := d_law_begun)
    exact ⟨fd, He.glo_ok X G (fa (.glo "_law_begun") (mem2 _ (by simp [hdFa2]))), F⟩
  · obtain ⟨fd, F⟩ := c.t.d.def_ 33 (d := d_law_like)
    exact ⟨fd, He.glo_ok X G (fa (.glo "_law_like") (mem2 _ (by simp [hdFa2]))), F⟩
  · obtain ⟨fd, F⟩ := c.t.d.def_ 34 (d := d_law_of)
    exact ⟨fd, He.glo_ok X G (fa (.glo "_law_of") (mem2 _ (by simp [hdFa2]))), F⟩
  · obtain ⟨fd, F⟩ := c.t.d.def_ 35 (d := d_law_join)
    exact ⟨fd, He.glo_ok X G (fa (.glo "_law_join") (mem2 _ (by simp [hdFa2]))), F⟩
  · obtain ⟨fd, F⟩ := c.t.d.def_ 36 (d := d_law_come)
    exact ⟨fd, He.glo_ok X G (fa (.glo "_law_come") (mem2 _ (by simp [hdFa2]))), F⟩
  · obtain ⟨fd, F⟩ := c.t.d.def_ 37 (d := d_law_lots_kind)
    exact ⟨fd, He.glo_ok X G (fa (.glo "_law_lots_kind") (mem2 _ (by simp [hdFa2]))), F⟩
  · obtain ⟨fd, F⟩ := c.t.d.def_ 38 (d := d_law_row_kind)
    exact ⟨fd, He.glo_ok X G (fa (.glo "_law_row_kind") (mem2 _ (by simp [hdFa2]))), F⟩
  · obtain ⟨fd, F⟩ := c.t.d.def_ 39 (d := d_law_wide_kind)
    exact ⟨fd, He.glo_ok X G (fa (.glo "_law_wide_kind") (mem2 _ (by simp [hdFa2]))), F⟩
  · obtain ⟨fd, F⟩ := c.t.d.def_ 40 (d := d_law_order)
    exact ⟨fd, He.glo_ok X G (fa (.glo "_law_order") (mem2 _ (by simp [hdFa2]))), F⟩
  · obtain ⟨fd, F⟩ := c.t.d.def_ 41 (d := d_law_joining)
    exact ⟨fd, He.glo_ok X G (fa (.glo "_law_joining") (mem2 _ (by simp [hdFa2]))), F⟩
  · obtain ⟨fd, F⟩ := c.t.d.def_ 42 (d := d_law_all_chains)
    exact ⟨fd, He.glo_ok X G (fa (.glo "_law_all_chains") (mem2 _ (by simp [hdFa2]))), F⟩
  · obtain ⟨fd, F⟩ := c.t.d.def_ 43 (d := d_law_tight)
    exact ⟨fd, He.glo_ok X G (fa (.glo "_law_tight") (mem2 _ (by simp [hdFa2]))), F⟩
  · obtain ⟨fd, F⟩ := c.t.d.def_ 44 (d := d_law_right)
    exact ⟨fd, He.glo_ok X G (fa (.glo "_law_right") (mem2 _ (by simp [hdFa2]))), F⟩
  · obtain ⟨fd, F⟩ := c.t.d.def_ 45 (d := dlaw)
    exact ⟨fd, He.glo_ok X G (fa (.glo "law") (mem2 _ (by simp [hdFa2]))), F⟩
  · intro q hq
    have hv : ∀ r ∈ ([("start", .int 1), ("twice", .int 1), ("turn", .int 2), ("group", .int 3), ("again", .int 2)] : List (Str × He.Dv)), KDct K w (He.ga K "SIZES") r.1 (r.2.v K) := fun r hr => by
      obtain ⟨u, e1, e2⟩ := He.valsB_ok ex2 hr
      exact ⟨es, n, u, kd1, kd2, e1, e2⟩
    simp only [List.mem_cons, List.not_mem_nil, or_false] at hq
    rcases hq with rfl | rfl | rfl | rfl
    · exact hv ("start", .int 1) (by simp)
    · exact hv ("twice", .int 1) (by simp)
    · exact hv ("turn", .int 2) (by simp)
    · exact hv ("group", .int 3) (by simp)
theorem sc_is_between : FnScope ["thing", "least", "most"] ["thing", "least", "most"] (defScope sis_between) := ⟨rfl, rfl, rfl, by decide +kernel, rfl, by decide +kernel, by decide +kernel⟩
theorem sc_is_tuple_of : FnScope ["thing", "many", "most", "one"] ["thing", "many", "most"] (defScope sis_tuple_of) := ⟨rfl, rfl, rfl, by decide +kernel, rfl, by decide +kernel, by decide +kernel⟩
theorem sc_need_rows : FnScope ["rows", "spot", "many", "number", "row"] ["rows", "spot", "many"] (defScope sneed_rows) := ⟨rfl, rfl, rfl, by decide +kernel, rfl, by decide +kernel, by decide +kernel⟩
theorem sc_need_kind : FnScope ["kind", "begin", "updates", "merge", "read_so", "number", "one", "many"] ["kind"] (defScope sneed_kind) := ⟨rfl, rfl, rfl, by decide +kernel, rfl, by decide +kernel, by decide +kernel⟩
theorem sc_ways_on : FnScope ["kind", "some", "numbers", "begin", "updates", "merge", "read_so", "found", "one", "number", "other", "state", "way"] ["kind", "some", "numbers"] (defScope sways_on) := ⟨rfl, rfl, rfl, by decide +kernel, rfl, by decide +kernel, by decide +kernel⟩
theorem sc_come_by : FnScope ["kind", "numbers", "found", "fresh"] ["kind", "numbers"] (defScope scome_by) := ⟨rfl, rfl, rfl, by decide +kernel, rfl, by decide +kernel, by decide +kernel⟩
theorem sc_come_in : FnScope ["kind"] ["kind"] (defScope scome_in) := ⟨rfl, rfl, rfl, by decide +kernel, rfl, by decide +kernel, by decide +kernel⟩
theorem sc_need_come : FnScope ["kind", "state"] ["kind", "state"] (defScope sneed_come) := ⟨rfl, rfl, rfl, by decide +kernel, rfl, by decide +kernel, by decide +kernel⟩
theorem sc_does_break : FnScope ["kind", "rule", "states", "begin", "updates", "merge", "read_so", "one", "two", "three"] ["kind", "rule", "states"] (defScope sdoes_break) := ⟨rfl, rfl, rfl, by decide +kernel, rfl, by decide +kernel, by decide +kernel⟩
theorem sc_rows_over : FnScope ["some", "many", "found", "turn", "row", "one"] ["some", "many"] (defScope srows_over) := ⟨rfl, rfl, rfl, by decide +kernel, rfl, by decide +kernel, by decide +kernel⟩
theorem sc_first_broken : FnScope ["kind", "rule", "some", "states"] ["kind", "rule", "some"] (defScope sfirst_broken) := ⟨rfl, rfl, rfl, by decide +kernel, rfl, by decide +kernel, by decide +kernel⟩
theorem sc_broken_in : FnScope ["kind", "rules", "some", "rule"] ["kind", "rules", "some"] (defScope sbroken_in) := ⟨rfl, rfl, rfl, by decide +kernel, rfl, by decide +kernel, by decide +kernel⟩
theorem sc_need_joins : FnScope ["kind", "rule"] ["kind"] (defScope sneed_joins) := ⟨rfl, rfl, rfl, by decide +kernel, rfl, by decide +kernel, by decide +kernel⟩
theorem sc_at_most_in : FnScope ["kind", "one", "other"] ["kind", "one", "other"] (defScope sat_most_in) := ⟨rfl, rfl, rfl, by decide +kernel, rfl, by decide +kernel, by decide +kernel⟩
theorem sc_joined_in : FnScope ["kind", "states", "found", "state"] ["kind", "states"] (defScope sjoined_in) := ⟨rfl, rfl, rfl, by decide +kernel, rfl, by decide +kernel, by decide +kernel⟩
theorem sc_below : FnScope ["kind", "some", "one", "other"] ["kind"] (defScope sbelow) := ⟨rfl, rfl, rfl, by decide +kernel, rfl, by decide +kernel, by decide +kernel⟩
theorem sc_joined : FnScope ["kind", "states", "some", "one"] ["kind", "states"] (defScope sjoined) := ⟨rfl, rfl, rfl, by decide +kernel, rfl, by decide +kernel, by decide +kernel⟩
theorem sc_top_in : FnScope ["kind"] ["kind"] (defScope stop_in) := ⟨rfl, rfl, rfl, by decide +kernel, rfl, by decide +kernel, by decide +kernel⟩
theorem sc_top : FnScope ["kind"] ["kind"] (defScope stop) := ⟨rfl, rfl, rfl, by decide +kernel, rfl, by decide +kernel, by decide +kernel⟩
theorem sc_is_brick : FnScope ["kind", "some", "state", "one"] ["kind", "some", "state"] (defScope sis_brick) := ⟨rfl, rfl, rfl, by decide +kernel, rfl, by decide +kernel, by decide +kernel⟩
theorem sc_bricks_in : FnScope ["kind", "some", "state"] ["kind"] (defScope sbricks_in) := ⟨rfl, rfl, rfl, by decide +kernel, rfl, by decide +kernel, by decide +kernel⟩
theorem sc_bricks : FnScope ["kind"] ["kind"] (defScope sbricks) := ⟨rfl, rfl, rfl, by decide +kernel, rfl, by decide +kernel, by decide +kernel⟩
theorem sc_bricks_of : FnScope ["kind", "state", "one"] ["kind", "state"] (defScope sbricks_of) := ⟨rfl, rfl, rfl, by decide +kernel, rfl, by decide +kernel, by decide +kernel⟩
theorem sc_chains_up : FnScope ["kind", "some", "state", "longer", "most", "one", "chain"] ["kind", "some", "state"] (defScope schains_up) := ⟨rfl, rfl, rfl, by decide +kernel, rfl, by decide +kernel, by decide +kernel⟩
theorem sc_longest_chain : FnScope ["kind", "some", "chains", "most", "state", "chain"] ["kind"] (defScope slongest_chain) := ⟨rfl, rfl, rfl, by decide +kernel, rfl, by decide +kernel, by decide +kernel⟩
theorem sc_height_in : FnScope ["kind", "some", "state"] ["kind"] (defScope sheight_in) := ⟨rfl, rfl, rfl, by decide +kernel, rfl, by decide +kernel, by decide +kernel⟩
theorem sc_height : FnScope ["kind"] ["kind"] (defScope sheight) := ⟨rfl, rfl, rfl, by decide +kernel, rfl, by decide +kernel, by decide +kernel⟩
theorem sc_is_tight : FnScope ["kind", "states", "whole", "state", "one"] ["kind", "states"] (defScope sis_tight) := ⟨rfl, rfl, rfl, by decide +kernel, rfl, by decide +kernel, by decide +kernel⟩
theorem sc_breadth : FnScope ["kind", "lots", "state", "lot"] ["kind"] (defScope sbreadth) := ⟨rfl, rfl, rfl, by decide +kernel, rfl, by decide +kernel, by decide +kernel⟩
theorem sc__law_mixed : FnScope ["_law_cell", "_law_n", "_law_blend"] ["_law_cell", "_law_n"] (defScope s_law_mixed) := ⟨rfl, rfl, rfl, by decide +kernel, rfl, by decide +kernel, by decide +kernel⟩
theorem sc__law_folded : FnScope ["_law_script", "_law_found", "_law_n", "_law_cell"] ["_law_script"] (defScope s_law_folded) := ⟨rfl, rfl, rfl, by decide +kernel, rfl, by decide +kernel, by decide +kernel⟩
theorem sc__law_draw : FnScope ["_law_m", "_law_limit", "_law_n", "_law_lot", "_law_here", "_law_cell"] ["_law_m", "_law_limit"] (defScope s_law_draw) := ⟨rfl, rfl, rfl, by decide +kernel, rfl, by decide +kernel, by decide +kernel⟩
theorem sc__law_begun : FnScope ["_law_script", "_law_m", "_law_cell"] ["_law_script"] (defScope s_law_begun) := ⟨rfl, rfl, rfl, by decide +kernel, rfl, by decide +kernel, by decide +kernel⟩
theorem sc__law_like : FnScope ["_law_got", "_law_due"] ["_law_got", "_law_due"] (defScope s_law_like) := ⟨rfl, rfl, rfl, by decide +kernel, rfl, by decide +kernel, by decide +kernel⟩
theorem sc__law_of : FnScope ["_law_m", "_law_some"] ["_law_m", "_law_some"] (defScope s_law_of) := ⟨rfl, rfl, rfl, by decide +kernel, rfl, by decide +kernel, by decide +kernel⟩
theorem sc__law_join : FnScope ["_law_kind_so", "_law_some", "_law_found", "_law_state"] ["_law_kind_so", "_law_some"] (defScope s_law_join) := ⟨rfl, rfl, rfl, by decide +kernel, rfl, by decide +kernel, by decide +kernel⟩
theorem sc__law_come : FnScope ["_law_kind_so", "_law_begin", "_law_steps_so", "_law_merge", "_law_read_so", "_law_found", "_law_last", "_law_here", "_law_some", "_law_state", "_law_row", "_law_far"] ["_law_kind_so"] (defScope s_law_come) := ⟨rfl, rfl, rfl, by decide +kernel, rfl, by decide +kernel, by decide +kernel⟩
theorem sc__law_lots_kind : FnScope ["_law_m", "_law_many", "_law_size_so", "_law_turn", "_law_merge", "_law_steps_so", "_law_lot", "_law_one", "_law_other"] ["_law_m", "_law_many"] (defScope s_law_lots_kind) := ⟨rfl, rfl, rfl, by decide +kernel, rfl, by decide +kernel, by decide +kernel⟩
theorem sc__law_row_kind : FnScope ["_law_m", "_law_many", "_law_turn_so", "_law_merge", "_law_one", "_law_steps_so", "_law_turn", "_law_far"] ["_law_m", "_law_many"] (defScope s_law_row_kind) := ⟨rfl, rfl, rfl, by decide +kernel, rfl, by decide +kernel, by decide +kernel⟩
theorem sc__law_wide_kind : FnScope ["_law_m", "_law_many", "_law_last", "_law_merge", "_law_one", "_law_row", "_law_far", "_law_steps_so", "_law_turn", "_law_lot"] ["_law_m", "_law_many"] (defScope s_law_wide_kind) := ⟨rfl, rfl, rfl, by decide +kernel, rfl, by decide +kernel, by decide +kernel⟩
theorem sc__law_order : FnScope ["_law_m", "_law_many", "_law_left", "_law_found", "_law_turn"] ["_law_m", "_law_many"] (defScope s_law_order) := ⟨rfl, rfl, rfl, by decide +kernel, rfl, by decide +kernel, by decide +kernel⟩
theorem sc__law_joining : FnScope ["_law_m", "_law_pick"] ["_law_m"] (defScope s_law_joining) := ⟨rfl, rfl, rfl, by decide +kernel, rfl, by decide +kernel, by decide +kernel⟩
theorem sc__law_all_chains : FnScope ["_law_kind_so", "_law_some", "_law_found", "_law_layer", "_law_later", "_law_chain", "_law_state"] ["_law_kind_so", "_law_some"] (defScope s_law_all_chains) := ⟨rfl, rfl, rfl, by decide +kernel, rfl, by decide +kernel, by decide +kernel⟩
theorem sc__law_tight : FnScope ["_law_kind_so", "_law_some", "_law_lots", "_law_state", "_law_most", "_law_lot", "_law_whole", "_law_less_so", "_law_spot"] ["_law_kind_so", "_law_some"] (defScope s_law_tight) := ⟨rfl, rfl, rfl, by decide +kernel, rfl, by decide +kernel, by decide +kernel⟩
theorem sc__law_right : FnScope ["_law_m", "_law_kind_so", "_law_kept", "_law_some", "_law_merge", "_law_pairs", "_law_one", "_law_bare", "_law_state", "_law_chains", "_law_long", "_law_due", "_law_twice", "_law_told", "_law_own", "_law_turn", "_law_row", "_law_spot", "_law_far", "_law_chain", "_law_k"] ["_law_m", "_law_kind_so"] (defScope s_law_right) := ⟨rfl, rfl, rfl, by decide +kernel, rfl, by decide +kernel, by decide +kernel⟩
theorem sc_law : FnScope ["_law_script", "_law_m", "_law_turn", "_law_lots", "_law_count", "_law_told"] ["_law_script"] (defScope slaw) := ⟨rfl, rfl, rfl, by decide +kernel, rfl, by decide +kernel, by decide +kernel⟩
theorem room65 {k : Nat} {A : Around} (hr : Room k A) : A.units + 65 < cLine := by
  have := hr.un
  omega
end G6
namespace G6
open PySem PySem.Spec PyProof.Rows L2
section
variable {P : Program} {w : World} {K : PySem.W.Frag} {mg : Str → Option Value} {base : Heap}
theorem good_is_between (T : Txt w K mg)  : Good P w K mg base 1 "is_between" ["thing", "least", "most"] (PSp K R_is_between) := by
  refine good_of2 T.F_is_between sc_is_between (R := R_is_between) (fun ds d h => ?_) (fun _ _ _ _ _ _ us hl => match us, hl with | [_, _, _], _ => rfl) fun cdv A outer s H E hr => ⟨_, (pss_one (ps_ret (pe_and (pe_callB (isiK K) (by rfl) T.m_isinstance boot_isinstance (pa_cons (pv 0) (pa_cons (pe_bltn (v := .ty "int") (by rfl) T.m_int boot_int rfl) pa_nil))) (pe_and (pe_not (pe_callB (isiK K) (by rfl) T.m_isinstance boot_isinstance (pa_cons (pv 0) (pa_cons (pe_bltn (v := .ty "bool") (by rfl) T.m_bool boot_bool rfl) pa_nil)))) (pe_one (pe_chain op_le op_le (pv 1) (pv 0) (pv 2))))))), fun ds d h => ?_⟩
  · obtain ⟨x, b, _, rfl, _⟩ := h; rfl
  · obtain ⟨x, b, hx, rfl, rfl⟩ := h
    refine .inl (sv_ret ?_)
    refine (ev_andV (ev_isIntN (n := x) (ev_var rfl) (r := true) (by decide +kernel)) fun _ => ev_andV (ev_notV (ev_isIntN (n := x) (ev_var rfl) (r := false) (by decide +kernel))) fun _ => ev_chain (ev_var rfl) (ev_var rfl) r2_leN (fun _ => ev_var rfl) (fun _ => r2_leN)).is ?_
    rw [decide_eq_true (Nat.zero_le x), decide_eq_true hx]
    rfl
theorem good_is_tuple_of (T : Txt w K mg) (g_is_between : Good P w K mg base 1 "is_between" ["thing", "least", "most"] (PSp K R_is_between)) : Good P w K mg base 2 "is_tuple_of" ["thing", "many", "most"] (PSp K R_is_tuple_of) := by
  refine good_of2 T.F_is_tuple_of sc_is_tuple_of (R := R_is_tuple_of) (fun ds d h => ?_) (fun _ _ _ _ _ _ us hl => match us, hl with | [_, _, _], _ => rfl) fun cdv A outer s H E hr => ⟨_, (pss_one (ps_ret (pe_and (pe_callB (isiK K) (by rfl) T.m_isinstance boot_isinstance (pa_cons (pv 0) (pa_cons (pe_bltn (v := .ty "tuple") (by rfl) T.m_tuple boot_tuple rfl) pa_nil))) (pe_and (pe_cmpR op_eq (pe_callB (lenK K) (by rfl) T.m_len boot_len (pa_cons (pv 0) pa_nil)) (pv 1) (nomark _)) (pe_one (pe_callB (allK K rfl) (by rfl) T.m_all boot_all (pa_cons (pe_lc (own := [("one", 3)]) rfl sc_is_tuple_of.nd (piK K (pv 0)) (blkOk_by (own := [("one", 3)]) (by kernel_rfl)) (fun _ _ _ _ _ => (pg_name (i := 3) sc_is_tuple_of.nd rfl (by first | exact Or.inl rfl | exact Or.inr rfl))) (fun _ _ _ _ _ => pts_nil) (fun _ _ _ _ _ => (pe_cg g_is_between (hr.mono (by decide)) (by rfl) (pa_cons (pv 3) (pa_cons pe_int (pa_cons (pv 2) pa_nil)))))) pa_nil))))))), fun ds d h => ?_⟩
  · obtain ⟨x, b, _, _, rfl, _⟩ := h; rfl
  · obtain ⟨xs, m, hl, hx, rfl, rfl⟩ := h
    refine .inl (sv_ret ?_)
    refine (ev_andV (ev_isiT (ds := xs.map nD) (ev_var rfl) (r := true) (by decide +kernel)) fun _ => ev_andV (ev_op (ev_lenN (ev_var rfl)) (ev_var rfl) r2_eqN) fun _ => ev_allB (bs := xs.map fun _ => true) ?_).is ?_
    · rw [List.map_map]
      refine ev_lcA (enc := nD) _ (iv_T (ev_var rfl)) (by omega) fun x h => ⟨_, gv_name (by simp), ?_⟩
      exact ev_call (ea_cons (ev_var rfl) (ea_cons ev_nat (ea_cons (ev_var rfl) ea_nil))) ⟨x, m, hx x h, rfl, rfl⟩
    · rw [decide_eq_true rfl]
      congr 1
      simp
theorem zip_at {ds : List PyData} {i : Nat} {d : PyData} (h : ((ds.zipIdx).map fun p => PyData.tuple [.int (p.2 : Int), p.1])[i]? = some d) : ∃ e, ds[i]? = some e ∧ d = .tuple [nD i, e] := by
  rw [List.getElem?_map, List.getElem?_zipIdx] at h
  cases e : ds[i]? with
  | none => rw [e] at h; cases h
  | some x =>
    rw [e] at h
    have h2 : PyData.tuple [.int ((0 + i : Nat) : Int), x] = d := Option.some.inj h
    rw [Nat.zero_add] at h2
    exact ⟨x, rfl, h2.symm⟩
theorem less1 {n : Nat} {ρ : Env6} {ta : TE} (h : EV K ta ρ (nD n)) (hn : 1 ≤ n) : EV K (tOp (rI0 fun i j => .int (i - j)) ta (tC (.int 1))) ρ (nD (n - 1)) := (ev_op h ev_int r2_sub).is (by
  show PyData.int ((n : Int) - 1) = PyData.int ((n - 1 : Nat) : Int)
  congr 1
  omega)
theorem good_need_rows (T : Txt w K mg) (g_is_tuple_of : Good P w K mg base 2 "is_tuple_of" ["thing", "many", "most"] (PSp K R_is_tuple_of)) : Good P w K mg base 3 "need_rows" ["rows", "spot", "many"] (PSp K R_need_rows) := by
  refine good_of2 T.F_need_rows sc_need_rows (R := R_need_rows) (fun ds d h => ?_) (fun _ _ _ _ _ _ us hl => match us, hl with | [_, _, _], _ => rfl) fun cdv A outer s H E hr => ⟨_, (pss_one (ps_for PassesOwn.never rfl (enumK K (by rfl) T.m_enumerate (pa_cons (pv 0) pa_nil)) (gtK (n := 2) K rfl (pgs_cons (pg_name (i := 3) sc_need_rows.nd rfl (by first | exact Or.inl rfl | exact Or.inr rfl)) (pgs_cons (pg_name (i := 4) sc_need_rows.nd rfl (by first | exact Or.inl rfl | exact Or.inr rfl)) pgs_nil)))
      (pss_one (ps_if (pt_not (pt_val (pe_cg g_is_tuple_of (hr.mono (by decide)) (by rfl) (pa_cons (pv 4) (pa_cons (pv 2) (pa_cons (pe_op op_sub (pv 2) pe_int) pa_nil))))))
      (pss_one ps_never)
      pss_nil)))), fun ds d h => ?_⟩
  · obtain ⟨_, _, _, _, _, _, _, rfl, _⟩ := h; rfl
  · obtain ⟨m, spot, many, h1, h8, hm, hr, rfl, rfl⟩ := h
    refine .inr ⟨rfl, [some (mD m), some (nD spot), some (nD many), none, none], ?_⟩
    refine sv_for (us := [3, 4]) (fun _ => [some (mD m), some (nD spot), some (nD many), none, none]) (iv_enumT (ev_var rfl)) (leE_refl _) fun i d hd => ?_
    obtain ⟨e, he, rfl⟩ := zip_at hd
    rw [List.getElem?_map] at he
    obtain ⟨r, hr1, rfl⟩ : ∃ r, m[i]? = some r ∧ e = tD r := by
      cases q : m[i]? with
      | none => rw [q] at he; cases he
      | some r => rw [q] at he; exact ⟨r, rfl, (Option.some.inj he).symm⟩
    obtain ⟨hr2, hr3⟩ := hr r (List.mem_of_getElem? hr1)
    refine ⟨_, gv_tup rfl (gsv_cons (gv_name (by simp)) (gsv_cons (gv_name (by simp)) gsv_nil)), ?_⟩
    refine SV.to (sv_no (et_not (et_test (x := true) (ev_call (R := R_is_tuple_of) (ea_cons (ev_var rfl) (ea_cons (ev_var rfl) (ea_cons (less1 (ev_var rfl) h1) ea_nil))) ⟨r, many - 1, by omega, fun x hx => ?_, by rw [hr2], rfl⟩))) sv_next) ⟨rfl, rfl, rfl, trivial⟩
    have := hr3 x hx
    omega
theorem good_come_in (T : Txt w K mg) (g_come_by : Good P w K mg base 2 "come_by" ["kind", "numbers"] (PSp K R_come_by)) : Good P w K mg base 3 "come_in" ["kind"] (PSp K R_come_in) := by
  refine good_of2 T.F_come_in sc_come_in (R := R_come_in) (fun ds d h => ?_) (fun _ _ _ _ _ _ us hl => match us, hl with | [_], _ => rfl) fun cdv A outer s H E hr => ⟨_, (pss_one (ps_ret (pe_cg g_come_by (hr.mono (by decide)) (by rfl) (pa_cons (pv 0) (pa_cons (pe_listRg rfl (by rfl) T.m_list (prg_1 (by rfl) T.m_range (pe_callB (lenK K) (by rfl) T.m_len boot_len (pa_cons (pe_ix (ixK K) (pv 0) pe_int (fun _ _ => rfl)) pa_nil)))) pa_nil))))), fun ds d h => ?_⟩
  · obtain ⟨_, _, rfl, _⟩ := h; rfl
  · obtain ⟨k, L, rfl, rfl⟩ := h
    have l4 := L.ups4
    exact .inl (sv_ret (ev_call (R := R_come_by) (ea_cons (ev_var rfl) (ea_cons (ev_rgN (ev_lenM (ev_k1 (ev_var rfl))) (by omega)) ea_nil)) ⟨k, L, rfl, rfl⟩))
theorem good_need_come (T : Txt w K mg) (g_is_between : Good P w K mg base 1 "is_between" ["thing", "least", "most"] (PSp K R_is_between)) (g_come_in : Good P w K mg base 3 "come_in" ["kind"] (PSp K R_come_in)) : Good P w K mg base 4 "need_come" ["kind", "state"] (PSp K R_need_come) := by
  refine good_of2 T.F_need_come sc_need_come (R := R_need_come) (fun ds d h => ?_) (fun _ _ _ _ _ _ us hl => match us, hl with | [_, _], _ => rfl) fun cdv A outer s H E hr => ⟨_, (pss_one (ps_if (PW.pt (pw_or (pt_not (pt_val (pe_cg g_is_between (hr.mono (by decide)) (by rfl) (pa_cons (pv 1) (pa_cons pe_int (pa_cons (pe_op op_sub (pe_callB (lenK K) (by rfl) T.m_len boot_len (pa_cons (pe_ix (ixK K) (pv 0) pe_int (fun _ _ => rfl)) pa_nil)) pe_int) pa_nil)))))) (pw_or1 (pt_cmpR (niK K) (pv 1) (pe_cg g_come_in (hr.mono (by decide)) (by rfl) (pa_cons (pv 0) pa_nil)) (by rfl)))))
      (pss_one ps_never)
      pss_nil)), fun ds d h => ?_⟩
  · obtain ⟨_, _, _, _, rfl, _⟩ := h; rfl
  · obtain ⟨k, s, L, hs, rfl, rfl⟩ := h
    have hn := come_lt L hs
    refine .inr ⟨rfl, _, sv_no ?_ sv_next⟩
    have h1 := L.n1
    refine (et_or (et_not (et_test (x := true) (ev_call (R := R_is_between) (ea_cons (ev_var rfl) (ea_cons ev_nat (ea_cons (less1 (ev_lenN (ev_k3 (ev_var rfl))) h1) ea_nil))) ⟨s, k.n - 1, by omega, rfl, rfl⟩))) fun _ => et_test (ev_op (ev_var rfl) (ev_call (R := R_come_in) (ea_cons (ev_var rfl) ea_nil) ⟨k, L, rfl, rfl⟩) r2_niN)).is ?_
    rw [decide_eq_false (fun z => z hs)]
    rfl
end
end G6
namespace G6
open PySem PySem.Spec PyProof.Rows L2
section
variable {P : Program} {w : World} {K : PySem.W.Frag} {mg : Str → Option Value} {base : Heap}
theorem chain_in {n a b : Nat} {ρ : Env6} {ta : TE} (h : EV K ta ρ (nD n)) (h1 : a ≤ n) (h2 : n ≤ b) : ET K (tNot (tTest (tChain (rI0 fun i j => .bl (decide (i ≤ j))) (rI0 fun i j => .bl (decide (i ≤ j))) (tC (.int (a : Int))) ta (tC (.int (b : Int)))))) ρ false :=
  (et_not (et_test (ev_chain ev_nat h r2_leN (fun _ => ev_nat) (fun _ => r2_leN)))).is (by
    rw [decide_eq_true h1, decide_eq_true h2]
    rfl)
theorem not_tup {ds : List PyData} {ρ : Env6} {ta : TE} (h : EV K ta ρ (.tuple ds)) : ET K (tNot (tTest (tCB (rIsi K) (tCons ta (tCons (tC (.ty "tuple")) tNil))))) ρ false :=
  et_not (et_test (x := true) (ev_isiT h (by decide +kernel)))
theorem ne_no {n : Nat} {ρ : Env6} {ta tb : TE} (h : EV K ta ρ (nD n)) (h2 : EV K tb ρ (nD n)) : ET K (tTest (tOp rNe ta tb)) ρ false :=
  et_test ((ev_op h h2 r2_neN).is (by rw [decide_eq_false fun z => z rfl]))
theorem or_no {ρ : Env6} {t u : TT} (h : ET K t ρ false) (h2 : ET K u ρ false) : ET K (tOr t u) ρ false := et_or h fun _ => h2
theorem good_need_kind (T : Txt w K mg) (g_need_rows : Good P w K mg base 3 "need_rows" ["rows", "spot", "many"] (PSp K R_need_rows)) (g_is_between : Good P w K mg base 1 "is_between" ["thing", "least", "most"] (PSp K R_is_between)) : Good P w K mg base 4 "need_kind" ["kind"] (PSp K R_need_kind) := by
  refine good_of2 T.F_need_kind sc_need_kind (R := R_need_kind) (fun ds d h => ?_) (fun _ _ _ _ _ _ us hl => match us, hl with | [_], _ => rfl) fun cdv A outer s H E hr => ⟨_, (pss_cons (ps_if (PW.pt (pw_or (pt_not (pt_val (pe_callB (isiK K) (by rfl) T.m_isinstance boot_isinstance (pa_cons (pv 0) (pa_cons (pe_bltn (v := .ty "tuple") (by rfl) T.m_tuple boot_tuple rfl) pa_nil))))) (pw_or1 (pt_cmpR op_ne (pe_callB (lenK K) (by rfl) T.m_len boot_len (pa_cons (pv 0) pa_nil)) pe_int (nomark _)))))
      (pss_one ps_never)
      pss_nil)
      (pss_cons (ps_asg (pv 0) (gtK (n := 4) K rfl (pgs_cons (pg_name (i := 1) sc_need_kind.nd rfl (by first | exact Or.inl rfl | exact Or.inr rfl)) (pgs_cons (pg_name (i := 2) sc_need_kind.nd rfl (by first | exact Or.inl rfl | exact Or.inr rfl)) (pgs_cons (pg_name (i := 3) sc_need_kind.nd rfl (by first | exact Or.inl rfl | exact Or.inr rfl)) (pgs_cons (pg_name (i := 4) sc_need_kind.nd rfl (by first | exact Or.inl rfl | exact Or.inr rfl)) pgs_nil))))))
      (pss_cons (ps_if (PW.pt (pw_or (pt_not (pt_val (pe_callB (isiK K) (by rfl) T.m_isinstance boot_isinstance (pa_cons (pv 4) (pa_cons (pe_bltn (v := .ty "tuple") (by rfl) T.m_tuple boot_tuple rfl) pa_nil))))) (pw_or1 (pt_not (pt_chain op_le op_le pe_int (pe_callB (lenK K) (by rfl) T.m_len boot_len (pa_cons (pv 4) pa_nil)) (pe_gi (by rfl) T.i_MOST_STATES))))))
      (pss_one ps_never)
      pss_nil)
      (pss_cons (ps_for PassesOwn.never rfl (enumK K (by rfl) T.m_enumerate (pa_cons (pv 4) pa_nil)) (gtK (n := 2) K rfl (pgs_cons (pg_name (i := 5) sc_need_kind.nd rfl (by first | exact Or.inl rfl | exact Or.inr rfl)) (pgs_cons (pg_name (i := 6) sc_need_kind.nd rfl (by first | exact Or.inl rfl | exact Or.inr rfl)) pgs_nil)))
      (pss_one (ps_if (pt_not (pt_val (pe_cg g_is_between (hr.mono (by decide)) (by rfl) (pa_cons (pv 6) (pa_cons pe_int (pa_cons (pe_gi (by rfl) T.i_MOST_READ) pa_nil))))))
      (pss_one ps_never)
      pss_nil)))
      (pss_cons (ps_set (i := 7) sc_need_kind.nd rfl (by first | exact Or.inl rfl | exact Or.inr rfl) (pe_callB (lenK K) (by rfl) T.m_len boot_len (pa_cons (pv 4) pa_nil)))
      (pss_cons (ps_if (pt_not (pt_val (pe_cg g_is_between (hr.mono (by decide)) (by rfl) (pa_cons (pv 1) (pa_cons pe_int (pa_cons (pe_op op_sub (pv 7) pe_int) pa_nil))))))
      (pss_one ps_never)
      pss_nil)
      (pss_cons (ps_if (PW.pt (pw_or (pt_not (pt_val (pe_callB (isiK K) (by rfl) T.m_isinstance boot_isinstance (pa_cons (pv 2) (pa_cons (pe_bltn (v := .ty "tuple") (by rfl) T.m_tuple boot_tuple rfl) pa_nil))))) (pw_or1 (pt_not (pt_chain op_le op_le pe_int (pe_callB (lenK K) (by rfl) T.m_len boot_len (pa_cons (pv 2) pa_nil)) (pe_gi (by rfl) T.i_MOST_UPDATES))))))
      (pss_one ps_never)
      pss_nil)
      (pss_cons (ps_expr (pe_cg g_need_rows (hr.mono (by decide)) (by rfl) (pa_cons (pv 2) (pa_cons pe_int (pa_cons (pv 7) pa_nil)))))
      (pss_cons (ps_if (PW.pt (pw_or (pt_not (pt_val (pe_callB (isiK K) (by rfl) T.m_isinstance boot_isinstance (pa_cons (pv 3) (pa_cons (pe_bltn (v := .ty "tuple") (by rfl) T.m_tuple boot_tuple rfl) pa_nil))))) (pw_or1 (pt_cmpR op_ne (pe_callB (lenK K) (by rfl) T.m_len boot_len (pa_cons (pv 3) pa_nil)) (pv 7) (nomark _)))))
      (pss_one ps_never)
      pss_nil)
      (pss_cons (ps_expr (pe_cg g_need_rows (hr.mono (by decide)) (by rfl) (pa_cons (pv 3) (pa_cons pe_int (pa_cons (pv 7) pa_nil)))))
      (pss_one (ps_ret (pv 0))))))))))))), fun ds d h => ?_⟩
  · obtain ⟨_, _, rfl, _⟩ := h; rfl
  · obtain ⟨k, L, rfl, rfl⟩ := h
    have h1 := L.n1
    have h8 := L.n8
    have e0 := L.st_lt
    have em := L.mgL
    refine .inl ?_
    refine sv_seq (sv_no (or_no (not_tup (ev_var rfl)) (ne_no (n := 4) (ev_lenT (ds := [nD k.st, mD k.ups, mD k.mg, tD k.rd]) (ev_var rfl)) ev_nat)) sv_next) ?_
    refine sv_seq (sv_asg (ev_var rfl) (gv_tup (ts := [1, 2, 3, 4]) rfl (gsv_cons (gv_name (by simp)) (gsv_cons (gv_name (by simp)) (gsv_cons (gv_name (by simp)) (gsv_cons (gv_name (by simp)) gsv_nil)))))) ?_
    refine sv_seq (sv_no (or_no (not_tup (ev_var rfl)) (chain_in (a := 1) (b := 8) (ev_lenN (ev_var rfl)) h1 h8)) sv_next) ?_
    refine sv_seq (sv_for (us := [5, 6]) (fun _ => [some (kD k), some (nD k.st), some (mD k.ups), some (mD k.mg), some (tD k.rd), none, none, none]) (iv_enumT (ev_var rfl)) (by exact ⟨rfl, rfl, rfl, rfl, rfl, trivial⟩) fun i d hd => ?_) ?_
    · obtain ⟨e, he, rfl⟩ := zip_at hd
      rw [List.getElem?_map] at he
      obtain ⟨r, hr1, rfl⟩ : ∃ r, k.rd[i]? = some r ∧ e = nD r := by
        cases q : k.rd[i]? with
        | none => rw [q] at he; cases he
        | some r => rw [q] at he; exact ⟨r, rfl, (Option.some.inj he).symm⟩
      refine ⟨_, gv_tup rfl (gsv_cons (gv_name (by simp)) (gsv_cons (gv_name (by simp)) gsv_nil)), ?_⟩
      exact SV.to (sv_no (et_not (et_test (x := true) (ev_call (R := R_is_between) (ea_cons (ev_var rfl) (ea_cons ev_nat (ea_cons ev_nat ea_nil))) ⟨r, 9, L.rdR r (List.mem_of_getElem? hr1), rfl, rfl⟩))) sv_next) ⟨rfl, rfl, rfl, rfl, rfl, trivial⟩
    refine sv_seq (sv_set (ev_lenN (ev_var rfl))) ?_
    refine sv_seq (sv_no (et_not (et_test (x := true) (ev_call (R := R_is_between) (ea_cons (ev_var rfl) (ea_cons ev_nat (ea_cons (less1 (ev_var rfl) h1) ea_nil))) ⟨k.st, k.n - 1, by omega, rfl, rfl⟩))) sv_next) ?_
    refine sv_seq (sv_no (or_no (not_tup (ev_var rfl)) (chain_in (a := 1) (b := 4) (ev_lenM (ev_var rfl)) L.ups1 L.ups4)) sv_next) ?_
    refine sv_seq (sv_drop (ev_call (R := R_need_rows) (ea_cons (ev_var rfl) (ea_cons ev_nat (ea_cons (ev_var rfl) ea_nil))) ⟨k.ups, 1, k.n, h1, h8, by have := L.ups4; omega, L.upsR, rfl, rfl⟩)) ?_
    refine sv_seq (sv_no (or_no (not_tup (ev_var rfl)) (ne_no (n := k.n) ((ev_lenM (ev_var rfl)).is (by rw [em])) (ev_var rfl))) sv_next) ?_
    refine sv_seq (sv_drop (ev_call (R := R_need_rows) (ea_cons (ev_var rfl) (ea_cons ev_nat (ea_cons (ev_var rfl) ea_nil))) ⟨k.mg, 2, k.n, h1, h8, by omega, L.mgR, rfl, rfl⟩)) ?_
    exact sv_ret (ev_var rfl)
end
end G6
namespace G6
open PySem PySem.Spec PyProof.Rows L2
section
variable {P : Program} {w : World} {K : PySem.W.Frag} {mg : Str → Option Value} {base : Heap}
theorem R1V_neg1 {K : PySem.W.Frag} : R1V K (rU fun i => .int (-i)) (.int 1) (.int (-1)) := fun W x H o hx Q q => ⟨1, hx.int_iff, q _ H (Same.refl H) (.int (-1))⟩
theorem sv_yesR {K : PySem.W.Frag} {ρ : Env6} {t : TT} {tu tw ts : TS} {d : PyData} (h : ET K t ρ true) (h2 : SV K tu ρ (.rt d)) : SV K (tSeq (tIfS t tu tw) ts) ρ (.rt d) := sv_seqR (sv_yes h h2)
theorem half_len {K : PySem.W.Frag} {ρ : Env6} {ta : TE} {xs : List Nat} (h : EV K ta ρ (tD xs)) : EV K (tOp (rI CDiv fun i j => .int (i / j)) (tCB (rLenK K) (tCons ta tNil)) (tC (.int 2))) ρ (nD (xs.length / 2)) := ev_op (ev_lenN h) ev_int (r2_fdiv (j := 2) ⟨by decide, by decide⟩)
theorem ev_sizes {w : World} {K : PySem.W.Frag} {mg : Str → Option Value} (T : Txt w K mg) {ρ : Env6} {tb : TE} {r : Str} (hr : RuleS r) (h : EV K tb ρ (.str r)) : EV K (tOp (rIxD K w) (tC (.ref (He.ga K "SIZES"))) tb) ρ (nD (sizeS r)) := fun W σ H o E Q q => by
  refine h W σ H o E _ fun y H2 s2 y2 => ?_
  refine ⟨_, r, .int (sizeS r : Int), rfl, y2.str_iff, ?_, q _ H2 s2 (.int _)⟩
  rcases hr with rfl | rfl | rfl | rfl
  · exact T.sizes ("start", .int 1) (by simp)
  · exact T.sizes ("twice", .int 1) (by simp)
  · exact T.sizes ("turn", .int 2) (by simp)
  · exact T.sizes ("group", .int 3) (by simp)
theorem good_does_break (T : Txt w K mg)  : Good P w K mg base 1 "does_break" ["kind", "rule", "states"] (PSp K R_does_break) := by
  refine good_of2 T.F_does_break sc_does_break (R := R_does_break) (fun ds d h => ?_) (fun _ _ _ _ _ _ us hl => match us, hl with | [_, _, _], _ => rfl) fun cdv A outer s H E hr => ⟨_, (pss_cons (ps_asg (pv 0) (gtK (n := 4) K rfl (pgs_cons (pg_name (i := 3) sc_does_break.nd rfl (by first | exact Or.inl rfl | exact Or.inr rfl)) (pgs_cons (pg_name (i := 4) sc_does_break.nd rfl (by first | exact Or.inl rfl | exact Or.inr rfl)) (pgs_cons (pg_name (i := 5) sc_does_break.nd rfl (by first | exact Or.inl rfl | exact Or.inr rfl)) (pgs_cons (pg_name (i := 6) sc_does_break.nd rfl (by first | exact Or.inl rfl | exact Or.inr rfl)) pgs_nil))))))
      (pss_cons (ps_par3 (i := 7) (j := 8) (l := 9) (by rfl) sc_does_break.nd rfl rfl rfl (by decide) (by decide) (by decide) rfl rfl rfl (pa_cons (pe_ix (ixK K) (pv 2) pe_int (fun _ _ => rfl)) (pa_cons (pe_ix (ixK K) (pv 2) (pe_un un_neg pe_int) (fun _ _ => rfl)) (pa_cons (pe_ix (ixK K) (pv 2) (pe_op op_fdiv (pe_callB (lenK K) (by rfl) T.m_len boot_len (pa_cons (pv 2) pa_nil)) pe_int) (fun _ _ => rfl)) pa_nil))) (by rfl))
      (pss_cons (ps_if (pt_cmpR op_eq (pv 1) (pe_gs (by rfl) T.s_START) (nomark _))
      (pss_one (ps_ret (pe_or (pe_cmpR op_ne (pe_ix (ixK K) (pe_ix (ixK K) (pv 5) (pv 7) (fun _ _ => rfl)) (pv 3) (fun _ _ => rfl)) (pv 7) (nomark _)) (pe_one (pe_cmpR op_ne (pe_ix (ixK K) (pe_ix (ixK K) (pv 5) (pv 3) (fun _ _ => rfl)) (pv 7) (fun _ _ => rfl)) (pv 7) (nomark _))))))
      pss_nil)
      (pss_cons (ps_if (pt_cmpR op_eq (pv 1) (pe_gs (by rfl) T.s_TWICE) (nomark _))
      (pss_one (ps_ret (pe_cmpR op_ne (pe_ix (ixK K) (pe_ix (ixK K) (pv 5) (pv 7) (fun _ _ => rfl)) (pv 7) (fun _ _ => rfl)) (pv 7) (nomark _))))
      pss_nil)
      (pss_cons (ps_if (pt_cmpR op_eq (pv 1) (pe_gs (by rfl) T.s_TURN) (nomark _))
      (pss_one (ps_ret (pe_cmpR op_ne (pe_ix (ixK K) (pe_ix (ixK K) (pv 5) (pv 7) (fun _ _ => rfl)) (pv 8) (fun _ _ => rfl)) (pe_ix (ixK K) (pe_ix (ixK K) (pv 5) (pv 8) (fun _ _ => rfl)) (pv 7) (fun _ _ => rfl)) (nomark _))))
      pss_nil)
      (pss_cons (ps_if (pt_cmpR op_eq (pv 1) (pe_gs (by rfl) T.s_AGAIN) (nomark _))
      (pss_one (ps_ret (pe_cmpR op_ne (pe_ix (ixK K) (pe_ix (ixK K) (pv 5) (pe_ix (ixK K) (pe_ix (ixK K) (pv 5) (pv 7) (fun _ _ => rfl)) (pv 8) (fun _ _ => rfl)) (fun _ _ => rfl)) (pv 8) (fun _ _ => rfl)) (pe_ix (ixK K) (pe_ix (ixK K) (pv 5) (pv 7) (fun _ _ => rfl)) (pv 8) (fun _ _ => rfl)) (nomark _))))
      pss_nil)
      (pss_one (ps_ret (pe_cmpR op_ne (pe_ix (ixK K) (pe_ix (ixK K) (pv 5) (pe_ix (ixK K) (pe_ix (ixK K) (pv 5) (pv 7) (fun _ _ => rfl)) (pv 9) (fun _ _ => rfl)) (fun _ _ => rfl)) (pv 8) (fun _ _ => rfl)) (pe_ix (ixK K) (pe_ix (ixK K) (pv 5) (pv 7) (fun _ _ => rfl)) (pe_ix (ixK K) (pe_ix (ixK K) (pv 5) (pv 9) (fun _ _ => rfl)) (pv 8) (fun _ _ => rfl)) (fun _ _ => rfl)) (nomark _)))))))))), fun ds d h => ?_⟩
  · obtain ⟨_, _, _, _, _, _, _, rfl, _⟩ := h; rfl
  · obtain ⟨k, r, xs, L, hr, hx, hl, rfl, rfl⟩ := h
    refine .inl ?_
    have l0 : 0 < xs.length := by rw [hl]; unfold sizeS; split <;> (try split) <;> (try split) <;> omega
    have hn : xs ≠ [] := fun e => by rw [e] at l0; cases l0
    have g0 : xs.getD 0 0 < k.n := hx _ (getD_mem l0)
    have gm : xs.getD (xs.length / 2) 0 < k.n := hx _ (getD_mem (by omega))
    have gl : xs.getLastD 0 < k.n := by
      rw [List.getLastD_eq_getLast?, List.getLast?_eq_some_getLast hn]
      exact hx _ (List.getLast_mem hn)
    refine sv_seq (sv_asg (ev_var rfl) (gv_tup (ts := [3, 4, 5, 6]) rfl (gsv_cons (gv_name (by simp)) (gsv_cons (gv_name (by simp)) (gsv_cons (gv_name (by simp)) (gsv_cons (gv_name (by simp)) gsv_nil)))))) ?_
    refine sv_seq (sv_par3 (ea_cons (ev_op (ev_var rfl) (ev_nat (n := 0)) (r2_ixN l0)) (ea_cons (ev_op (ev_var rfl) (ev_un ev_int (R1V_neg1)) (r2_ixLast hn)) (ea_cons (ev_op (ev_var rfl) (half_len (ev_var rfl)) (r2_ixN (by omega))) ea_nil)))) ?_
    generalize xs.getD 0 0 = a at *
    generalize xs.getLastD 0 = b at *
    generalize xs.getD (xs.length / 2) 0 = c at *
    have cm := L.comm a k.st g0 L.st_lt
    rcases hr with rfl | rfl | rfl | rfl
    · refine sv_yesR (et_test ((ev_op (ev_var rfl) ev_str r2_eqS).is (congrArg PyData.bool (by decide +kernel))) ) (sv_ret ?_)
      refine (ev_orV (ev_op (ev_J L (ev_var rfl) (ev_var rfl) (ev_var rfl) g0 L.st_lt) (ev_var rfl) r2_neN) fun _ => ev_op (ev_J L (ev_var rfl) (ev_var rfl) (ev_var rfl) L.st_lt g0) (ev_var rfl) r2_neN).is ?_
      rw [cm, L.unit a g0]
      simp
    · refine sv_seq (sv_no (et_test ((ev_op (ev_var rfl) ev_str r2_eqS).is (congrArg PyData.bool (by decide +kernel)))) sv_next) ?_
      refine sv_yesR (et_test ((ev_op (ev_var rfl) ev_str r2_eqS).is (congrArg PyData.bool (by decide +kernel))) ) (sv_ret ?_)
      refine (ev_op (ev_J L (ev_var rfl) (ev_var rfl) (ev_var rfl) g0 g0) (ev_var rfl) r2_neN).is ?_
      rw [L.idem a g0]
      simp
    · refine sv_seq (sv_no (et_test ((ev_op (ev_var rfl) ev_str r2_eqS).is (congrArg PyData.bool (by decide +kernel)))) sv_next) ?_
      refine sv_seq (sv_no (et_test ((ev_op (ev_var rfl) ev_str r2_eqS).is (congrArg PyData.bool (by decide +kernel)))) sv_next) ?_
      refine sv_yesR (et_test ((ev_op (ev_var rfl) ev_str r2_eqS).is (congrArg PyData.bool (by decide +kernel))) ) (sv_ret ?_)
      refine (ev_op (ev_J L (ev_var rfl) (ev_var rfl) (ev_var rfl) g0 gl) (ev_J L (ev_var rfl) (ev_var rfl) (ev_var rfl) gl g0) r2_neN).is ?_
      rw [L.comm a b g0 gl]
      simp
    · refine sv_seq (sv_no (et_test ((ev_op (ev_var rfl) ev_str r2_eqS).is (congrArg PyData.bool (by decide +kernel)))) sv_next) ?_
      refine sv_seq (sv_no (et_test ((ev_op (ev_var rfl) ev_str r2_eqS).is (congrArg PyData.bool (by decide +kernel)))) sv_next) ?_
      refine sv_seq (sv_no (et_test ((ev_op (ev_var rfl) ev_str r2_eqS).is (congrArg PyData.bool (by decide +kernel)))) sv_next) ?_
      refine sv_seq (sv_no (et_test ((ev_op (ev_var rfl) ev_str r2_eqS).is (congrArg PyData.bool (by decide +kernel)))) sv_next) (sv_ret ?_)
      refine (ev_op (ev_J L (ev_var rfl) (ev_J L (ev_var rfl) (ev_var rfl) (ev_var rfl) g0 gm) (ev_var rfl) (L.J_lt g0 gm) gl) (ev_J L (ev_var rfl) (ev_var rfl) (ev_J L (ev_var rfl) (ev_var rfl) (ev_var rfl) gm gl) g0 (L.J_lt gm gl)) r2_neN).is ?_
      rw [L.assoc a c b g0 gm gl]
      simp
theorem good_rows_over (T : Txt w K mg)  : Good P w K mg base 1 "rows_over" ["some", "many"] (PSp K R_rows_over) := by
  refine good_of2 T.F_rows_over sc_rows_over (R := R_rows_over) (fun ds d h => ?_) (fun _ _ _ _ _ _ us hl => match us, hl with | [_, _], _ => rfl) fun cdv A outer s H E hr => ⟨_, (pss_cons (ps_set (i := 2) sc_rows_over.nd rfl (by first | exact Or.inl rfl | exact Or.inr rfl) (pe_lst (pa_cons (pe_tup pa_nil) pa_nil)))
      (pss_cons (ps_for PassesOwn.never rfl (pi_range1 (by rfl) T.m_range (pa_cons (pv 1) pa_nil)) (pg_name (i := 3) sc_rows_over.nd rfl (by first | exact Or.inl rfl | exact Or.inr rfl))
      (pss_one (ps_setLc2 (i := 2) (own := [("row", 4), ("one", 5)]) rfl sc_rows_over.nd rfl rfl (sw_true rfl rfl rfl (by decide +kernel)) (piK K (pv 2)) (blkOk_by (own := [("row", 4), ("one", 5)]) (by kernel_rfl)) (vs1 := [5]) (by decide) (fun _ _ _ _ _ => (pg_name (i := 4) sc_rows_over.nd rfl (by first | exact Or.inl rfl | exact Or.inr rfl))) (fun _ _ _ _ _ => pts_nil) (fun _ _ _ _ _ => (piK K (pv 0))) (fun _ _ _ _ _ => (pg_name (i := 5) sc_rows_over.nd rfl (by first | exact Or.inl rfl | exact Or.inr rfl))) (fun _ _ _ _ _ => pts_nil) (fun _ _ _ _ _ => (pe_tup (starK K (pv 4) (pa_cons (pv 5) pa_nil)))))))
      (pss_one (ps_ret (pv 2))))), fun ds d h => ?_⟩
  · obtain ⟨_, _, _, _, rfl, _⟩ := h; rfl
  · obtain ⟨xs, n, h8, h3, rfl, rfl⟩ := h
    refine .inl (sv_seq (sv_set (ev_lst (ea_cons (ev_tup ea_nil (by decide)) ea_nil) (by decide))) ?_)
    refine sv_seq (sv_forN (us := [3]) (fun i => [some (lD xs), some (nD n), some (.list ((rowsN xs i).map tD)), none, none, none]) (iv_rgN (ev_var rfl) (by omega)) (by exact ⟨rfl, rfl, rfl, trivial⟩) fun i x hx => ?_) ?_
    · have hi : i < n := by
        have := (List.getElem?_eq_some_iff.mp hx).1
        rwa [List.length_range] at this
      refine ⟨_, gv_name (by simp), ?_⟩
      have hl := rowsN_len h8 i (by omega)
      have h512 : 8 ^ i ≤ 8 ^ 2 := Nat.pow_le_pow_right (by omega) (by omega)
      refine SV.to (sv_set ((ev_lc2 (α := List Nat) (β := Nat) (xs := rowsN xs i) (enc := tD) (ys := fun _ => xs) (enc1 := fun _ => nD) (fun _ _ => true) (fun row one => tD (row ++ [one])) (iv_L (ev_var rfl)) (by omega) (fun _ => by omega) fun row hrow => ⟨_, gv_name (by simp), iv_L (ev_var rfl), fun one hone => ⟨_, gv_name (by simp), et_yes, fun _ => ?_⟩⟩).is ?_)) ⟨rfl, rfl, rfl, trivial⟩
      · refine (ev_tup (ea_starT (ds := row.map nD) (ev_var rfl) (ea_cons (ev_var rfl) ea_nil)) ?_).is ?_
        · have := (rowsN_mem i row hrow).1
          rw [List.length_append, List.length_map, this]
          exact Nat.le_trans (m := 10) (by show i + 1 ≤ 10; omega) (by decide)
        · show PyData.tuple _ = PyData.tuple _
          rw [List.map_append]
          rfl
      · congr 1
        show _ = ((rowsN xs i).flatMap fun row => xs.map fun one => row ++ [one]).map tD
        rw [List.map_flatMap]
        congr 1
        funext row
        rw [filter_all, List.map_map]
        rfl
    · rw [List.length_range]
      exact sv_ret (ev_var rfl)
theorem good_first_broken (T : Txt w K mg) (g_rows_over : Good P w K mg base 1 "rows_over" ["some", "many"] (PSp K R_rows_over)) (g_does_break : Good P w K mg base 1 "does_break" ["kind", "rule", "states"] (PSp K R_does_break)) : Good P w K mg base 2 "first_broken" ["kind", "rule", "some"] (PSp K R_first_broken) := by
  refine good_of2 T.F_first_broken sc_first_broken (R := R_first_broken) (fun ds d h => ?_) (fun _ _ _ _ _ _ us hl => match us, hl with | [_, _, _], _ => rfl) fun cdv A outer s H E hr => ⟨_, (pss_cons (ps_for PassesOwn.never rfl (piK K (pe_cg g_rows_over (hr.mono (by decide)) (by rfl) (pa_cons (pv 2) (pa_cons (pe_ix (ixDK K w) (pe_glob (v := .ref (He.ga K "SIZES")) (by rfl) T.r_SIZES rfl) (pv 1) (fun _ _ => rfl)) pa_nil)))) (pg_name (i := 3) sc_first_broken.nd rfl (by first | exact Or.inl rfl | exact Or.inr rfl))
      (pss_one (ps_if (pt_val (pe_cg g_does_break (hr.mono (by decide)) (by rfl) (pa_cons (pv 0) (pa_cons (pv 1) (pa_cons (pv 3) pa_nil)))))
      (pss_one (ps_ret (pv 3)))
      pss_nil)))
      (pss_one (ps_ret pe_non))), fun ds d h => ?_⟩
  · obtain ⟨_, _, _, _, rfl, _⟩ := h; rfl
  · obtain ⟨k, r, L, hr, rfl, rfl⟩ := h
    have h8 := come_len L
    have hs3 : sizeS r ≤ 3 := by unfold sizeS; split <;> (try split) <;> (try split) <;> omega
    refine .inl (sv_seq (sv_forN (us := [3]) (xs := rowsN (come k) (sizeS r)) (enc := tD) (fun i => [some (kD k), some (.str r), some (lD (come k)), none]) (iv_L (ev_call (R := R_rows_over) (ea_cons (ev_var rfl) (ea_cons (ev_sizes T hr (ev_var rfl)) ea_nil)) ⟨come k, sizeS r, h8, hs3, rfl, rfl⟩)) (by exact ⟨rfl, rfl, rfl, trivial⟩) fun i x hx => ?_) (sv_ret ev_non))
    obtain ⟨h1, h2⟩ := rowsN_mem _ x (List.mem_of_getElem? hx)
    refine ⟨_, gv_name (by simp), SV.to (sv_no (et_test (ev_call (R := R_does_break) (ea_cons (ev_var rfl) (ea_cons (ev_var rfl) (ea_cons (ev_var rfl) ea_nil))) ⟨k, r, x, L, hr, fun y hy => come_lt L (h2 y hy), h1, rfl, rfl⟩)) sv_next) ⟨rfl, rfl, rfl, trivial⟩⟩
theorem good_broken_in (T : Txt w K mg) (g_first_broken : Good P w K mg base 2 "first_broken" ["kind", "rule", "some"] (PSp K R_first_broken)) : Good P w K mg base 3 "broken_in" ["kind", "rules", "some"] (PSp K R_broken_in) := by
  refine good_of2 T.F_broken_in sc_broken_in (R := R_broken_in) (fun ds d h => ?_) (fun _ _ _ _ _ _ us hl => match us, hl with | [_, _, _], _ => rfl) fun cdv A outer s H E hr => ⟨_, (pss_one (ps_ret (pe_lc (own := [("rule", 3)]) rfl sc_broken_in.nd (piK K (pv 1)) (blkOk_by (own := [("rule", 3)]) (by kernel_rfl)) (fun _ _ _ _ _ => (pg_name (i := 3) sc_broken_in.nd rfl (by first | exact Or.inl rfl | exact Or.inr rfl))) (fun _ _ _ _ _ => (pts_one (pt_cmpR op_notN (pe_cg g_first_broken (hr.mono (by decide)) (by rfl) (pa_cons (pv 0) (pa_cons (pv 3) (pa_cons (pv 2) pa_nil)))) pe_non (nomark _)))) (fun _ _ _ _ _ => (pv 3))))), fun ds d h => ?_⟩
  · obtain ⟨_, _, rfl, _⟩ := h; rfl
  · obtain ⟨k, L, rfl, rfl⟩ := h
    refine .inl (sv_ret ((ev_lc (α := Str) (xs := (["start", "twice", "turn", "group"] : List Str)) (enc := .str) (fun _ => false) (fun r => .str r) (iv_T (ev_var rfl)) (by decide) fun r hr => ⟨_, gv_name (by simp), et_test (ev_op (ev_call (R := R_first_broken) (ea_cons (ev_var rfl) (ea_cons (ev_var rfl) (ea_cons (ev_var rfl) ea_nil))) ⟨k, r, L, by simpa [RuleS] using hr, rfl, rfl⟩) ev_non r2_notN_non), fun z => nomatch z⟩).is rfl))
theorem good_need_joins (T : Txt w K mg) (g_broken_in : Good P w K mg base 3 "broken_in" ["kind", "rules", "some"] (PSp K R_broken_in)) (g_need_kind : Good P w K mg base 4 "need_kind" ["kind"] (PSp K R_need_kind)) (g_come_in : Good P w K mg base 3 "come_in" ["kind"] (PSp K R_come_in)) : Good P w K mg base 5 "need_joins" ["kind"] (PSp K R_need_joins) := by
  refine good_of2 T.F_need_joins sc_need_joins (R := R_need_joins) (fun ds d h => ?_) (fun _ _ _ _ _ _ us hl => match us, hl with | [_], _ => rfl) fun cdv A outer s H E hr => ⟨_, (pss_cons (ps_for PassesOwn.never rfl (piK K (pe_cg g_broken_in (hr.mono (by decide)) (by rfl) (pa_cons (pe_cg g_need_kind (hr.mono (by decide)) (by rfl) (pa_cons (pv 0) pa_nil)) (pa_cons (pe_glob (v := .ref (He.ga K "RULES")) (by rfl) T.r_RULES rfl) (pa_cons (pe_cg g_come_in (hr.mono (by decide)) (by rfl) (pa_cons (pv 0) pa_nil)) pa_nil))))) (pg_name (i := 1) sc_need_joins.nd rfl (by first | exact Or.inl rfl | exact Or.inr rfl))
      (pss_one ps_never))
      (pss_one (ps_ret (pv 0)))), fun ds d h => ?_⟩
  · obtain ⟨_, _, rfl, _⟩ := h; rfl
  · obtain ⟨k, L, rfl, rfl⟩ := h
    refine .inl (sv_seq (sv_for (us := [1]) (ds := []) (fun i => [some (kD k), none]) (iv_seqL (ev_call (R := R_broken_in) (ea_cons (ev_call (R := R_need_kind) (ea_cons (ev_var rfl) ea_nil) ⟨k, L, rfl, rfl⟩) (ea_cons (ev_con fun H => .tup (T.rules H) (.cons (.str _) (.cons (.str _) (.cons (.str _) (.cons (.str _) .nil))))) (ea_cons (ev_call (R := R_come_in) (ea_cons (ev_var rfl) ea_nil) ⟨k, L, rfl, rfl⟩) ea_nil))) ⟨k, L, rfl, rfl⟩)) (by exact ⟨rfl, trivial⟩) fun i d hd => by cases hd) (sv_ret (ev_var rfl)))
end
end G6
namespace G6
open PySem PySem.Spec PyProof.Rows L2
section
variable {P : Program} {w : World} {K : PySem.W.Frag} {mg : Str → Option Value} {base : Heap}
theorem good_at_most_in (T : Txt w K mg)  : Good P w K mg base 1 "at_most_in" ["kind", "one", "other"] (PSp K R_at_most_in) := by
  refine good_of2 T.F_at_most_in sc_at_most_in (R := R_at_most_in) (fun ds d h => ?_) (fun _ _ _ _ _ _ us hl => match us, hl with | [_, _, _], _ => rfl) fun cdv A outer s H E hr => ⟨_, (pss_one (ps_ret (pe_cmpR op_eq (pe_ix (ixK K) (pe_ix (ixK K) (pe_ix (ixK K) (pv 0) pe_int (fun _ _ => rfl)) (pv 2) (fun _ _ => rfl)) (pv 1) (fun _ _ => rfl)) (pv 2) (nomark _)))), fun ds d h => ?_⟩
  · obtain ⟨_, _, _, _, _, _, rfl, _⟩ := h; rfl
  · obtain ⟨k, a, b, L, ha, hb, rfl, rfl⟩ := h
    exact .inl (sv_ret (ev_op (ev_J L (ev_k2 (ev_var rfl)) (ev_var rfl) (ev_var rfl) hb ha) (ev_var rfl) r2_eqN))
theorem good_joined_in (T : Txt w K mg)  : Good P w K mg base 1 "joined_in" ["kind", "states"] (PSp K R_joined_in) := by
  refine good_of2 T.F_joined_in sc_joined_in (R := R_joined_in) (fun ds d h => ?_) (fun _ _ _ _ _ _ us hl => match us, hl with | [_, _], _ => rfl) fun cdv A outer s H E hr => ⟨_, (pss_cons (ps_set (i := 2) sc_joined_in.nd rfl (by first | exact Or.inl rfl | exact Or.inr rfl) (pe_ix (ixK K) (pv 0) pe_int (fun _ _ => rfl)))
      (pss_cons (ps_for PassesOwn.never rfl (piK K (pv 1)) (pg_name (i := 3) sc_joined_in.nd rfl (by first | exact Or.inl rfl | exact Or.inr rfl))
      (pss_one (ps_set (i := 2) sc_joined_in.nd rfl (by first | exact Or.inl rfl | exact Or.inr rfl) (pe_ix (ixK K) (pe_ix (ixK K) (pe_ix (ixK K) (pv 0) pe_int (fun _ _ => rfl)) (pv 2) (fun _ _ => rfl)) (pv 3) (fun _ _ => rfl)))))
      (pss_one (ps_ret (pv 2))))), fun ds d h => ?_⟩
  · obtain ⟨_, _, _, _, rfl | rfl, _⟩ := h <;> rfl
  · obtain ⟨k, xs, L, hx, h, rfl⟩ := h
    rcases h with rfl | rfl
    all_goals
      refine .inl (sv_seq (sv_set (ev_k0 (ev_var rfl))) ?_)
      refine sv_seq (sv_forN (us := [3]) (xs := xs) (enc := nD) (fun i => [some (kD k), some _, some (nD (k.join (xs.take i))), none]) (by first | exact iv_L (ev_var rfl) | exact iv_T (ev_var rfl)) (by exact ⟨rfl, rfl, rfl, trivial⟩) fun i x hi => ?_) ?_
      · have hj : k.join (xs.take i) < k.n := join_lt L fun y hy => hx y (List.mem_of_mem_take hy)
        refine ⟨_, gv_name (by simp), SV.to (sv_set (ev_J L (ev_k2 (ev_var rfl)) (ev_var rfl) (ev_var rfl) hj (hx x (List.mem_of_getElem? hi)))) ⟨rfl, rfl, ?_, trivial⟩⟩
        unfold Kd.join
        rw [List.take_add_one, hi, List.foldl_append]
        rfl
      · rw [List.take_length]
        exact sv_ret (ev_var rfl)
theorem good_below (T : Txt w K mg) (g_come_in : Good P w K mg base 3 "come_in" ["kind"] (PSp K R_come_in)) (g_need_joins : Good P w K mg base 5 "need_joins" ["kind"] (PSp K R_need_joins)) (g_at_most_in : Good P w K mg base 1 "at_most_in" ["kind", "one", "other"] (PSp K R_at_most_in)) : Good P w K mg base 6 "below" ["kind"] (PSp K R_below) := by
  refine good_of2 T.F_below sc_below (R := R_below) (fun ds d h => ?_) (fun _ _ _ _ _ _ us hl => match us, hl with | [_], _ => rfl) fun cdv A outer s H E hr => ⟨_, (pss_cons (ps_set (i := 1) sc_below.nd rfl (by first | exact Or.inl rfl | exact Or.inr rfl) (pe_cg g_come_in (hr.mono (by decide)) (by rfl) (pa_cons (pe_cg g_need_joins (hr.mono (by decide)) (by rfl) (pa_cons (pv 0) pa_nil)) pa_nil)))
      (pss_one (ps_ret (pe_callTy (tupK K) (by rfl) T.m_tuple boot_tuple (pa_cons (pe_lc2 (own := [("one", 2), ("other", 3)]) rfl sc_below.nd  (piK K (pv 1)) (blkOk_by (own := [("one", 2), ("other", 3)]) (by kernel_rfl)) (vs1 := [3]) (by decide) (fun _ _ _ _ _ => (pg_name (i := 2) sc_below.nd rfl (by first | exact Or.inl rfl | exact Or.inr rfl))) (fun _ _ _ _ _ => pts_nil) (fun _ _ _ _ _ => (piK K (pv 1))) (fun _ _ _ _ _ => (pg_name (i := 3) sc_below.nd rfl (by first | exact Or.inl rfl | exact Or.inr rfl))) (fun _ _ _ _ _ => (pts_one (PW.pt (pw_and (pt_cmpR op_ne (pv 2) (pv 3) (nomark _)) (pw_and1 (pt_val (pe_cg g_at_most_in (hr.mono (by decide)) (by rfl) (pa_cons (pv 0) (pa_cons (pv 2) (pa_cons (pv 3) pa_nil)))))))))) (fun _ _ _ _ _ => (pe_tup (pa_cons (pv 2) (pa_cons (pv 3) pa_nil))))) pa_nil))))), fun ds d h => ?_⟩
  · obtain ⟨_, _, rfl, _⟩ := h; rfl
  · obtain ⟨k, L, rfl, rfl⟩ := h
    have h8 := come_len L
    refine .inl (sv_seq (sv_set (ev_call (R := R_come_in) (ea_cons (ev_call (R := R_need_joins) (ea_cons (ev_var rfl) ea_nil) ⟨k, L, rfl, rfl⟩) ea_nil) ⟨k, L, rfl, rfl⟩)) (sv_ret (ev_tupL ?_)))
    refine (ev_lc2 (α := Nat) (β := Nat) (xs := come k) (enc := nD) (ys := fun _ => come k) (enc1 := fun _ => nD) (fun a b => decide (a ≠ b) && k.le a b) (fun a b => pD (a, b)) (iv_L (ev_var rfl)) (by omega) (fun _ => by omega) fun a ha => ⟨_, gv_name (by simp), iv_L (ev_var rfl), fun b hb => ⟨_, gv_name (by simp), et_and (et_test (ev_op (ev_var rfl) (ev_var rfl) r2_neN)) (fun _ => et_test (ev_call (R := R_at_most_in) (ea_cons (ev_var rfl) (ea_cons (ev_var rfl) (ea_cons (ev_var rfl) ea_nil))) ⟨k, a, b, L, come_lt L ha, come_lt L hb, rfl, rfl⟩)), fun _ => ev_tup (ds := [nD a, nD b]) (ea_cons (ev_var rfl) (ea_cons (ev_var rfl) ea_nil)) (by show 2 ≤ sizeLine; decide)⟩⟩).is ?_
    congr 1
    unfold Kd.pairs
    rw [List.map_flatMap]
    congr 1
    funext a
    rw [List.map_map]
    rfl
theorem good_joined (T : Txt w K mg) (g_come_in : Good P w K mg base 3 "come_in" ["kind"] (PSp K R_come_in)) (g_joined_in : Good P w K mg base 1 "joined_in" ["kind", "states"] (PSp K R_joined_in)) (g_need_joins : Good P w K mg base 5 "need_joins" ["kind"] (PSp K R_need_joins)) (g_is_between : Good P w K mg base 1 "is_between" ["thing", "least", "most"] (PSp K R_is_between)) : Good P w K mg base 6 "joined" ["kind", "states"] (PSp K R_joined) := by
  refine good_of2 T.F_joined sc_joined (R := R_joined) (fun ds d h => ?_) (fun _ _ _ _ _ _ us hl => match us, hl with | [_, _], _ => rfl) fun cdv A outer s H E hr => ⟨_, (pss_cons (ps_set (i := 2) sc_joined.nd rfl (by first | exact Or.inl rfl | exact Or.inr rfl) (pe_cg g_come_in (hr.mono (by decide)) (by rfl) (pa_cons (pe_cg g_need_joins (hr.mono (by decide)) (by rfl) (pa_cons (pv 0) pa_nil)) pa_nil)))
      (pss_cons (ps_if (PW.pt (pw_or (pt_not (pt_val (pe_callB (isiK K) (by rfl) T.m_isinstance boot_isinstance (pa_cons (pv 1) (pa_cons (pe_bltn (v := .ty "tuple") (by rfl) T.m_tuple boot_tuple rfl) pa_nil))))) (pw_or1 (pt_cmpR op_gt (pe_callB (lenK K) (by rfl) T.m_len boot_len (pa_cons (pv 1) pa_nil)) (pe_gi (by rfl) T.i_MOST_JOINED) (nomark _)))))
      (pss_one ps_never)
      pss_nil)
      (pss_cons (ps_if (pt_not (pt_val (pe_callB (allK K rfl) (by rfl) T.m_all boot_all (pa_cons (pe_lc (own := [("one", 3)]) rfl sc_joined.nd (piK K (pv 1)) (blkOk_by (own := [("one", 3)]) (by kernel_rfl)) (fun _ _ _ _ _ => (pg_name (i := 3) sc_joined.nd rfl (by first | exact Or.inl rfl | exact Or.inr rfl))) (fun _ _ _ _ _ => pts_nil) (fun _ _ _ _ _ => (pe_and (pe_cg g_is_between (hr.mono (by decide)) (by rfl) (pa_cons (pv 3) (pa_cons pe_int (pa_cons (pe_op op_sub (pe_callB (lenK K) (by rfl) T.m_len boot_len (pa_cons (pe_ix (ixK K) (pv 0) pe_int (fun _ _ => rfl)) pa_nil)) pe_int) pa_nil)))) (pe_one (pe_cmpR (inK K) (pv 3) (pv 2) (by rfl)))))) pa_nil))))
      (pss_one ps_never)
      pss_nil)
      (pss_one (ps_ret (pe_cg g_joined_in (hr.mono (by decide)) (by rfl) (pa_cons (pv 0) (pa_cons (pv 1) pa_nil)))))))), fun ds d h => ?_⟩
  · obtain ⟨_, _, _, _, _, rfl, _⟩ := h; rfl
  · obtain ⟨k, xs, L, h60, hx, rfl, rfl⟩ := h
    have h1 := L.n1
    refine .inl (sv_seq (sv_set (ev_call (R := R_come_in) (ea_cons (ev_call (R := R_need_joins) (ea_cons (ev_var rfl) ea_nil) ⟨k, L, rfl, rfl⟩) ea_nil) ⟨k, L, rfl, rfl⟩)) ?_)
    refine sv_seq (sv_no ((et_or (x := false) (y := false) (et_not (et_test (x := true) (ev_isiT (ds := xs.map nD) (ev_var rfl) (by decide +kernel)))) fun _ => et_test ((ev_op (ev_lenN (ev_var rfl)) (ev_nat (n := 60)) r2_gtN).is (by rw [decide_eq_false (by omega)])))) sv_next) ?_
    refine sv_seq (sv_no (et_not (et_test (x := true) ((ev_allB (bs := xs.map fun _ => true) ?_).is ?_))) sv_next) ?_
    · rw [List.map_map]
      refine ev_lcA (enc := nD) _ (iv_T (ev_var rfl)) (by omega) fun x hxx => ⟨_, gv_name (by simp), ?_⟩
      have hn := come_lt L (hx x hxx)
      refine (ev_andV (ev_call (R := R_is_between) (ea_cons (ev_var rfl) (ea_cons ev_nat (ea_cons (less1 (ev_lenN (ev_k3 (ev_var rfl))) h1) ea_nil))) ⟨x, k.n - 1, by omega, rfl, rfl⟩) fun _ => ev_op (ev_var rfl) (ev_var rfl) r2_inN).is ?_
      rw [decide_eq_true (hx x hxx)]
      rfl
    · simp
    · exact sv_ret (ev_call (R := R_joined_in) (ea_cons (ev_var rfl) (ea_cons (ev_var rfl) ea_nil)) ⟨k, xs, L, fun x hxx => come_lt L (hx x hxx), .inr rfl, rfl⟩)
theorem good_top_in (T : Txt w K mg) (g_joined_in : Good P w K mg base 1 "joined_in" ["kind", "states"] (PSp K R_joined_in)) (g_come_in : Good P w K mg base 3 "come_in" ["kind"] (PSp K R_come_in)) : Good P w K mg base 4 "top_in" ["kind"] (PSp K R_top_in) := by
  refine good_of2 T.F_top_in sc_top_in (R := R_top_in) (fun ds d h => ?_) (fun _ _ _ _ _ _ us hl => match us, hl with | [_], _ => rfl) fun cdv A outer s H E hr => ⟨_, (pss_one (ps_ret (pe_cg g_joined_in (hr.mono (by decide)) (by rfl) (pa_cons (pv 0) (pa_cons (pe_cg g_come_in (hr.mono (by decide)) (by rfl) (pa_cons (pv 0) pa_nil)) pa_nil))))), fun ds d h => ?_⟩
  · obtain ⟨_, _, rfl, _⟩ := h; rfl
  · obtain ⟨k, L, rfl, rfl⟩ := h
    exact .inl (sv_ret (ev_call (R := R_joined_in) (ea_cons (ev_var rfl) (ea_cons (ev_call (R := R_come_in) (ea_cons (ev_var rfl) ea_nil) ⟨k, L, rfl, rfl⟩) ea_nil)) ⟨k, come k, L, fun x hxx => come_lt L hxx, .inl rfl, rfl⟩))
theorem good_top (T : Txt w K mg) (g_top_in : Good P w K mg base 4 "top_in" ["kind"] (PSp K R_top_in)) (g_need_joins : Good P w K mg base 5 "need_joins" ["kind"] (PSp K R_need_joins)) : Good P w K mg base 6 "top" ["kind"] (PSp K R_top) := by
  refine good_of2 T.F_top sc_top (R := R_top) (fun ds d h => ?_) (fun _ _ _ _ _ _ us hl => match us, hl with | [_], _ => rfl) fun cdv A outer s H E hr => ⟨_, (pss_one (ps_ret (pe_cg g_top_in (hr.mono (by decide)) (by rfl) (pa_cons (pe_cg g_need_joins (hr.mono (by decide)) (by rfl) (pa_cons (pv 0) pa_nil)) pa_nil)))), fun ds d h => ?_⟩
  · obtain ⟨_, _, rfl, _⟩ := h; rfl
  · obtain ⟨k, L, rfl, rfl⟩ := h
    exact .inl (sv_ret (ev_call (R := R_top_in) (ea_cons (ev_call (R := R_need_joins) (ea_cons (ev_var rfl) ea_nil) ⟨k, L, rfl, rfl⟩) ea_nil) ⟨k, L, rfl, rfl⟩))
theorem good_is_brick (T : Txt w K mg) (g_joined_in : Good P w K mg base 1 "joined_in" ["kind", "states"] (PSp K R_joined_in)) (g_at_most_in : Good P w K mg base 1 "at_most_in" ["kind", "one", "other"] (PSp K R_at_most_in)) : Good P w K mg base 2 "is_brick" ["kind", "some", "state"] (PSp K R_is_brick) := by
  refine good_of2 T.F_is_brick sc_is_brick (R := R_is_brick) (fun ds d h => ?_) (fun _ _ _ _ _ _ us hl => match us, hl with | [_, _, _], _ => rfl) fun cdv A outer s H E hr => ⟨_, (pss_one (ps_ret (pe_cmpR op_ne (pe_cg g_joined_in (hr.mono (by decide)) (by rfl) (pa_cons (pv 0) (pa_cons (pe_lc (own := [("one", 3)]) rfl sc_is_brick.nd (piK K (pv 1)) (blkOk_by (own := [("one", 3)]) (by kernel_rfl)) (fun _ _ _ _ _ => (pg_name (i := 3) sc_is_brick.nd rfl (by first | exact Or.inl rfl | exact Or.inr rfl))) (fun _ _ _ _ _ => (pts_one (PW.pt (pw_and (pt_cmpR op_ne (pv 3) (pv 2) (nomark _)) (pw_and1 (pt_val (pe_cg g_at_most_in (hr.mono (by decide)) (by rfl) (pa_cons (pv 0) (pa_cons (pv 3) (pa_cons (pv 2) pa_nil)))))))))) (fun _ _ _ _ _ => (pv 3))) pa_nil))) (pv 2) (nomark _)))), fun ds d h => ?_⟩
  · obtain ⟨_, _, _, _, rfl, _⟩ := h; rfl
  · obtain ⟨k, s, L, hs, rfl, rfl⟩ := h
    have h8 := come_len L
    refine .inl (sv_ret (ev_op (ev_call (R := R_joined_in) (ea_cons (ev_var rfl) (ea_cons (a := lD (k.under (come k) s)) (ev_lc (α := Nat) (xs := come k) (enc := nD) (fun one => decide (one ≠ s) && k.le one s) nD (iv_L (ev_var rfl)) (by omega) fun a ha => ⟨_, gv_name (by simp), ?_, ?_⟩) ea_nil)) ⟨k, _, L, fun x hxx => come_lt L (List.mem_filter.mp hxx).1, .inl rfl, rfl⟩) (ev_var rfl) r2_neN))
    · exact et_and (et_test (ev_op (ev_var rfl) (ev_var rfl) r2_neN)) (fun _ => et_test (ev_call (R := R_at_most_in) (ea_cons (ev_var rfl) (ea_cons (ev_var rfl) (ea_cons (ev_var rfl) ea_nil))) ⟨k, a, s, L, come_lt L ha, come_lt L hs, rfl, rfl⟩))
    · exact fun _ => ev_var rfl
theorem good_bricks_in (T : Txt w K mg) (g_come_in : Good P w K mg base 3 "come_in" ["kind"] (PSp K R_come_in)) (g_is_brick : Good P w K mg base 2 "is_brick" ["kind", "some", "state"] (PSp K R_is_brick)) : Good P w K mg base 4 "bricks_in" ["kind"] (PSp K R_bricks_in) := by
  refine good_of2 T.F_bricks_in sc_bricks_in (R := R_bricks_in) (fun ds d h => ?_) (fun _ _ _ _ _ _ us hl => match us, hl with | [_], _ => rfl) fun cdv A outer s H E hr => ⟨_, (pss_cons (ps_set (i := 1) sc_bricks_in.nd rfl (by first | exact Or.inl rfl | exact Or.inr rfl) (pe_cg g_come_in (hr.mono (by decide)) (by rfl) (pa_cons (pv 0) pa_nil)))
      (pss_one (ps_ret (pe_lc (own := [("state", 2)]) rfl sc_bricks_in.nd (piK K (pv 1)) (blkOk_by (own := [("state", 2)]) (by kernel_rfl)) (fun _ _ _ _ _ => (pg_name (i := 2) sc_bricks_in.nd rfl (by first | exact Or.inl rfl | exact Or.inr rfl))) (fun _ _ _ _ _ => (pts_one (pt_val (pe_cg g_is_brick (hr.mono (by decide)) (by rfl) (pa_cons (pv 0) (pa_cons (pv 1) (pa_cons (pv 2) pa_nil))))))) (fun _ _ _ _ _ => (pv 2)))))), fun ds d h => ?_⟩
  · obtain ⟨_, _, rfl, _⟩ := h; rfl
  · obtain ⟨k, L, rfl, rfl⟩ := h
    have h8 := come_len L
    refine .inl (sv_seq (sv_set (ev_call (R := R_come_in) (ea_cons (ev_var rfl) ea_nil) ⟨k, L, rfl, rfl⟩)) (sv_ret ?_))
    exact ev_lc (α := Nat) (xs := come k) (enc := nD) (fun s => k.isBrick (come k) s) nD (iv_L (ev_var rfl)) (by omega) fun a ha => ⟨_, gv_name (by simp), et_test (ev_call (R := R_is_brick) (ea_cons (ev_var rfl) (ea_cons (ev_var rfl) (ea_cons (ev_var rfl) ea_nil))) ⟨k, a, L, ha, rfl, rfl⟩), fun _ => ev_var rfl⟩
theorem good_bricks (T : Txt w K mg) (g_bricks_in : Good P w K mg base 4 "bricks_in" ["kind"] (PSp K R_bricks_in)) (g_need_joins : Good P w K mg base 5 "need_joins" ["kind"] (PSp K R_need_joins)) : Good P w K mg base 6 "bricks" ["kind"] (PSp K R_bricks) := by
  refine good_of2 T.F_bricks sc_bricks (R := R_bricks) (fun ds d h => ?_) (fun _ _ _ _ _ _ us hl => match us, hl with | [_], _ => rfl) fun cdv A outer s H E hr => ⟨_, (pss_one (ps_ret (pe_callTy (tupK K) (by rfl) T.m_tuple boot_tuple (pa_cons (pe_cg g_bricks_in (hr.mono (by decide)) (by rfl) (pa_cons (pe_cg g_need_joins (hr.mono (by decide)) (by rfl) (pa_cons (pv 0) pa_nil)) pa_nil)) pa_nil)))), fun ds d h => ?_⟩
  · obtain ⟨_, _, rfl, _⟩ := h; rfl
  · obtain ⟨k, L, rfl, rfl⟩ := h
    exact .inl (sv_ret (ev_tupL (ev_call (R := R_bricks_in) (ea_cons (ev_call (R := R_need_joins) (ea_cons (ev_var rfl) ea_nil) ⟨k, L, rfl, rfl⟩) ea_nil) ⟨k, L, rfl, rfl⟩)))
theorem good_bricks_of (T : Txt w K mg) (g_need_come : Good P w K mg base 4 "need_come" ["kind", "state"] (PSp K R_need_come)) (g_need_joins : Good P w K mg base 5 "need_joins" ["kind"] (PSp K R_need_joins)) (g_bricks_in : Good P w K mg base 4 "bricks_in" ["kind"] (PSp K R_bricks_in)) (g_at_most_in : Good P w K mg base 1 "at_most_in" ["kind", "one", "other"] (PSp K R_at_most_in)) : Good P w K mg base 6 "bricks_of" ["kind", "state"] (PSp K R_bricks_of) := by
  refine good_of2 T.F_bricks_of sc_bricks_of (R := R_bricks_of) (fun ds d h => ?_) (fun _ _ _ _ _ _ us hl => match us, hl with | [_, _], _ => rfl) fun cdv A outer s H E hr => ⟨_, (pss_cons (ps_expr (pe_cg g_need_come (hr.mono (by decide)) (by rfl) (pa_cons (pe_cg g_need_joins (hr.mono (by decide)) (by rfl) (pa_cons (pv 0) pa_nil)) (pa_cons (pv 1) pa_nil))))
      (pss_one (ps_ret (pe_callTy (tupK K) (by rfl) T.m_tuple boot_tuple (pa_cons (pe_lc (own := [("one", 2)]) rfl sc_bricks_of.nd (piK K (pe_cg g_bricks_in (hr.mono (by decide)) (by rfl) (pa_cons (pv 0) pa_nil))) (blkOk_by (own := [("one", 2)]) (by kernel_rfl)) (fun _ _ _ _ _ => (pg_name (i := 2) sc_bricks_of.nd rfl (by first | exact Or.inl rfl | exact Or.inr rfl))) (fun _ _ _ _ _ => (pts_one (pt_val (pe_cg g_at_most_in (hr.mono (by decide)) (by rfl) (pa_cons (pv 0) (pa_cons (pv 2) (pa_cons (pv 1) pa_nil))))))) (fun _ _ _ _ _ => (pv 2))) pa_nil))))), fun ds d h => ?_⟩
  · obtain ⟨_, _, _, _, rfl, _⟩ := h; rfl
  · obtain ⟨k, s, L, hs, rfl, rfl⟩ := h
    have h8 := come_len L
    have hb : k.bricks.length ≤ 8 := Nat.le_trans (List.length_filter_le _ _) h8
    refine .inl (sv_seq (sv_drop (ev_call (R := R_need_come) (ea_cons (ev_call (R := R_need_joins) (ea_cons (ev_var rfl) ea_nil) ⟨k, L, rfl, rfl⟩) (ea_cons (ev_var rfl) ea_nil)) ⟨k, s, L, hs, rfl, rfl⟩)) (sv_ret (ev_tupL ?_)))
    exact ev_lc (α := Nat) (xs := k.bricks) (enc := nD) (fun one => k.le one s) nD (iv_L (ev_call (R := R_bricks_in) (ea_cons (ev_var rfl) ea_nil) ⟨k, L, rfl, rfl⟩)) (by omega) fun a ha => ⟨_, gv_name (by simp), et_test (ev_call (R := R_at_most_in) (ea_cons (ev_var rfl) (ea_cons (ev_var rfl) (ea_cons (ev_var rfl) ea_nil))) ⟨k, a, s, L, come_lt L (List.mem_filter.mp ha).1, come_lt L hs, rfl, rfl⟩), fun _ => ev_var rfl⟩
end
end G6
namespace G6
open PySem PySem.Spec PyProof.Rows L2
section
variable {P : Program} {w : World} {K : PySem.W.Frag} {mg : Str → Option Value} {base : Heap}
theorem chains_base (T : Txt w K mg) : Good P w K mg base 1 "chains_up" ["kind", "some", "state"] (PSp K fun _ _ => False) := by
  refine good_of2 T.F_chains_up sc_chains_up (R := fun _ _ => False) (fun ds d h => h.elim) (fun _ _ _ _ _ _ us hl => match us, hl with | [_, _, _], _ => rfl) fun cdv A outer s H E hr => ⟨_, pss_never, fun ds d h => h.elim⟩
noncomputable def csM (k : Kd) (m s : Nat) : List (List Nat) := match m with
  | 0 => []
  | m + 1 => (k.above (come k) s).map (k.upF (come k) m)
noncomputable def upP (k : Kd) (m one : Nat) : List Nat := match m with
  | 0 => []
  | m + 1 => k.upF (come k) m one
theorem csM_up (k : Kd) (m s : Nat) : k.upF (come k) m s = if 0 < maxL ((csM k m s).map List.length) then s :: minL ((csM k m s).filter fun c => decide (c.length = maxL ((csM k m s).map List.length))) else [s] := by
  cases m with
  | zero => rfl
  | succ m => rfl
theorem csM_len (L : Lat k) (m s : Nat) : (csM k m s).length ≤ 8 := by
  cases m with
  | zero => exact Nat.zero_le _
  | succ m => unfold csM; rw [List.length_map]; exact above_len L s
theorem csM_ne {l : List (List Nat)} (h : 0 < maxL (l.map List.length)) : l.filter (fun c => decide (c.length = maxL (l.map List.length))) ≠ [] := by
  have h1 : maxL (l.map List.length) ∈ l.map List.length := by
    rcases maxL_or (l.map List.length) with e | e
    · omega
    · exact e
  obtain ⟨c, h2, h3⟩ := List.mem_map.mp h1
  exact List.ne_nil_of_mem (List.mem_filter.mpr ⟨h2, decide_eq_true h3⟩)
theorem upF_len (L : Lat k) {m s : Nat} (hs : s ∈ come k) (h : (k.above (come k) s).length ≤ m) : (k.upF (come k) m s).length ≤ 9 := by
  have B := upF_best L m s hs h
  obtain ⟨r, hr⟩ := B.head
  have sc := B.sc
  rw [hr] at sc ⊢
  have h1 := SC.len L sc
  have h2 := above_len L s
  rw [List.length_cons]
  omega
theorem chains_step (T : Txt w K mg) {lv m : Nat} (hk : 1 ≤ lv) {R0 : List PyData → PyData → Prop} (g_chains_up : Good P w K mg base lv "chains_up" ["kind", "some", "state"] (PSp K R0)) (g_at_most_in : Good P w K mg base 1 "at_most_in" ["kind", "one", "other"] (PSp K R_at_most_in))
    (h0 : ∀ m', m = m' + 1 → R0 = R_chains_upM m') : Good P w K mg base (lv + 1) "chains_up" ["kind", "some", "state"] (PSp K (R_chains_upM m)) := by
  refine good_of2 T.F_chains_up sc_chains_up (R := R_chains_upM m) (fun ds d h => ?_) (fun _ _ _ _ _ _ us hl => match us, hl with | [_, _, _], _ => rfl) fun cdv A outer s H E hr => ⟨_,
(pss_cons (ps_setLc (i := 3) (own := [("one", 5)]) rfl sc_chains_up.nd rfl rfl (sw_true rfl rfl rfl (by decide +kernel)) (piK K (pv 1)) (blkOk_by (own := [("one", 5)]) (by kernel_rfl)) (fun _ _ _ _ _ => (pg_name (i := 5) sc_chains_up.nd rfl (by first | exact Or.inl rfl | exact Or.inr rfl))) (fun _ _ _ _ _ => (pts_one (PW.pt (pw_and (pt_cmpR op_ne (pv 5) (pv 2) (nomark _)) (pw_and1 (pt_val (pe_cg g_at_most_in (hr.mono (by omega)) (by rfl) (pa_cons (pv 0) (pa_cons (pv 2) (pa_cons (pv 5) pa_nil)))))))))) (fun _ _ _ _ _ => (pe_cg g_chains_up (hr.mono (by omega)) (by rfl) (pa_cons (pv 0) (pa_cons (pv 1) (pa_cons (pv 5) pa_nil))))))
      (pss_cons (ps_set (i := 4) sc_chains_up.nd rfl (by first | exact Or.inl rfl | exact Or.inr rfl) (pe_callB (maxK K rfl) (by rfl) T.m_max boot_max (pa_cons (pe_op op_cat (pe_lst (pa_cons pe_int pa_nil)) (pe_lc (own := [("chain", 6)]) rfl sc_chains_up.nd (piK K (pv 3)) (blkOk_by (own := [("chain", 6)]) (by kernel_rfl)) (fun _ _ _ _ _ => (pg_name (i := 6) sc_chains_up.nd rfl (by first | exact Or.inl rfl | exact Or.inr rfl))) (fun _ _ _ _ _ => pts_nil) (fun _ _ _ _ _ => (pe_callB (lenK K) (by rfl) T.m_len boot_len (pa_cons (pv 6) pa_nil))))) pa_nil)))
      (pss_one (ps_ret (pe_ifExp (pt_cmpR op_gt (pv 4) pe_int (nomark _)) (pe_tup (pa_cons (pv 2) (starK K (pe_callB (minDK K rfl hr.units) (by rfl) T.m_min boot_min (pa_cons (pe_lc (own := [("chain", 6)]) rfl sc_chains_up.nd (piK K (pv 3)) (blkOk_by (own := [("chain", 6)]) (by kernel_rfl)) (fun _ _ _ _ _ => (pg_name (i := 6) sc_chains_up.nd rfl (by first | exact Or.inl rfl | exact Or.inr rfl))) (fun _ _ _ _ _ => (pts_one (pt_cmpR op_eq (pe_callB (lenK K) (by rfl) T.m_len boot_len (pa_cons (pv 6) pa_nil)) (pv 4) (nomark _)))) (fun _ _ _ _ _ => (pv 6))) pa_nil)) pa_nil))) (pe_tup (pa_cons (pv 2) pa_nil)))))))
    , fun ds d h => ?_⟩
  · obtain ⟨_, _, _, _, _, rfl, _⟩ := h; rfl
  · obtain ⟨k, s, L, hs, hm, rfl, rfl⟩ := h
    have h8 := come_len L
    have l8 := csM_len L m s
    refine .inl (sv_seq (sv_set (d := .list ((csM k m s).map tD)) ?_) ?_)
    · refine (ev_lc (α := Nat) (xs := come k) (enc := nD) (fun one => decide (one ≠ s) && k.le s one) (fun one => tD (upP k m one)) (iv_L (ev_var rfl)) (by omega) fun a ha => ⟨_, gv_name (by simp), et_and (et_test (ev_op (ev_var rfl) (ev_var rfl) r2_neN)) (fun _ => et_test (ev_call (R := R_at_most_in) (ea_cons (ev_var rfl) (ea_cons (ev_var rfl) (ea_cons (ev_var rfl) ea_nil))) ⟨k, s, a, L, come_lt L hs, come_lt L ha, rfl, rfl⟩)), fun hp => ?_⟩).is ?_
      · have hin : a ∈ k.above (come k) s := List.mem_filter.mpr ⟨ha, hp⟩
        cases m with
        | zero =>
          rw [List.eq_nil_of_length_eq_zero (Nat.le_zero.mp hm)] at hin
          cases hin
        | succ m =>
          have hl := above_lt L hs hin
          refine ev_call (R := R0) (ea_cons (ev_var rfl) (ea_cons (ev_var rfl) (ea_cons (ev_var rfl) ea_nil))) ?_
          exact (h0 m rfl).symm ▸ (show R_chains_upM m _ _ from ⟨k, a, L, ha, by omega, rfl, rfl⟩)
      · congr 1
        cases m with
        | zero =>
          have e : (come k).filter (fun one => decide (one ≠ s) && k.le s one) = [] := List.eq_nil_of_length_eq_zero (Nat.le_zero.mp hm)
          rw [e]
          rfl
        | succ m =>
          unfold csM
          rw [List.map_map]
          rfl
    have hcl : ∀ c, c ∈ csM k m s → c.length ≤ 9 := fun c hc => by
      cases m with
      | zero => cases hc
      | succ m =>
        obtain ⟨t, ht, rfl⟩ := List.mem_map.mp hc
        have := above_lt L hs ht
        exact upF_len L (above_mem.mp ht).1 (by omega)
    rw [csM_up k m s]
    generalize csM k m s = cs at *
    refine sv_seq (sv_set (d := nD (maxL (cs.map List.length))) (ev_maxN (xs := 0 :: cs.map List.length) ((ev_op (ev_lst (ds := [nD 0]) (ea_cons ev_nat ea_nil) (by decide)) (ev_lcA (α := List Nat) (xs := cs) (enc := tD) (fun c => nD c.length) (iv_L (ev_var rfl)) (by omega) fun c hc => ⟨_, gv_name (by simp), ev_lenN (ev_var rfl)⟩) (r2_catL (by rw [List.length_map]; exact Nat.le_trans (m := 9) (by show 1 + cs.length ≤ 9; omega) (by decide)))).is (by rw [lD, List.map_cons, List.map_map]; rfl)) (List.cons_ne_nil _ _))) ?_
    refine sv_ret (ev_if (et_test (ev_op (ev_var rfl) (ev_nat (n := 0)) r2_gtN)) (fun ht => ?_) fun hf => ?_)
    · have hpos := of_decide_eq_true ht
      rw [if_pos hpos]
      refine (ev_tup (ds := nD s :: ((minL _).map nD ++ [])) (ea_cons (ev_var rfl) (ea_starT (ev_minC (cs := cs.filter fun c => decide (c.length = maxL (cs.map List.length))) (ev_lc (α := List Nat) (xs := cs) (enc := tD) (fun c => decide (c.length = maxL (cs.map List.length))) tD (iv_L (ev_var rfl)) (by omega) fun c hc => ⟨_, gv_name (by simp), et_test (ev_op (ev_lenN (ev_var rfl)) (ev_var rfl) r2_eqN), fun _ => ev_var rfl⟩) (csM_ne hpos)) ea_nil)) ?_).is ?_
      · have := hcl _ (List.mem_filter.mp (minL_mem (csM_ne hpos))).1
        rw [List.length_cons, List.append_nil, List.length_map]
        exact Nat.le_trans (m := 10) (by omega) (by decide)
      · rw [List.append_nil]; rfl
    · have hneg := of_decide_eq_false hf
      rw [if_neg hneg]
      exact ev_tup (ds := [nD s]) (ea_cons (ev_var rfl) ea_nil) (by show 1 ≤ sizeLine; decide)
theorem good_chains_up (T : Txt w K mg) (g_at_most_in : Good P w K mg base 1 "at_most_in" ["kind", "one", "other"] (PSp K R_at_most_in)) : Good P w K mg base 10 "chains_up" ["kind", "some", "state"] (PSp K R_chains_up) := by
  have key : ∀ m, Good P w K mg base (m + 2) "chains_up" ["kind", "some", "state"] (PSp K (R_chains_upM m)) := by
    intro m
    induction m with
    | zero => exact chains_step T (by omega) (chains_base T) g_at_most_in fun m' e => by omega
    | succ m ih => exact chains_step T (by omega) ih g_at_most_in fun m' e => by rw [show m = m' by omega]
  exact key 8
theorem ups8_ne (L : Lat k) : k.ups8 ≠ [] := fun e => by
  have h := List.map_eq_nil_iff.mp e
  have := st_come L
  rw [h] at this
  cases this
theorem ups8_len (L : Lat k) : k.ups8.length ≤ 8 := by
  unfold Kd.ups8
  rw [List.length_map]
  exact come_len L
theorem longest_ne (L : Lat k) : k.ups8.filter (fun c => decide (c.length = k.height)) ≠ [] := by
  have h1 : k.height ∈ k.ups8.map List.length := maxL_mem fun e => ups8_ne L (List.map_eq_nil_iff.mp e)
  obtain ⟨c, h2, h3⟩ := List.mem_map.mp h1
  exact List.ne_nil_of_mem (List.mem_filter.mpr ⟨h2, decide_eq_true h3⟩)
theorem good_longest_chain (T : Txt w K mg) (g_come_in : Good P w K mg base 3 "come_in" ["kind"] (PSp K R_come_in)) (g_need_joins : Good P w K mg base 5 "need_joins" ["kind"] (PSp K R_need_joins)) (g_chains_up : Good P w K mg base 10 "chains_up" ["kind", "some", "state"] (PSp K R_chains_up)) : Good P w K mg base 11 "longest_chain" ["kind"] (PSp K R_longest_chain) := by
  refine good_of2 T.F_longest_chain sc_longest_chain (R := R_longest_chain) (fun ds d h => ?_) (fun _ _ _ _ _ _ us hl => match us, hl with | [_], _ => rfl) fun cdv A outer s H E hr => ⟨_, (pss_cons (ps_set (i := 1) sc_longest_chain.nd rfl (by first | exact Or.inl rfl | exact Or.inr rfl) (pe_cg g_come_in (hr.mono (by decide)) (by rfl) (pa_cons (pe_cg g_need_joins (hr.mono (by decide)) (by rfl) (pa_cons (pv 0) pa_nil)) pa_nil)))
      (pss_cons (ps_setLc (i := 2) (own := [("state", 4)]) rfl sc_longest_chain.nd rfl rfl (sw_true rfl rfl rfl (by decide +kernel)) (piK K (pv 1)) (blkOk_by (own := [("state", 4)]) (by kernel_rfl)) (fun _ _ _ _ _ => (pg_name (i := 4) sc_longest_chain.nd rfl (by first | exact Or.inl rfl | exact Or.inr rfl))) (fun _ _ _ _ _ => pts_nil) (fun _ _ _ _ _ => (pe_cg g_chains_up (hr.mono (by decide)) (by rfl) (pa_cons (pv 0) (pa_cons (pv 1) (pa_cons (pv 4) pa_nil))))))
      (pss_cons (ps_set (i := 3) sc_longest_chain.nd rfl (by first | exact Or.inl rfl | exact Or.inr rfl) (pe_callB (maxK K rfl) (by rfl) T.m_max boot_max (pa_cons (pe_lc (own := [("chain", 5)]) rfl sc_longest_chain.nd (piK K (pv 2)) (blkOk_by (own := [("chain", 5)]) (by kernel_rfl)) (fun _ _ _ _ _ => (pg_name (i := 5) sc_longest_chain.nd rfl (by first | exact Or.inl rfl | exact Or.inr rfl))) (fun _ _ _ _ _ => pts_nil) (fun _ _ _ _ _ => (pe_callB (lenK K) (by rfl) T.m_len boot_len (pa_cons (pv 5) pa_nil)))) pa_nil)))
      (pss_one (ps_ret (pe_callB (minDK K rfl hr.units) (by rfl) T.m_min boot_min (pa_cons (pe_lc (own := [("chain", 5)]) rfl sc_longest_chain.nd (piK K (pv 2)) (blkOk_by (own := [("chain", 5)]) (by kernel_rfl)) (fun _ _ _ _ _ => (pg_name (i := 5) sc_longest_chain.nd rfl (by first | exact Or.inl rfl | exact Or.inr rfl))) (fun _ _ _ _ _ => (pts_one (pt_cmpR op_eq (pe_callB (lenK K) (by rfl) T.m_len boot_len (pa_cons (pv 5) pa_nil)) (pv 3) (nomark _)))) (fun _ _ _ _ _ => (pv 5))) pa_nil))))))), fun ds d h => ?_⟩
  · obtain ⟨_, _, rfl, _⟩ := h; rfl
  · obtain ⟨k, L, rfl, rfl⟩ := h
    have h8 := come_len L
    have u8 := ups8_len L
    refine .inl (sv_seq (sv_set (ev_call (R := R_come_in) (ea_cons (ev_call (R := R_need_joins) (ea_cons (ev_var rfl) ea_nil) ⟨k, L, rfl, rfl⟩) ea_nil) ⟨k, L, rfl, rfl⟩)) ?_)
    refine sv_seq (sv_set (d := .list (k.ups8.map tD)) ((ev_lcA (α := Nat) (xs := come k) (enc := nD) (fun s => tD (k.upF (come k) 8 s)) (iv_L (ev_var rfl)) (by omega) fun a ha => ⟨_, gv_name (by simp), ev_call (R := R_chains_up) (ea_cons (ev_var rfl) (ea_cons (ev_var rfl) (ea_cons (ev_var rfl) ea_nil))) ⟨k, a, L, ha, above_len L a, rfl, rfl⟩⟩).is (by unfold Kd.ups8; rw [List.map_map]; rfl))) ?_
    refine sv_seq (sv_set (d := nD k.height) (ev_maxN (xs := k.ups8.map List.length) ((ev_lcA (α := List Nat) (xs := k.ups8) (enc := tD) (fun c => nD c.length) (iv_L (ev_var rfl)) (by omega) fun c hc => ⟨_, gv_name (by simp), ev_lenN (ev_var rfl)⟩).is (by rw [lD, List.map_map]; rfl)) (fun e => ups8_ne L (List.map_eq_nil_iff.mp e)))) ?_
    exact sv_ret (ev_minC (cs := k.ups8.filter fun c => decide (c.length = k.height)) (ev_lc (α := List Nat) (xs := k.ups8) (enc := tD) (fun c => decide (c.length = k.height)) tD (iv_L (ev_var rfl)) (by omega) fun c hc => ⟨_, gv_name (by simp), et_test (ev_op (ev_lenN (ev_var rfl)) (ev_var rfl) r2_eqN), fun _ => ev_var rfl⟩) (longest_ne L))
theorem good_height_in (T : Txt w K mg) (g_come_in : Good P w K mg base 3 "come_in" ["kind"] (PSp K R_come_in)) (g_chains_up : Good P w K mg base 10 "chains_up" ["kind", "some", "state"] (PSp K R_chains_up)) : Good P w K mg base 11 "height_in" ["kind"] (PSp K R_height_in) := by
  refine good_of2 T.F_height_in sc_height_in (R := R_height_in) (fun ds d h => ?_) (fun _ _ _ _ _ _ us hl => match us, hl with | [_], _ => rfl) fun cdv A outer s H E hr => ⟨_, (pss_cons (ps_set (i := 1) sc_height_in.nd rfl (by first | exact Or.inl rfl | exact Or.inr rfl) (pe_cg g_come_in (hr.mono (by decide)) (by rfl) (pa_cons (pv 0) pa_nil)))
      (pss_one (ps_ret (pe_callB (maxK K rfl) (by rfl) T.m_max boot_max (pa_cons (pe_lc (own := [("state", 2)]) rfl sc_height_in.nd (piK K (pv 1)) (blkOk_by (own := [("state", 2)]) (by kernel_rfl)) (fun _ _ _ _ _ => (pg_name (i := 2) sc_height_in.nd rfl (by first | exact Or.inl rfl | exact Or.inr rfl))) (fun _ _ _ _ _ => pts_nil) (fun _ _ _ _ _ => (pe_callB (lenK K) (by rfl) T.m_len boot_len (pa_cons (pe_cg g_chains_up (hr.mono (by decide)) (by rfl) (pa_cons (pv 0) (pa_cons (pv 1) (pa_cons (pv 2) pa_nil)))) pa_nil)))) pa_nil))))), fun ds d h => ?_⟩
  · obtain ⟨_, _, rfl, _⟩ := h; rfl
  · obtain ⟨k, L, rfl, rfl⟩ := h
    have h8 := come_len L
    refine .inl (sv_seq (sv_set (ev_call (R := R_come_in) (ea_cons (ev_var rfl) ea_nil) ⟨k, L, rfl, rfl⟩)) ?_)
    exact sv_ret (ev_maxN (xs := k.ups8.map List.length) ((ev_lcA (α := Nat) (xs := come k) (enc := nD) (fun s => nD (k.upF (come k) 8 s).length) (iv_L (ev_var rfl)) (by omega) fun a ha => ⟨_, gv_name (by simp), ev_lenN (ev_call (R := R_chains_up) (ea_cons (ev_var rfl) (ea_cons (ev_var rfl) (ea_cons (ev_var rfl) ea_nil))) ⟨k, a, L, ha, above_len L a, rfl, rfl⟩)⟩).is (by unfold Kd.ups8; rw [lD, List.map_map, List.map_map]; rfl)) (fun e => ups8_ne L (List.map_eq_nil_iff.mp e)))
theorem good_height (T : Txt w K mg) (g_height_in : Good P w K mg base 11 "height_in" ["kind"] (PSp K R_height_in)) (g_need_joins : Good P w K mg base 5 "need_joins" ["kind"] (PSp K R_need_joins)) : Good P w K mg base 12 "height" ["kind"] (PSp K R_height) := by
  refine good_of2 T.F_height sc_height (R := R_height) (fun ds d h => ?_) (fun _ _ _ _ _ _ us hl => match us, hl with | [_], _ => rfl) fun cdv A outer s H E hr => ⟨_, (pss_one (ps_ret (pe_cg g_height_in (hr.mono (by decide)) (by rfl) (pa_cons (pe_cg g_need_joins (hr.mono (by decide)) (by rfl) (pa_cons (pv 0) pa_nil)) pa_nil)))), fun ds d h => ?_⟩
  · obtain ⟨_, _, rfl, _⟩ := h; rfl
  · obtain ⟨k, L, rfl, rfl⟩ := h
    exact .inl (sv_ret (ev_call (R := R_height_in) (ea_cons (ev_call (R := R_need_joins) (ea_cons (ev_var rfl) ea_nil) ⟨k, L, rfl, rfl⟩) ea_nil) ⟨k, L, rfl, rfl⟩))
theorem good_is_tight (T : Txt w K mg) (g_joined_in : Good P w K mg base 1 "joined_in" ["kind", "states"] (PSp K R_joined_in)) : Good P w K mg base 2 "is_tight" ["kind", "states"] (PSp K R_is_tight) := by
  refine good_of2 T.F_is_tight sc_is_tight (R := R_is_tight) (fun ds d h => ?_) (fun _ _ _ _ _ _ us hl => match us, hl with | [_, _], _ => rfl) fun cdv A outer s H E hr => ⟨_, (pss_cons (ps_set (i := 2) sc_is_tight.nd rfl (by first | exact Or.inl rfl | exact Or.inr rfl) (pe_cg g_joined_in (hr.mono (by decide)) (by rfl) (pa_cons (pv 0) (pa_cons (pv 1) pa_nil))))
      (pss_one (ps_ret (pe_not (pe_callB (anyK K rfl) (by rfl) T.m_any boot_any (pa_cons (pe_lc (own := [("state", 3)]) rfl sc_is_tight.nd (piK K (pv 1)) (blkOk_by (own := [("state", 3)]) (by kernel_rfl)) (fun _ _ _ _ _ => (pg_name (i := 3) sc_is_tight.nd rfl (by first | exact Or.inl rfl | exact Or.inr rfl))) (fun _ _ _ _ _ => pts_nil) (fun _ _ _ _ _ => (pe_cmpR op_eq (pe_cg g_joined_in (hr.mono (by decide)) (by rfl) (pa_cons (pv 0) (pa_cons (pe_lc (own := [("one", 4)]) rfl sc_is_tight.nd (piK K (pv 1)) (blkOk_by (own := [("one", 4)]) (by kernel_rfl)) (fun _ _ _ _ _ => (pg_name (i := 4) sc_is_tight.nd rfl (by first | exact Or.inl rfl | exact Or.inr rfl))) (fun _ _ _ _ _ => (pts_one (pt_cmpR op_ne (pv 4) (pv 3) (nomark _)))) (fun _ _ _ _ _ => (pv 4))) pa_nil))) (pv 2) (nomark _)))) pa_nil)))))), fun ds d h => ?_⟩
  · obtain ⟨_, _, _, _, _, rfl, _⟩ := h; rfl
  · obtain ⟨k, xs, L, h8, hx, rfl, rfl⟩ := h
    refine .inl (sv_seq (sv_set (ev_call (R := R_joined_in) (ea_cons (ev_var rfl) (ea_cons (ev_var rfl) ea_nil)) ⟨k, xs, L, hx, .inr rfl, rfl⟩)) (sv_ret ?_))
    refine (ev_notV (ev_anyB (bs := xs.map fun s => decide (k.join (xs.filter fun one => decide (one ≠ s)) = k.join xs)) ?_)).is ?_
    · refine (ev_lcA (α := Nat) (xs := xs) (enc := nD) (fun s => .bool (decide (k.join (xs.filter fun one => decide (one ≠ s)) = k.join xs))) (iv_T (ev_var rfl)) (by omega) fun s hs => ⟨_, gv_name (by simp), ?_⟩).is (by rw [List.map_map]; rfl)
      refine ev_op (ev_call (R := R_joined_in) (ea_cons (ev_var rfl) (ea_cons (a := lD (xs.filter fun one => decide (one ≠ s))) (ev_lc (α := Nat) (xs := xs) (enc := nD) (fun one => decide (one ≠ s)) nD (iv_T (ev_var rfl)) (by omega) fun a ha => ⟨_, gv_name (by simp), ?_, ?_⟩) ea_nil)) ⟨k, _, L, fun x h => hx x (List.mem_filter.mp h).1, .inl rfl, rfl⟩) (ev_var rfl) r2_eqN
      · exact et_test (ev_op (ev_var rfl) (ev_var rfl) r2_neN)
      · exact fun _ => ev_var rfl
    · unfold Kd.tight
      rw [List.any_map]
      rfl
theorem tight_nil (k : Kd) : k.tight [] = true := rfl
theorem good_breadth (T : Txt w K mg) (g_come_in : Good P w K mg base 3 "come_in" ["kind"] (PSp K R_come_in)) (g_need_joins : Good P w K mg base 5 "need_joins" ["kind"] (PSp K R_need_joins)) (g_is_tight : Good P w K mg base 2 "is_tight" ["kind", "states"] (PSp K R_is_tight)) : Good P w K mg base 6 "breadth" ["kind"] (PSp K R_breadth) := by
  refine good_of2 T.F_breadth sc_breadth (R := R_breadth) (fun ds d h => ?_) (fun _ _ _ _ _ _ us hl => match us, hl with | [_], _ => rfl) fun cdv A outer s H E hr => ⟨_, (pss_cons (ps_set (i := 1) sc_breadth.nd rfl (by first | exact Or.inl rfl | exact Or.inr rfl) (pe_lst (pa_cons (pe_tup pa_nil) pa_nil)))
      (pss_cons (ps_for PassesOwn.never rfl (piK K (pe_cg g_come_in (hr.mono (by decide)) (by rfl) (pa_cons (pe_cg g_need_joins (hr.mono (by decide)) (by rfl) (pa_cons (pv 0) pa_nil)) pa_nil))) (pg_name (i := 2) sc_breadth.nd rfl (by first | exact Or.inl rfl | exact Or.inr rfl))
      (pss_one (ps_set (i := 1) sc_breadth.nd rfl (by first | exact Or.inl rfl | exact Or.inr rfl) (pe_op op_cat (pv 1) (pe_lc (own := [("lot", 3)]) rfl sc_breadth.nd (piK K (pv 1)) (blkOk_by (own := [("lot", 3)]) (by kernel_rfl)) (fun _ _ _ _ _ => (pg_name (i := 3) sc_breadth.nd rfl (by first | exact Or.inl rfl | exact Or.inr rfl))) (fun _ _ _ _ _ => pts_nil) (fun _ _ _ _ _ => (pe_tup (starK K (pv 3) (pa_cons (pv 2) pa_nil)))))))))
      (pss_one (ps_ret (pe_callB (maxK K rfl) (by rfl) T.m_max boot_max (pa_cons (pe_lc (own := [("lot", 3)]) rfl sc_breadth.nd (piK K (pv 1)) (blkOk_by (own := [("lot", 3)]) (by kernel_rfl)) (fun _ _ _ _ _ => (pg_name (i := 3) sc_breadth.nd rfl (by first | exact Or.inl rfl | exact Or.inr rfl))) (fun _ _ _ _ _ => (pts_one (pt_val (pe_cg g_is_tight (hr.mono (by decide)) (by rfl) (pa_cons (pv 0) (pa_cons (pv 3) pa_nil)))))) (fun _ _ _ _ _ => (pe_callB (lenK K) (by rfl) T.m_len boot_len (pa_cons (pv 3) pa_nil)))) pa_nil)))))), fun ds d h => ?_⟩
  · obtain ⟨_, _, rfl, _⟩ := h; rfl
  · obtain ⟨k, L, rfl, rfl⟩ := h
    have h8 := come_len L
    have hle : ∀ i, (lotsOf ((come k).take i)).length ≤ 256 := fun i => lots_len (by rw [List.length_take]; omega)
    refine .inl (sv_seq (sv_set (ev_lst (ea_cons (ev_tup ea_nil (by decide)) ea_nil) (by decide))) ?_)
    refine sv_seq (sv_forN (us := [2]) (xs := come k) (enc := nD) (fun i => [some (kD k), some (.list ((lotsOf ((come k).take i)).map tD)), none, none]) (iv_L (ev_call (R := R_come_in) (ea_cons (ev_call (R := R_need_joins) (ea_cons (ev_var rfl) ea_nil) ⟨k, L, rfl, rfl⟩) ea_nil) ⟨k, L, rfl, rfl⟩)) (by exact ⟨rfl, rfl, trivial⟩) fun i x hx => ⟨_, gv_name (by simp), ?_⟩) ?_
    · have hl := hle i
      refine SV.to (sv_set ((ev_op (ev_var rfl) (ev_lcA (α := List Nat) (xs := lotsOf ((come k).take i)) (enc := tD) (fun l => tD (l ++ [x])) (iv_L (ev_var rfl)) (by omega) fun l hlt => ⟨_, gv_name (by simp), (ev_tup (ea_starT (ds := l.map nD) (ev_var rfl) (ea_cons (ev_var rfl) ea_nil)) ?_).is ?_⟩) (r2_catL ?_)).is ?_)) ⟨rfl, rfl, trivial⟩
      · have h1 := (lots_sub hlt).length_le
        have h2 : ((come k).take i).length ≤ 8 := by rw [List.length_take]; omega
        rw [List.length_append, List.length_map]
        exact Nat.le_trans (m := 9) (by show l.length + 1 ≤ 9; omega) (by decide)
      · show PyData.tuple _ = PyData.tuple _
        rw [List.map_append]
        rfl
      · rw [List.length_map, List.length_map]
        exact Nat.le_trans (m := 512) (by omega) (by decide)
      · congr 1
        unfold lotsOf
        rw [List.take_add_one, hx, List.foldl_append]
        show _ = List.map tD (_ ++ _)
        rw [List.map_append, List.map_map]
        rfl
    · rw [List.take_length]
      have hl := hle (come k).length
      rw [List.take_length] at hl
      refine sv_ret (ev_maxN (xs := ((lotsOf (come k)).filter k.tight).map List.length) ((ev_lc (α := List Nat) (xs := lotsOf (come k)) (enc := tD) k.tight (fun l => nD l.length) (iv_L (ev_var rfl)) (by omega) fun l hlt => ⟨_, gv_name (by simp), et_test (ev_call (R := R_is_tight) (ea_cons (ev_var rfl) (ea_cons (ev_var rfl) ea_nil)) ⟨k, l, L, ?_, ?_, rfl, rfl⟩), fun _ => ev_lenN (ev_var rfl)⟩).is (by rw [lD, List.map_map]; rfl)) fun e => ?_)
      · exact Nat.le_trans (lots_sub hlt).length_le h8
      · exact fun y hy => come_lt L ((lots_sub hlt).subset hy)
      · have := List.mem_filter.mpr ⟨lots_nil (come k), tight_nil k⟩
        rw [List.map_eq_nil_iff.mp e] at this
        cases this
end
end G6
namespace G6
open PySem PySem.Spec PyProof.Rows L2
section
variable {P : Program} {w : World} {K : PySem.W.Frag} {mg : Str → Option Value} {base : Heap}

/-- the dict that ways_on fills: its keys -/
def Keys (H : Hp) (p : Addr) (ys : List Nat) : Prop := ∃ kvs : List (Key × V), H p = some (.dK kvs) ∧ kvs.map (·.1) = (cI ys).map Sum.inl
def SD (K : PySem.W.Frag) (ts : TS) (ρ ρ' : Env6) (ys ys' : List Nat) : Prop := ∀ (W : List Addr) (p : Addr) (σ : L2.St) (H : Hp) (D : Ends), OkW W H → p ∈ W → ρ[7]? = some (some (pinD p)) → EnvD K (hide W H) σ ρ → Keys H p ys →
  (∀ σ' H', OkW W H' → Same (hide W H) (hide W H') → (∀ a, a ≠ p → ∀ o, H a = some o → H' a = some o) → EnvD K (hide W H') σ' ρ' → Keys H' p ys' → D.nx σ' H') → ts D σ H
theorem sd_seq {ts tu : TS} {ρ ρ1 ρ2 : Env6} {ys ys1 ys2 : List Nat} (h1 : SD K ts ρ ρ1 ys ys1) (h2 : SD K tu ρ1 ρ2 ys1 ys2) (hp : ∀ p, ρ[7]? = some (some (pinD p)) → ρ1[7]? = some (some (pinD p))) : SD K (tSeq ts tu) ρ ρ2 ys ys2 := fun W p σ H D ok hW h7 E k q =>
  h1 W p σ H _ ok hW h7 E k fun σ1 H1 ok1 s1 t1 E1 k1 => h2 W p σ1 H1 D ok1 hW (hp p h7) E1 k1 fun σ2 H2 ok2 s2 t2 E2 k2 => q σ2 H2 ok2 (s1.trans s2) (fun a ha o e => t2 a ha o (t1 a ha o e)) E2 k2
theorem SD.fin {ts : TS} {ρ ρ' : Env6} {ys ys' zs : List Nat} (h : SD K ts ρ ρ' ys ys') (e : ys' = zs) : SD K ts ρ ρ' ys zs := e ▸ h
theorem SD.start {ts : TS} {ρ ρ' : Env6} {ys ys' zs : List Nat} (h : SD K ts ρ ρ' ys ys') (e : zs = ys) : SD K ts ρ ρ' zs ys' := e.symm ▸ h
theorem sd_for {α : Type} {wi : TI} {g : TG} {us : List Nat} {tu : TS} {xs : List α} {enc : α → PyData} {ρ : Env6} (f : Nat → List Nat) (hi : IV K wi ρ (xs.map enc)) (hs : ∀ (i : Nat) (x : α), xs[i]? = some x → ∃ ρ1 ρ2, GV K g us (enc x) ρ ρ1 ∧ (∀ p, ρ[7]? = some (some (pinD p)) → ρ1[7]? = some (some (pinD p))) ∧ SD K tu ρ1 ρ2 (f i) (f (i + 1)) ∧ leE ρ2 ρ) :
    SD K (tFor wi g tu) ρ ρ (f 0) (f xs.length) := fun W p σ H D ok hW h7 E k q =>
  hi W σ H ok E _ fun J H1 s1 S => by
    have keysS : ∀ {H H' : Hp} {ys : List Nat}, Same H H' → Keys H p ys → Keys H' p ys := fun s k => by
      obtain ⟨kvs, h1, h2⟩ := k
      exact ⟨kvs, s _ _ h1, h2⟩
    have ok1 := ok.same s1
    refine ⟨fun i m σ' H' => i ≤ xs.length ∧ m = xs.length - i ∧ OkW W H' ∧ Same (hide W H1) (hide W H') ∧ (∀ a, a ≠ p → ∀ o, H1 a = some o → H' a = some o) ∧ EnvD K (hide W H') σ' ρ ∧ Keys H' p (f i), ⟨xs.length, Nat.zero_le _, rfl, ok1, Same.refl _, fun a _ o e => e, E.same (hide_same s1), keysS s1 k⟩, ?_⟩
    rintro i m σ' H' ⟨hi, rfl, ok', vis, t', E', k'⟩
    by_cases hl' : i < xs.length
    · refine .inr ⟨S.go i H' (vis.trans hide_le) (by rw [List.length_map]; exact hl'), fun σ' H' => OkW W H' ∧ Same (hide W H1) (hide W H') ∧ (∀ a, a ≠ p → ∀ o, H1 a = some o → H' a = some o) ∧ EnvD K (hide W H') σ' ρ ∧ Keys H' p (f (i + 1)), fun σ'' H'' z => ⟨xs.length - (i + 1), by omega, hl', rfl, z⟩, fun x H2 y => ?_⟩
      obtain ⟨s2, hx⟩ := S.yld i W H' x H2 ok' vis y
      have hxi : xs[i]? = some xs[i] := List.getElem?_eq_getElem hl'
      obtain ⟨ρ1, ρ2, hg, hp, hb, hle⟩ := hs i xs[i] hxi
      refine hg W x σ' H2 (E'.same (hide_same s2)) (hx (enc xs[i]) (by rw [List.getElem?_map, hxi]; rfl)) _ fun σ3 E3 _ _ => ?_
      exact hb W p σ3 H2 _ (ok'.same s2) hW (hp p h7) E3 (keysS s2 k') fun σ4 H4 ok4 s4 t4 E4 k4 => ⟨ok4, (vis.trans (hide_same s2)).trans s4, fun a ha o e => t4 a ha o (s2 a o (t' a ha o e)), E4.le hle, k4⟩
    · have e : i = xs.length := by omega
      subst e
      exact .inl ⟨S.stop _ H' (vis.trans hide_le) (by rw [List.length_map]; exact Nat.le_refl _), q σ' H' ok' ((hide_same s1).trans vis) (fun a ha o e => t' a ha o (s1 a o e)) E' k'⟩
theorem keys_val {kvs : List (Key × V)} {ys : List Nat} (h : kvs.map (·.1) = (cI ys).map Sum.inl) (y : Nat) : (valV kvs (.inl (y : Int)) = none ↔ y ∉ ys) := by
  have e := valV_any (Sum.inl (y : Int) : Key) kvs
  have e2 : (kvs.any fun kv => decide (kv.1 = (Sum.inl (y : Int) : Key))) = decide (y ∈ ys) := by
    have e3 : (kvs.any fun kv => decide (kv.1 = (Sum.inl (y : Int) : Key))) = (kvs.map (·.1)).any fun z => decide (z = (Sum.inl (y : Int) : Key)) := by rw [List.any_map]; rfl
    rw [e3, h, List.any_map]
    by_cases q : y ∈ ys
    · rw [decide_eq_true q]
      exact List.any_eq_true.mpr ⟨(y : Int), mem_cI.mpr q, decide_eq_true rfl⟩
    · rw [decide_eq_false q]
      refine List.any_eq_false.mpr fun z hz w => q ?_
      have w2 : (Sum.inl z : Key) = Sum.inl (y : Int) := of_decide_eq_true w
      rw [Sum.inl.inj w2] at hz
      exact mem_cI.mp hz
  rw [e2] at e
  cases hv : valV kvs (.inl (y : Int)) with
  | none =>
    rw [hv] at e
    exact ⟨fun _ => of_decide_eq_false e, fun _ => rfl⟩
  | some v =>
    rw [hv] at e
    exact ⟨fun z => (nomatch z), fun z => absurd (of_decide_eq_true e) z⟩
/-- found.setdefault(y, way) -/
theorem sd_setd {ρ : Env6} {ty tx : TE} {y : Nat} {d : PyData} {ys : List Nat} (hy : EV K ty ρ (nD y)) (hx : EV K tx ρ d) (hl : ys.length < 1000) : SD K (tDrop (tDSetd (tVar 7) ty tx)) ρ ρ ys (insN ys y) := fun W p σ H D ok hW h7 E k q => by
  obtain ⟨kvs, hk, hm⟩ := k
  obtain ⟨v, h1, h2⟩ := E.2 7 _ h7
  rw [h2.pin_iff] at h1
  refine ⟨_, h1, p, rfl, .inl ⟨kvs, .inl hk⟩, hy W σ H ok E _ fun u H1 s1 u1 => hx W σ H1 (ok.same s1) (E.same (hide_same s1)) _ fun z H2 s2 z2 => ?_⟩
  have s := s1.trans s2
  have hlen : kvs.length = ys.length := by
    have := congrArg List.length hm
    rw [List.length_map, List.length_map] at this
    unfold cI at this
    rwa [List.length_map] at this
  refine ⟨kvs, .inl (y : Int), s _ _ hk, u1.int_iff, by rw [hlen]; exact Nat.lt_of_lt_of_le hl (by decide), fun w hw => ?_, fun hn => ?_⟩
  · have hin : y ∈ ys := Classical.byContradiction fun q2 => by rw [(keys_val hm y).mpr q2] at hw; cases hw
    refine q σ H2 (ok.same s) (hide_same s) (fun a _ o e => s a o e) (E.same (hide_same s)) ⟨kvs, s _ _ hk, ?_⟩
    rw [show insN ys y = ys from if_pos hin]
    exact hm
  · have hnin := (keys_val hm y).mp hn
    refine q σ _ (fun a ha => ?_) ?_ (fun a ha o e => by rw [upd_ne ha]; exact s a o e) ?_ ⟨_, upd_same, ?_⟩
    · by_cases e : a = p
      · rw [e, upd_same]; exact fun w => nomatch w
      · rw [upd_ne e]; exact ok.same s a ha
    · rw [hide_mut hW]
      exact hide_same s
    · rw [hide_mut hW]
      exact E.same (hide_same s)
    · rw [putK_new z hn, List.map_append, hm, show insN ys y = ys ++ [y] from if_neg hnin]
      unfold cI
      rw [List.map_append, List.map_append]
      rfl

/-- the dict that ways_on gives -/
theorem ways_dc {ρ : Env6} {xs ys : List Nat} {W : List Addr} {p : Addr} {σ : L2.St} {H : Hp} {Q : VK} (nd : ys.Nodup) (hl : ys.length ≤ 1000) (h7 : ρ[7]? = some (some (pinD p))) (h1 : ρ[1]? = some (some (lD xs))) (hρ : ρ.length = 13) (ok : OkW W H) (hW : p ∈ W) (E : EnvD K (hide W H) σ ρ) (k : Keys H p ys)
    (q : ∀ v H2, Same (hide W H) (hide W H2) → (∀ a o, H a = some o → H2 a = some o) → Dv K (hide W H2) v (dD (ys.filter fun y => decide (y ∉ xs))) → Q v H2) :
    tLockE (tDc (iItems (tVar 7)) (gTup K 2 (gCons (gName 11) (gCons (gName 12) gNil))) (tTest (tOp (rIn K true) (tVar 11) (tVar 1))) (tVar 11) (tVar 12) [11, 12]) σ H Q := by
  obtain ⟨kvs, hk, hm⟩ := k
  obtain ⟨v7, e7, r7⟩ := E.2 7 _ h7
  rw [r7.pin_iff] at e7
  have hlen : kvs.length = ys.length := by
    have := congrArg List.length hm
    rw [List.length_map, List.length_map] at this
    unfold cI at this
    rwa [List.length_map] at this
  refine ⟨p, .dK kvs, hk, trivial, fun od => ⟨_, e7, p, od, kvs, rfl, upd_same, fun D hD => ?_⟩⟩
  have hDp : D ≠ p := fun e => by rw [e, upd_same] at hD; cases hD
  have hDH : H D = none := by rw [upd_ne hDp] at hD; exact hD
  have hDW : D ∉ W := ok.notin hDH
  refine ⟨fun i n H' => i ≤ kvs.length ∧ n = kvs.length - i ∧ H' p = some (.frz od (.dK kvs)) ∧ (∀ a, a ≠ p → ∀ o, H a = some o → H' a = some o) ∧ Keys H' D ((ys.take i).filter fun y => decide (y ∉ xs)), ⟨kvs.length, Nat.zero_le _, rfl, by rw [upd_ne (Ne.symm hDp), upd_same], fun a ha o e => by
    have hne : a ≠ D := ne_of_none e hDH
    rw [upd_ne hne, upd_ne ha]
    exact e, [], upd_same, by simp [cI]⟩, ?_⟩
  rintro i n H' ⟨hi, rfl, hp', t', k'⟩
  by_cases hl' : i < kvs.length
  · refine .inr ⟨⟨hp', hl'⟩, fun H'' => H'' p = some (.frz od (.dK kvs)) ∧ (∀ a, a ≠ p → ∀ o, H a = some o → H'' a = some o) ∧ Keys H'' D ((ys.take (i + 1)).filter fun y => decide (y ∉ xs)), fun H'' z => ⟨kvs.length - (i + 1), by omega, hl', rfl, z.1, z.2.1, z.2.2⟩, ?_⟩
    rintro x H2 ⟨T, ky, v, hkv, rfl, hT, rfl⟩
    have hiy : i < ys.length := by omega
    have hyi : ys[i]? = some ys[i] := List.getElem?_eq_getElem hiy
    have eky : ky = .inl (ys[i] : Int) := by
      have e1 : (kvs.map (·.1))[i]? = some ky := by rw [List.getElem?_map, hkv]; rfl
      rw [hm] at e1
      unfold cI at e1
      rw [List.getElem?_map, List.getElem?_map, hyi] at e1
      exact (Option.some.inj e1).symm
    subst eky
    obtain ⟨acc, ha, hacc⟩ := k'
    have hTp : T ≠ p := fun e => by rw [e, hp'] at hT; cases hT
    have hTD : T ≠ D := fun e => by rw [e, ha] at hT; cases hT
    have hTH : H T = none := by
      cases e : H T with
      | none => rfl
      | some o => rw [t' T hTp o e] at hT; cases hT
    refine ⟨T, _, rfl, SqT.of upd_same, rfl, _, _, rfl, _, _, rfl, rfl, ?_, ?_⟩
    · have e : L2.wipe σ [11, 12] = L2.wipe (((L2.wipe σ [11, 12]).set 11 (some (kV (.inl (ys[i] : Int))))).set 12 (some v)) [11, 12] := by
        rw [← wipe_wipe (vs := [11, 12]) (σ := σ)]
        refine wipe_ext ?_ fun j hj => ?_
        · rw [List.length_set, List.length_set, wipe_wipe]
        · have h11 : (11 : Nat) ≠ j := fun z => hj (by rw [← z]; simp)
          have h12 : (12 : Nat) ≠ j := fun z => hj (by rw [← z]; simp)
          rw [List.getElem?_set_ne h12, List.getElem?_set_ne h11, wipe_wipe]
      exact e.symm
    -- what the test sees
    have E2 : EnvD K (hide W H) (((L2.wipe σ [11, 12]).set 11 (some (V.int (ys[i] : Int)))).set 12 (some v)) (((wipeE ρ [11, 12]).set 11 (some (nD ys[i]))).set 12 none) := ((E.wipe [11, 12]).set (.int _) 11).setN 12
    have vis : ∀ {H3 : Hp}, (∀ a, a ≠ p → ∀ o, H a = some o → H3 a = some o) → Same (hide W H) (hide W H3) := fun t a o e => by
      by_cases z : a ∈ W
      · rw [hide_in z] at e; cases e
      · rw [hide_out z] at e ⊢
        exact t a (fun y => z (y ▸ hW)) o e
    have t2 : ∀ a, a ≠ p → ∀ o, H a = some o → upd H' T (.tup [kV (.inl (ys[i] : Int)), v]) a = some o := fun a hap o e => by
      rw [upd_ne (ne_of_none e hTH)]
      exact t' a hap o e
    have okT : OkW W (upd H' T (.tup [kV (.inl (ys[i] : Int)), v])) := fun a haW => by
      by_cases z : a = p
      · rw [z, upd_ne (Ne.symm hTp), hp']
        exact fun y => nomatch y
      · cases e : H a with
        | none => exact absurd e (ok a haW)
        | some o => rw [t2 a z o e]; exact fun y => nomatch y
    have l11 : ((((wipeE ρ [11, 12]).set 11 (some (nD ys[i]))).set 12 none) : Env6)[11]? = some (some (nD ys[i])) := by
      rw [List.getElem?_set_ne (by decide), List.getElem?_set_self]
      show 11 < (List.set (List.set ρ 12 none) 11 none).length
      rw [List.length_set, List.length_set, hρ]
      decide
    have l1 : ((((wipeE ρ [11, 12]).set 11 (some (nD ys[i]))).set 12 none) : Env6)[1]? = some (some (lD xs)) := by
      rw [List.getElem?_set_ne (by decide), List.getElem?_set_ne (by decide)]
      show (List.set (List.set ρ 12 none) 11 none)[1]? = _
      rw [List.getElem?_set_ne (by decide), List.getElem?_set_ne (by decide), h1]
    have ht : ET K (tTest (tOp (rIn K true) (tVar 11) (tVar 1))) (((wipeE ρ [11, 12]).set 11 (some (nD ys[i]))).set 12 none) (decide (ys[i] ∉ xs)) := et_test (ev_op (ev_var l11) (ev_var l1) r2_niN)
    refine ht W _ _ okT (E2.same (vis t2)) _ fun H3 s3 => ?_
    have ha3 : H3 D = some (.dK acc) := s3 _ _ (by rw [upd_ne (Ne.symm hTD)]; exact ha)
    have t3 : ∀ a, a ≠ p → ∀ o, H a = some o → H3 a = some o := fun a hap o e => s3 a o (t2 a hap o e)
    have hp3 : H3 p = some (.frz od (.dK kvs)) := s3 _ _ (by rw [upd_ne (Ne.symm hTp)]; exact hp')
    rw [take_len1 hyi, List.filter_append]
    have hw11 : 11 < (L2.wipe σ [11, 12]).length := by rw [wipe_length, E.1, hρ]; decide
    have hw12 : 12 < (L2.wipe σ [11, 12]).length := by rw [wipe_length, E.1, hρ]; decide
    by_cases hn : ys[i] ∉ xs
    · rw [decide_eq_true hn, if_pos rfl]
      refine ⟨_, by rw [List.getElem?_set_ne (by decide), List.getElem?_set_self hw11], v, by rw [List.getElem?_set_self (by rw [List.length_set]; exact hw12)], acc, .inl (ys[i] : Int), rfl, ha3, ?_, by rw [upd_ne (Ne.symm hDp)]; exact hp3, fun a hap o e => ?_, _, upd_same, ?_⟩
      · have h2 := congrArg List.length hacc
        rw [List.length_map, List.length_map] at h2
        unfold cI at h2
        rw [List.length_map] at h2
        have h3 := List.length_filter_le (fun y => decide (y ∉ xs)) (ys.take i)
        rw [List.length_take] at h3
        exact Nat.lt_of_lt_of_le (m := 1001) (by omega) (by decide)
      · rw [upd_ne (ne_of_none e hDH)]
        exact t3 a hap o e
      · have hv : valV acc (.inl (ys[i] : Int)) = none := (keys_val hacc ys[i]).mpr fun hin => by
          obtain ⟨j, hj, e⟩ := List.mem_iff_getElem.mp (List.mem_filter.mp hin).1
          rw [List.length_take] at hj
          rw [List.getElem_take] at e
          exact (List.pairwise_iff_getElem.mp nd) j i (by omega) hiy (by omega) e
        rw [putK_new _ hv, List.map_append, hacc, show ([ys[i]].filter fun y => decide (y ∉ xs)) = [ys[i]] from List.filter_cons_of_pos (decide_eq_true hn)]
        unfold cI
        rw [List.map_append, List.map_append]
        rfl
    · rw [decide_eq_false hn, if_neg Bool.false_ne_true, show ([ys[i]].filter fun y => decide (y ∉ xs)) = [] from List.filter_cons_of_neg (fun z => hn (of_decide_eq_true z)), List.append_nil]
      exact ⟨hp3, t3, acc, ha3, hacc⟩
  · have e : i = kvs.length := by omega
    subst e
    obtain ⟨acc, ha, hacc⟩ := k'
    rw [hlen, List.take_length] at hacc
    have fin : ∀ a o, H a = some o → upd H' p (.dK kvs) a = some o := fun a o e => by
      by_cases z : a = p
      · rw [z] at e ⊢
        rw [upd_same, ← hk, e]
      · rw [upd_ne z]
        exact t' a z o e
    refine .inl ⟨⟨hp', Nat.le_refl _⟩, hp', q _ _ (fun a o e => ?_) fin (.dic (cI _) ?_ hacc)⟩
    · by_cases z : a ∈ W
      · rw [hide_in z] at e; cases e
      · rw [hide_out z] at e ⊢
        exact fin a o e
    · rw [hide_out hDW, upd_ne hDp]
      exact ha

def waysP (k : Kd) (xs l : List Nat) : List Nat := l.flatMap fun x => (k.ups.map fun r => Kd.U r x) ++ xs.map fun y => k.J x y
theorem waysP_len {k : Kd} (L : Lat k) {xs : List Nat} (h : xs.length ≤ 8) : ∀ l : List Nat, (waysP k xs l).length ≤ l.length * 12
  | [] => Nat.le_refl _
  | x :: l => by
    have ih := waysP_len L h l
    have h4 := L.ups4
    unfold waysP at ih ⊢
    rw [List.flatMap_cons, List.length_append, List.length_append, List.length_map, List.length_map, List.length_cons]
    omega
theorem good_ways_on (T : Txt w K mg)  : Good P w K mg base 1 "ways_on" ["kind", "some", "numbers"] (PSp K R_ways_on) := by
  refine good_of2 T.F_ways_on sc_ways_on (R := R_ways_on) (fun ds d h => ?_) (fun _ _ _ _ _ _ us hl => match us, hl with | [_, _, _], _ => rfl) fun cdv A outer s H E hr => ⟨_, (pss_cons (ps_asg (pv 0) (gtK (n := 4) K rfl (pgs_cons (pg_name (i := 3) sc_ways_on.nd rfl (by first | exact Or.inl rfl | exact Or.inr rfl)) (pgs_cons (pg_name (i := 4) sc_ways_on.nd rfl (by first | exact Or.inl rfl | exact Or.inr rfl)) (pgs_cons (pg_name (i := 5) sc_ways_on.nd rfl (by first | exact Or.inl rfl | exact Or.inr rfl)) (pgs_cons (pg_name (i := 6) sc_ways_on.nd rfl (by first | exact Or.inl rfl | exact Or.inr rfl)) pgs_nil))))))
      (pss_cons (ps_set (i := 7) sc_ways_on.nd rfl (by first | exact Or.inl rfl | exact Or.inr rfl) pe_dnewK)
      (pss_cons (ps_for PassesOwn.never rfl (piK K (pv 1)) (pg_name (i := 8) sc_ways_on.nd rfl (by first | exact Or.inl rfl | exact Or.inr rfl))
      (pss_cons (ps_for PassesOwn.never rfl (piK K (pv 2)) (pg_name (i := 9) sc_ways_on.nd rfl (by first | exact Or.inl rfl | exact Or.inr rfl))
      (pss_one (ps_expr (pe_dsetd (pv 7) (pe_ix (ixK K) (pe_ix (ixK K) (pv 4) (pv 9) (fun _ _ => rfl)) (pv 8) (fun _ _ => rfl)) (pe_tup (pa_cons (pe_gs (by rfl) T.s_DO) (pa_cons (pv 8) (pa_cons (pv 9) pa_nil)))) ⟨rfl, rfl, rfl, rfl⟩))))
      (pss_one (ps_for PassesOwn.never rfl (piK K (pv 1)) (pg_name (i := 10) sc_ways_on.nd rfl (by first | exact Or.inl rfl | exact Or.inr rfl))
      (pss_one (ps_expr (pe_dsetd (pv 7) (pe_ix (ixK K) (pe_ix (ixK K) (pv 5) (pv 8) (fun _ _ => rfl)) (pv 10) (fun _ _ => rfl)) (pe_tup (pa_cons (pe_gs (by rfl) T.s_HEAR) (pa_cons (pv 8) (pa_cons (pv 10) pa_nil)))) ⟨rfl, rfl, rfl, rfl⟩)))))))
      (pss_one (ps_ret (pe_lock (pe_dc (own := [("state", 11), ("way", 12)]) rfl sc_ways_on.nd (pi_items (pv 7) ) (blkOk_by (own := [("state", 11), ("way", 12)]) (by kernel_rfl)) (fun _ _ _ _ _ => (gtK (n := 2) K rfl (pgs_cons (pg_name (i := 11) sc_ways_on.nd rfl (by first | exact Or.inl rfl | exact Or.inr rfl)) (pgs_cons (pg_name (i := 12) sc_ways_on.nd rfl (by first | exact Or.inl rfl | exact Or.inr rfl)) pgs_nil)))) (fun _ _ _ _ _ => (pts_one (pt_cmpR (niK K) (pv 11) (pv 1) (by rfl)))) (fun _ _ _ _ _ => (pv 11)) (fun _ _ _ _ _ => (pv 12))))))))), fun ds d h => ?_⟩
  · obtain ⟨_, _, _, _, _, rfl, _⟩ := h; rfl
  · obtain ⟨k, xs, L, h8, hx, rfl, rfl⟩ := h
    have u4 := L.ups4
    refine .inl fun W σ H D ok E q => ?_
    refine (sv_asg (ev_var rfl) (gv_tup (ts := [3, 4, 5, 6]) rfl (gsv_cons (gv_name (by simp)) (gsv_cons (gv_name (by simp)) (gsv_cons (gv_name (by simp)) (gsv_cons (gv_name (by simp)) gsv_nil)))))) W σ H _ ok E fun σ1 H1 s1 E1 => ?_
    intro p hp
    have e1 := same_new (o := .dK []) hp
    have ok1 := ok.same s1
    have npW : p ∉ W := ok1.notin hp
    have okp : OkW (p :: W) (upd H1 p (.dK [])) := fun a ha => by
      rcases List.mem_cons.mp ha with z | z
      · rw [z, upd_same]; exact fun y => nomatch y
      · exact ok1.same e1 a z
    have visp : Same (hide W H1) (hide (p :: W) (upd H1 p (.dK []))) := fun a o e => by
      by_cases z : a ∈ W
      · rw [hide_in z] at e; cases e
      · rw [hide_out z] at e
        have hne : a ≠ p := ne_of_none e hp
        rw [hide_out (fun y => (List.mem_cons.mp y).elim hne z)]
        exact e1 a o e
    have E2 : EnvD K (hide (p :: W) (upd H1 p (.dK []))) (σ1.set 7 (some (.ref p))) [some (kD k), some (lD xs), some (lD (List.range k.ups.length)), some (nD k.st), some (mD k.ups), some (mD k.mg), some (tD k.rd), some (pinD p), none, none, none, none, none] := (E1.same visp).set (.pin p) 7
    have hle : ∀ i, (waysP k xs (xs.take i)).length ≤ 96 := fun i => by
      have := waysP_len L h8 (xs.take i)
      rw [List.length_take] at this
      omega
    refine (sd_for (us := [8]) (xs := xs) (enc := nD) (fun i => (waysP k xs (xs.take i)).foldl insN []) (iv_L (ev_var rfl)) fun i x hxi => ?_) (p :: W) p _ _ _ okp List.mem_cons_self rfl E2 ⟨[], upd_same, by simp [waysP, cI]⟩ fun σ3 H3 ok3 s3 t3 E3 k3 => ?_
    · have hxn := hx x (List.mem_of_getElem? hxi)
      have ha0 : ((waysP k xs (xs.take i)).foldl insN []).length ≤ 96 := Nat.le_trans (insF_len _ _) (by have := hle i; simpa using this)
      have eN : (waysP k xs (xs.take (i + 1))).foldl insN [] = (xs.map fun y => k.J x y).foldl insN ((k.ups.map fun r => Kd.U r x).foldl insN ((waysP k xs (xs.take i)).foldl insN [])) := by
        rw [take_len1 hxi]
        unfold waysP
        rw [List.flatMap_append, List.foldl_append, List.flatMap_cons, List.flatMap_nil, List.append_nil, List.foldl_append]
      rw [eN]
      generalize (waysP k xs (xs.take i)).foldl insN [] = acc at ha0
      have ha1 : ((k.ups.map fun r => Kd.U r x).foldl insN acc).length ≤ 100 := Nat.le_trans (insF_len _ _) (by rw [List.length_map]; omega)
      refine ⟨_, _, gv_name (by simp), fun _ z => z, sd_seq (sd_for (us := [9]) (xs := List.range k.ups.length) (enc := nD) (fun j => ((k.ups.take j).map fun r => Kd.U r x).foldl insN acc) (iv_L (ev_var rfl)) fun j y hj => ?_) (((sd_for (us := [10]) (xs := xs) (enc := nD) (fun j => ((xs.take j).map fun y => k.J x y).foldl insN ((k.ups.map fun r => Kd.U r x).foldl insN acc)) (iv_L (ev_var rfl)) fun j y hj => ?_).fin (by rw [List.take_length])).start (by rw [List.length_range, List.take_length]; rfl)) (fun _ z => z), ?_⟩
      · obtain ⟨hj1, hj2⟩ := List.getElem?_eq_some_iff.mp hj
        rw [List.length_range] at hj1
        rw [List.getElem_range] at hj2
        subst hj2
        have e : k.ups[j]? = some (k.ups.getD j []) := by rw [List.getD_eq_getElem?_getD, List.getElem?_eq_getElem hj1]; rfl
        have hr := (L.upsR _ (List.mem_of_getElem? e)).1
        refine ⟨_, _, gv_name (by simp), fun _ z => z, (sd_setd (ev_op (ev_op (ev_var rfl) (ev_var rfl) (r2_ixM hj1)) (ev_var rfl) (r2_ixN (by rw [hr]; exact hxn))) (ev_tup (ea_cons ev_str (ea_cons (ev_var rfl) (ea_cons (ev_var rfl) ea_nil))) (by show 3 ≤ sizeLine; decide)) ?_).fin ?_, ⟨rfl, rfl, rfl, rfl, rfl, rfl, rfl, rfl, rfl, trivial⟩⟩
        · refine Nat.lt_of_le_of_lt (insF_len _ _) ?_
          rw [List.length_map, List.length_take]
          omega
        · rw [take_len1K e, List.map_append, List.foldl_append]
          rfl
      · have hyn := hx y (List.mem_of_getElem? hj)
        refine ⟨_, _, gv_name (by simp), fun _ z => z, (sd_setd (ev_J L (ev_var rfl) (ev_var rfl) (ev_var rfl) hxn hyn) (ev_tup (ea_cons ev_str (ea_cons (ev_var rfl) (ea_cons (ev_var rfl) ea_nil))) (by show 3 ≤ sizeLine; decide)) ?_).fin ?_, ⟨rfl, rfl, rfl, rfl, rfl, rfl, rfl, rfl, rfl, trivial⟩⟩
        · refine Nat.lt_of_le_of_lt (insF_len _ _) ?_
          rw [List.length_map, List.length_take]
          omega
        · rw [take_len1 hj, List.map_append, List.foldl_append]
          rfl
      · exact ⟨rfl, rfl, rfl, rfl, rfl, rfl, rfl, rfl, trivial⟩
    · rw [List.take_length] at k3
      have hwl := hle xs.length
      rw [List.take_length] at hwl
      refine ways_dc (xs := xs) (insF_nd _ _ List.nodup_nil) (Nat.le_trans (insF_len _ _) (by simp; omega)) rfl rfl rfl ok3 List.mem_cons_self E3 k3 fun v H4 s4 t4 v4 => ?_
      refine q v H4 (fun a o e => ?_) (v4.same (hide_sub fun a ha => List.mem_cons_of_mem _ ha))
      have h1 := s1 a o e
      have hne : a ≠ p := ne_of_none h1 hp
      exact t4 a o (t3 a hne o (e1 a o h1))
theorem ev_disp1 {ρ : Env6} {te : TE} {y : Nat} (h : EV K te ρ (nD y)) : EV K (tDisp [(te, tC .non)]) ρ (dD [y]) := fun W σ H ok E Q q => by
  intro p hp
  have e1 := same_new (o := .dK []) hp
  have npW : p ∉ W := ok.notin hp
  have okp : OkW (p :: W) (upd H p (.dK [])) := fun a ha => by
    rcases List.mem_cons.mp ha with z | z
    · rw [z, upd_same]; exact fun y => nomatch y
    · exact ok.same e1 a z
  have visp : Same (hide W H) (hide (p :: W) (upd H p (.dK []))) := fun a o e => by
    by_cases z : a ∈ W
    · rw [hide_in z] at e; cases e
    · rw [hide_out z] at e
      have hne : a ≠ p := ne_of_none e hp
      rw [hide_out (fun y => (List.mem_cons.mp y).elim hne z)]
      exact e1 a o e
  refine h (p :: W) σ _ okp (E.same visp) _ fun v H2 s2 v2 => ?_
  refine ⟨s2 _ _ upd_same, [(.inl (y : Int), .non)], ?_, by show 1 ≤ 15; decide, q _ _ (fun a o e => ?_) (.dic [(y : Int)] (kvs := mergeK [] [(.inl (y : Int), .non)]) ?_ rfl)⟩
  · rw [v2.int_iff]; rfl
  · rw [upd_ne (ne_of_none e hp)]
    exact s2 a o (e1 a o e)
  · rw [hide_out npW, upd_same]
theorem ev_dnew {ρ : Env6} : EV K tDNewK ρ (dD []) := fun W σ H ok E Q q p hp => q _ _ (same_new hp) (.dic [] (hide_new ok hp) rfl)
theorem dD_iff {h : Hp} {v : V} {ys : List Nat} (r : Dv K h v (dD ys)) : ∃ a kvs, v = .ref a ∧ h a = some (.dK kvs) ∧ kvs.map (·.1) = (cI ys).map Sum.inl := r.dic_iff
theorem r2_neDE {ys : List Nat} : R2V K rNeDE (dD ys) (dD []) (.bool (!ys.isEmpty)) := fun W x y H o hx hy Q q => by
  obtain ⟨a, kvs, rfl, h1, h2⟩ := dD_iff hx
  obtain ⟨b, kvs2, rfl, h3, h4⟩ := dD_iff hy
  have e : kvs2 = [] := List.map_eq_nil_iff.mp h4
  subst e
  refine ⟨a, b, kvs, rfl, rfl, hide_le _ _ h1, hide_le _ _ h3, q _ H (Same.refl H) ?_⟩
  have e2 : kvs.isEmpty = ys.isEmpty := by
    cases kvs with
    | nil =>
      cases ys with
      | nil => rfl
      | cons y ys => cases h2
    | cons k kvs =>
      cases ys with
      | nil => cases h2
      | cons y ys => rfl
  rw [e2]
  exact .bl _
theorem ev_listD {ρ : Env6} {te : TE} {ys : List Nat} (h : EV K te ρ (dD ys)) : EV K (tCB rListD (tCons te tNil)) ρ (lD ys) := ev_CB (ea_cons h ea_nil) fun W vs H o r Q q => by
  cases r with
  | cons h1 h2 =>
    cases h2
    obtain ⟨a, kvs, rfl, h3, h4⟩ := dD_iff h1
    refine ⟨a, kvs, rfl, hide_le _ _ h3, fun l hl => ?_⟩
    have e : (kvs.map fun kv => kV kv.1) = (cI ys).map V.int := by
      have e1 : (kvs.map fun kv => kV kv.1) = (kvs.map (·.1)).map kV := by rw [List.map_map]; rfl
      rw [e1, h4, List.map_map]
      rfl
    rw [e]
    refine q _ _ (same_new hl) ?_
    rw [lD_int]
    exact .lst (hide_new o hl) (.of_ints _)
theorem good_come_by (T : Txt w K mg) (g_ways_on : Good P w K mg base 1 "ways_on" ["kind", "some", "numbers"] (PSp K R_ways_on)) : Good P w K mg base 2 "come_by" ["kind", "numbers"] (PSp K R_come_by) := by
  refine good_of2 T.F_come_by sc_come_by (R := R_come_by) (fun ds d h => ?_) (fun _ _ _ _ _ _ us hl => match us, hl with | [_, _], _ => rfl) fun cdv A outer s H E hr => ⟨_, (pss_cons (ps_par (i := 2) (j := 3) (by rfl) sc_come_by.nd rfl rfl (by decide) rfl rfl (pa_cons (pe_lst (pa_cons (pe_ix (ixK K) (pv 0) pe_int (fun _ _ => rfl)) pa_nil)) (pa_cons (pe_disp (pps_cons (pe_ix (ixK K) (pv 0) pe_int (fun _ _ => rfl)) pe_non pps_nil) (by rfl) (by rfl) (fun z => by cases z) (by decide)) pa_nil)) (by rfl))
      (pss_cons (ps_while PassesOwn.never (pt_cmpR (op_ne_dE (hu_of hr)) (pv 3) pe_dnewK (nomark _))
      (pss_cons (ps_set (i := 3) sc_come_by.nd rfl (by first | exact Or.inl rfl | exact Or.inr rfl) (pe_cg g_ways_on (hr.mono (by decide)) (by rfl) (pa_cons (pv 0) (pa_cons (pv 2) (pa_cons (pv 1) pa_nil)))))
      (pss_one (ps_set (i := 2) sc_come_by.nd rfl (by first | exact Or.inl rfl | exact Or.inr rfl) (pe_op op_cat (pv 2) (pe_callTy (call_list_dK rfl) (by rfl) T.m_list boot_list (pa_cons (pv 3) pa_nil)))))))
      (pss_one (ps_ret (pe_callB (sortK K) (by rfl) T.m_sorted boot_sorted (pa_cons (pv 2) pa_nil)))))), fun ds d h => ?_⟩
  · obtain ⟨_, _, rfl, _⟩ := h; rfl
  · obtain ⟨k, L, rfl, rfl⟩ := h
    have n8 := L.n8
    refine .inl (sv_seq (sv_par (b := dD [k.st]) (ea_cons (ev_lst (ds := [nD k.st]) (ea_cons (ev_k0 (ev_var rfl)) ea_nil) (by show 1 ≤ sizeLine; decide)) (ea_cons (ev_disp1 (ev_k0 (ev_var rfl))) ea_nil))) ?_)
    refine sv_whileK (α := List Nat × List Nat) (fun x => [some (kD k), some (lD (List.range k.ups.length)), some (lD x.1), some (dD x.2)]) (fun x => Sofar k x.1 ∧ (x.2 = [] → Clo k x.1)) (fun x => (k.n - x.1.length) * 2 + (if x.2 = [] then 0 else 1)) ([k.st], [k.st]) (by exact ⟨rfl, rfl, rfl, rfl, trivial⟩) ⟨.one k, fun z => nomatch z⟩ fun x ix => ?_
    obtain ⟨found, fresh⟩ := x
    obtain ⟨S, cl⟩ := ix
    have S : Sofar k found := S
    have hl := S.len L
    refine ⟨!fresh.isEmpty, et_test (ev_op (ev_var rfl) ev_dnew r2_neDE), fun ht => ?_, fun hf => ?_⟩
    · have hne : fresh ≠ [] := fun e => by rw [e] at ht; cases ht
      have S2 := S.ways
      have hl2 := S2.len L
      rw [List.length_append] at hl2
      refine ⟨(found ++ ways k found, ways k found), ⟨S2, fun e => ?_⟩, ?_, ?_⟩
      · have e : ways k found = [] := e
        show Clo k (found ++ ways k found)
        rw [e, List.append_nil]
        exact S.clo e
      · show (k.n - (found ++ ways k found).length) * 2 + (if ways k found = [] then 0 else 1) < (k.n - found.length) * 2 + (if fresh = [] then 0 else 1)
        rw [if_neg hne, List.length_append]
        by_cases e : ways k found = []
        · rw [if_pos e, e]
          show (k.n - (found.length + 0)) * 2 + 0 < _
          omega
        · rw [if_neg e]
          have : 0 < (ways k found).length := List.length_pos_iff.mpr e
          omega
      · exact SV.to (sv_seq (sv_set (ev_call (R := R_ways_on) (ea_cons (ev_var rfl) (ea_cons (ev_var rfl) (ea_cons (ev_var rfl) ea_nil))) ⟨k, found, L, by omega, S.lt L, rfl, rfl⟩)) (sv_set ((ev_op (ev_var rfl) (ev_listD (ev_var rfl)) (r2_catL (by rw [List.length_map, List.length_map]; exact Nat.le_trans (m := 8) (by show found.length + (ways k found).length ≤ 8; omega) (by decide)))).is (by rw [← List.map_append]; rfl)))) ⟨rfl, rfl, rfl, rfl, trivial⟩
    · have e : fresh = [] := by
        cases fresh with
        | nil => rfl
        | cons => cases hf
      exact sv_ret (ev_sortN (ev_var rfl) ((cl e).perm L) come_asc)
end
end G6
namespace G6
open PySem PySem.Spec PyProof.Rows L2
section
variable {P : Program} {w : World} {K : PySem.W.Frag} {mg : Str → Option Value} {base : Heap}

theorem ev_int1 {ρ : Env6} {te : TE} {i : Int} (h : EV K te ρ (.int i)) : EV K (tCB (fun xs H Q => (∃ i, xs = [.int i] ∧ Q (.int i) H) ∨ ∃ k, xs = [.bl k] ∧ Q (.int (if k then 1 else 0)) H) (tCons te tNil)) ρ (.int i) := ev_CB (ea_cons h ea_nil) rc_int1
theorem good__law_mixed (T : Txt w K mg)  : Good P w K mg base 1 "_law_mixed" ["_law_cell", "_law_n"] (PSp K R__law_mixed) := by
  refine good_of2 T.F__law_mixed sc__law_mixed (R := R__law_mixed) (fun ds d h => ?_) (fun _ _ _ _ _ _ us hl => match us, hl with | [_, _], _ => rfl) fun cdv A outer s H E hr => ⟨_, (pss_cons (ps_set (i := 2) sc__law_mixed.nd rfl (by first | exact Or.inl rfl | exact Or.inr rfl) (pe_op op_add (pe_op op_add (pe_op op_mod (pe_callTy call_int1 (by rfl) T.m_int boot_int (pa_cons (pe_op op_mul (pe_op op_mul (pv 0) (pe_op op_add pe_int (pe_op op_mul pe_int (pv 1)))) pe_int) pa_nil)) pe_int) (pe_op op_mul (pe_op op_mul pe_int (pv 1)) (pv 1))) (pe_op op_mul pe_int (pv 1))))
      (pss_one (ps_ret (pe_op op_fdiv (pe_op op_mod (pe_callTy call_int1 (by rfl) T.m_int boot_int (pa_cons (pe_op op_mul (pv 2) pe_int) pa_nil)) pe_int) pe_int)))), fun ds d h => ?_⟩
  · obtain ⟨_, _, _, _, _, _, rfl, _⟩ := h; rfl
  · obtain ⟨c, n, c0, c1, n0, n1, rfl, rfl⟩ := h
    refine .inl (sv_seq (sv_set (ev_op (ev_op (ev_op (ev_int1 (ev_op (ev_op (ev_var rfl) (ev_op ev_int (ev_op ev_int (ev_var rfl) (r2_mul ?_)) r2_add) (r2_mul ?_)) ev_int (r2_mul ?_))) ev_int (r2_mod (by decide))) (ev_op (ev_op ev_int (ev_var rfl) (r2_mul ?_)) (ev_var rfl) (r2_mul ?_)) r2_add) (ev_op ev_int (ev_var rfl) (r2_mul ?_)) r2_add)) (sv_ret ((ev_op (ev_op (ev_int1 (ev_op (ev_var rfl) ev_int (r2_mul ?_))) ev_int (r2_mod (by decide))) ev_int (r2_fdiv (by exact ⟨by decide, by decide⟩))).is rfl)))
    · exact .inl ⟨by decide, by decide⟩
    · exact .inl ⟨by omega, by omega⟩
    · exact .inr ⟨by decide, by decide⟩
    · exact .inl ⟨by decide, by decide⟩
    · exact .inr ⟨by omega, by omega⟩
    · exact .inl ⟨by decide, by decide⟩
    · exact .inr ⟨by decide, by decide⟩
theorem good__law_join (T : Txt w K mg)  : Good P w K mg base 1 "_law_join" ["_law_kind_so", "_law_some"] (PSp K R__law_join) := by
  refine good_of2 T.F__law_join sc__law_join (R := R__law_join) (fun ds d h => ?_) (fun _ _ _ _ _ _ us hl => match us, hl with | [_, _], _ => rfl) fun cdv A outer s H E hr => ⟨_, (pss_cons (ps_set (i := 2) sc__law_join.nd rfl (by first | exact Or.inl rfl | exact Or.inr rfl) (pe_ix (ixK K) (pv 0) pe_int (fun _ _ => rfl)))
      (pss_cons (ps_for PassesOwn.never rfl (piK K (pv 1)) (pg_name (i := 3) sc__law_join.nd rfl (by first | exact Or.inl rfl | exact Or.inr rfl))
      (pss_one (ps_set (i := 2) sc__law_join.nd rfl (by first | exact Or.inl rfl | exact Or.inr rfl) (pe_ix (ixK K) (pe_ix (ixK K) (pe_ix (ixK K) (pv 0) pe_int (fun _ _ => rfl)) (pv 2) (fun _ _ => rfl)) (pv 3) (fun _ _ => rfl)))))
      (pss_one (ps_ret (pv 2))))), fun ds d h => ?_⟩
  · obtain ⟨_, _, _, _, rfl | rfl, _⟩ := h <;> rfl
  · obtain ⟨k, xs, L, hx, h, rfl⟩ := h
    rcases h with rfl | rfl
    all_goals
      refine .inl (sv_seq (sv_set (ev_k0 (ev_var rfl))) ?_)
      refine sv_seq (sv_forN (us := [3]) (xs := xs) (enc := nD) (fun i => [some (kD k), some _, some (nD (k.join (xs.take i))), none]) (by first | exact iv_L (ev_var rfl) | exact iv_T (ev_var rfl)) (by exact ⟨rfl, rfl, rfl, trivial⟩) fun i x hi => ?_) ?_
      · have hj : k.join (xs.take i) < k.n := join_lt L fun y hy => hx y (List.mem_of_mem_take hy)
        refine ⟨_, gv_name (by simp), SV.to (sv_set (ev_J L (ev_k2 (ev_var rfl)) (ev_var rfl) (ev_var rfl) hj (hx x (List.mem_of_getElem? hi)))) ⟨rfl, rfl, ?_, trivial⟩⟩
        unfold Kd.join
        rw [List.take_add_one, hi, List.foldl_append]
        rfl
      · rw [List.take_length]
        exact sv_ret (ev_var rfl)
theorem good__law_like (T : Txt w K mg)  : GoodG P w K mg base 1 "_law_like" ["_law_got", "_law_due"] (PSp K R__law_like) := by
  refine goodG_of2 T.F__law_like sc__law_like (R := R__law_like) (fun ds d h => ?_) (fun _ _ _ _ _ _ us hl => match us, hl with | [_, _], _ => rfl) fun cdv A outer s H hgd hr => ⟨_, (pss_one (ps_ret (pe_cmpR op_eq (pe_callB (reprK K hgd hr.units) (by rfl) T.m_repr boot_repr (pa_cons (pv 0) pa_nil)) (pe_callB (reprK K hgd hr.units) (by rfl) T.m_repr boot_repr (pa_cons (pv 1) pa_nil)) (nomark _)))), fun ds d h => ?_⟩
  · obtain ⟨_, _, rfl, _⟩ := h; rfl
  · obtain ⟨xs, ok, rfl, rfl⟩ := h
    obtain ⟨h1, h2, h3, h4⟩ := ok
    refine .inl (sv_ret ((ev_op (ev_CB (ea_cons (ev_var rfl) ea_nil) (rc_reprL h1 h2 h3 h4)) (ev_CB (ea_cons (ev_var rfl) ea_nil) (rc_reprL h1 h2 h3 h4)) r2_eqS).is ?_))
    rw [decide_eq_true rfl]
theorem cut_lo {xs : List PyData} {i : Nat} (h : i ≤ xs.length) : cutD xs none (some (i : Int)) = xs.take i := by
  unfold cutD
  rw [HT.sIx_none, HT.sIx_nat, Nat.min_eq_left h, List.drop_zero, Nat.sub_zero]
theorem cut_hi {xs : List PyData} {i : Nat} (h : i ≤ xs.length) : cutD xs (some (i : Int)) none = xs.drop i := by
  unfold cutD
  rw [HT.sIx_none, HT.sIx_nat, Nat.min_eq_left h]
  exact List.take_of_length_le (by rw [List.length_drop]; exact Nat.le_refl _)
theorem ev_take {ρ : Env6} {te ti : TE} {xs : List Nat} {i : Nat} (h : EV K te ρ (tD xs)) (h2 : EV K ti ρ (nD i)) (hi : i ≤ xs.length) : EV K (tSl (rSlA K) te tNoPart (tPart ti)) ρ (tD (xs.take i)) :=
  (ev_sliceT h eo_none (eo_some h2)).is (by rw [cut_lo (by rw [List.length_map]; exact hi), ← List.map_take]; rfl)
theorem ev_drop {ρ : Env6} {te ti : TE} {xs : List Nat} {i : Nat} (h : EV K te ρ (tD xs)) (h2 : EV K ti ρ (nD i)) (hi : i ≤ xs.length) : EV K (tSl (rSlA K) te (tPart ti) tNoPart) ρ (tD (xs.drop i)) :=
  (ev_sliceT h (eo_some h2) eo_none).is (by rw [cut_hi (by rw [List.length_map]; exact hi), ← List.map_drop]; rfl)
theorem ev_cat {ρ : Env6} {ta tb : TE} {xs ys : List Nat} (h : EV K ta ρ (tD xs)) (h2 : EV K tb ρ (tD ys)) (hl : xs.length + ys.length ≤ 1000) : EV K (tOp (rCatA K) ta tb) ρ (tD (xs ++ ys)) :=
  (ev_op h h2 (r2_catT (by rw [List.length_map, List.length_map]; exact Nat.le_trans hl (by decide)))).is (by rw [← List.map_append]; rfl)
theorem eqv_nil (ds : List PyData) : PyData.eqv (.list ds) (.list []) = ds.isEmpty := by
  cases ds with
  | nil => rfl
  | cons d ds => rfl
theorem shaped_nil : SeqAt.shaped (.list []) = true := by decide
theorem shaped_flat {ds : List PyData} {n : Nat} (h1 : ∀ d, d ∈ ds → PyData.canLay0 d = true) (h2 : ∀ d, d ∈ ds → PyData.depth d ≤ n) (hn : n ≤ 60) : SeqAt.shaped (.list ds) = true := by
  unfold SeqAt.shaped
  rw [Bool.and_eq_true]
  refine ⟨?_, decide_eq_true ?_⟩
  · unfold PyData.canLay0
    exact lay_all h1
  · unfold PyData.depth
    have := depth_all h2
    omega
theorem good__law_tight (T : Txt w K mg) (g__law_join : Good P w K mg base 1 "_law_join" ["_law_kind_so", "_law_some"] (PSp K R__law_join)) : Good P w K mg base 2 "_law_tight" ["_law_kind_so", "_law_some"] (PSp K R__law_tight) := by
  refine good_of2 T.F__law_tight sc__law_tight (R := R__law_tight) (fun ds d h => ?_) (fun _ _ _ _ _ _ us hl => match us, hl with | [_, _], _ => rfl) fun cdv A outer s H E hr => ⟨_, (pss_cons (ps_set (i := 2) sc__law_tight.nd rfl (by first | exact Or.inl rfl | exact Or.inr rfl) (pe_lst (pa_cons (pe_tup pa_nil) pa_nil)))
      (pss_cons (ps_for PassesOwn.never rfl (piK K (pv 1)) (pg_name (i := 3) sc__law_tight.nd rfl (by first | exact Or.inl rfl | exact Or.inr rfl))
      (pss_one (ps_set (i := 2) sc__law_tight.nd rfl (by first | exact Or.inl rfl | exact Or.inr rfl) (pe_op op_cat (pv 2) (pe_lc (own := [("_law_lot", 5)]) rfl sc__law_tight.nd (piK K (pv 2)) (blkOk_by (own := [("_law_lot", 5)]) (by kernel_rfl)) (fun _ _ _ _ _ => (pg_name (i := 5) sc__law_tight.nd rfl (by first | exact Or.inl rfl | exact Or.inr rfl))) (fun _ _ _ _ _ => pts_nil) (fun _ _ _ _ _ => (pe_op (catAK K) (pv 5) (pe_tup (pa_cons (pv 3) pa_nil)))))))))
      (pss_cons (ps_set (i := 4) sc__law_tight.nd rfl (by first | exact Or.inl rfl | exact Or.inr rfl) pe_int)
      (pss_cons (ps_for PassesOwn.never rfl (piK K (pv 2)) (pg_name (i := 5) sc__law_tight.nd rfl (by first | exact Or.inl rfl | exact Or.inr rfl))
      (pss_cons (ps_set (i := 6) sc__law_tight.nd rfl (by first | exact Or.inl rfl | exact Or.inr rfl) (pe_cg g__law_join (hr.mono (by decide)) (by rfl) (pa_cons (pv 0) (pa_cons (pv 5) pa_nil))))
      (pss_cons (ps_setLc (i := 7) (own := [("_law_spot", 8)]) rfl sc__law_tight.nd rfl rfl (sw_true rfl rfl rfl (by decide +kernel)) (pi_range1 (by rfl) T.m_range (pa_cons (pe_callB (lenK K) (by rfl) T.m_len boot_len (pa_cons (pv 5) pa_nil)) pa_nil)) (blkOk_by (own := [("_law_spot", 8)]) (by kernel_rfl)) (fun _ _ _ _ _ => (pg_name (i := 8) sc__law_tight.nd rfl (by first | exact Or.inl rfl | exact Or.inr rfl))) (fun _ _ _ _ _ => (pts_one (pt_cmpR op_eq (pe_cg g__law_join (hr.mono (by decide)) (by rfl) (pa_cons (pv 0) (pa_cons (pe_op (catAK K) (pe_slice (slK K) (pv 5) po_none (po_some (pv 8))) (pe_slice (slK K) (pv 5) (po_some (pe_op op_add (pv 8) pe_int)) po_none)) pa_nil))) (pv 6) (nomark _)))) (fun _ _ _ _ _ => pe_int))
      (pss_one (ps_set (i := 4) sc__law_tight.nd rfl (by first | exact Or.inl rfl | exact Or.inr rfl) (pe_ifExp (pt_cmpR (eqDK K hr.units) (pv 7) (pe_lst pa_nil) (nomark _)) (pe_callB (call_max2 rfl) (by rfl) T.m_max boot_max (pa_cons (pv 4) (pa_cons (pe_callB (lenK K) (by rfl) T.m_len boot_len (pa_cons (pv 5) pa_nil)) pa_nil))) (pv 4)))))))
      (pss_one (ps_ret (pv 4))))))), fun ds d h => ?_⟩
  · obtain ⟨_, _, rfl, _⟩ := h; rfl
  · obtain ⟨k, L, rfl, rfl⟩ := h
    have h8 := come_len L
    have hle : ∀ i, (lotsOf ((come k).take i)).length ≤ 256 := fun i => lots_len (by rw [List.length_take]; omega)
    refine .inl (sv_seq (sv_set (ev_lst (ea_cons (ev_tup ea_nil (by decide)) ea_nil) (by decide))) ?_)
    refine sv_seq (sv_forN (us := [3]) (xs := come k) (enc := nD) (fun i => [some (kD k), some (lD (come k)), some (.list ((lotsOf ((come k).take i)).map tD)), none, none, none, none, none, none]) (iv_L (ev_var rfl)) (by exact ⟨rfl, rfl, rfl, trivial⟩) fun i x hx => ⟨_, gv_name (by simp), ?_⟩) ?_
    · have hl := hle i
      refine SV.to (sv_set ((ev_op (ev_var rfl) (ev_lcA (α := List Nat) (xs := lotsOf ((come k).take i)) (enc := tD) (fun l => tD (l ++ [x])) (iv_L (ev_var rfl)) (by omega) fun l hlt => ⟨_, gv_name (by simp), ev_cat (ev_var rfl) (ev_tup (ds := [nD x]) (ea_cons (ev_var rfl) ea_nil) (by show 1 ≤ sizeLine; decide)) ?_⟩) (r2_catL ?_)).is ?_)) ⟨rfl, rfl, rfl, trivial⟩
      · have h1 := (lots_sub hlt).length_le
        have h2 : ((come k).take i).length ≤ 8 := by rw [List.length_take]; omega
        show l.length + 1 ≤ 1000
        omega
      · rw [List.length_map, List.length_map]
        exact Nat.le_trans (m := 512) (by omega) (by decide)
      · congr 1
        unfold lotsOf
        rw [List.take_add_one, hx, List.foldl_append]
        show _ = List.map tD (_ ++ _)
        rw [List.map_append, List.map_map]
        rfl
    · have hl := hle (come k).length
      rw [List.take_length] at hl ⊢
      refine sv_seq (sv_set ev_int) ?_
      refine sv_seq (sv_forN (us := [5]) (xs := lotsOf (come k)) (enc := tD) (fun i => [some (kD k), some (lD (come k)), some (.list ((lotsOf (come k)).map tD)), none, some (nD (k.lawMost ((lotsOf (come k)).take i) 0)), none, none, none, none]) (iv_L (ev_var rfl)) (by exact ⟨rfl, rfl, rfl, rfl, trivial⟩) fun i lot hlot => ⟨_, gv_name (by simp), ?_⟩) ?_
      · have hin := List.mem_of_getElem? hlot
        have hls := lots_sub hin
        have hl8 : lot.length ≤ 8 := Nat.le_trans hls.length_le h8
        have hln : ∀ x, x ∈ lot → x < k.n := fun x hx => come_lt L (hls.subset hx)
        have e1 : k.lawMost ((lotsOf (come k)).take (i + 1)) 0 = if k.lessSo lot = [] then max (k.lawMost ((lotsOf (come k)).take i) 0) lot.length else k.lawMost ((lotsOf (come k)).take i) 0 := by
          unfold Kd.lawMost
          rw [List.take_add_one, hlot, List.foldl_append]
          rfl
        rw [e1]
        generalize k.lawMost ((lotsOf (come k)).take i) 0 = most
        refine SV.to (sv_seq (sv_set (ev_call (R := R__law_join) (ea_cons (ev_var rfl) (ea_cons (ev_var rfl) ea_nil)) ⟨k, lot, L, hln, .inr rfl, rfl⟩)) (sv_seq (sv_set (ev_lc (α := Nat) (xs := List.range lot.length) (enc := nD) (fun i => decide (k.join (lot.take i ++ lot.drop (i + 1)) = k.join lot)) (fun _ => .int 1) (iv_rgN (ev_lenN (ev_var rfl)) (by omega)) (by rw [List.length_range]; omega) fun j hj => ⟨_, gv_name (by simp), ?_, fun _ => ev_int⟩)) (sv_set (ev_if (x := decide (k.lessSo lot = [])) (d := nD (if k.lessSo lot = [] then max most lot.length else most)) (et_test ((ev_op (ev_var rfl) (ev_lst ea_nil (by decide)) (r2_eqD (shaped_flat (n := 1) ?_ ?_ (by decide)) shaped_nil)).is ?_)) (fun ht => ?_) fun hf => ?_)))) ⟨rfl, rfl, rfl, rfl, trivial⟩
        · have hj2 := List.mem_range.mp hj
          refine et_test (ev_op (ev_call (R := R__law_join) (ea_cons (ev_var rfl) (ea_cons (ev_cat (ev_take (ev_var rfl) (ev_var rfl) (by omega)) (ev_drop (ev_var rfl) (ev_op (ev_var rfl) (ev_nat (n := 1)) r2_addN) (by omega)) ?_) ea_nil)) ⟨k, _, L, fun x hx => ?_, .inr rfl, rfl⟩) (ev_var rfl) r2_eqN)
          · rw [List.length_take, List.length_drop]; omega
          · rcases List.mem_append.mp hx with h | h
            · exact hln x (List.mem_of_mem_take h)
            · exact hln x (List.mem_of_mem_drop h)
        · intro d hd
          obtain ⟨_, _, rfl⟩ := List.mem_map.mp hd
          rfl
        · intro d hd
          obtain ⟨_, _, rfl⟩ := List.mem_map.mp hd
          exact depth_nD 1
        · rw [eqv_nil]
          congr 1
          show ((k.lessSo lot).map fun _ => PyData.int 1).isEmpty = decide (k.lessSo lot = [])
          cases k.lessSo lot with
          | nil => rfl
          | cons => rfl
        · rw [if_pos (of_decide_eq_true ht)]
          refine (ev_CB (ea_cons (ev_var rfl) (ea_cons (ev_lenN (ev_var rfl)) ea_nil)) rc_max2).is ?_
          show PyData.int (if (lot.length : Int) > (most : Int) then (lot.length : Int) else (most : Int)) = PyData.int ((max most lot.length : Nat) : Int)
          congr 1
          split <;> omega
        · rw [if_neg (of_decide_eq_false hf)]
          exact ev_var rfl
      · rw [List.take_length]
        exact sv_ret (ev_var rfl)
end
end G6
namespace G6
open PySem PySem.Spec PyProof.Rows L2
section
variable {P : Program} {w : World} {K : PySem.W.Frag} {mg : Str → Option Value} {base : Heap}

/-- a, b = [..], e : the first one is to be filled -/
theorem sm_parNew1 {m : Option Mch} {ρ : Env6} {M : Own} {N : Env6 → Own → Prop} {R : PyData → Prop} {i j : Nat} {ta : TA} {tb : TE} {ds : List PyData} {d : PyData} (ha : EA K ta ρ ds) (hb : EV K tb ρ d) (hl : ds.length ≤ sizeLine) (q : ∀ p, N ((ρ.set i (some (pinD p))).set j (some d)) ((p, ds) :: M)) :
    SM K m (tPar i j (tCons (tLst ta) (tCons tb tNil))) ρ M 0 N R := fun W H0 σ H b D s k1 k2 =>
  ha _ σ H s.ok s.env _ fun vs H1 e1 r1 => ⟨by rw [r1.length]; exact hl, fun p hp => by
    have s1 := (s.same e1).made hp r1
    exact hb _ σ _ s1.ok s1.env _ fun v H2 e2 v2 => by
      have s2 := s1.same e2
      exact ⟨_, _, rfl, k1 _ _ _ _ (q p) (s2.withEnv ((s2.env.set (.pin p) i).set v2 j))⟩⟩
theorem sm_after {m : Option Mch} {ts : TS} {ρ : Env6} {M : Own} {c : Nat} {N N1 : Env6 → Own → Prop} {R : PyData → Prop} (h : SM K m ts ρ M c N1 R) (q : ∀ r M', N1 r M' → ∃ r2 M2, (∀ W H0 σ H b, StM K m W H0 σ H r M' b → StM K m W H0 σ H r2 M2 b) ∧ N r2 M2) : SM K m ts ρ M c N R := fun W H0 σ H b D s k1 k2 =>
  h W H0 σ H b D s (fun σ' H' r M' n s' => by
    obtain ⟨r2, M2, g, n2⟩ := q r M' n
    exact k1 σ' H' r2 M2 n2 (g _ _ _ _ _ s')) k2
theorem map_at {α : Type} {xs : List α} {f : α → PyData} {i : Nat} {d : PyData} (h : (xs.map f)[i]? = some d) : ∃ x, xs[i]? = some x ∧ d = f x := by
  rw [List.getElem?_map] at h
  cases e : xs[i]? with
  | none => rw [e] at h; cases h
  | some x => rw [e] at h; exact ⟨x, rfl, (Option.some.inj h).symm⟩
theorem good__law_come (T : Txt w K mg)  : Good P w K mg base 1 "_law_come" ["_law_kind_so"] (PSp K R__law_come) := by
  refine good_of2 T.F__law_come sc__law_come (R := R__law_come) (fun ds d h => ?_) (fun _ _ _ _ _ _ us hl => match us, hl with | [_], _ => rfl) fun cdv A outer s H E hr => ⟨_, (pss_cons (ps_asg (pv 0) (gtK (n := 4) K rfl (pgs_cons (pg_name (i := 1) sc__law_come.nd rfl (by first | exact Or.inl rfl | exact Or.inr rfl)) (pgs_cons (pg_name (i := 2) sc__law_come.nd rfl (by first | exact Or.inl rfl | exact Or.inr rfl)) (pgs_cons (pg_name (i := 3) sc__law_come.nd rfl (by first | exact Or.inl rfl | exact Or.inr rfl)) (pgs_cons (pg_name (i := 4) sc__law_come.nd rfl (by first | exact Or.inl rfl | exact Or.inr rfl)) pgs_nil))))))
      (pss_cons (ps_par (i := 5) (j := 6) (by rfl) sc__law_come.nd rfl rfl (by decide) rfl rfl (pa_cons (pe_lst (pa_cons (pv 1) pa_nil)) (pa_cons pe_int pa_nil)) (by rfl))
      (pss_cons (ps_while PassesOwn.never (pt_cmpR op_lt (pv 6) (pe_callB (lenK K) (by rfl) T.m_len boot_len (pa_cons (pv 5) pa_nil)) (nomark _))
      (pss_cons (ps_set (i := 7) sc__law_come.nd rfl (by first | exact Or.inl rfl | exact Or.inr rfl) (pe_ix (ixK K) (pv 5) (pv 6) (fun _ _ => rfl)))
      (pss_cons (ps_set (i := 8) sc__law_come.nd rfl (by first | exact Or.inl rfl | exact Or.inr rfl) (pe_op op_cat (pe_lc (own := [("_law_row", 10)]) rfl sc__law_come.nd (piK K (pv 2)) (blkOk_by (own := [("_law_row", 10)]) (by kernel_rfl)) (fun _ _ _ _ _ => (pg_name (i := 10) sc__law_come.nd rfl (by first | exact Or.inl rfl | exact Or.inr rfl))) (fun _ _ _ _ _ => pts_nil) (fun _ _ _ _ _ => (pe_ix (ixK K) (pv 10) (pv 7) (fun _ _ => rfl)))) (pe_lc (own := [("_law_far", 11)]) rfl sc__law_come.nd (piK K (pv 5)) (blkOk_by (own := [("_law_far", 11)]) (by kernel_rfl)) (fun _ _ _ _ _ => (pg_name (i := 11) sc__law_come.nd rfl (by first | exact Or.inl rfl | exact Or.inr rfl))) (fun _ _ _ _ _ => pts_nil) (fun _ _ _ _ _ => (pe_ix (ixK K) (pe_ix (ixK K) (pv 3) (pv 7) (fun _ _ => rfl)) (pv 11) (fun _ _ => rfl))))))
      (pss_cons (ps_set (i := 8) sc__law_come.nd rfl (by first | exact Or.inl rfl | exact Or.inr rfl) (pe_op op_cat (pv 8) (pe_lc (own := [("_law_far", 11)]) rfl sc__law_come.nd (piK K (pv 5)) (blkOk_by (own := [("_law_far", 11)]) (by kernel_rfl)) (fun _ _ _ _ _ => (pg_name (i := 11) sc__law_come.nd rfl (by first | exact Or.inl rfl | exact Or.inr rfl))) (fun _ _ _ _ _ => pts_nil) (fun _ _ _ _ _ => (pe_ix (ixK K) (pe_ix (ixK K) (pv 3) (pv 11) (fun _ _ => rfl)) (pv 7) (fun _ _ => rfl))))))
      (pss_cons (ps_set (i := 6) sc__law_come.nd rfl (by first | exact Or.inl rfl | exact Or.inr rfl) (pe_op op_add (pv 6) pe_int))
      (pss_one (ps_for PassesOwn.never rfl (piK K (pv 8)) (pg_name (i := 9) sc__law_come.nd rfl (by first | exact Or.inl rfl | exact Or.inr rfl))
      (pss_one (ps_if (pt_cmpR (niK K) (pv 9) (pv 5) (by rfl))
      (pss_cons (ps_expr (bmK K PySem.F.plainAttrs_list PySem.F.slot_list_append PySem.F.type_list_append mt_append (pv 5) (pa_cons (pv 9) pa_nil)))
      (pss_one (ps_set (i := 6) sc__law_come.nd rfl (by first | exact Or.inl rfl | exact Or.inr rfl) pe_int)))
      pss_nil)))))))))
      (pss_one (ps_ret (pe_callB (sortK K) (by rfl) T.m_sorted boot_sorted (pa_cons (pv 5) pa_nil))))))), fun ds d h => ?_⟩
  · obtain ⟨_, _, rfl, _⟩ := h; rfl
  · obtain ⟨k, L, rfl, rfl⟩ := h
    have n8 := L.n8
    have u4 := L.ups4
    refine .inl (SM.sv ?_)
    let en (p : Addr) (last : Nat) : Env6 := [some (kD k), some (nD k.st), some (mD k.ups), some (mD k.mg), some (tD k.rd), some (pinD p), some (nD last), none, none, none, none, none]
    refine (sm_seq (c1 := 0) (c2 := 0) (sm_sv (sv_asg (ev_var rfl) (gv_tup (ts := [1, 2, 3, 4]) rfl (gsv_cons (gv_name (by simp)) (gsv_cons (gv_name (by simp)) (gsv_cons (gv_name (by simp)) (gsv_cons (gv_name (by simp)) gsv_nil))))))) fun r M' e => ?_)
    obtain ⟨rfl, rfl⟩ := e
    refine sm_seq (c1 := 0) (c2 := 0) (N1 := fun r M' => ∃ p, r = en p 0 ∧ M' = [(p, [k.st].map nD)]) (sm_parNew1 (d := nD 0) (ds := [nD k.st]) (ea_cons (ev_var rfl) ea_nil) ev_nat (by show 1 ≤ sizeLine; decide) fun p => ⟨p, rfl, rfl⟩) fun r M' e => ?_
    obtain ⟨p0, rfl, rfl⟩ := e
    refine sm_seq (c1 := 0) (c2 := 0) (N1 := fun r M' => ∃ p found last, Clo k found ∧ r = en p last ∧ M' = [(p, found.map nD)]) (sm_while (fun r M1 n => ∃ p found last, Sofar k found ∧ last ≤ found.length ∧ Seen k found last ∧ r = en p last ∧ M1 = [(p, found.map nD)] ∧ n = (k.n - found.length) * 9 + (8 - last)) ⟨_, leE_refl _, p0, [k.st], 0, .one k, Nat.zero_le _, .zero _, rfl, rfl, rfl⟩ fun r M1 n iv => ?_) fun r M' e => ?_
    · obtain ⟨p, found, last, S, hl, sn, rfl, rfl, rfl⟩ := iv
      have fl := S.len L
      refine ⟨decide (last < found.length), tm_open (i := 5) List.mem_cons_self rfl (et_test (ev_op (ev_var rfl) (ev_lenNL (xs := found) (ev_var rfl)) r2_ltN)), fun ht => ?_, fun hf => ⟨p, found, last, ?_, rfl, rfl⟩⟩
      · have hlt := of_decide_eq_true ht
        have e1 : found[last]? = some (found.getD last 0) := by rw [List.getD_eq_getElem?_getD, List.getElem?_eq_getElem hlt]; rfl
        generalize hh : found.getD last 0 = here at e1
        have hin : here ∈ found := List.mem_of_getElem? e1
        have hn := S.lt L here hin
        have hrow : ∀ r, r ∈ k.ups → here < r.length := fun r hr => by rw [(L.upsR r hr).1]; exact hn
        refine (sm_seq (c1 := 0) (c2 := 0) (sm_set (em_open (i := 5) (d := nD here) List.mem_cons_self rfl (ev_op (ev_var rfl) (ev_var rfl) (by rw [← hh]; exact r2_ixNL (xs := found) hlt)) rfl)) fun r M' e => ?_)
        obtain ⟨_, rfl, rfl, rfl⟩ := e
        refine (sm_seq (c1 := 0) (c2 := 0) (sm_set (em_catOpen (i := 5) (xs := k.ups.map fun r => Kd.U r here) (ys := found.map fun y => k.J here y) List.mem_cons_self rfl ((ev_lcA (α := List Nat) (xs := k.ups) (enc := tD) (fun r => nD (Kd.U r here)) (iv_T (ev_var rfl)) (by omega) fun r hr => ⟨_, gv_name (by simp), ev_op (ev_var rfl) (ev_var rfl) (r2_ixN (hrow r hr))⟩).is (by rw [lD, List.map_map]; rfl)) ((ev_lcA (α := Nat) (xs := found) (enc := nD) (fun y => nD (k.J here y)) (iv_L (ev_var rfl)) (by omega) fun y hy => ⟨_, gv_name (by simp), ev_J L (ev_var rfl) (ev_var rfl) (ev_var rfl) hn (S.lt L y hy)⟩).is (by rw [lD, List.map_map]; rfl)) (by rw [List.length_map, List.length_map]; exact Nat.le_trans (m := 12) (by omega) (by decide)))) fun r M' e => ?_)
        obtain ⟨_, rfl, rfl, rfl⟩ := e
        refine (sm_seq (c1 := 0) (c2 := 0) (sm_set (em_catOpen (i := 5) (xs := (k.ups.map fun r => Kd.U r here) ++ found.map fun y => k.J here y) (ys := found.map fun y => k.J y here) List.mem_cons_self rfl (ev_var rfl) ((ev_lcA (α := Nat) (xs := found) (enc := nD) (fun y => nD (k.J y here)) (iv_L (ev_var rfl)) (by omega) fun y hy => ⟨_, gv_name (by simp), ev_J L (ev_var rfl) (ev_var rfl) (ev_var rfl) (S.lt L y hy) hn⟩).is (by rw [lD, List.map_map]; rfl)) (by rw [List.length_append, List.length_map, List.length_map, List.length_map]; exact Nat.le_trans (m := 20) (by omega) (by decide)))) fun r M' e => ?_)
        obtain ⟨_, rfl, rfl, rfl⟩ := e
        refine (sm_seq (c1 := 0) (c2 := 0) (sm_sv (sv_set (ev_op (ev_var rfl) (ev_nat (n := 1)) r2_addN))) fun r M' e => ?_)
        obtain ⟨rfl, rfl⟩ := e
        have hz : ∀ z, z ∈ stepL k found here → Rch k z := fun z hz => stepL_rch S hin hz
        have hzl : (stepL k found here).length ≤ 20 := by
          unfold stepL
          rw [List.length_append, List.length_append, List.length_map, List.length_map, List.length_map]
          omega
        have nxt : (∀ z, z ∈ stepL k found here → z ∈ found) → Seen k found (last + 1) := fun q => sn.next e1 q
        change SM K none _ [some (kD k), some (nD k.st), some (mD k.ups), some (mD k.mg), some (tD k.rd), some (pinD p), some (nD (last + 1)), some (nD here), some (lD (stepL k found here)), none, none, none] [(p, found.map nD)] 0 _ _
        generalize stepL k found here = zs at hz hzl nxt
        refine ((sm_for (us := [9]) (c1 := 0) (c := 0) (fun _ i r M1 => ∃ l', l' = (if ((zs.take i).foldl insN found).length = found.length then last + 1 else 0) ∧ r = [some (kD k), some (nD k.st), some (mD k.ups), some (mD k.mg), some (tD k.rd), some (pinD p), some (nD l'), some (nD here), some (lD zs), none, none, none] ∧ M1 = [(p, ((zs.take i).foldl insN found).map nD)]) 20 (im_iv (ds := zs.map nD) (iv_L (ev_var rfl))) (fun ds e => by rw [e, List.length_map]; exact hzl) (fun ds _ => ⟨_, leE_refl _, last + 1, by rw [List.take_zero, List.foldl_nil, if_pos rfl], rfl, by rw [List.take_zero, List.foldl_nil]⟩) fun ds e i d r M1 hd iv => ?_).more (by omega)).to fun r M' e => ?_
        · subst e
          obtain ⟨z, hzi, rfl⟩ := map_at hd
          obtain ⟨l', hl', rfl, rfl⟩ := iv
          refine ⟨_, gv_name (by simp), ?_⟩
          rw [take_len1 hzi, List.foldl_append]
          have S2 := S.insF (zs.take i) fun y hy => hz y (List.mem_of_mem_take hy)
          have hl2 := S2.len L
          have hg := insF_grow (zs.take i) found
          generalize (zs.take i).foldl insN found = fi at *
          refine sm_if (x := decide (z ∉ fi)) (tm_open (i := 5) List.mem_cons_self rfl (et_test (ev_op (ev_var rfl) (ev_var rfl) (r2_niN (xs := fi))))) (fun ht => ?_) fun hf => ?_
          · have hni := of_decide_eq_true ht
            have ei : [z].foldl insN fi = fi ++ [z] := if_neg hni
            refine sm_seq (c1 := 0) (c2 := 0) (N1 := fun r M' => r = _ ∧ M' = [(p, (fi.map nD) ++ [nD z])]) (sm_append (M1 := []) (M2 := []) rfl rfl (em_ev (ev_var rfl)) (by rw [List.length_map]; omega) fun d e => by rw [e]; exact ⟨rfl, rfl⟩) fun r M' e => ?_
            obtain ⟨rfl, rfl⟩ := e
            refine (sm_sv (sv_set (d := nD 0) ev_nat)).to fun r M' e => ?_
            obtain ⟨rfl, rfl⟩ := e
            refine ⟨[some (kD k), some (nD k.st), some (mD k.ups), some (mD k.mg), some (tD k.rd), some (pinD p), some (nD 0), some (nD here), some (lD zs), none, none, none], ⟨rfl, rfl, rfl, rfl, rfl, rfl, rfl, rfl, rfl, trivial⟩, 0, ?_, rfl, ?_⟩
            · rw [ei, List.length_append, if_neg]
              show ¬ fi.length + 1 = found.length
              omega
            · rw [ei, List.map_append]
              rfl
          · have hin2 : z ∈ fi := Classical.byContradiction fun q => by rw [decide_eq_true q] at hf; cases hf
            have ei : [z].foldl insN fi = fi := if_pos hin2
            refine sm_next.to fun r M' e => ?_
            obtain ⟨rfl, rfl⟩ := e
            rw [ei]
            exact ⟨[some (kD k), some (nD k.st), some (mD k.ups), some (mD k.mg), some (tD k.rd), some (pinD p), some (nD l'), some (nD here), some (lD zs), none, none, none], ⟨rfl, rfl, rfl, rfl, rfl, rfl, rfl, rfl, rfl, trivial⟩, l', hl', rfl, rfl⟩
        · obtain ⟨ds, rfl, l', hl', rfl, rfl⟩ := e
          rw [List.length_map, List.take_length] at hl' ⊢
          have S2 := S.insF zs hz
          have hg := insF_grow zs found
          have fl2 := S2.len L
          refine ⟨en p l', _, ⟨rfl, rfl, rfl, rfl, rfl, rfl, rfl, trivial⟩, ?_, p, zs.foldl insN found, l', S2, ?_, ?_, rfl, rfl, rfl⟩
          · by_cases q : (zs.foldl insN found).length = found.length
            · rw [if_pos q] at hl'
              rw [hl', q]
              omega
            · rw [if_neg q] at hl'
              rw [hl']
              omega
          · by_cases q : (zs.foldl insN found).length = found.length
            · rw [if_pos q] at hl'
              rw [hl', q]
              omega
            · rw [if_neg q] at hl'
              rw [hl']
              exact Nat.zero_le _
          · by_cases q : (zs.foldl insN found).length = found.length
            · rw [if_pos q] at hl'
              have all : ∀ z, z ∈ zs → z ∈ found := fun z hz => Classical.byContradiction fun hn => by
                have := insF_some zs found ⟨z, hz, hn⟩
                omega
              rw [hl', insF_none zs found all]
              exact nxt all
            · rw [if_neg q] at hl'
              rw [hl']
              exact .zero _
      · have hge := of_decide_eq_false hf
        have e : last = found.length := by omega
        subst e
        exact Seen.clo S sn
    · obtain ⟨p, found, last, C, rfl, rfl⟩ := e
      refine sm_ghost (fun _ _ _ _ _ s => s.full (i := 5) rfl) (sm_svR (sv_ret (ev_sortN (xs := found) (ev_var rfl) (C.perm L) come_asc)) rfl)

theorem last_tD {ρ : Env6} {te : TE} {c : List Nat} (h : EV K te ρ (tD c)) (hn : c ≠ []) : EV K (tOp (rIx K) te (tUn (rU fun i => .int (-i)) (tC (.int 1)))) ρ (nD (c.getLastD 0)) := ev_op h (ev_un ev_int (fun W x H o hx Q q => ⟨1, hx.int_iff, q _ H (Same.refl H) (.int (-1))⟩)) (r2_ixLast hn)
theorem good__law_all_chains (T : Txt w K mg)  : Good P w K mg base 1 "_law_all_chains" ["_law_kind_so", "_law_some"] (PSp K R__law_all_chains) := by
  refine good_of2 T.F__law_all_chains sc__law_all_chains (R := R__law_all_chains) (fun ds d h => ?_) (fun _ _ _ _ _ _ us hl => match us, hl with | [_, _], _ => rfl) fun cdv A outer s H E hr => ⟨_, (pss_cons (ps_par (i := 2) (j := 3) (by rfl) sc__law_all_chains.nd rfl rfl (by decide) rfl rfl (pa_cons (pe_lst pa_nil) (pa_cons (pe_lc (own := [("_law_state", 6)]) rfl sc__law_all_chains.nd (piK K (pv 1)) (blkOk_by (own := [("_law_state", 6)]) (by kernel_rfl)) (fun _ _ _ _ _ => (pg_name (i := 6) sc__law_all_chains.nd rfl (by first | exact Or.inl rfl | exact Or.inr rfl))) (fun _ _ _ _ _ => pts_nil) (fun _ _ _ _ _ => (pe_tup (pa_cons (pv 6) pa_nil)))) pa_nil)) (by rfl))
      (pss_cons (ps_while PassesOwn.never (pt_cmpR (neDK K hr.units) (pv 3) (pe_lst pa_nil) (nomark _))
      (pss_cons (ps_par (i := 2) (j := 4) (by rfl) sc__law_all_chains.nd rfl rfl (by decide) rfl rfl (pa_cons (pe_op op_cat (pv 2) (pv 3)) (pa_cons (pe_lst pa_nil) pa_nil)) (by rfl))
      (pss_cons (ps_for PassesOwn.never rfl (piK K (pv 3)) (pg_name (i := 5) sc__law_all_chains.nd rfl (by first | exact Or.inl rfl | exact Or.inr rfl))
      (pss_one (ps_for PassesOwn.never rfl (piK K (pv 1)) (pg_name (i := 6) sc__law_all_chains.nd rfl (by first | exact Or.inl rfl | exact Or.inr rfl))
      (pss_one (ps_if (PW.pt (pw_and (pt_cmpR op_ne (pv 6) (pe_ix (ixK K) (pv 5) (pe_un un_neg pe_int) (fun _ _ => rfl)) (nomark _)) (pw_and1 (pt_cmpR op_eq (pe_ix (ixK K) (pe_ix (ixK K) (pe_ix (ixK K) (pv 0) pe_int (fun _ _ => rfl)) (pv 6) (fun _ _ => rfl)) (pe_ix (ixK K) (pv 5) (pe_un un_neg pe_int) (fun _ _ => rfl)) (fun _ _ => rfl)) (pv 6) (nomark _)))))
      (pss_one (ps_expr (bmK K PySem.F.plainAttrs_list PySem.F.slot_list_append PySem.F.type_list_append mt_append (pv 4) (pa_cons (pe_op (catAK K) (pv 5) (pe_tup (pa_cons (pv 6) pa_nil))) pa_nil))))
      pss_nil)))))
      (pss_one (ps_set (i := 3) sc__law_all_chains.nd rfl (by first | exact Or.inl rfl | exact Or.inr rfl) (pv 4))))))
      (pss_one (ps_ret (pv 2))))), fun ds d h => ?_⟩
  · obtain ⟨_, _, rfl, _⟩ := h; rfl
  · obtain ⟨k, L, rfl, rfl⟩ := h
    have h8 := come_len L
    refine .inl (SM.sv ?_)
    let en (i : Nat) : Env6 := [some (kD k), some (lD (come k)), some (.list ((allC k (come k) i).map tD)), some (.list ((k.layer (come k) i).map tD)), none, none, none]
    refine (sm_seq (c1 := 0) (c2 := 0) (N1 := fun r M' => r = en 0 ∧ M' = []) (sm_sv (sv_par (b := .list ((k.layer (come k) 0).map tD)) (ea_cons (ev_lst (ds := []) ea_nil (by decide)) (ea_cons ((ev_lcA (α := Nat) (xs := come k) (enc := nD) (fun s => tD [s]) (iv_L (ev_var rfl)) (by omega) fun s hs => ⟨_, gv_name (by simp), ev_tup (ds := [nD s]) (ea_cons (ev_var rfl) ea_nil) (by show 1 ≤ sizeLine; decide)⟩).is (by unfold Kd.layer; rw [List.map_map]; rfl)) ea_nil)))) fun r M' e => ?_)
    obtain ⟨rfl, rfl⟩ := e
    refine sm_seq (c1 := 0) (c2 := 0) (N1 := fun r M' => r = en 9 ∧ M' = []) (sm_while (fun r M1 n => ∃ i, i ≤ 9 ∧ r = en i ∧ M1 = [] ∧ n = 9 - i) ⟨_, leE_refl _, 0, by omega, rfl, rfl, rfl⟩ fun r M1 n iv => ?_) fun r M' e => ?_
    · obtain ⟨i, hi, rfl, rfl, rfl⟩ := iv
      have ll := layer_len L i
      have bl := bound_le i hi
      have al := all_len L i hi
      have shp : SeqAt.shaped (.list ((k.layer (come k) i).map tD)) = true := shaped_flat (n := 2) (fun d hd => by
        obtain ⟨c, _, rfl⟩ := List.mem_map.mp hd
        exact lay_tD c) (fun d hd => by
        obtain ⟨c, _, rfl⟩ := List.mem_map.mp hd
        exact depth_tD c) (by decide)
      refine ⟨!((k.layer (come k) i).isEmpty), tm_et (et_test ((ev_op (ev_var rfl) (ev_lst ea_nil (by decide)) (r2_neD shp shaped_nil)).is ?_)), fun ht => ?_, fun hf => ⟨?_, rfl⟩⟩
      · rw [eqv_nil]
        congr 2
        cases k.layer (come k) i <;> rfl
      · have hne : k.layer (come k) i ≠ [] := fun e => by rw [e] at ht; cases ht
        have hi9 : i < 9 := Classical.byContradiction fun q => by
          have e9 : i = 9 := by omega
          rw [e9] at hne
          exact hne (layer_none L)
        refine sm_seq (c1 := 0) (c2 := 0) (N1 := fun r M' => ∃ p, r = [some (kD k), some (lD (come k)), some (.list ((allC k (come k) (i + 1)).map tD)), some (.list ((k.layer (come k) i).map tD)), some (pinD p), none, none] ∧ M' = [(p, [])]) (sm_parNew (em_ev (d := .list ((allC k (come k) (i + 1)).map tD)) ((ev_op (ev_var rfl) (ev_var rfl) (r2_catL (by rw [List.length_map, List.length_map]; exact Nat.le_trans (m := 1000000) (by omega) (by decide)))).is (by show _ = PyData.list ((allC k (come k) i ++ k.layer (come k) i).map tD); rw [List.map_append]))) fun d p e => ⟨p, by rw [e]; rfl, rfl⟩) fun r M' e => ?_
        obtain ⟨p, rfl, rfl⟩ := e
        refine sm_seq (c1 := 0) (c2 := 0) (N1 := fun r M' => r = [some (kD k), some (lD (come k)), some (.list ((allC k (come k) (i + 1)).map tD)), some (.list ((k.layer (come k) i).map tD)), some (pinD p), none, none] ∧ M' = [(p, (k.layer (come k) (i + 1)).map tD)]) (((sm_for (us := [5]) (c1 := 0) (c := 0) (fun _ j r M1 => r = [some (kD k), some (lD (come k)), some (.list ((allC k (come k) (i + 1)).map tD)), some (.list ((k.layer (come k) i).map tD)), some (pinD p), none, none] ∧ M1 = [(p, (k.nextL (come k) ((k.layer (come k) i).take j)).map tD)]) 40320 (im_iv (ds := (k.layer (come k) i).map tD) (iv_L (ev_var rfl))) (fun ds e => by rw [e, List.length_map]; omega) (fun ds _ => ⟨_, leE_refl _, rfl, rfl⟩) fun ds e j d r M1 hd iv => ?_).more (by omega)).to fun r M' e => ?_) fun r M' e => ?_
        · subst e
          obtain ⟨c, hc, rfl⟩ := map_at hd
          obtain ⟨rfl, rfl⟩ := iv
          have hcin := List.mem_of_getElem? hc
          obtain ⟨sc, scl⟩ := (layer_mem L i c).mp hcin
          have hcn : c ≠ [] := fun e => by rw [e] at scl; cases scl
          have hlast := sc.mem _ (last_mem hcn)
          have cl9 : c.length ≤ 10 := by omega
          have l1 : (k.nextL (come k) ((k.layer (come k) i).take j)).length ≤ 40320 * 8 := by
            have h1 := next_len L (n := 8) ((k.layer (come k) i).take j) fun c _ => above_len L _
            have h2 : ((k.layer (come k) i).take j).length ≤ 40320 := by rw [List.length_take]; omega
            exact Nat.le_trans h1 (Nat.mul_le_mul_right _ h2)
          have eN : k.nextL (come k) ((k.layer (come k) i).take (j + 1)) = k.nextL (come k) ((k.layer (come k) i).take j) ++ ((come k).filter fun s => decide (s ≠ c.getLastD 0) && k.le (c.getLastD 0) s).map fun s => c ++ [s] := by
            unfold Kd.nextL
            rw [take_len1K hc, List.flatMap_append, List.flatMap_cons, List.flatMap_nil, List.append_nil]
          refine ⟨_, gv_name (by simp), ?_⟩
          rw [eN]
          generalize k.nextL (come k) ((k.layer (come k) i).take j) = pre at l1
          refine ((sm_for (us := [6]) (c1 := 0) (c := 0) (fun _ u r M1 => r = [some (kD k), some (lD (come k)), some (.list ((allC k (come k) (i + 1)).map tD)), some (.list ((k.layer (come k) i).map tD)), some (pinD p), some (tD c), none] ∧ M1 = [(p, (pre ++ (((come k).take u).filter fun s => decide (s ≠ c.getLastD 0) && k.le (c.getLastD 0) s).map fun s => c ++ [s]).map tD)]) 8 (im_iv (ds := (come k).map nD) (iv_L (ev_var rfl))) (fun ds e => by rw [e, List.length_map]; omega) (fun ds _ => ⟨_, leE_refl _, rfl, by rw [List.take_zero, List.filter_nil, List.map_nil, List.append_nil]⟩) fun ds e u d r M1 hd iv => ?_).more (by omega)).to fun r M' e => ?_
          · subst e
            obtain ⟨s, hs, rfl⟩ := map_at hd
            obtain ⟨rfl, rfl⟩ := iv
            have hsin := List.mem_of_getElem? hs
            refine ⟨_, gv_name (by simp), ?_⟩
            have l2 : (((come k).take u).filter fun s => decide (s ≠ c.getLastD 0) && k.le (c.getLastD 0) s).length ≤ 8 := Nat.le_trans (List.length_filter_le _ _) (by rw [List.length_take]; omega)
            rw [take_len1 hs, List.filter_append]
            refine sm_if (x := decide (s ≠ c.getLastD 0) && k.le (c.getLastD 0) s) (tm_et (et_and (et_test (ev_op (ev_var rfl) (last_tD (ev_var rfl) hcn) r2_neN)) fun _ => et_test (ev_op (ev_J L (ev_k2 (ev_var rfl)) (ev_var rfl) (last_tD (ev_var rfl) hcn) (come_lt L hsin) (come_lt L hlast)) (ev_var rfl) r2_eqN))) (fun ht => ?_) fun hf => ?_
            · refine (sm_append (M1 := []) (M2 := []) (R' := (· = tD (c ++ [s]))) rfl rfl (em_ev (ev_cat (ev_var rfl) (ev_tup (ds := [nD s]) (ea_cons (ev_var rfl) ea_nil) (by show 1 ≤ sizeLine; decide)) (by show c.length + 1 ≤ 1000; omega))) (by rw [List.length_map, List.length_append, List.length_map]; omega) fun d e => ⟨[some (kD k), some (lD (come k)), some (.list ((allC k (come k) (i + 1)).map tD)), some (.list ((k.layer (come k) i).map tD)), some (pinD p), some (tD c), none], ⟨rfl, rfl, rfl, rfl, rfl, rfl, trivial⟩, rfl, ?_⟩)
              rw [e, List.filter_cons, if_pos ht, List.filter_nil, List.map_append, List.map_append, List.map_append]
              simp
            · refine sm_next.to fun r M' e => ?_
              obtain ⟨rfl, rfl⟩ := e
              refine ⟨[some (kD k), some (lD (come k)), some (.list ((allC k (come k) (i + 1)).map tD)), some (.list ((k.layer (come k) i).map tD)), some (pinD p), some (tD c), none], ⟨rfl, rfl, rfl, rfl, rfl, rfl, trivial⟩, rfl, ?_⟩
              rw [List.filter_cons, if_neg (by rw [hf]; exact Bool.false_ne_true), List.filter_nil, List.append_nil]
          · obtain ⟨ds, rfl, rfl, rfl⟩ := e
            refine ⟨[some (kD k), some (lD (come k)), some (.list ((allC k (come k) (i + 1)).map tD)), some (.list ((k.layer (come k) i).map tD)), some (pinD p), none, none], ⟨rfl, rfl, rfl, rfl, rfl, trivial⟩, rfl, ?_⟩
            rw [List.length_map, List.take_length]
        · obtain ⟨ds, rfl, rfl, rfl⟩ := e
          refine ⟨rfl, ?_⟩
          rw [List.length_map, List.take_length]
          rfl
        · obtain ⟨rfl, rfl⟩ := e
          refine sm_after (sm_sv (sv_set (ev_var rfl))) fun r M' e => ?_
          obtain ⟨rfl, rfl⟩ := e
          exact ⟨_, [], fun _ _ _ _ _ s => s.full (i := 3) rfl, en (i + 1), 9 - (i + 1), ⟨rfl, rfl, rfl, rfl, trivial⟩, by omega, i + 1, by omega, rfl, rfl, rfl⟩
      · have e : k.layer (come k) i = [] := by
          cases h : k.layer (come k) i with
          | nil => rfl
          | cons => rw [h] at hf; cases hf
        obtain ⟨h1, h2⟩ := all_stop e (9 - i)
        have e9 : i + (9 - i) = 9 := by omega
        rw [e9] at h1 h2
        show en i = en 9
        show [some (kD k), some (lD (come k)), some (.list ((allC k (come k) i).map tD)), some (.list ((k.layer (come k) i).map tD)), none, none, none] = [some (kD k), some (lD (come k)), some (.list ((allC k (come k) 9).map tD)), some (.list ((k.layer (come k) 9).map tD)), none, none, none]
        rw [h1, h2, e]
    · obtain ⟨rfl, rfl⟩ := e
      exact sm_svR (sv_ret (ev_var rfl)) rfl
end
end G6
namespace G6
open PySem PySem.Spec PyProof.Rows L2
section
variable {P : Program} {w : World} {K : PySem.W.Frag} {mg : Str → Option Value} {base : Heap}

/-- the cells of a machine, new -/
def SpFolded (K : PySem.W.Frag) : Sp := fun vs H Q _ => ∃ (a : Addr) (ns : List Int), vs = [.ref a] ∧ SqL K H a (ns.map V.int) ∧ ns.length ≤ 1000 ∧ ∀ (p : Addr) (cs : List Int) (H' : Hp), Same H H' → H p = none → H' p = some (.lst (cs.map V.int)) → cs.length = 64 → (∀ c, c ∈ cs → 0 ≤ c ∧ c < 2147483648) → Q (.ref p) H'
theorem ev_mod64 {ρ : Env6} {te : TE} {j : Nat} (h : EV K te ρ (nD j)) : EV K (tOp (rI (fun _ j => 0 < j) fun i j => .int (i % j)) (tCB (fun xs H Q => (∃ i, xs = [.int i] ∧ Q (.int i) H) ∨ ∃ k, xs = [.bl k] ∧ Q (.int (if k then 1 else 0)) H) (tCons te tNil)) (tC (.int 64))) ρ (nD (j % 64)) := ev_op (ev_int1 h) ev_int (r2_mod (j := 64) (by decide))
theorem r2_ixI {cs : List Int} {i : Nat} (h : i < cs.length) : R2V K (rIx K) (.list (cs.map .int)) (nD i) (.int (cs.getD i 0)) :=
  r2_ixL (by rw [atI_nat (by rw [List.length_map]; exact h)]; exact get_map h)
def okC (cs : List Int) : Prop := cs.length = 64 ∧ ∀ c, c ∈ cs → 0 ≤ c ∧ c < 2147483648
theorem okC.set {cs : List Int} (h : okC cs) {i : Nat} {c : Int} (h0 : 0 ≤ c) (h1 : c < 2147483648) : okC (cs.set i c) := ⟨by rw [List.length_set]; exact h.1, fun x hx => by
  rcases List.mem_or_eq_of_mem_set hx with q | q
  · exact h.2 x q
  · rw [q]; exact ⟨h0, h1⟩⟩
theorem good__law_folded (T : Txt w K mg)  : Good P w K mg base 1 "_law_folded" ["_law_script"] (SpFolded K) := by
  refine good_raw T.F__law_folded sc__law_folded (fun vs H Q E h => ?_) (fun _ _ _ _ _ _ us hl => match us, hl with | [_], _ => rfl) fun cdv A outer s H E hr => ⟨_, (pss_cons (ps_setLc (i := 1) (own := [("_law_n", 2)]) rfl sc__law_folded.nd rfl rfl (sw_true rfl rfl rfl (by decide +kernel)) (pi_range1 (by rfl) T.m_range (pa_cons pe_int pa_nil)) (blkOk_by (own := [("_law_n", 2)]) (by kernel_rfl)) (fun _ _ _ _ _ => (pg_name (i := 2) sc__law_folded.nd rfl (by first | exact Or.inl rfl | exact Or.inr rfl))) (fun _ _ _ _ _ => pts_nil) (fun _ _ _ _ _ => (pe_op op_add pe_int (pe_op op_mul pe_int (pv 2)))))
      (pss_cons (ps_for PassesOwn.never rfl (pi_enum (by rfl) T.m_enumerate (pa_cons (pv 0) pa_nil)) (gtK (n := 2) K rfl (pgs_cons (pg_name (i := 2) sc__law_folded.nd rfl (by first | exact Or.inl rfl | exact Or.inr rfl)) (pgs_cons (pg_name (i := 3) sc__law_folded.nd rfl (by first | exact Or.inl rfl | exact Or.inr rfl)) pgs_nil)))
      (pss_one (ps_asg (pe_op op_mod (pe_callTy call_int1 (by rfl) T.m_int boot_int (pa_cons (pe_op op_add (pe_op op_mul (pe_ix (ixK K) (pv 1) (pe_op op_mod (pe_callTy call_int1 (by rfl) T.m_int boot_int (pa_cons (pv 2) pa_nil)) pe_int) (fun _ _ => rfl)) pe_int) (pv 3)) pa_nil)) pe_int) (pg_sub (pv 1) (pe_op op_mod (pe_callTy call_int1 (by rfl) T.m_int boot_int (pa_cons (pv 2) pa_nil)) pe_int) set_list))))
      (pss_cons (ps_for PassesOwn.never rfl (pi_range2 (by rfl) T.m_range (pa_cons pe_int (pa_cons pe_int pa_nil))) (pg_name (i := 2) sc__law_folded.nd rfl (by first | exact Or.inl rfl | exact Or.inr rfl))
      (pss_one (ps_asg (pe_op op_mod (pe_callTy call_int1 (by rfl) T.m_int boot_int (pa_cons (pe_op op_add (pe_ix (ixK K) (pv 1) (pv 2) (fun _ _ => rfl)) (pe_op op_mul (pe_ix (ixK K) (pv 1) (pe_op op_sub (pv 2) pe_int) (fun _ _ => rfl)) pe_int)) pa_nil)) pe_int) (pg_sub (pv 1) (pv 2) set_list))))
      (pss_one (ps_ret (pv 1)))))), fun vs Q h => ?_⟩
  · obtain ⟨a, ns, rfl, _⟩ := h; rfl
  · obtain ⟨a, ns, rfl, hs, hn, q⟩ := h
    let en (p : Addr) : Env6 := [some (sqD (ns.map .int)), some (pinD p), none, none]
    have s0 : StM K none [] H (start ["_law_script", "_law_found", "_law_n", "_law_cell"] [.ref a]) H [some (sqD (ns.map .int)), none, none, none] [] 0 := ⟨.refl _, trivial, fun _ z => (nomatch z), fun _ z => (nomatch z), List.nodup_nil, fun _ z => (nomatch z), by
      have r : DvAll K (hide (hid [] []) H) [.ref a] [sqD (ns.map .int)] := .one (.sq (by rw [show hid [] [] = [] from rfl, hide_nil]; exact hs) (.of_ints ns))
      exact EnvD.start ["_law_script", "_law_found", "_law_n", "_law_cell"] r, fun _ z => (nomatch z)⟩
    let Nx : Env6 → Own → Prop := fun r M' => ∃ p cs, okC cs ∧ r = en p ∧ M' = [(p, cs.map .int)]
    refine (sm_setLc (m := none) (M := []) (N := Nx) (R := fun _ => False) (vs := [2]) (i := 1) (c := 0) (c1 := 0) (Re := fun _ i d => d = .int (29 + 3 * (i : Int))) 64 (by decide) (im_iv (iv_rgN (n := 64) ev_nat (by decide))) (fun ds e => by rw [e]; decide) (fun ds e i d hd => ⟨_, gv_name (by simp), fun M1 => ?_⟩) (fun p ds es e le he => ?_)) [] H _ H 0 _ s0 (fun σ1 H1 r1 M1 n1 s1 => ?_) (fun _ _ _ z => z.elim)
    · rw [e] at hd
      obtain ⟨j, hj, rfl⟩ := map_at hd
      obtain ⟨hj1, hj2⟩ := List.getElem?_eq_some_iff.mp hj
      rw [List.getElem_range] at hj2
      subst hj2
      exact em_evR (ev_op ev_int (ev_op ev_int (ev_var rfl) (r2_mul (.inl ⟨by decide, by decide⟩))) r2_add) rfl
    · rw [e, List.length_map, List.length_range] at le
      have e2 : es = ((List.range 64).map fun (i : Nat) => (29 + 3 * (i : Int))).map PyData.int := by
        refine List.ext_getElem? fun i => ?_
        rw [List.getElem?_map, List.getElem?_map]
        by_cases hi : i < 64
        · rw [List.getElem?_range hi, List.getElem?_eq_getElem (by omega)]
          rw [he i _ (List.getElem?_eq_getElem (by omega))]
          rfl
        · rw [List.getElem?_eq_none (by omega), List.getElem?_eq_none (by rw [List.length_range]; omega)]
          rfl
      refine ⟨p, (List.range 64).map fun (i : Nat) => (29 + 3 * (i : Int)), ⟨by rw [List.length_map, List.length_range], fun c hc => ?_⟩, rfl, by rw [e2]⟩
      obtain ⟨i, hi, rfl⟩ := List.mem_map.mp hc
      have := List.mem_range.mp hi
      omega
    · obtain ⟨p, cs, hc, rfl, rfl⟩ := n1
      refine (sm_for (m := none) (M := [(p, cs.map .int)]) (R := fun _ => False) (us := [2, 3]) (c1 := 0) (c := 0) (fun _ _ r M' => ∃ cs, okC cs ∧ r = en p ∧ M' = [(p, cs.map .int)]) 1000 (im_iv (iv_enumL (ev_var rfl))) (fun ds e => by rw [e, List.length_map, List.length_zipIdx]; exact hn) (fun ds _ => ⟨_, leE_refl _, cs, hc, rfl, rfl⟩) fun ds e i d r M' hd iv => ?_) [] H _ H1 0 _ s1 (fun σ2 H2 r2 M2 n2 s2 => ?_) (fun _ _ _ z => z.elim)
      · obtain ⟨cs, hc, rfl, rfl⟩ := iv
        rw [e] at hd
        obtain ⟨z, hz, rfl⟩ := map_at hd
        rw [List.getElem?_zipIdx] at hz
        obtain ⟨nn, hnn, ez⟩ : ∃ nn, ns[i]? = some nn ∧ z = (nn, i) := by
          cases q2 : ns[i]? with
          | none => rw [q2] at hz; cases hz
          | some nn =>
            rw [q2] at hz
            have e3 : (nn, 0 + i) = z := Option.some.inj hz
            rw [Nat.zero_add] at e3
            exact ⟨nn, rfl, e3.symm⟩
        subst ez
        refine ⟨_, gv_tup rfl (gsv_cons (gv_name (by simp)) (gsv_cons (gv_name (by simp)) gsv_nil)), ?_⟩
        have hj : i % 64 < cs.length := by rw [hc.1]; exact Nat.mod_lt _ (by decide)
        refine sm_store (M1 := []) (M2 := []) (j := i % 64) (i := 1) rfl rfl (em_open (i := 1) (d := .int ((cs.getD (i % 64) 0 * 69621 + nn) % 2147483647)) List.mem_cons_self rfl (ev_op (ev_int1 (ev_op (ev_op (ev_op (ev_var rfl) (ev_mod64 (ev_var rfl)) (r2_ixI hj)) ev_int (r2_mul (.inr ⟨by decide, by decide⟩))) (ev_var rfl) r2_add)) ev_int (r2_mod (by decide))) rfl) (ev_mod64 (ev_var rfl)) (by rw [List.length_map]; exact hj) fun d e => ?_
        refine ⟨en p, ⟨rfl, rfl, trivial⟩, cs.set (i % 64) ((cs.getD (i % 64) 0 * 69621 + nn) % 2147483647), hc.set (by omega) (by omega), rfl, ?_⟩
        rw [e, List.map_set]
        rfl
      · obtain ⟨ds, e, cs, hc, rfl, rfl⟩ := n2
        refine (sm_for (m := none) (M := [(p, cs.map .int)]) (R := fun _ => False) (us := [2]) (c1 := 0) (c := 0) (fun _ _ r M' => ∃ cs, okC cs ∧ r = en p ∧ M' = [(p, cs.map .int)]) 64 (im_iv (iv_range2 (lo := 1) (hi := 64) (ea_cons ev_int (ea_cons ev_int ea_nil)) (by decide))) (fun ds e => by rw [e]; decide) (fun ds _ => ⟨_, leE_refl _, cs, hc, rfl, rfl⟩) fun ds e i d r M' hd iv => ?_) [] H _ H2 0 _ s2 (fun σ3 H3 r3 M3 n3 s3 => ?_) (fun _ _ _ z => z.elim)
        · obtain ⟨cs, hc, rfl, rfl⟩ := iv
          rw [e] at hd
          obtain ⟨j, hj, rfl⟩ := map_at hd
          obtain ⟨hj1, hj2⟩ := List.getElem?_eq_some_iff.mp hj
          rw [List.getElem_range] at hj2
          subst hj2
          rw [List.length_range] at hj1
          have hi63 : i < 63 := hj1
          have ed : PyData.int (1 + (i : Int)) = nD (i + 1) := by
            show PyData.int (1 + (i : Int)) = PyData.int ((i + 1 : Nat) : Int)
            congr 1
            omega
          rw [ed]
          refine ⟨_, gv_name (by simp), ?_⟩
          have hl1 : i + 1 < cs.length := by rw [hc.1]; omega
          have hl0 : i + 1 - 1 < cs.length := by omega
          refine sm_store (M1 := []) (M2 := []) (j := i + 1) (i := 1) rfl rfl (em_open (i := 1) (d := .int ((cs.getD (i + 1) 0 + cs.getD (i + 1 - 1) 0 * 48271) % 2147483647)) List.mem_cons_self rfl (ev_op (ev_int1 (ev_op (ev_op (ev_var rfl) (ev_var rfl) (r2_ixI hl1)) (ev_op (ev_op (ev_var rfl) (less1 (ev_var rfl) (by omega)) (r2_ixI hl0)) ev_int (r2_mul (.inr ⟨by decide, by decide⟩))) r2_add)) ev_int (r2_mod (by decide))) rfl) (ev_var rfl) (by rw [List.length_map]; exact hl1) fun d e => ?_
          refine ⟨en p, ⟨rfl, rfl, trivial⟩, cs.set (i + 1) _, hc.set (c := (cs.getD (i + 1) 0 + cs.getD (i + 1 - 1) 0 * 48271) % 2147483647) (by omega) (by omega), rfl, ?_⟩
          rw [e, List.map_set]
          rfl
        · obtain ⟨ds, e, cs, hc, rfl, rfl⟩ := n3
          obtain ⟨v, h1, h2⟩ := s3.env.2 1 _ rfl
          rw [h2.pin_iff] at h1
          obtain ⟨xs, h3, h4⟩ := s3.own _ List.mem_cons_self
          rw [h4.ints] at h3
          exact ⟨_, h1, q p cs H3 (fun x o z => s3.step x o (fun y => nomatch y) z) (s3.new p (by simp)).1 h3 hc.1 hc.2⟩
end
end G6
namespace G6
open PySem PySem.Spec PyProof.Rows L2
section
variable {P : Program} {w : World} {K : PySem.W.Frag} {mg : Str → Option Value} {base : Heap}

def SpBegun (K : PySem.W.Frag) : Sp := fun vs H Q _ => ∃ (a : Addr) (ns : List Int), vs = [.ref a] ∧ SqL K H a (ns.map V.int) ∧ ns.length ≤ 1000 ∧ ∀ (m : Mch) (H' : Hp), Same H H' → (∀ x, x ∈ adr (some m) → H x = none) → Mach (some m) 900000 H' → Q (.ref m.pm) H'
theorem ints_of : ∀ {es : List PyData}, (∀ (i : Nat) (e : PyData), es[i]? = some e → ∃ z : Int, e = .int z) → ∃ gs : List Int, es = gs.map .int
  | [], _ => ⟨[], rfl⟩
  | e :: es, h => by
    obtain ⟨z, rfl⟩ := h 0 e rfl
    obtain ⟨gs, rfl⟩ := ints_of (es := es) fun i e q => h (i + 1) e q
    exact ⟨z :: gs, rfl⟩
abbrev kv3 (c g : Addr) (n : Int) : List (Key × V) := [(keyS "cells", .ref c), (keyS "great", .ref g), (keyS "spot", .int n)]
theorem kne1 : (keyS "cells" = keyS "great") = False := eq_false (by decide +kernel)
theorem kne2 : (keyS "cells" = keyS "spot") = False := eq_false (by decide +kernel)
theorem kne3 : (keyS "great" = keyS "spot") = False := eq_false (by decide +kernel)
theorem kne4 : (keyS "great" = keyS "cells") = False := eq_false (by decide +kernel)
theorem kne5 : (keyS "spot" = keyS "cells") = False := eq_false (by decide +kernel)
theorem kne6 : (keyS "spot" = keyS "great") = False := eq_false (by decide +kernel)
theorem get_cells (c g : Addr) (n : Int) : valV (kv3 c g n) (keyS "cells") = some (.ref c) := valV_pos rfl
theorem get_great (c g : Addr) (n : Int) : valV (kv3 c g n) (keyS "great") = some (.ref g) := (valV_neg (fun z => (kne1 ▸ z))).trans (valV_pos rfl)
theorem get_spot (c g : Addr) (n : Int) : valV (kv3 c g n) (keyS "spot") = some (.int n) := (valV_neg (fun z => (kne2 ▸ z))).trans ((valV_neg (fun z => (kne3 ▸ z))).trans (valV_pos rfl))
theorem put_great (c g g' : Addr) (n : Int) : putK (kv3 c g n) (keyS "great") (.ref g') = kv3 c g' n := by
  unfold putK
  rw [if_pos (by simp only [kv3, List.any_cons, decide_true, Bool.true_or, Bool.or_true])]
  simp only [kv3, List.map_cons, List.map_nil, kne1, kne6, if_true, if_false]
theorem put_spot (c g : Addr) (n n' : Int) : putK (kv3 c g n) (keyS "spot") (.int n') = kv3 c g n' := by
  unfold putK
  rw [if_pos (by simp only [kv3, List.any_cons, decide_true, Bool.true_or, Bool.or_true])]
  simp only [kv3, List.map_cons, List.map_nil, kne2, kne3, if_true, if_false]
theorem merge3 (c g : Addr) (n : Int) : mergeK [] (kv3 c g n) = kv3 c g n := by
  unfold mergeK
  simp only [kv3, List.foldl_cons, List.foldl_nil]
  simp only [putK, List.any_nil, List.any_cons, List.nil_append, kne1, kne2, kne3, decide_false, Bool.false_or, Bool.or_false, Bool.false_eq_true, if_false, List.cons_append]
theorem good__law_begun (T : Txt w K mg) (g__law_folded : Good P w K mg base 1 "_law_folded" ["_law_script"] (SpFolded K)) : Good P w K mg base 2 "_law_begun" ["_law_script"] (SpBegun K) := by
  refine good_raw T.F__law_begun sc__law_begun (fun vs H Q E h => ?_) (fun _ _ _ _ _ _ us hl => match us, hl with | [_], _ => rfl) fun cdv A outer s H E hr => ⟨_, (pss_cons (ps_set (i := 1) sc__law_begun.nd rfl (by first | exact Or.inl rfl | exact Or.inr rfl) (pe_disp (pps_cons pe_str (pe_cg g__law_folded (hr.mono (by decide)) (by rfl) (pa_cons (pv 0) pa_nil)) (pps_cons pe_str (pe_lst pa_nil) (pps_cons pe_str pe_int pps_nil))) (by rfl) (by rfl) (fun z => by cases z) (by decide)))
      (pss_cons (ps_dput (hu_of hr) (pv 1) pe_str (pe_lc (own := [("_law_cell", 2)]) rfl sc__law_begun.nd (piK K (pv 0)) (blkOk_by (own := [("_law_cell", 2)]) (by kernel_rfl)) (fun _ _ _ _ _ => (pg_name (i := 2) sc__law_begun.nd rfl (by first | exact Or.inl rfl | exact Or.inr rfl))) (fun _ _ _ _ _ => pts_nil) (fun _ _ _ _ _ => (pe_ifExp (pt_cmpR op_ge (pv 2) (pe_op op_pow pe_int pe_int) (nomark _)) (pv 2) pe_int))) rfl)
      (pss_one (ps_ret (pv 1))))), fun vs Q h => ?_⟩
  · obtain ⟨a, ns, rfl, _⟩ := h; rfl
  · obtain ⟨a, ns, rfl, hs, hn, q⟩ := h
    intro p hp
    have e0 := same_new (o := .dK []) hp
    refine ⟨.ref a, rfl, a, ns, rfl, same_sqL e0 hs, hn, fun pc cs H1 e1 hpc h1 hl hc => ?_⟩
    have e01 := e0.trans e1
    have hp1 : H1 p = some (.dK []) := e1 _ _ upd_same
    have pcp : pc ≠ p := fun z => by rw [z, upd_same] at hpc; cases hpc
    refine ⟨Nat.zero_le _, fun pg0 hpg => ?_⟩
    have e2 := same_new (o := .lst []) hpg
    have p0p : pg0 ≠ p := fun z => by rw [z, hp1] at hpg; cases hpg
    refine ⟨by rw [upd_ne (Ne.symm p0p)]; exact hp1, kv3 pc pg0 0, rfl, by show 3 ≤ 15; decide, ?_⟩
    rw [merge3]
    have e3 : Same H (upd (upd H1 pg0 (.lst [])) p (.dK (kv3 pc pg0 0))) := fun x o z => by
      rw [upd_ne (ne_of_none z hp)]
      exact e2 x o (e01 x o z)
    have h3p : upd (upd H1 pg0 (.lst [])) p (.dK (kv3 pc pg0 0)) p = some (.dK (kv3 pc pg0 0)) := upd_same
    have h3c : upd (upd H1 pg0 (.lst [])) p (.dK (kv3 pc pg0 0)) pc = some (.lst (cs.map V.int)) := by
      rw [upd_ne pcp]
      exact e2 _ _ h1
    have pcH : H pc = none := by
      cases z : H pc with
      | none => rfl
      | some o => rw [e0 _ _ z] at hpc; cases hpc
    generalize upd (upd H1 pg0 (.lst [])) p (.dK (kv3 pc pg0 0)) = H3 at *
    have s3 : StM K none [] H3 ((start ["_law_script", "_law_m", "_law_cell"] [.ref a]).set 1 (some (.ref p))) H3 [some (sqD (ns.map .int)), some (pinD p), none] [] 0 := ⟨.refl _, trivial, fun _ z => (nomatch z), fun _ z => (nomatch z), List.nodup_nil, fun _ z => (nomatch z), by
      have r : DvAll K (hide (hid [] []) H3) [.ref a] [sqD (ns.map .int)] := .one (.sq (by rw [show hid [] [] = [] from rfl, hide_nil]; exact same_sqL e3 hs) (.of_ints ns))
      exact (EnvD.start ["_law_script", "_law_m", "_law_cell"] r).set (.pin p) 1, fun _ z => (nomatch z)⟩
    dsimp only [gName, tSeq, sDPut]
    refine lcM_core (m := none) (M := []) (vs := [2]) (wi := iSeq K (tVar 0)) (c := 0) (c1 := 0) (g := gName 2) (Re := fun _ _ d => ∃ z : Int, d = .int z) 1000 (by decide) (im_iv (iv_sq (ns := ns) (ev_var rfl))) (fun ds e => by rw [e, List.length_map]; exact hn) (fun ds e i d hd => ⟨_, gv_name (by simp), fun M1 => ?_⟩) [] H3 _ H3 0 s3 _ fun D H4 ds es e le re s4 => ?_
    · rw [e] at hd
      obtain ⟨z, hz, rfl⟩ := map_at hd
      exact em_evR (d := .int (if decide ((10 : Int) ^ (18 : Int).toNat ≤ z) = true then z else 0)) (ev_if (et_test (ev_op (ev_var rfl) (ev_op ev_int ev_int (r2_I (by exact ⟨by decide, by decide, by decide⟩) fun _ => .int _)) r2_ge)) (fun ht => (ev_var rfl).is (by rw [if_pos ht])) (fun hf => ev_int.is (by rw [if_neg (by rw [hf]; exact Bool.false_ne_true)]))) ⟨_, rfl⟩
    · obtain ⟨gs, rfl⟩ := ints_of re
      have sm : Same H3 H4 := fun x o z => s4.step x o (fun y => nomatch y) z
      obtain ⟨xs, h5, h6⟩ := s4.own _ List.mem_cons_self
      rw [h6.ints] at h5
      have hD := (s4.new D (by simp)).1
      have Dp' : D ≠ p := fun z => by rw [z, h3p] at hD; cases hD
      have Dpc : D ≠ pc := fun z => by rw [z, h3c] at hD; cases hD
      refine ⟨.ref p, rfl, p, _, rfl, .inl ⟨kv3 pc pg0 0, keyS "great", sm _ _ h3p, rfl, by show 3 < sizeLine; decide, rfl⟩, .ref p, rfl, ?_⟩
      rw [put_great]
      refine q ⟨p, D, pc⟩ _ (fun x o z => ?_) (fun x hx => ?_) ⟨Dpc, 0, cs, gs, by decide, upd_same, by rw [upd_ne pcp]; exact sm _ _ h3c, hl, hc, by rw [upd_ne Dp']; exact h5, ?_⟩
      · rw [upd_ne (ne_of_none z hp)]
        exact sm _ _ (e3 _ _ z)
      · have hx : x ∈ [p, D, pc] := hx
        simp only [List.mem_cons, List.not_mem_nil, or_false] at hx
        rcases hx with rfl | rfl | rfl
        · exact hp
        · cases z : H x with
          | none => rfl
          | some o => rw [e3 _ _ z] at hD; cases hD
        · exact pcH
      · rw [List.length_map] at le
        rw [le, e, List.length_map]
        exact Nat.le_trans hn (by decide)

theorem mix_le (c n : Int) : 0 ≤ mixI c n ∧ mixI c n ≤ 2147483648 := by
  unfold mixI
  generalize ((c * (3 + 2 * n) * 69621) % 2147483647 + 104729 * n * n + 7919 * n) * 48271 = z
  omega
theorem EnvD.flat {h h' : Hp} {σ : L2.St} {ρ : Env6} (E : EnvD K h σ ρ) (f : ∀ (i : Nat) (d : PyData), ρ[i]? = some (some d) → G6.flat d = true) : EnvD K h' σ ρ := ⟨E.1, fun i d q => by
  obtain ⟨v, h1, h2⟩ := E.2 i d q
  exact ⟨v, h1, h2.flat (f i d q)⟩⟩
theorem getD_okC {cs : List Int} (h : okC cs) (i : Nat) : 0 ≤ cs.getD (i % 64) 0 ∧ cs.getD (i % 64) 0 < 2147483648 := h.2 _ (getD_mem (by rw [h.1]; exact Nat.mod_lt _ (by decide)))
theorem good__law_draw (T : Txt w K mg) (g__law_mixed : Good P w K mg base 1 "_law_mixed" ["_law_cell", "_law_n"] (PSp K R__law_mixed)) : Good P w K mg base 2 "_law_draw" ["_law_m", "_law_limit"] (SpM K 1 Ra__law_draw) := by
  refine good_ofS T.F__law_draw sc__law_draw (c := 1) (Ra := Ra__law_draw) (fun ds R h => ?_) (fun _ _ _ _ _ _ us hl => match us, hl with | [_, _], _ => rfl) fun cdv A outer s H E hr => ⟨_, (pss_cons (ps_set (i := 2) sc__law_draw.nd rfl (by first | exact Or.inl rfl | exact Or.inr rfl) (pe_dget (hu_of hr) (pv 0) pe_str (fun _ _ => rfl)))
      (pss_cons (ps_dput (hu_of hr) (pv 0) pe_str (pe_op op_add (pv 2) pe_int) rfl)
      (pss_cons (ps_if (pt_cmpR (neDK K hr.units) (pe_dget (hu_of hr) (pv 0) pe_str (fun _ _ => rfl)) (pe_lst pa_nil) (nomark _))
      (pss_cons (ps_set (i := 3) sc__law_draw.nd rfl (by first | exact Or.inl rfl | exact Or.inr rfl) (pe_dget (hu_of hr) (pv 0) pe_str (fun _ _ => rfl)))
      (pss_cons (ps_set (i := 4) sc__law_draw.nd rfl (by first | exact Or.inl rfl | exact Or.inr rfl) (pe_op op_mod (pe_callTy call_int1 (by rfl) T.m_int boot_int (pa_cons (pv 2) pa_nil)) (pe_callB (lenK K) (by rfl) T.m_len boot_len (pa_cons (pv 3) pa_nil))))
      (pss_cons (ps_set (i := 5) sc__law_draw.nd rfl (by first | exact Or.inl rfl | exact Or.inr rfl) (pe_ix (ixK K) (pv 3) (pv 4) (fun _ _ => rfl)))
      (pss_one (ps_if (pt_cmpR op_gt (pv 5) pe_int (nomark _))
      (pss_cons (ps_asg (pe_op op_fdiv (pv 5) (pv 1)) (pg_sub (pv 3) (pv 4) set_list))
      (pss_one (ps_ret (pe_op op_mod (pe_callTy call_int1 (by rfl) T.m_int boot_int (pa_cons (pv 5) pa_nil)) (pv 1)))))
      pss_nil)))))
      pss_nil)
      (pss_cons (ps_set (i := 3) sc__law_draw.nd rfl (by first | exact Or.inl rfl | exact Or.inr rfl) (pe_dget (hu_of hr) (pv 0) pe_str (fun _ _ => rfl)))
      (pss_one (ps_ret (pe_op op_mod (pe_callTy call_int1 (by rfl) T.m_int boot_int (pa_cons (pe_cg g__law_mixed (hr.mono (by decide)) (by rfl) (pa_cons (pe_cg g__law_mixed (hr.mono (by decide)) (by rfl) (pa_cons (pe_op op_add (pe_ix (ixK K) (pv 3) (pe_op op_mod (pe_callTy call_int1 (by rfl) T.m_int boot_int (pa_cons (pv 2) pa_nil)) pe_int) (fun _ _ => rfl)) (pe_op op_mul pe_int (pe_op op_fdiv (pv 2) pe_int))) (pa_cons (pv 2) pa_nil))) (pa_cons (pe_op op_add (pv 2) pe_int) pa_nil))) pa_nil)) (pv 1)))))))), fun m ds R h => ?_⟩
  · obtain ⟨l, _, _, rfl, _⟩ := h; rfl
  · obtain ⟨l, l1, l2, rfl, rfl⟩ := h
    intro W H0 σ H b D s k1 k2
    have lpos : 0 < (l : Int) := by omega
    obtain ⟨gc, n, cs, gs, hnb, hpm, hpc, hcl, hcb, hpg, hgl⟩ := s.mach
    have okc : okC cs := ⟨hcl, hcb⟩
    obtain ⟨v0, h00, h01⟩ := s.env.2 0 _ rfl
    rw [h01.pin_iff] at h00
    -- n = m['spot']
    refine ⟨_, h00, m.pm, .int (n : Int), rfl, .inl ⟨_, keyS "spot", .inl hpm, rfl, (get_spot _ _ _).symm⟩, ?_⟩
    have s1 := s.withEnv (s.env.set (v := .int (n : Int)) (d := nD n) (.int _) 2)
    have pmc : m.pm ≠ m.pc := fun z => by rw [z, hpc] at hpm; cases hpm
    have pmg : m.pm ≠ m.pg := fun z => by rw [z, hpg] at hpm; cases hpm
    -- m['spot'] = n + 1
    refine (ev_op (ev_var rfl) ev_int r2_add : EV K _ [some (pinD m.pm), some (nD l), some (nD n), none, none, none] _) _ _ H s1.ok s1.env _ fun v H1 e1 v1 => ?_
    have s2 := s1.same e1
    rw [v1.int_iff]
    refine ⟨_, by rw [List.getElem?_set_ne (by decide)]; exact h00, m.pm, _, rfl, .inl ⟨_, keyS "spot", e1 _ _ hpm, rfl, by show 3 < sizeLine; decide, rfl⟩, ?_⟩
    rw [put_spot]
    have s3 : StM K (some m) W H0 (σ.set 2 (some (.int (n : Int)))) (upd H1 m.pm (.dK (kv3 m.pc m.pg ((n : Int) + 1)))) [some (pinD m.pm), some (nD l), some (nD n), none, none, none] [] b := s2.move (fun a o ha z => by
        rw [upd_ne (fun y => ha (by rw [y]; simp [adr]))]
        exact z) ⟨gc, n + 1, cs, gs, by omega, upd_same, by rw [upd_ne (Ne.symm pmc)]; exact e1 _ _ hpc, hcl, hcb, by rw [upd_ne (Ne.symm pmg)]; exact e1 _ _ hpg, hgl⟩
    have f1 : upd H1 m.pm (.dK (kv3 m.pc m.pg ((n : Int) + 1))) m.pm = some (.dK (kv3 m.pc m.pg ((n : Int) + 1))) := upd_same
    have f2 : upd H1 m.pm (.dK (kv3 m.pc m.pg ((n : Int) + 1))) m.pc = some (.lst (cs.map V.int)) := by rw [upd_ne (Ne.symm pmc)]; exact e1 _ _ hpc
    have f3 : upd H1 m.pm (.dK (kv3 m.pc m.pg ((n : Int) + 1))) m.pg = some (.lst (gs.map V.int)) := by rw [upd_ne (Ne.symm pmg)]; exact e1 _ _ hpg
    generalize upd H1 m.pm (.dK (kv3 m.pc m.pg ((n : Int) + 1))) = H2 at *
    generalize σ.set 2 (some (.int (n : Int))) = σ1 at *
    have openE : ∀ {σ' H'}, Same H2 H' → EnvD K (hide (hid [] W) H') σ' [some (pinD m.pm), some (nD l), some (nD n), none, none, none] → EnvD K (hide [] H') σ' [some (pinD m.pm), some (nD l), some (nD n), none, none, none] := fun _ E => E.same (hide_sub fun a ha => nomatch ha)
    -- what is drawn off the cells
    have tail : ∀ σ' H', Same H2 H' → EnvD K (hide (hid [] W) H') σ' [some (pinD m.pm), some (nD l), some (nD n), none, none, none] → tSeq (tAsg (tDGet (tVar 0) (tC (.str "cells"))) (gName 3)) (tRet (tOp (rI (fun _ j => 0 < j) fun i j => .int (i % j)) (tCB (fun xs H Q => (∃ i, xs = [.int i] ∧ Q (.int i) H) ∨ ∃ k, xs = [.bl k] ∧ Q (.int (if k then 1 else 0)) H) (tCons (tCall (PSp K R__law_mixed) [] E0 (tCons (tCall (PSp K R__law_mixed) [] E0 (tCons (tOp (rI0 fun i j => .int (i + j)) (tOp (rIx K) (tVar 3) (tOp (rI (fun _ j => 0 < j) fun i j => .int (i % j)) (tCB (fun xs H Q => (∃ i, xs = [.int i] ∧ Q (.int i) H) ∨ ∃ k, xs = [.bl k] ∧ Q (.int (if k then 1 else 0)) H) (tCons (tVar 2) tNil)) (tC (.int 64)))) (tOp (rI CMul fun i j => .int (i * j)) (tC (.int 37)) (tOp (rI CDiv fun i j => .int (i / j)) (tVar 2) (tC (.int 64))))) (tCons (tVar 2) tNil))) (tCons (tOp (rI0 fun i j => .int (i + j)) (tVar 2) (tC (.int 5))) tNil))) tNil)) (tVar 1))) D σ' H' := fun σ' H' e' E' => by
      obtain ⟨u0, u00, u01⟩ := E'.2 0 _ rfl
      rw [u01.pin_iff] at u00
      refine ⟨_, u00, m.pm, .ref m.pc, rfl, .inl ⟨_, keyS "cells", .inl (e' _ _ f1), rfl, (get_cells _ _ _).symm⟩, ?_⟩
      have E2 : EnvD K (hide [] H') (σ'.set 3 (some (.ref m.pc))) [some (pinD m.pm), some (nD l), some (nD n), some (.list (cs.map .int)), none, none] := (openE e' E').set (.lst (by rw [hide_nil]; exact e' _ _ f2) (.of_ints cs)) 3
      have b1 := getD_okC okc n
      have b2 := mix_le (cs.getD (n % 64) 0 + 37 * ((n : Int) / 64)) n
      have b3 := mix_le (mixI (cs.getD (n % 64) 0 + 37 * ((n : Int) / 64)) n) (n + 5)
      refine (ev_op (ev_int1 (ev_call (R := R__law_mixed) (d := .int (mixI (mixI (cs.getD (n % 64) 0 + 37 * ((n : Int) / 64)) n) (n + 5))) (ea_cons (ev_call (R := R__law_mixed) (d := .int (mixI (cs.getD (n % 64) 0 + 37 * ((n : Int) / 64)) n)) (ea_cons (ev_op (ev_op (ev_var rfl) (ev_mod64 (ev_var rfl)) (r2_ixI (by rw [okc.1]; exact Nat.mod_lt _ (by decide)))) (ev_op ev_int (ev_op (ev_var rfl) ev_int (r2_fdiv (by exact ⟨by decide, by decide⟩))) (r2_mul (.inl ⟨by decide, by decide⟩))) r2_add) (ea_cons (ev_var rfl) ea_nil)) ⟨_, _, ?_, ?_, ?_, ?_, rfl, rfl⟩) (ea_cons (ev_op (ev_var rfl) ev_int r2_add) ea_nil)) ⟨_, _, b2.1, ?_, ?_, ?_, rfl, rfl⟩)) (ev_var rfl) (r2_mod lpos) : EV K _ _ _) [] _ H' OkW.nil E2 _ fun v3 H3 e3 v3' => ?_
      · omega
      · omega
      · omega
      · omega
      · omega
      · omega
      · omega
      · have e4 := e'.trans e3
        rw [v3'.int_iff]
        refine k2 _ H3 (nD (mixI (mixI (cs.getD (n % 64) 0 + 37 * ((n : Int) / 64)) n) (n + 5) % (l : Int)).toNat) ⟨_, ?_, rfl⟩ (s3.same e4).step (s3.same e4).mach ?_
        · have h1 := Int.emod_nonneg (mixI (mixI (cs.getD (n % 64) 0 + 37 * ((n : Int) / 64)) n) (n + 5)) (by omega : (l : Int) ≠ 0)
          have h2 := Int.emod_lt_of_pos (mixI (mixI (cs.getD (n % 64) 0 + 37 * ((n : Int) / 64)) n) (n + 5)) lpos
          omega
        · unfold nD
          rw [Int.toNat_of_nonneg (Int.emod_nonneg _ (by omega))]
          exact .int _
    -- the great ones first
    have s4 : ∀ q, H2 q = none → StM K (some m) W H0 σ1 (upd H2 q (.lst [])) [some (pinD m.pm), some (nD l), some (nD n), none, none, none] [] b := fun q hq => s3.same (same_new hq)
    obtain ⟨u0, u00, u01⟩ := s3.env.2 0 _ rfl
    rw [u01.pin_iff] at u00
    refine ⟨_, u00, m.pm, .ref m.pg, rfl, .inl ⟨_, keyS "great", .inl f1, rfl, (get_great _ _ _).symm⟩, Nat.zero_le _, fun q hq => ?_⟩
    have e5 := same_new (o := .lst []) hq
    refine ⟨.list (gs.map .int), .list [], ?_, ?_, shaped_flat (n := 1) ?_ ?_ (by decide), shaped_nil, _, rfl, ?_⟩
    · exact (Dv.lst (e5 _ _ f3) (.of_ints gs)).dp (by
        unfold PyData.canLay0
        exact lay_all fun d hd => by
          obtain ⟨_, _, rfl⟩ := List.mem_map.mp hd
          rfl)
    · exact (Dv.lst (K := K) (ds := []) upd_same .nil).dp rfl
    · intro d hd
      obtain ⟨_, _, rfl⟩ := List.mem_map.mp hd
      rfl
    · intro d hd
      obtain ⟨_, _, rfl⟩ := List.mem_map.mp hd
      unfold PyData.depth
      omega
    have s5 := s4 q hq
    generalize upd H2 q (.lst []) = H5 at *
    by_cases hg : gs = []
    · have hb : (!PyData.eqv (.list (gs.map .int)) (.list [])) = false := by rw [eqv_nil, hg]; rfl
      rw [hb]
      exact tail σ1 H5 e5 s5.env
    · have hb : (!PyData.eqv (.list (gs.map .int)) (.list [])) = true := by
        rw [eqv_nil]
        cases h : gs with
        | nil => exact absurd h hg
        | cons => rfl
      rw [hb]
      have gl : 0 < gs.length := List.length_pos_iff.mpr hg
      refine ⟨_, u00, m.pm, .ref m.pg, rfl, .inl ⟨_, keyS "great", .inl (e5 _ _ f1), rfl, (get_great _ _ _).symm⟩, ?_⟩
      have E5 : EnvD K (hide [] H5) (σ1.set 3 (some (.ref m.pg))) [some (pinD m.pm), some (nD l), some (nD n), some (.list (gs.map .int)), none, none] := (openE e5 s5.env).set (.lst (by rw [hide_nil]; exact e5 _ _ f3) (.of_ints gs)) 3
      have hmod : n % gs.length < gs.length := Nat.mod_lt _ gl
      have len1 : σ1.length = 6 := s3.env.1
      refine ((ev_op (ev_int1 (ev_var rfl)) (ev_lenL (ev_var rfl)) (r2_mod (by rw [List.length_map]; omega))).is (show _ = nD (n % gs.length) by rw [List.length_map]; rfl)) [] _ H5 OkW.nil E5 _ fun v6 H6 e6 v6' => ?_
      have E6 := (E5.same (hide_same (W := []) e6)).set v6' 4
      refine (ev_op (ev_var rfl) (ev_var rfl) (r2_ixI hmod)) [] _ H6 OkW.nil E6 _ fun v7 H7 e7 v7' => ?_
      have E7 := (E6.same (hide_same (W := []) e7)).set v7' 5
      have W7 : ∀ H', EnvD K (hide (hid [] W) H') σ1 [some (pinD m.pm), some (nD l), some (nD n), none, none, none] → EnvD K (hide (hid [] W) H') (((σ1.set 3 (some (V.ref m.pg))).set 4 (some v6)).set 5 (some v7)) [some (pinD m.pm), some (nD l), some (nD n), none, none, none] := fun H' E => ((E.setN 3).setN 4).setN 5
      have l3 : ((((σ1.set 3 (some (V.ref m.pg))).set 4 (some v6)).set 5 (some v7)) : L2.St)[3]? = some (some (V.ref m.pg)) := by
        rw [List.getElem?_set_ne (by decide), List.getElem?_set_ne (by decide), List.getElem?_set_self (by rw [len1]; decide)]
      have l4 : ((((σ1.set 3 (some (V.ref m.pg))).set 4 (some v6)).set 5 (some v7)) : L2.St)[4]? = some (some v6) := by
        rw [List.getElem?_set_ne (by decide), List.getElem?_set_self (by rw [List.length_set, len1]; decide)]
      have e67 := e6.trans e7
      dsimp only [gName]
      generalize hσ : (((σ1.set 3 (some (V.ref m.pg))).set 4 (some v6)).set 5 (some v7)) = σ7 at *
      generalize gs.getD (n % gs.length) 0 = cell at *
      refine (et_test (ev_op (ev_var rfl) ev_int r2_gt) : ET K (tTest (tOp (rI0 fun i j => .bl (decide (j < i))) (tVar 5) (tC (.int 0)))) _ _) [] σ7 H7 OkW.nil E7 _ fun H8 e8 => ?_
      have e58 := e67.trans e8
      have s8 := s5.same e58
      have E8 := E7.same (hide_same (W := []) e8)
      by_cases hc : 0 < cell
      · rw [decide_eq_true hc]
        refine (ev_op (ev_var rfl) (ev_var rfl) (r2_fdiv (by exact ⟨lpos, by omega⟩))) [] σ7 H8 OkW.nil E8 _ fun v9 H9 e9 v9' => ?_
        have s9 := s8.same e9
        have E9 := E8.same (hide_same (W := []) e9)
        have e29 : Same H2 H9 := (e5.trans e58).trans e9
        have hpg9 := e29 _ _ f3
        have gcpc : m.pc ≠ m.pg := fun z => gc z.symm
        refine ⟨_, l3, _, l4, m.pg, gs.map V.int, ((n % gs.length : Nat) : Int), n % gs.length, rfl, v6'.int_iff, hpg9, ?_, ?_⟩
        · unfold ixN
          rw [if_pos (by omega), if_pos (by rw [List.length_map]; omega)]
          rfl
        · have s10 : StM K (some m) W H0 σ1 (upd H9 m.pg (.lst ((gs.map V.int).set (n % gs.length) v9))) [some (pinD m.pm), some (nD l), some (nD n), none, none, none] [] b := s9.move (fun a o ha z => by
              rw [upd_ne (fun y => ha (by rw [y]; simp [adr]))]
              exact z) ⟨gc, n + 1, cs, gs.set (n % gs.length) (cell / (l : Int)), by omega, by rw [upd_ne pmg]; exact e29 _ _ f1, by rw [upd_ne gcpc]; exact e29 _ _ f2, hcl, hcb, by rw [upd_same, v9'.int_iff, List.map_set], by rw [List.length_set]; exact hgl⟩
          have E10 : EnvD K (hide [] (upd H9 m.pg (.lst ((gs.map V.int).set (n % gs.length) v9)))) σ7 [none, some (nD l), some (nD n), none, none, some (.int cell)] := EnvD.flat (E9.le (ρ' := [none, some (nD l), some (nD n), none, none, some (.int cell)]) ⟨rfl, rfl, rfl, trivial⟩) fun i d hd => by
            match i with
            | 0 => cases hd
            | 1 => cases hd; rfl
            | 2 => cases hd; rfl
            | 3 => cases hd
            | 4 => cases hd
            | 5 => cases hd; rfl
            | i + 6 => cases hd
          refine (ev_op (ev_int1 (ev_var rfl)) (ev_var rfl) (r2_mod lpos)) [] σ7 _ OkW.nil E10 _ fun v11 H11 e11 v11' => ?_
          rw [v11'.int_iff]
          refine k2 _ H11 (nD (cell % (l : Int)).toNat) ⟨_, ?_, rfl⟩ (s10.same e11).step (s10.same e11).mach ?_
          · have h1 := Int.emod_nonneg cell (by omega : (l : Int) ≠ 0)
            have h2 := Int.emod_lt_of_pos cell lpos
            omega
          · unfold nD
            rw [Int.toNat_of_nonneg (Int.emod_nonneg _ (by omega))]
            exact .int _
      · rw [decide_eq_false hc]
        exact tail σ7 H8 (e5.trans e58) (W7 H8 s8.env)
theorem good__law_of (T : Txt w K mg) (g__law_draw : Good P w K mg base 2 "_law_draw" ["_law_m", "_law_limit"] (SpM K 1 Ra__law_draw)) : Good P w K mg base 3 "_law_of" ["_law_m", "_law_some"] (SpM K 1 Ra__law_of) := by
  refine good_ofS T.F__law_of sc__law_of (c := 1) (Ra := Ra__law_of) (fun ds R h => ?_) (fun _ _ _ _ _ _ us hl => match us, hl with | [_, _], _ => rfl) fun cdv A outer s H E hr => ⟨_, (pss_one (ps_ret (pe_ix (ixK K) (pv 1) (pe_cg g__law_draw (hr.mono (by decide)) (by rfl) (pa_cons (pv 0) (pa_cons (pe_callB (lenK K) (by rfl) T.m_len boot_len (pa_cons (pv 1) pa_nil)) pa_nil))) (fun _ _ => rfl)))), fun m ds R h => ?_⟩
  · obtain ⟨xs, _, _, rfl, _⟩ := h; rfl
  · obtain ⟨xs, hn, hl, rfl, rfl⟩ := h
    have h0 : 0 < xs.length := List.length_pos_iff.mpr hn
    refine sm_ret (em_op (c1 := 0) (c2 := 1) (em_ev (ev_var rfl)) (em_callM (c := 1) (c1 := 0) (Ra := Ra__law_draw) rfl (am_ea (ea_cons (ev_lenNL (xs := xs) (ev_var rfl)) ea_nil)) fun ds e => ⟨xs.length, h0, hl, e, rfl⟩) fun x y hx hy => ?_)
    obtain ⟨j, hj, rfl⟩ := hy
    subst hx
    exact ⟨_, r2_ixNL hj, _, getD_mem hj, rfl⟩
end
end G6
/-! Part B5: the kinds that the law draws join. -/
namespace G6
def mgOf (n : Nat) (f : Nat → Nat → Nat) : List (List Nat) := (List.range n).map fun a => (List.range n).map fun b => f a b
theorem range_getD {α : Type} {n i : Nat} {g : Nat → α} {d : α} (h : i < n) : ((List.range n).map g).getD i d = g i := by
  rw [List.getD_eq_getElem?_getD, List.getElem?_map, List.getElem?_range h]
  rfl
theorem lat_mk {n st : Nat} {ups : List (List Nat)} {f : Nat → Nat → Nat} {rd : List Nat} (n1 : 1 ≤ n) (n8 : n ≤ 8) (hst : st < n) (u1 : 1 ≤ ups.length) (u4 : ups.length ≤ 4) (ur : ∀ r, r ∈ ups → r.length = n ∧ ∀ x, x ∈ r → x < n) (hl : rd.length = n) (hr : ∀ x, x ∈ rd → x ≤ 9)
    (hf : ∀ a b, a < n → b < n → f a b < n) (comm : ∀ a b, a < n → b < n → f a b = f b a) (assoc : ∀ a b c, a < n → b < n → c < n → f (f a b) c = f a (f b c)) (idem : ∀ a, a < n → f a a = a) (unit : ∀ a, a < n → f st a = a) : Lat ⟨st, ups, mgOf n f, rd⟩ := by
  have hn : Kd.n ⟨st, ups, mgOf n f, rd⟩ = n := hl
  have hJ : ∀ a b, a < n → b < n → Kd.J ⟨st, ups, mgOf n f, rd⟩ a b = f a b := fun a b ha hb => by
    unfold Kd.J mgOf
    dsimp only
    rw [range_getD ha, range_getD hb]
  refine ⟨by rw [hn]; exact n1, by rw [hn]; exact n8, by rw [hn]; exact hst, u1, u4, by rw [hn]; exact ur, ?_, ?_, hr, ?_, ?_, ?_, ?_⟩
  · rw [hn]
    unfold mgOf
    rw [List.length_map, List.length_range]
  · rw [hn]
    intro r hr
    obtain ⟨a, ha, rfl⟩ := List.mem_map.mp hr
    refine ⟨by rw [List.length_map, List.length_range], fun x hx => ?_⟩
    obtain ⟨b, hb, rfl⟩ := List.mem_map.mp hx
    exact hf a b (List.mem_range.mp ha) (List.mem_range.mp hb)
  · rw [hn]
    intro a b ha hb
    rw [hJ a b ha hb, hJ b a hb ha, comm a b ha hb]
  · rw [hn]
    intro a b c ha hb hc
    rw [hJ a b ha hb, hJ b c hb hc, hJ _ _ (hf a b ha hb) hc, hJ _ _ ha (hf b c hb hc), assoc a b c ha hb hc]
  · rw [hn]
    intro a ha
    rw [hJ a a ha ha, idem a ha]
  · rw [hn]
    intro a ha
    rw [hJ _ a hst ha, unit a ha]
/-! ### lots -/
theorem lat_lots {n : Nat} (h1 : 1 ≤ n) (h3 : n ≤ 3) {ups : List (List Nat)} {rd : List Nat} (u1 : 1 ≤ ups.length) (u4 : ups.length ≤ 4) (ur : ∀ r, r ∈ ups → r.length = 2 ^ n ∧ ∀ x, x ∈ r → x < 2 ^ n) (hl : rd.length = 2 ^ n) (hr : ∀ x, x ∈ rd → x ≤ 9) : Lat ⟨0, ups, mgOf (2 ^ n) fun a b => a ||| b, rd⟩ := by
  have p1 : 2 ^ n ≤ 2 ^ 3 := Nat.pow_le_pow_right (by omega) h3
  have p0 : 0 < 2 ^ n := Nat.two_pow_pos n
  exact lat_mk (by omega) (by omega) p0 u1 u4 ur hl hr (fun a b ha hb => Nat.or_lt_two_pow ha hb) (fun a b _ _ => Nat.or_comm a b) (fun a b c _ _ _ => Nat.or_assoc a b c) (fun a _ => Nat.or_self a) (fun a _ => Nat.zero_or a)
/-! ### rows -/
theorem idx_at {ys : List Nat} (nd : ys.Nodup) {j : Nat} (h : j < ys.length) : ys.idxOf (ys.getD j 0) = j := by
  rw [List.getD_eq_getElem?_getD, List.getElem?_eq_getElem h]
  exact nd.idxOf_getElem j h
theorem at_idx {ys : List Nat} {a : Nat} (h : a ∈ ys) : ys.getD (ys.idxOf a) 0 = a := by
  have hl := List.idxOf_lt_length_of_mem h
  rw [List.getD_eq_getElem?_getD, List.getElem?_eq_getElem hl]
  exact List.getElem_idxOf hl
def rowF (ys : List Nat) (a b : Nat) : Nat := ys.getD (max (ys.idxOf a) (ys.idxOf b)) 0
theorem lat_row {n : Nat} (h2 : 1 ≤ n) (h8 : n ≤ 8) {ys : List Nat} (hp : ys.Perm (List.range n)) {ups : List (List Nat)} {rd : List Nat} (u1 : 1 ≤ ups.length) (u4 : ups.length ≤ 4) (ur : ∀ r, r ∈ ups → r.length = n ∧ ∀ x, x ∈ r → x < n) (hl : rd.length = n) (hr : ∀ x, x ∈ rd → x ≤ 9) : Lat ⟨ys.getD 0 0, ups, mgOf n (rowF ys), rd⟩ := by
  have nd : ys.Nodup := hp.nodup_iff.mpr List.nodup_range
  have len : ys.length = n := by rw [hp.length_eq, List.length_range]
  have mem : ∀ a, a < n → a ∈ ys := fun a ha => hp.mem_iff.mpr (List.mem_range.mpr ha)
  have lt : ∀ a, a ∈ ys → a < n := fun a ha => List.mem_range.mp (hp.mem_iff.mp ha)
  have il : ∀ a, a < n → ys.idxOf a < ys.length := fun a ha => List.idxOf_lt_length_of_mem (mem a ha)
  have ml : ∀ a b, a < n → b < n → max (ys.idxOf a) (ys.idxOf b) < ys.length := fun a b ha hb => Nat.max_lt.mpr ⟨il a ha, il b hb⟩
  refine lat_mk h2 h8 (lt _ (getD_mem (by omega))) u1 u4 ur hl hr (fun a b ha hb => lt _ (getD_mem (ml a b ha hb))) (fun a b _ _ => ?_) (fun a b c ha hb hc => ?_) (fun a ha => ?_) (fun a ha => ?_)
  · unfold rowF
    rw [Nat.max_comm]
  · unfold rowF
    rw [idx_at nd (ml a b ha hb), idx_at nd (ml b c hb hc), Nat.max_assoc]
  · unfold rowF
    rw [Nat.max_self, at_idx (mem a ha)]
  · unfold rowF
    rw [idx_at nd (by omega), Nat.zero_max, at_idx (mem a ha)]
/-! ### wide ones -/
def wideF (n a b : Nat) : Nat := if b = 0 ∨ b = a then a else if a = 0 then b else n + 1
theorem lat_wide {n : Nat} (h1 : 1 ≤ n) (h5 : n ≤ 6) {ups : List (List Nat)} {rd : List Nat} (u1 : 1 ≤ ups.length) (u4 : ups.length ≤ 4) (ur : ∀ r, r ∈ ups → r.length = n + 2 ∧ ∀ x, x ∈ r → x < n + 2) (hl : rd.length = n + 2) (hr : ∀ x, x ∈ rd → x ≤ 9) : Lat ⟨0, ups, mgOf (n + 2) (wideF n), rd⟩ := by
  refine lat_mk (by omega) (by omega) (by omega) u1 u4 ur hl hr (fun a b ha hb => ?_) (fun a b ha hb => ?_) (fun a b c ha hb hc => ?_) (fun a ha => ?_) (fun a ha => ?_)
  · unfold wideF
    split
    · exact ha
    · split
      · exact hb
      · omega
  · unfold wideF
    split <;> split <;> (try split) <;> (try split) <;> omega
  · unfold wideF
    by_cases a0 : a = 0
    · by_cases b0 : b = 0
      · simp [a0, b0]
      · by_cases c0 : c = 0
        · simp [a0, b0, c0]
        · by_cases cb : c = b
          · simp [a0, b0, cb]
          · simp [a0, b0, c0, cb]
    · by_cases b0 : b = 0
      · by_cases c0 : c = 0
        · simp [a0, b0, c0]
        · simp [a0, b0, c0]
      · by_cases ba : b = a
        · by_cases c0 : c = 0
          · simp [a0, ba, c0]
          · by_cases ca : c = a
            · simp [a0, ba, ca]
            · simp [a0, ba, c0, ca]
        · by_cases c0 : c = 0
          · simp [a0, b0, ba, c0]
          · by_cases cb : c = b
            · simp [a0, b0, ba, cb]
            · simp [a0, b0, ba, c0, cb]
  · unfold wideF
    simp
  · unfold wideF
    split
    · omega
    · simp
end G6
/-! Part A13: rows of drawn numbers; a list that is emptied into another. -/
namespace G6
open PySem PySem.Spec PyProof.Rows L2
section
variable {K : PySem.W.Frag} {m : Option Mch} {ρ ρ' : Env6} {M : Own} {c c1 c2 : Nat} {ta tb te : TE} {R R1 R2' : PyData → Prop} {d : PyData} {ts tu tz : TS} {N N1 : Env6 → Own → Prop} {tt : TT} {wi : TI} {Rd : List PyData → Prop}
theorem nats_of {B : Nat} : ∀ {es : List PyData}, (∀ (i : Nat) (e : PyData), es[i]? = some e → ∃ x : Nat, x < B ∧ e = nD x) → ∃ xs : List Nat, xs.length = es.length ∧ (∀ x, x ∈ xs → x < B) ∧ es = xs.map nD
  | [], _ => ⟨[], rfl, fun _ z => (nomatch z), rfl⟩
  | e :: es, h => by
    obtain ⟨x, hx, rfl⟩ := h 0 e rfl
    obtain ⟨xs, h1, h2, rfl⟩ := nats_of (es := es) fun i e q => h (i + 1) e q
    exact ⟨x :: xs, by rw [List.length_cons, h1]; rfl, fun y hy => (List.mem_cons.mp hy).elim (fun q => q ▸ hx) (h2 y), rfl⟩
theorem em_row {g : TG} {vs : List Nat} {n B : Nat} {tn : TE} (hn : EV K tn ρ (nD n)) (hn8 : n ≤ 1000) (hs : ∀ i, i < n → ∃ r1, GV K g vs (nD i) (wipeE ρ vs) r1 ∧ ∀ M1, EM K m te r1 M1 c (fun d => ∃ x, x < B ∧ d = nD x)) :
    EM K m (tCB (rTupK K) (tCons (tLc (iRng1 (tCons tn tNil)) g tYes te vs) tNil)) ρ M (c * n) (fun d => ∃ row : List Nat, row.length = n ∧ (∀ x, x ∈ row → x < B) ∧ d = tD row) := by
  have h := em_lc (K := K) (m := m) (M := M) (te := te) (g := g) (vs := vs) (Re := fun _ _ d => ∃ x, x < B ∧ d = nD x) n (by omega) (im_iv (m := m) (M := M) (iv_rgN hn (by omega))) (fun ds e => by rw [e, List.length_map, List.length_range]; exact Nat.le_refl _) fun ds e i d hd => by
    rw [e] at hd
    obtain ⟨j, hj, rfl⟩ := map_at hd
    obtain ⟨hj1, hj2⟩ := List.getElem?_eq_some_iff.mp hj
    rw [List.getElem_range] at hj2
    subst hj2
    rw [List.length_range] at hj1
    exact hs i hj1
  refine (em_CB (R := fun d => ∃ row : List Nat, row.length = n ∧ (∀ x, x ∈ row → x < B) ∧ d = tD row) (am_cons (Rz := fun ds => ∃ es : List PyData, es.length = n ∧ (∀ (i : Nat) (e : PyData), es[i]? = some e → ∃ x, x < B ∧ e = nD x) ∧ ds = [.list es]) h am_nil fun d ds hd hds => ?_) fun ds hd => ?_).more (by omega)
  · obtain ⟨ds', es, e1, e2, e3, rfl⟩ := hd
    subst hds
    exact ⟨es, by rw [e2, e1, List.length_map, List.length_range], e3, rfl⟩
  · obtain ⟨es, h1, h2, rfl⟩ := hd
    obtain ⟨xs, h3, h4, rfl⟩ := nats_of h2
    exact ⟨_, rc_tupL, xs, by rw [h3, h1], h4, rfl⟩
/-- one row more -/
theorem rows_snoc {n : Nat} {ups : List (List Nat)} {row : List Nat} (h : ∀ r, r ∈ ups → r.length = n ∧ ∀ x, x ∈ r → x < n) (h1 : row.length = n) (h2 : ∀ x, x ∈ row → x < n) : ∀ r, r ∈ ups ++ [row] → r.length = n ∧ ∀ x, x ∈ r → x < n := fun r hr => by
  rcases List.mem_append.mp hr with q | q
  · exact h r q
  · rw [List.mem_singleton.mp q]; exact ⟨h1, h2⟩
/-- a, b = list(range(n)), [] : both to be written -/
theorem sm_parRg {i j n : Nat} (hn : EV K ta ρ (nD n)) (h1 : n ≤ 1000) (q : ∀ p p2, p ≠ p2 → N ((ρ.set i (some (pinD p))).set j (some (pinD p2))) [(p2, []), (p, (List.range n).map nD)]) : SM K m (tPar i j (tCons (tLstRg (tRg1 ta)) (tCons (tLst tNil) tNil))) ρ [] 0 N R := fun W H0 σ H b D s k1 k2 =>
  hn _ σ H s.ok s.env _ fun v H1 e1 v1 => ⟨(n : Int), v1.int_iff, RgOk.of_le (by omega) (by omega) (by omega) (by omega), fun p hp => by
    have s1 := (s.same e1).made (ds := (List.range n).map nD) hp (rgV_dv n)
    refine ⟨Nat.zero_le _, fun p2 hp2 => ?_⟩
    have s2 := s1.made (vs := []) (ds := []) hp2 .nil
    have hne : p ≠ p2 := fun z => by rw [← z, upd_same] at hp2; cases hp2
    exact ⟨_, _, rfl, k1 _ _ _ _ (q p p2 hne) (s2.withEnv ((s2.env.set (.pin p) i).set (.pin p2) j))⟩⟩
end
section
variable {K : PySem.W.Frag} {ρ : Env6} {m : Mch} {N : Env6 → Own → Prop} {R : PyData → Prop}
/-- found.append(left.pop(draw(m, len(left)))) -/
theorem sm_popAppend {p p2 : Addr} {ls fs : List Nat} {E0' : XK} (h0 : ρ[0]? = some (some (pinD m.pm))) (h2 : ρ[2]? = some (some (pinD p))) (h3 : ρ[3]? = some (some (pinD p2))) (hl : 1 ≤ ls.length) (hl2 : ls.length ≤ 1000) (hf : fs.length ≤ 1000)
    (q : ∀ j, j < ls.length → N ρ [(p2, (fs ++ [ls.getD j 0]).map nD), (p, (ls.eraseIdx j).map nD)]) :
    SM K (some m) (tDrop (tBM K "list" rAppend (tVar 3) (tCons (tBM K "list" rPopAt (tVar 2) (tCons (tCall (SpM K 1 Ra__law_draw) [] E0' (tCons (tVar 0) (tCons (tCB (rLenK K) (tCons (tVar 2) tNil)) tNil))) tNil)) tNil))) ρ [(p2, fs.map nD), (p, ls.map nD)] 1 N R := fun W H0 σ H b D s k1 k2 => by
  obtain ⟨v2, e2, r2⟩ := s.env.2 2 _ h2
  obtain ⟨v3, e3, r3⟩ := s.env.2 3 _ h3
  rw [r2.pin_iff] at e2
  rw [r3.pin_iff] at e3
  obtain ⟨ys0, y01, _⟩ := s.own _ List.mem_cons_self
  obtain ⟨xs0, x01, _⟩ := s.own (p, ls.map nD) (by simp)
  refine ⟨_, e3, .inl ⟨rfl, ys0, SqL.of y01⟩, _, e2, .inl ⟨rfl, xs0, SqL.of x01⟩, ?_⟩
  have hd : EM K (some m) (tCall (SpM K 1 Ra__law_draw) [] E0' (tCons (tVar 0) (tCons (tCB (rLenK K) (tCons (tVar 2) tNil)) tNil))) ρ [(p2, fs.map nD), (p, ls.map nD)] 1 (fun d => ∃ j, j < ls.length ∧ d = nD j) := by
    refine (em_callM (c := 1) (c1 := 0) (Rs := (· = [nD ls.length])) h0 (am_cons (c1 := 0) (c2 := 0) (em_open (i := 2) (p := p) (ds := ls.map nD) (by simp) h2 (ev_lenNL (xs := ls) (ev_var (by rw [List.getElem?_set_self ((List.getElem?_eq_some_iff.mp h2).1)]; rfl))) rfl) am_nil fun d ds e1 e2 => by rw [e1, e2]) fun ds e => ⟨ls.length, hl, hl2, e, rfl⟩)
  refine hd W H0 σ H b s _ fun v H1 d rd s1 dv => ?_
  obtain ⟨j, hj, rfl⟩ := rd
  obtain ⟨xs, x1, x2⟩ := s1.own (p, ls.map nD) (by simp)
  have xl := x2.length
  rw [List.length_map] at xl
  have hjx : j < xs.length := by omega
  refine ⟨p, xs, (j : Int), j, xs[j], rfl, by rw [dv.int_iff], x1, by omega, by omega, ?_, List.getElem?_eq_getElem hjx, ?_⟩
  · unfold seqIndex?
    dsimp only
    have e : (if (j : Int) < 0 then (j : Int) + (xs.length : Int) else (j : Int)) = (j : Int) := if_neg (by omega)
    rw [e, decide_eq_true (show (0 : Int) ≤ (j : Int) by omega), decide_eq_true (show (j : Int) < (xs.length : Int) by omega)]
    rfl
  obtain ⟨w, hw1, hw2⟩ := x2.get (i := j) (d := nD (ls.getD j 0)) (get_map hj)
  rw [List.getElem?_eq_getElem hjx] at hw1
  have ew : xs[j] = w := Option.some.inj hw1
  rw [ew]
  have er : DvAll K (hide (hid [(p2, fs.map nD), (p, ls.map nD)] W) H1) (xs.eraseIdx j) ((ls.eraseIdx j).map nD) := by
    rw [List.eraseIdx_eq_take_drop_succ, List.eraseIdx_eq_take_drop_succ, List.map_append, List.map_take, List.map_drop]
    exact (x2.take j).append (x2.drop (j + 1))
  have s2 := s1.wrote (M1 := [(p2, fs.map nD)]) (M2 := []) er
  obtain ⟨ys, y1, y2⟩ := s2.own (p2, fs.map nD) (by simp)
  have yl := y2.length
  rw [List.length_map] at yl
  refine ⟨p2, ys, w, rfl, rfl, y1, Nat.lt_of_lt_of_le (m := 1001) (by omega) (by decide), ?_⟩
  have s3 := s2.wrote (M1 := []) (M2 := [(p, (ls.eraseIdx j).map nD)]) (ds := fs.map nD) (es := (fs ++ [ls.getD j 0]).map nD) (ys := ys ++ [w]) (by
    rw [List.map_append]
    exact y2.append (.one (hw2.int_iff ▸ .int _)))
  exact k1 σ _ ρ _ (q j hj) s3
end
end G6
namespace G6
open PySem PySem.Spec PyProof.Rows L2
section
variable {P : Program} {w : World} {K : PySem.W.Frag} {mg : Str → Option Value} {base : Heap}

theorem em_draw {ρ : Env6} {M : Own} {m : Mch} {i l : Nat} {E0' : XK} {te : TE} (hi : ρ[i]? = some (some (pinD m.pm))) (h : EV K te ρ (nD l)) (h1 : 1 ≤ l) (h2 : l ≤ 1000) : EM K (some m) (tCall (SpM K 1 Ra__law_draw) [] E0' (tCons (tVar i) (tCons te tNil))) ρ M 1 (fun d => ∃ j, j < l ∧ d = nD j) :=
  em_callM (c := 1) (c1 := 0) hi (am_ea (ea_cons h ea_nil)) fun ds e => ⟨l, h1, h2, e, rfl⟩
theorem em_draw1 {ρ : Env6} {M : Own} {m : Mch} {i l : Nat} {E0' : XK} {te : TE} (hi : ρ[i]? = some (some (pinD m.pm))) (h : EV K te ρ (nD l)) (h1 : 1 ≤ l) (h2 : l ≤ 999) {a : Nat} : EM K (some m) (tOp (rI0 fun i j => .int (i + j)) (tC (.int (a : Int))) (tCall (SpM K 1 Ra__law_draw) [] E0' (tCons (tVar i) (tCons te tNil)))) ρ M 1 (fun d => ∃ j, j < l ∧ d = nD (a + j)) :=
  em_op (c1 := 0) (c2 := 1) (em_ev (ev_nat (n := a))) (em_draw hi h h1 (by omega)) fun x y hx hy => by
    obtain ⟨j, hj, rfl⟩ := hy
    subst hx
    exact ⟨_, r2_addN, j, hj, rfl⟩
theorem im_draws {ρ : Env6} {M : Own} {m : Mch} {i : Nat} {E0' : XK} (hi : ρ[i]? = some (some (pinD m.pm))) : IM K (some m) (iRng1 (tCons (tOp (rI0 fun i j => .int (i + j)) (tC (.int 1)) (tCall (SpM K 1 Ra__law_draw) [] E0' (tCons (tVar i) (tCons (tC (.int 3)) tNil)))) tNil)) ρ M 1 (fun ds => ∃ n, 1 ≤ n ∧ n ≤ 3 ∧ ds = (List.range n).map nD) := fun W H0 σ H b s R k =>
  (em_draw1 (a := 1) (l := 3) hi (ev_nat (n := 3)) (by decide) (by decide)) W H0 σ H b s _ fun v H2 d r s2 v2 => by
    obtain ⟨n, hn, rfl⟩ := r
    refine ⟨((1 + n : Nat) : Int), by rw [v2.int_iff], by omega, by omega, ?_⟩
    rw [Int.toNat_natCast]
    have e : (List.range (1 + n)).map nD = ((List.range (1 + n)).map fun (i : Nat) => PyData.int (0 + (i : Int))) := List.map_congr_left fun i _ => by rw [Int.zero_add]; rfl
    refine k _ H2 _ ⟨1 + n, by omega, by omega, rfl⟩ s2 ?_
    rw [e]
    exact seqIt_range
theorem range_at {n i : Nat} {d : PyData} (h : ((List.range n).map nD)[i]? = some d) : i < n ∧ d = nD i := by
  obtain ⟨j, hj, rfl⟩ := map_at h
  obtain ⟨hj1, hj2⟩ := List.getElem?_eq_some_iff.mp hj
  rw [List.getElem_range] at hj2
  rw [List.length_range] at hj1
  subst hj2
  exact ⟨hj1, rfl⟩
theorem good__law_order (T : Txt w K mg) (g__law_draw : Good P w K mg base 2 "_law_draw" ["_law_m", "_law_limit"] (SpM K 1 Ra__law_draw)) : Good P w K mg base 3 "_law_order" ["_law_m", "_law_many"] (SpM K 8 Ra__law_order) := by
  refine good_ofS T.F__law_order sc__law_order (c := 8) (Ra := Ra__law_order) (fun ds R h => ?_) (fun _ _ _ _ _ _ us hl => match us, hl with | [_, _], _ => rfl) fun cdv A outer s H E hr => ⟨_, (pss_cons (ps_par (i := 2) (j := 3) (by rfl) sc__law_order.nd rfl rfl (by decide) rfl rfl (pa_cons (pe_listRg rfl (by rfl) T.m_list (prg_1 (by rfl) T.m_range (pv 1))) (pa_cons (pe_lst pa_nil) pa_nil)) (by rfl))
      (pss_cons (ps_for PassesOwn.never rfl (pi_range1 (by rfl) T.m_range (pa_cons (pv 1) pa_nil)) (pg_name (i := 4) sc__law_order.nd rfl (by first | exact Or.inl rfl | exact Or.inr rfl))
      (pss_one (ps_expr (bmK K PySem.F.plainAttrs_list PySem.F.slot_list_append PySem.F.type_list_append mt_append (pv 3) (pa_cons (bmK K PySem.F.plainAttrs_list PySem.F.slot_list_pop PySem.F.type_list_pop mt_popAt (pv 2) (pa_cons (pe_cg g__law_draw (hr.mono (by decide)) (by rfl) (pa_cons (pv 0) (pa_cons (pe_callB (lenK K) (by rfl) T.m_len boot_len (pa_cons (pv 2) pa_nil)) pa_nil))) pa_nil)) pa_nil)))))
      (pss_one (ps_ret (pv 3))))), fun m ds R h => ?_⟩
  · obtain ⟨_, _, rfl, _⟩ := h; rfl
  · obtain ⟨n, hn, rfl, rfl⟩ := h
    let en (p p2 : Addr) : Env6 := [some (pinD m.pm), some (nD n), some (pinD p), some (pinD p2), none]
    refine SM.more (sm_seq (c1 := 0) (c2 := 8) (N1 := fun r M' => ∃ p p2, p ≠ p2 ∧ r = en p p2 ∧ M' = [(p2, []), (p, (List.range n).map nD)]) (sm_parRg (ev_var rfl) (by omega) fun p p2 hne => ⟨p, p2, hne, rfl, rfl⟩) fun r M' e => ?_) (by decide)
    obtain ⟨p, p2, hne, rfl, rfl⟩ := e
    refine sm_seq (c1 := 8) (c2 := 0) (N1 := fun r M' => ∃ fs : List Nat, fs.Perm (List.range n) ∧ r = en p p2 ∧ M' = [(p2, fs.map nD), (p, [])]) ((sm_for (us := [4]) (c1 := 0) (c := 1) (fun _ i r M' => ∃ (ls fs : List Nat), (fs ++ ls).Perm (List.range n) ∧ ls.length = n - i ∧ r = en p p2 ∧ M' = [(p2, fs.map nD), (p, ls.map nD)]) 8 (im_iv (iv_rgN (n := n) (ev_var rfl) (by omega))) (fun ds e => by rw [e, List.length_map, List.length_range]; exact hn) (fun ds e => ⟨_, leE_refl _, List.range n, [], List.Perm.refl _, by rw [List.length_range]; rfl, rfl, rfl⟩) fun ds e i d r M' hd iv => ?_).to fun r M' e => ?_) fun r M' e => ?_
    · obtain ⟨ls, fs, hp, hl, rfl, rfl⟩ := iv
      rw [e] at hd
      obtain ⟨hi, rfl⟩ := range_at hd
      have hlen := hp.length_eq
      rw [List.length_append, List.length_range] at hlen
      refine ⟨_, gv_name (by simp), sm_popAppend (p := p) (p2 := p2) rfl rfl rfl (by omega) (by omega) (by omega) fun j hj => ⟨en p p2, ⟨rfl, rfl, rfl, rfl, trivial⟩, ls.eraseIdx j, fs ++ [ls.getD j 0], ?_, ?_, rfl, rfl⟩⟩
      · refine List.Perm.trans ?_ hp
        rw [List.append_assoc]
        refine List.Perm.append_left fs ?_
        rw [List.getD_eq_getElem?_getD, List.getElem?_eq_getElem hj, List.eraseIdx_eq_take_drop_succ]
        have e := List.take_append_drop j ls
        rw [List.drop_eq_getElem_cons hj] at e
        show (ls[j] :: (ls.take j ++ ls.drop (j + 1))).Perm ls
        exact (List.perm_middle.symm).trans (by rw [e])
      · rw [List.length_eraseIdx_of_lt hj]
        omega
    · obtain ⟨ds, rfl, ls, fs, hp, hl, rfl, rfl⟩ := e
      rw [List.length_map, List.length_range, Nat.sub_self] at hl
      have e := List.eq_nil_of_length_eq_zero hl
      subst e
      rw [List.append_nil] at hp
      exact ⟨fs, hp, rfl, rfl⟩
    · obtain ⟨fs, hp, rfl, rfl⟩ := e
      exact sm_ghost (M' := []) (ρ' := (en p p2).set 3 (some (.list (fs.map nD)))) (fun _ _ _ _ _ s => (s.full (i := 3) rfl).loose) (sm_ret (em_evR (ev_var rfl) ⟨fs, hp, rfl⟩))

theorem em_kind {m : Option Mch} {ρ : Env6} {M : Own} {t1 t2 t3 t4 : TE} {c1 c2 c3 c4 st n B : Nat} {ups mg : List (List Nat)} (h1 : EM K m t1 ρ M c1 (· = nD st)) (h2 : EM K m t2 ρ M c2 (· = mD ups)) (h3 : EM K m t3 ρ M c3 (· = mD mg)) (h4 : EM K m t4 ρ M c4 (fun d => ∃ row : List Nat, row.length = n ∧ (∀ x, x ∈ row → x < B) ∧ d = tD row)) :
    EM K m (tTup (tCons t1 (tCons t2 (tCons t3 (tCons t4 tNil))))) ρ M (c1 + c2 + c3 + c4) (fun d => ∃ rd : List Nat, rd.length = n ∧ (∀ x, x ∈ rd → x < B) ∧ d = kD ⟨st, ups, mg, rd⟩) :=
  ((em_tup (Rs := fun ds => ∃ rd : List Nat, rd.length = n ∧ (∀ x, x ∈ rd → x < B) ∧ ds = [nD st, mD ups, mD mg, tD rd]) (am_cons h1 (am_cons (Rz := fun ds => ∃ rd : List Nat, rd.length = n ∧ (∀ x, x ∈ rd → x < B) ∧ ds = [mD ups, mD mg, tD rd]) h2 (am_cons (Rz := fun ds => ∃ rd : List Nat, rd.length = n ∧ (∀ x, x ∈ rd → x < B) ∧ ds = [mD mg, tD rd]) h3 (am_cons (Rz := fun ds => ∃ rd : List Nat, rd.length = n ∧ (∀ x, x ∈ rd → x < B) ∧ ds = [tD rd]) h4 am_nil fun d ds hd hds => by
      obtain ⟨rd, e1, e2, rfl⟩ := hd
      exact ⟨rd, e1, e2, by rw [hds]⟩) fun d ds hd hds => by
      obtain ⟨rd, e1, e2, rfl⟩ := hds
      exact ⟨rd, e1, e2, by rw [hd]⟩) fun d ds hd hds => by
      obtain ⟨rd, e1, e2, rfl⟩ := hds
      exact ⟨rd, e1, e2, by rw [hd]⟩) fun d ds hd hds => by
      obtain ⟨rd, e1, e2, rfl⟩ := hds
      exact ⟨rd, e1, e2, by rw [hd]⟩) fun ds hds => by
      obtain ⟨rd, e1, e2, rfl⟩ := hds
      show 4 ≤ sizeLine
      decide).to fun d hd => by
    obtain ⟨ds, ⟨rd, e1, e2, rfl⟩, rfl⟩ := hd
    exact ⟨rd, e1, e2, rfl⟩).more (by omega)
theorem r2_mulN {i j : Nat} (h : i < 1000) : R2V K (rI CMul fun i j => .int (i * j)) (nD i) (nD j) (nD (i * j)) := by
  have h1 := r2_mul (K := K) (i := (i : Int)) (j := (j : Int)) (.inl ⟨by omega, by omega⟩)
  rwa [show ((i : Int) * (j : Int)) = ((i * j : Nat) : Int) from (Int.natCast_mul i j).symm] at h1
theorem or_small : ∀ a : Nat, a < 8 → ∀ b : Nat, b < 8 → Builtin.bitOr (a : Int) (b : Int) = ((a ||| b : Nat) : Int) := by decide +kernel
theorem r2_orN {a b : Nat} (ha : a < 8) (hb : b < 8) : R2V K (rI0 fun i j => .int (Builtin.bitOr i j)) (nD a) (nD b) (nD (a ||| b)) := by
  have h := r2_or (K := K) (i := (a : Int)) (j := (b : Int))
  rwa [or_small a ha b hb] at h
theorem good__law_lots_kind (T : Txt w K mg) (g__law_draw : Good P w K mg base 2 "_law_draw" ["_law_m", "_law_limit"] (SpM K 1 Ra__law_draw)) : Good P w K mg base 3 "_law_lots_kind" ["_law_m", "_law_many"] (SpM K 100 Ra__law_lots_kind) := by
  refine good_ofS T.F__law_lots_kind sc__law_lots_kind (c := 100) (Ra := Ra__law_lots_kind) (fun ds R h => ?_) (fun _ _ _ _ _ _ us hl => match us, hl with | [_, _], _ => rfl) fun cdv A outer s H E hr => ⟨_, (pss_cons (ps_set (i := 2) sc__law_lots_kind.nd rfl (by first | exact Or.inl rfl | exact Or.inr rfl) pe_int)
      (pss_cons (ps_for PassesOwn.never rfl (pi_range1 (by rfl) T.m_range (pa_cons (pv 1) pa_nil)) (pg_name (i := 3) sc__law_lots_kind.nd rfl (by first | exact Or.inl rfl | exact Or.inr rfl))
      (pss_one (ps_set (i := 2) sc__law_lots_kind.nd rfl (by first | exact Or.inl rfl | exact Or.inr rfl) (pe_op op_mul (pv 2) pe_int))))
      (pss_cons (ps_set (i := 4) sc__law_lots_kind.nd rfl (by first | exact Or.inl rfl | exact Or.inr rfl) (pe_callTy (tupK K) (by rfl) T.m_tuple boot_tuple (pa_cons (pe_lc (own := [("_law_one", 7)]) rfl sc__law_lots_kind.nd (pi_range1 (by rfl) T.m_range (pa_cons (pv 2) pa_nil)) (blkOk_by (own := [("_law_one", 7)]) (by kernel_rfl)) (fun _ _ _ _ _ => (pg_name (i := 7) sc__law_lots_kind.nd rfl (by first | exact Or.inl rfl | exact Or.inr rfl))) (fun _ _ _ _ _ => pts_nil) (fun _ _ _ _ _ => (pe_callTy (tupK K) (by rfl) T.m_tuple boot_tuple (pa_cons (pe_lc (own := [("_law_other", 8)]) rfl sc__law_lots_kind.nd (pi_range1 (by rfl) T.m_range (pa_cons (pv 2) pa_nil)) (blkOk_by (own := [("_law_other", 8)]) (by kernel_rfl)) (fun _ _ _ _ _ => (pg_name (i := 8) sc__law_lots_kind.nd rfl (by first | exact Or.inl rfl | exact Or.inr rfl))) (fun _ _ _ _ _ => pts_nil) (fun _ _ _ _ _ => (pe_op op_or (pv 7) (pv 8)))) pa_nil)))) pa_nil)))
      (pss_cons (ps_set (i := 5) sc__law_lots_kind.nd rfl (by first | exact Or.inl rfl | exact Or.inr rfl) (pe_lst pa_nil))
      (pss_cons (ps_for PassesOwn.never rfl (pi_range1 (by rfl) T.m_range (pa_cons (pe_op op_add pe_int (pe_cg g__law_draw (hr.mono (by decide)) (by rfl) (pa_cons (pv 0) (pa_cons pe_int pa_nil)))) pa_nil)) (pg_name (i := 3) sc__law_lots_kind.nd rfl (by first | exact Or.inl rfl | exact Or.inr rfl))
      (pss_cons (ps_set (i := 6) sc__law_lots_kind.nd rfl (by first | exact Or.inl rfl | exact Or.inr rfl) (pe_cg g__law_draw (hr.mono (by decide)) (by rfl) (pa_cons (pv 0) (pa_cons (pv 2) pa_nil))))
      (pss_one (ps_if (pt_cmpR op_gt (pe_cg g__law_draw (hr.mono (by decide)) (by rfl) (pa_cons (pv 0) (pa_cons pe_int pa_nil))) pe_int (nomark _))
      (pss_one (ps_expr (bmK K PySem.F.plainAttrs_list PySem.F.slot_list_append PySem.F.type_list_append mt_append (pv 5) (pa_cons (pe_callTy (tupK K) (by rfl) T.m_tuple boot_tuple (pa_cons (pe_lc (own := [("_law_one", 7)]) rfl sc__law_lots_kind.nd (pi_range1 (by rfl) T.m_range (pa_cons (pv 2) pa_nil)) (blkOk_by (own := [("_law_one", 7)]) (by kernel_rfl)) (fun _ _ _ _ _ => (pg_name (i := 7) sc__law_lots_kind.nd rfl (by first | exact Or.inl rfl | exact Or.inr rfl))) (fun _ _ _ _ _ => pts_nil) (fun _ _ _ _ _ => (pe_op op_or (pv 7) (pv 6)))) pa_nil)) pa_nil))))
      (pss_one (ps_expr (bmK K PySem.F.plainAttrs_list PySem.F.slot_list_append PySem.F.type_list_append mt_append (pv 5) (pa_cons (pe_callTy (tupK K) (by rfl) T.m_tuple boot_tuple (pa_cons (pe_lc (own := [("_law_one", 7)]) rfl sc__law_lots_kind.nd (pi_range1 (by rfl) T.m_range (pa_cons (pv 2) pa_nil)) (blkOk_by (own := [("_law_one", 7)]) (by kernel_rfl)) (fun _ _ _ _ _ => (pg_name (i := 7) sc__law_lots_kind.nd rfl (by first | exact Or.inl rfl | exact Or.inr rfl))) (fun _ _ _ _ _ => pts_nil) (fun _ _ _ _ _ => (pe_op op_or (pv 7) (pe_cg g__law_draw (hr.mono (by decide)) (by rfl) (pa_cons (pv 0) (pa_cons (pv 2) pa_nil)))))) pa_nil)) pa_nil))))))))
      (pss_one (ps_ret (pe_tup (pa_cons pe_int (pa_cons (pe_callTy (tupK K) (by rfl) T.m_tuple boot_tuple (pa_cons (pv 5) pa_nil)) (pa_cons (pv 4) (pa_cons (pe_callTy (tupK K) (by rfl) T.m_tuple boot_tuple (pa_cons (pe_lc (own := [("_law_one", 7)]) rfl sc__law_lots_kind.nd (pi_range1 (by rfl) T.m_range (pa_cons (pv 2) pa_nil)) (blkOk_by (own := [("_law_one", 7)]) (by kernel_rfl)) (fun _ _ _ _ _ => (pg_name (i := 7) sc__law_lots_kind.nd rfl (by first | exact Or.inl rfl | exact Or.inr rfl))) (fun _ _ _ _ _ => pts_nil) (fun _ _ _ _ _ => (pe_cg g__law_draw (hr.mono (by decide)) (by rfl) (pa_cons (pv 0) (pa_cons pe_int pa_nil))))) pa_nil)) pa_nil)))))))))))), fun m ds R h => ?_⟩
  · obtain ⟨_, _, _, rfl, _⟩ := h; rfl
  · obtain ⟨n, n1, n3, rfl, rfl⟩ := h
    have p8 : 2 ^ n ≤ 2 ^ 3 := Nat.pow_le_pow_right (by omega) n3
    have p0 : 1 ≤ 2 ^ n := Nat.one_le_two_pow
    refine SM.more (sm_seq (c1 := 0) (c2 := 50) (N1 := fun r M' => r = [some (pinD m.pm), some (nD n), some (nD 1), none, none, none, none, none, none] ∧ M' = []) (sm_sv (sv_set (d := nD 1) ev_nat)) fun r M' e => ?_) (by decide)
    obtain ⟨rfl, rfl⟩ := e
    refine sm_seq (c1 := 0) (c2 := 50) (sm_sv (sv_forN (us := [3]) (xs := List.range n) (enc := nD) (fun i => [some (pinD m.pm), some (nD n), some (nD (2 ^ i)), none, none, none, none, none, none]) (iv_rgN (ev_var rfl) (by omega)) (by exact ⟨rfl, rfl, rfl, trivial⟩) fun i x hx => ⟨_, gv_name (by simp), SV.to (sv_set (ev_op (ev_var rfl) (ev_nat (n := 2)) (r2_mulN ?_))) ⟨rfl, rfl, by rw [Nat.pow_succ], trivial⟩⟩)) fun r M' e => ?_
    · have hi := (List.getElem?_eq_some_iff.mp hx).1
      rw [List.length_range] at hi
      have : 2 ^ i ≤ 2 ^ 3 := Nat.pow_le_pow_right (by omega) (by omega)
      omega
    obtain ⟨rfl, rfl⟩ := e
    have rok : ∀ a b, a < 2 ^ n → b < 2 ^ n → a ||| b < 2 ^ n := fun a b ha hb => Nat.or_lt_two_pow ha hb
    have lat := fun ups rd u1 u4 ur hl hr => lat_lots (ups := ups) (rd := rd) n1 n3 u1 u4 ur hl hr
    rw [List.length_range]
    generalize 2 ^ n = size at *
    refine sm_seq (c1 := 0) (c2 := 50) (N1 := fun r M' => r = [some (pinD m.pm), some (nD n), some (nD size), none, some (mD (mgOf size fun a b => a ||| b)), none, none, none, none] ∧ M' = []) (sm_sv (sv_set ((ev_tupL (ev_lcA (α := Nat) (xs := List.range size) (enc := nD) (fun a => tD ((List.range size).map fun b => a ||| b)) (iv_rgN (ev_var rfl) (by omega)) (by rw [List.length_range]; omega) fun a ha => ⟨_, gv_name (by simp), (ev_tupL (ev_lcA (α := Nat) (xs := List.range size) (enc := nD) (fun b => nD (a ||| b)) (iv_rgN (ev_var rfl) (by omega)) (by rw [List.length_range]; omega) fun b hb => ⟨_, gv_name (by simp), ev_op (ev_var rfl) (ev_var rfl) (r2_orN ?_ ?_)⟩)).is (by rw [tD, List.map_map]; rfl)⟩)).is (by rw [mD, mgOf, List.map_map]; rfl)))) fun r M' e => ?_
    · have := List.mem_range.mp ha
      omega
    · have := List.mem_range.mp hb
      omega
    obtain ⟨rfl, rfl⟩ := e
    refine sm_seq (c1 := 0) (c2 := 50) (N1 := fun r M' => ∃ p, r = [some (pinD m.pm), some (nD n), some (nD size), none, some (mD (mgOf size fun a b => a ||| b)), some (pinD p), none, none, none] ∧ M' = [(p, [])]) (sm_new fun p => ⟨p, rfl, rfl⟩) fun r M' e => ?_
    obtain ⟨p, rfl, rfl⟩ := e
    refine sm_seq (c1 := 10 * 3 + 1) (c2 := 19) (N1 := fun r M' => ∃ ups : List (List Nat), 1 ≤ ups.length ∧ ups.length ≤ 3 ∧ (∀ r, r ∈ ups → r.length = size ∧ ∀ x, x ∈ r → x < size) ∧ r = [some (pinD m.pm), some (nD n), some (nD size), none, some (mD (mgOf size fun a b => a ||| b)), some (pinD p), none, none, none] ∧ M' = [(p, ups.map tD)]) ((sm_for (us := [3]) (fun _ i r M' => ∃ ups : List (List Nat), ups.length = i ∧ (∀ r, r ∈ ups → r.length = size ∧ ∀ x, x ∈ r → x < size) ∧ r = [some (pinD m.pm), some (nD n), some (nD size), none, some (mD (mgOf size fun a b => a ||| b)), some (pinD p), none, none, none] ∧ M' = [(p, ups.map tD)]) 3 (im_draws rfl) (fun ds e => by
        obtain ⟨k, _, k3, rfl⟩ := e
        rw [List.length_map, List.length_range]
        exact k3) (fun ds e => ⟨_, leE_refl _, [], rfl, fun _ z => (nomatch z), rfl, rfl⟩) fun ds e i d r M' hd iv => ?_).to fun r M' e => ?_) fun r M' e => ?_
    · obtain ⟨ups, ul, ur, rfl, rfl⟩ := iv
      obtain ⟨k, _, k3, rfl⟩ := e
      obtain ⟨hi, rfl⟩ := range_at hd
      refine ⟨_, gv_name (by simp), ?_⟩
      refine sm_seq (c1 := 1) (c2 := 9) (sm_set (em_draw rfl (ev_var rfl) p0 (by omega))) fun r M' e => ?_
      obtain ⟨_, ⟨lot, hlot, rfl⟩, rfl, rfl⟩ := e
      refine sm_ifM (c1 := 1) (c := 8) (em_op (c1 := 1) (c2 := 0) (R := fun d => ∃ x, d = .bool x) (em_draw rfl (ev_nat (n := 3)) (by decide) (by decide)) (em_ev (ev_nat (n := 0))) fun x y hx hy => by
        obtain ⟨j, hj, rfl⟩ := hx
        subst hy
        exact ⟨_, r2_gtN, _, rfl⟩) (fun _ h => h) ?_ ?_
      · refine sm_append (M1 := []) (M2 := []) (p := p) (ds := ups.map tD) rfl rfl ((em_row (c := 0) (n := size) (B := size) (ev_var rfl) (by omega) fun i hi => ⟨_, gv_name (by simp), fun M1 => em_evR (ev_op (ev_var rfl) (ev_var rfl) (r2_orN (by omega) (by omega))) ⟨_, rok _ _ hi hlot, rfl⟩⟩).more (by omega)) (by rw [List.length_map]; omega) fun d hd => ?_
        obtain ⟨row, r1, r2, rfl⟩ := hd
        exact ⟨[some (pinD m.pm), some (nD n), some (nD size), none, some (mD (mgOf size fun a b => a ||| b)), some (pinD p), none, none, none], ⟨rfl, rfl, rfl, rfl, rfl, trivial⟩, ups ++ [row], by rw [List.length_append, ul]; rfl, rows_snoc ur r1 r2, rfl, by rw [List.map_append]; rfl⟩
      · refine sm_append (M1 := []) (M2 := []) (p := p) (ds := ups.map tD) rfl rfl ((em_row (c := 1) (n := size) (B := size) (ev_var rfl) (by omega) fun i hi => ⟨_, gv_name (by simp), fun M1 => em_op (c1 := 0) (c2 := 1) (em_ev (ev_var rfl)) (em_draw rfl (ev_var rfl) p0 (by omega)) fun x y hx hy => by
          obtain ⟨j, hj, rfl⟩ := hy
          subst hx
          exact ⟨_, r2_orN (by omega) (by omega), _, rok _ _ hi hj, rfl⟩⟩).more (by omega)) (by rw [List.length_map]; omega) fun d hd => ?_
        obtain ⟨row, r1, r2, rfl⟩ := hd
        exact ⟨[some (pinD m.pm), some (nD n), some (nD size), none, some (mD (mgOf size fun a b => a ||| b)), some (pinD p), none, none, none], ⟨rfl, rfl, rfl, rfl, rfl, trivial⟩, ups ++ [row], by rw [List.length_append, ul]; rfl, rows_snoc ur r1 r2, rfl, by rw [List.map_append]; rfl⟩
    · obtain ⟨ds, ⟨k, k1, k3, rfl⟩, ups, ul, ur, rfl, rfl⟩ := e
      rw [List.length_map, List.length_range] at ul
      exact ⟨ups, by omega, by omega, ur, rfl, rfl⟩
    · obtain ⟨ups, u1, u3, ur, rfl, rfl⟩ := e
      refine sm_ret (((em_kind (st := 0) (n := size) (B := 3) (c1 := 0) (c2 := 0) (c3 := 0) (em_ev (ev_nat (n := 0))) (em_tupOwn (p := p) (ds := ups.map tD) (i := 5) List.mem_cons_self rfl) (em_ev (ev_var rfl)) (em_row (c := 1) (n := size) (B := 3) (ev_var rfl) (by omega) fun i hi => ⟨_, gv_name (by simp), fun M1 => em_draw rfl (ev_nat (n := 3)) (by decide) (by decide)⟩)).more (by omega)).to fun d hd => ?_)
      obtain ⟨rd, h1, h2, rfl⟩ := hd
      exact ⟨_, lat ups rd u1 (by omega) ur h1 (fun x hx => by have := h2 x hx; omega), rfl⟩
end
end G6
namespace G6
open PySem PySem.Spec PyProof.Rows L2
section
variable {P : Program} {w : World} {K : PySem.W.Frag} {mg : Str → Option Value} {base : Heap}

/-- a, b = (e, []) -/
theorem sm_tupNew {m : Option Mch} {ρ : Env6} {M : Own} {c i j : Nat} {N : Env6 → Own → Prop} {R R' : PyData → Prop} {ta : TE} (h : EM K m ta ρ M c R') (q : ∀ d p, R' d → N ((ρ.set i (some d)).set j (some (pinD p))) ((p, []) :: M)) : SM K m (tAsg (tTup (tCons ta (tCons (tLst tNil) tNil))) (gTup K 2 (gCons (gName i) (gCons (gName j) gNil)))) ρ M c N R := fun W H0 σ H b D s k1 k2 =>
  h W H0 σ H b s _ fun v H' d r s' v' => ⟨Nat.zero_le _, fun p hp => ⟨by show 2 ≤ sizeLine; decide, fun t ht => by
    have s1 := s'.made hp (vs := []) (ds := []) .nil
    have s2 := s1.same (same_new (o := .tup [v, .ref p]) ht)
    refine ⟨t, _, rfl, SqT.of upd_same, rfl, _, _, rfl, _, _, rfl, rfl, k1 _ _ _ _ (q d p r) (s2.withEnv ((s2.env.set (v := v) (d := d) ?_ i).set (.pin p) j))⟩
    refine Dv.same (fun a o e => ?_) v'
    by_cases z : a ∈ hid M W
    · rw [hide_in z] at e; cases e
    · rw [hide_out z] at e
      have hne : a ≠ p := ne_of_none e hp
      have hh : hid ((p, []) :: M) W = p :: hid M W := rfl
      rw [hh, hide_out (fun y => (List.mem_cons.mp y).elim hne z)]
      exact same_new ht a o (same_new hp a o e)⟩⟩
theorem ev_idx {ρ : Env6} {te ti : TE} {ys : List Nat} {a : Nat} (h : EV K te ρ (lD ys)) (hi : EV K ti ρ (nD a)) (nd : ys.Nodup) (ha : a ∈ ys) : EV K (tBM K "list" (rIndex K) te (tCons ti tNil)) ρ (nD (ys.idxOf a)) := by
  have hl := List.idxOf_lt_length_of_mem ha
  rw [lD_int] at h
  refine ev_BM h (ea_cons hi ea_nil) ty_lst (rm_index (ns := cI ys) ?_ fun j hj e => ?_)
  · unfold cI
    rw [List.getElem?_map, List.getElem?_eq_getElem hl, List.getElem_idxOf hl]
    rfl
  · unfold cI at e
    rw [List.getElem?_map, List.getElem?_eq_getElem (by omega)] at e
    have e2 : ((ys[j]'(by omega) : Nat) : Int) = (a : Int) := Option.some.inj e
    have e3 : ys.getD j 0 = a := by
      rw [List.getD_eq_getElem?_getD, List.getElem?_eq_getElem (by omega)]
      show ys[j]'(by omega) = a
      omega
    have e4 := idx_at nd (j := j) (by omega)
    rw [e3] at e4
    omega
theorem ev_max2 {ρ : Env6} {ta tb : TE} {a b : Nat} (h1 : EV K ta ρ (nD a)) (h2 : EV K tb ρ (nD b)) : EV K (tCB (fun xs H Q => ∃ i j, xs = [.int i, .int j] ∧ Q (.int (if j > i then j else i)) H) (tCons ta (tCons tb tNil))) ρ (nD (max a b)) :=
  (ev_CB (ea_cons h1 (ea_cons h2 ea_nil)) rc_max2).is (by
    show PyData.int (if (b : Int) > (a : Int) then (b : Int) else (a : Int)) = PyData.int ((max a b : Nat) : Int)
    congr 1
    split <;> omega)
theorem good__law_row_kind (T : Txt w K mg) (g__law_order : Good P w K mg base 3 "_law_order" ["_law_m", "_law_many"] (SpM K 8 Ra__law_order)) (g__law_draw : Good P w K mg base 2 "_law_draw" ["_law_m", "_law_limit"] (SpM K 1 Ra__law_draw)) : Good P w K mg base 4 "_law_row_kind" ["_law_m", "_law_many"] (SpM K 100 Ra__law_row_kind) := by
  refine good_ofS T.F__law_row_kind sc__law_row_kind (c := 100) (Ra := Ra__law_row_kind) (fun ds R h => ?_) (fun _ _ _ _ _ _ us hl => match us, hl with | [_, _], _ => rfl) fun cdv A outer s H E hr => ⟨_, (pss_cons (ps_asg (pe_tup (pa_cons (pe_cg g__law_order (hr.mono (by decide)) (by rfl) (pa_cons (pv 0) (pa_cons (pv 1) pa_nil))) (pa_cons (pe_lst pa_nil) pa_nil))) (gtK (n := 2) K rfl (pgs_cons (pg_name (i := 2) sc__law_row_kind.nd rfl (by first | exact Or.inl rfl | exact Or.inr rfl)) (pgs_cons (pg_name (i := 3) sc__law_row_kind.nd rfl (by first | exact Or.inl rfl | exact Or.inr rfl)) pgs_nil))))
      (pss_cons (ps_for PassesOwn.never rfl (pi_range1 (by rfl) T.m_range (pa_cons (pv 1) pa_nil)) (pg_name (i := 4) sc__law_row_kind.nd rfl (by first | exact Or.inl rfl | exact Or.inr rfl))
      (pss_one (ps_expr (bmK K PySem.F.plainAttrs_list PySem.F.slot_list_append PySem.F.type_list_append mt_append (pv 3) (pa_cons (pe_callTy (tupK K) (by rfl) T.m_tuple boot_tuple (pa_cons (pe_lc (own := [("_law_far", 7)]) rfl sc__law_row_kind.nd (pi_range1 (by rfl) T.m_range (pa_cons (pv 1) pa_nil)) (blkOk_by (own := [("_law_far", 7)]) (by kernel_rfl)) (fun _ _ _ _ _ => (pg_name (i := 7) sc__law_row_kind.nd rfl (by first | exact Or.inl rfl | exact Or.inr rfl))) (fun _ _ _ _ _ => pts_nil) (fun _ _ _ _ _ => (pe_ix (ixK K) (pv 2) (pe_callB (call_max2 rfl) (by rfl) T.m_max boot_max (pa_cons (bmK K PySem.F.plainAttrs_list PySem.F.slot_list_index PySem.F.type_list_index (idxK K) (pv 2) (pa_cons (pv 4) pa_nil)) (pa_cons (bmK K PySem.F.plainAttrs_list PySem.F.slot_list_index PySem.F.type_list_index (idxK K) (pv 2) (pa_cons (pv 7) pa_nil)) pa_nil))) (fun _ _ => rfl)))) pa_nil)) pa_nil)))))
      (pss_cons (ps_set (i := 5) sc__law_row_kind.nd rfl (by first | exact Or.inl rfl | exact Or.inr rfl) (pe_lst pa_nil))
      (pss_cons (ps_for PassesOwn.never rfl (pi_range1 (by rfl) T.m_range (pa_cons (pe_op op_add pe_int (pe_cg g__law_draw (hr.mono (by decide)) (by rfl) (pa_cons (pv 0) (pa_cons pe_int pa_nil)))) pa_nil)) (pg_name (i := 6) sc__law_row_kind.nd rfl (by first | exact Or.inl rfl | exact Or.inr rfl))
      (pss_one (ps_expr (bmK K PySem.F.plainAttrs_list PySem.F.slot_list_append PySem.F.type_list_append mt_append (pv 5) (pa_cons (pe_callTy (tupK K) (by rfl) T.m_tuple boot_tuple (pa_cons (pe_lc (own := [("_law_one", 4)]) rfl sc__law_row_kind.nd (pi_range1 (by rfl) T.m_range (pa_cons (pv 1) pa_nil)) (blkOk_by (own := [("_law_one", 4)]) (by kernel_rfl)) (fun _ _ _ _ _ => (pg_name (i := 4) sc__law_row_kind.nd rfl (by first | exact Or.inl rfl | exact Or.inr rfl))) (fun _ _ _ _ _ => pts_nil) (fun _ _ _ _ _ => (pe_ix (ixK K) (pv 2) (pe_callB (call_min2 rfl) (by rfl) T.m_min boot_min (pa_cons (pe_op op_sub (pv 1) pe_int) (pa_cons (pe_op op_add (bmK K PySem.F.plainAttrs_list PySem.F.slot_list_index PySem.F.type_list_index (idxK K) (pv 2) (pa_cons (pv 4) pa_nil)) (pe_cg g__law_draw (hr.mono (by decide)) (by rfl) (pa_cons (pv 0) (pa_cons pe_int pa_nil)))) pa_nil))) (fun _ _ => rfl)))) pa_nil)) pa_nil)))))
      (pss_one (ps_ret (pe_tup (pa_cons (pe_ix (ixK K) (pv 2) pe_int (fun _ _ => rfl)) (pa_cons (pe_callTy (tupK K) (by rfl) T.m_tuple boot_tuple (pa_cons (pv 5) pa_nil)) (pa_cons (pe_callTy (tupK K) (by rfl) T.m_tuple boot_tuple (pa_cons (pv 3) pa_nil)) (pa_cons (pe_callTy (tupK K) (by rfl) T.m_tuple boot_tuple (pa_cons (pe_lc (own := [("_law_one", 4)]) rfl sc__law_row_kind.nd (pi_range1 (by rfl) T.m_range (pa_cons (pv 1) pa_nil)) (blkOk_by (own := [("_law_one", 4)]) (by kernel_rfl)) (fun _ _ _ _ _ => (pg_name (i := 4) sc__law_row_kind.nd rfl (by first | exact Or.inl rfl | exact Or.inr rfl))) (fun _ _ _ _ _ => pts_nil) (fun _ _ _ _ _ => (pe_cg g__law_draw (hr.mono (by decide)) (by rfl) (pa_cons (pv 0) (pa_cons pe_int pa_nil))))) pa_nil)) pa_nil))))))))))), fun m ds R h => ?_⟩
  · obtain ⟨_, _, _, rfl, _⟩ := h; rfl
  · obtain ⟨n, n2, n6, rfl, rfl⟩ := h
    refine SM.more (sm_seq (c1 := 8) (c2 := 60) (N1 := fun r M' => ∃ (ys : List Nat) (p : Addr), ys.Perm (List.range n) ∧ r = [some (pinD m.pm), some (nD n), some (lD ys), some (pinD p), none, none, none, none] ∧ M' = [(p, [])]) (sm_tupNew (R' := fun d => ∃ ys : List Nat, ys.Perm (List.range n) ∧ d = lD ys) ((em_callM (c := 8) (c1 := 0) rfl (am_ea (ea_cons (ev_var rfl) ea_nil)) fun ds e => ⟨n, by omega, e, rfl⟩)) fun d p hd => ?_) fun r M' e => ?_) (by decide)
    · obtain ⟨ys, hp, rfl⟩ := hd
      exact ⟨ys, p, hp, rfl, rfl⟩
    obtain ⟨ys, p, hp, rfl, rfl⟩ := e
    have nd : ys.Nodup := hp.nodup_iff.mpr List.nodup_range
    have len : ys.length = n := by rw [hp.length_eq, List.length_range]
    have mem : ∀ a, a < n → a ∈ ys := fun a ha => hp.mem_iff.mpr (List.mem_range.mpr ha)
    have lt : ∀ a, a ∈ ys → a < n := fun a ha => List.mem_range.mp (hp.mem_iff.mp ha)
    have il : ∀ a, a < n → ys.idxOf a < ys.length := fun a ha => List.idxOf_lt_length_of_mem (mem a ha)
    refine sm_seq (c1 := 0) (c2 := 60) (N1 := fun r M' => r = [some (pinD m.pm), some (nD n), some (lD ys), some (pinD p), none, none, none, none] ∧ M' = [(p, (mgOf n (rowF ys)).map tD)]) (((sm_for (us := [4]) (c1 := 0) (c := 0) (fun _ i r M' => r = [some (pinD m.pm), some (nD n), some (lD ys), some (pinD p), none, none, none, none] ∧ M' = [(p, ((List.range i).map fun a => tD ((List.range n).map fun b => rowF ys a b)))]) 8 (im_iv (iv_rgN (n := n) (ev_var rfl) (by omega))) (fun ds e => by rw [e, List.length_map, List.length_range]; omega) (fun ds e => ⟨_, leE_refl _, rfl, rfl⟩) fun ds e i d r M' hd iv => ?_).more (by omega)).to fun r M' e => ?_) fun r M' e => ?_
    · obtain ⟨rfl, rfl⟩ := iv
      rw [e] at hd
      obtain ⟨hi, rfl⟩ := range_at hd
      refine ⟨_, gv_name (by simp), sm_append (M1 := []) (M2 := []) (p := p) (R' := (· = tD ((List.range n).map fun b => rowF ys i b))) rfl rfl (em_ev ((ev_tupL (ev_lcA (α := Nat) (xs := List.range n) (enc := nD) (fun b => nD (rowF ys i b)) (iv_rgN (ev_var rfl) (by omega)) (by rw [List.length_range]; omega) fun b hb => ⟨_, gv_name (by simp), ?_⟩)).is (by rw [tD, List.map_map]; rfl))) (by rw [List.length_map, List.length_range]; omega) fun d hd => ⟨[some (pinD m.pm), some (nD n), some (lD ys), some (pinD p), none, none, none, none], ⟨rfl, rfl, rfl, rfl, trivial⟩, rfl, ?_⟩⟩
      · have hb := List.mem_range.mp hb
        exact ev_op (ev_var rfl) (ev_max2 (ev_idx (ev_var rfl) (ev_var rfl) nd (mem i hi)) (ev_idx (ev_var rfl) (ev_var rfl) nd (mem b hb))) (r2_ixNL (Nat.max_lt.mpr ⟨il i hi, il b hb⟩))
      · rw [hd, List.range_succ, List.map_append]
        rfl
    · obtain ⟨ds, rfl, rfl, rfl⟩ := e
      refine ⟨rfl, ?_⟩
      rw [List.length_map, List.length_range, mgOf, List.map_map]
      rfl
    obtain ⟨rfl, rfl⟩ := e
    refine sm_seq (c1 := 0) (c2 := 60) (N1 := fun r M' => ∃ p2, r = [some (pinD m.pm), some (nD n), some (lD ys), some (pinD p), none, some (pinD p2), none, none] ∧ M' = [(p2, []), (p, (mgOf n (rowF ys)).map tD)]) (sm_new fun p2 => ⟨p2, rfl, rfl⟩) fun r M' e => ?_
    obtain ⟨p2, rfl, rfl⟩ := e
    refine sm_seq (c1 := 8 * 3 + 1) (c2 := 35) (N1 := fun r M' => ∃ ups : List (List Nat), 1 ≤ ups.length ∧ ups.length ≤ 3 ∧ (∀ r, r ∈ ups → r.length = n ∧ ∀ x, x ∈ r → x < n) ∧ r = [some (pinD m.pm), some (nD n), some (lD ys), some (pinD p), none, some (pinD p2), none, none] ∧ M' = [(p2, ups.map tD), (p, (mgOf n (rowF ys)).map tD)]) ((sm_for (us := [6]) (fun _ i r M' => ∃ ups : List (List Nat), ups.length = i ∧ (∀ r, r ∈ ups → r.length = n ∧ ∀ x, x ∈ r → x < n) ∧ r = [some (pinD m.pm), some (nD n), some (lD ys), some (pinD p), none, some (pinD p2), none, none] ∧ M' = [(p2, ups.map tD), (p, (mgOf n (rowF ys)).map tD)]) 3 (im_draws (m := m) (i := 0) rfl) (fun ds e => by
        obtain ⟨k, _, k3, rfl⟩ := e
        rw [List.length_map, List.length_range]
        exact k3) (fun ds e => ⟨_, leE_refl _, [], rfl, fun _ z => (nomatch z), rfl, rfl⟩) fun ds e i d r M' hd iv => ?_).to fun r M' e => ?_) fun r M' e => ?_
    · obtain ⟨ups, ul, ur, rfl, rfl⟩ := iv
      obtain ⟨k, _, k3, rfl⟩ := e
      obtain ⟨hi, rfl⟩ := range_at hd
      refine ⟨_, gv_name (by simp), ?_⟩
      refine sm_append (M1 := []) (M2 := [(p, (mgOf n (rowF ys)).map tD)]) (p := p2) (ds := ups.map tD) rfl rfl ((em_row (c := 1) (n := n) (B := n) (ev_var rfl) (by omega) fun a ha => ⟨_, gv_name (by simp), fun M1 => em_op (c1 := 0) (c2 := 1) (em_ev (ev_var rfl)) (em_CB (R := fun d => ∃ j, j < n ∧ d = nD j) (am_cons (c1 := 0) (c2 := 1) (Rz := fun ds => ∃ j : Nat, ds = [nD (n - 1), nD j]) (em_ev (less1 (ev_var rfl) (by omega))) (am_cons (c1 := 1) (c2 := 0) (Rz := fun ds => ∃ j : Nat, ds = [nD j]) (em_op (c1 := 0) (c2 := 1) (R := fun d => ∃ j : Nat, d = nD j) (em_ev (ev_idx (ev_var rfl) (ev_var rfl) nd (mem a ha))) (em_draw rfl (ev_nat (n := 3)) (by decide) (by decide)) fun x y hx hy => ?_) am_nil fun d ds hd hds => ?_) fun d ds hd hds => ?_) fun ds hds => ?_) fun x y hx hy => ?_⟩).more (by omega)) (by rw [List.length_map]; omega) fun d hd => ?_
      · obtain ⟨j, hj, rfl⟩ := hy
        subst hx
        exact ⟨_, r2_addN, _, rfl⟩
      · obtain ⟨j, rfl⟩ := hd
        exact ⟨j, by rw [hds]⟩
      · obtain ⟨j, rfl⟩ := hds
        exact ⟨j, by rw [hd]⟩
      · obtain ⟨j, rfl⟩ := hds
        refine ⟨_, rc_min2, min (n - 1) j, by omega, ?_⟩
        show PyData.int (if (j : Int) < ((n - 1 : Nat) : Int) then (j : Int) else ((n - 1 : Nat) : Int)) = PyData.int ((min (n - 1) j : Nat) : Int)
        congr 1
        split <;> omega
      · obtain ⟨j, hj, rfl⟩ := hy
        subst hx
        exact ⟨_, r2_ixNL (by omega), _, lt _ (getD_mem (by omega)), rfl⟩
      · obtain ⟨row, r1, r2, rfl⟩ := hd
        exact ⟨[some (pinD m.pm), some (nD n), some (lD ys), some (pinD p), none, some (pinD p2), none, none], ⟨rfl, rfl, rfl, rfl, rfl, trivial⟩, ups ++ [row], by rw [List.length_append, ul]; rfl, rows_snoc ur r1 r2, rfl, by rw [List.map_append]; rfl⟩
    · obtain ⟨ds, ⟨k, k1, k3, rfl⟩, ups, ul, ur, rfl, rfl⟩ := e
      rw [List.length_map, List.length_range] at ul
      exact ⟨ups, by omega, by omega, ur, rfl, rfl⟩
    · obtain ⟨ups, u1, u3, ur, rfl, rfl⟩ := e
      refine sm_ret (((em_kind (st := ys.getD 0 0) (n := n) (B := 10) (c1 := 0) (c2 := 0) (c3 := 0) (em_ev (ev_op (ev_var rfl) (ev_nat (n := 0)) (r2_ixNL (by omega)))) (em_tupOwn (p := p2) (ds := ups.map tD) (i := 5) (by simp) rfl) (em_tupOwn (p := p) (ds := (mgOf n (rowF ys)).map tD) (i := 3) (by simp) rfl) (em_row (c := 1) (n := n) (B := 10) (ev_var rfl) (by omega) fun i hi => ⟨_, gv_name (by simp), fun M1 => em_draw rfl (ev_nat (n := 10)) (by decide) (by decide)⟩)).more (by omega)).to fun d hd => ?_)
      obtain ⟨rd, h1, h2, rfl⟩ := hd
      exact ⟨_, lat_row (by omega) (by omega) hp u1 (by omega) ur h1 (fun x hx => by have := h2 x hx; omega), rfl⟩
theorem r2_ixLM {mm : List (List Nat)} {i : Nat} (h : i < mm.length) : R2V K (rIx K) (.list (mm.map tD)) (nD i) (tD (mm.getD i [])) :=
  r2_ixL (by rw [atI_nat (by rw [List.length_map]; exact h)]; exact get_map h)
theorem good__law_wide_kind (T : Txt w K mg) (g__law_draw : Good P w K mg base 2 "_law_draw" ["_law_m", "_law_limit"] (SpM K 1 Ra__law_draw)) : Good P w K mg base 3 "_law_wide_kind" ["_law_m", "_law_many"] (SpM K 100 Ra__law_wide_kind) := by
  refine good_ofS T.F__law_wide_kind sc__law_wide_kind (c := 100) (Ra := Ra__law_wide_kind) (fun ds R h => ?_) (fun _ _ _ _ _ _ us hl => match us, hl with | [_, _], _ => rfl) fun cdv A outer s H E hr => ⟨_, (pss_cons (ps_set (i := 2) sc__law_wide_kind.nd rfl (by first | exact Or.inl rfl | exact Or.inr rfl) (pe_op op_add (pv 1) pe_int))
      (pss_cons (ps_set (i := 3) sc__law_wide_kind.nd rfl (by first | exact Or.inl rfl | exact Or.inr rfl) (pe_lst pa_nil))
      (pss_cons (ps_for PassesOwn.never rfl (pi_range1 (by rfl) T.m_range (pa_cons (pe_op op_add (pv 1) pe_int) pa_nil)) (pg_name (i := 4) sc__law_wide_kind.nd rfl (by first | exact Or.inl rfl | exact Or.inr rfl))
      (pss_cons (ps_set (i := 5) sc__law_wide_kind.nd rfl (by first | exact Or.inl rfl | exact Or.inr rfl) (pe_lst pa_nil))
      (pss_cons (ps_for PassesOwn.never rfl (pi_range1 (by rfl) T.m_range (pa_cons (pe_op op_add (pv 1) pe_int) pa_nil)) (pg_name (i := 6) sc__law_wide_kind.nd rfl (by first | exact Or.inl rfl | exact Or.inr rfl))
      (pss_one (ps_expr (bmK K PySem.F.plainAttrs_list PySem.F.slot_list_append PySem.F.type_list_append mt_append (pv 5) (pa_cons (pe_ifExp (pt_cmpR (inK K) (pv 6) (pe_tup (pa_cons pe_int (pa_cons (pv 4) pa_nil))) (by rfl)) (pv 4) (pe_ifExp (pt_cmpR op_eq (pv 4) pe_int (nomark _)) (pv 6) (pv 2))) pa_nil)))))
      (pss_one (ps_expr (bmK K PySem.F.plainAttrs_list PySem.F.slot_list_append PySem.F.type_list_append mt_append (pv 3) (pa_cons (pe_callTy (tupK K) (by rfl) T.m_tuple boot_tuple (pa_cons (pv 5) pa_nil)) pa_nil)))))))
      (pss_cons (ps_set (i := 7) sc__law_wide_kind.nd rfl (by first | exact Or.inl rfl | exact Or.inr rfl) (pe_lst pa_nil))
      (pss_cons (ps_for PassesOwn.never rfl (pi_range1 (by rfl) T.m_range (pa_cons (pe_op op_add pe_int (pe_cg g__law_draw (hr.mono (by decide)) (by rfl) (pa_cons (pv 0) (pa_cons pe_int pa_nil)))) pa_nil)) (pg_name (i := 8) sc__law_wide_kind.nd rfl (by first | exact Or.inl rfl | exact Or.inr rfl))
      (pss_cons (ps_set (i := 9) sc__law_wide_kind.nd rfl (by first | exact Or.inl rfl | exact Or.inr rfl) (pe_op op_add pe_int (pe_cg g__law_draw (hr.mono (by decide)) (by rfl) (pa_cons (pv 0) (pa_cons (pv 1) pa_nil)))))
      (pss_one (ps_expr (bmK K PySem.F.plainAttrs_list PySem.F.slot_list_append PySem.F.type_list_append mt_append (pv 7) (pa_cons (pe_callTy (tupK K) (by rfl) T.m_tuple boot_tuple (pa_cons (pe_lc (own := [("_law_one", 4)]) rfl sc__law_wide_kind.nd (pi_range1 (by rfl) T.m_range (pa_cons (pe_op op_add (pv 1) pe_int) pa_nil)) (blkOk_by (own := [("_law_one", 4)]) (by kernel_rfl)) (fun _ _ _ _ _ => (pg_name (i := 4) sc__law_wide_kind.nd rfl (by first | exact Or.inl rfl | exact Or.inr rfl))) (fun _ _ _ _ _ => pts_nil) (fun _ _ _ _ _ => (pe_ix (ixK K) (pe_ix (ixK K) (pv 3) (pv 4) (fun _ _ => rfl)) (pv 9) (fun _ _ => rfl)))) pa_nil)) pa_nil))))))
      (pss_one (ps_ret (pe_tup (pa_cons pe_int (pa_cons (pe_callTy (tupK K) (by rfl) T.m_tuple boot_tuple (pa_cons (pv 7) pa_nil)) (pa_cons (pe_callTy (tupK K) (by rfl) T.m_tuple boot_tuple (pa_cons (pv 3) pa_nil)) (pa_cons (pe_callTy (tupK K) (by rfl) T.m_tuple boot_tuple (pa_cons (pe_lc (own := [("_law_one", 4)]) rfl sc__law_wide_kind.nd (pi_range1 (by rfl) T.m_range (pa_cons (pe_op op_add (pv 1) pe_int) pa_nil)) (blkOk_by (own := [("_law_one", 4)]) (by kernel_rfl)) (fun _ _ _ _ _ => (pg_name (i := 4) sc__law_wide_kind.nd rfl (by first | exact Or.inl rfl | exact Or.inr rfl))) (fun _ _ _ _ _ => pts_nil) (fun _ _ _ _ _ => (pe_cg g__law_draw (hr.mono (by decide)) (by rfl) (pa_cons (pv 0) (pa_cons pe_int pa_nil))))) pa_nil)) pa_nil)))))))))))), fun m ds R h => ?_⟩
  · obtain ⟨_, _, _, rfl, _⟩ := h; rfl
  · obtain ⟨n, n1, n5, rfl, rfl⟩ := h
    let en (p : Addr) : Env6 := [some (pinD m.pm), some (nD n), some (nD (n + 1)), some (pinD p), none, none, none, none, none, none]
    let eo (p : Addr) : Env6 := [some (pinD m.pm), some (nD n), some (nD (n + 1)), some (.list ((mgOf (n + 2) (wideF n)).map tD)), none, none, none, some (pinD p), none, none]
    refine SM.more (sm_seq (c1 := 0) (c2 := 60) (N1 := fun r M' => r = [some (pinD m.pm), some (nD n), some (nD (n + 1)), none, none, none, none, none, none, none] ∧ M' = []) (sm_sv (sv_set (d := nD (n + 1)) (ev_op (ev_var rfl) (ev_nat (n := 1)) r2_addN))) fun r M' e => ?_) (by decide)
    obtain ⟨rfl, rfl⟩ := e
    refine sm_seq (c1 := 0) (c2 := 60) (N1 := fun r M' => ∃ p, r = en p ∧ M' = [(p, [])]) (sm_new fun p => ⟨p, rfl, rfl⟩) fun r M' e => ?_
    obtain ⟨p, rfl, rfl⟩ := e
    refine sm_seq (c1 := 0) (c2 := 60) (N1 := fun r M' => r = en p ∧ M' = [(p, (mgOf (n + 2) (wideF n)).map tD)]) (((sm_for (us := [4]) (c1 := 0) (c := 0) (fun _ i r M' => r = en p ∧ M' = [(p, ((List.range i).map fun a => tD ((List.range (n + 2)).map fun b => wideF n a b)))]) 8 (im_iv (iv_rgN (n := n + 2) (ev_op (ev_var rfl) (ev_nat (n := 2)) r2_addN) (by omega))) (fun ds e => by rw [e, List.length_map, List.length_range]; omega) (fun ds e => ⟨_, leE_refl _, rfl, rfl⟩) fun ds e i d r M' hd iv => ?_).more (by omega)).to fun r M' e => ?_) fun r M' e => ?_
    · obtain ⟨rfl, rfl⟩ := iv
      rw [e] at hd
      obtain ⟨hi, rfl⟩ := range_at hd
      refine ⟨_, gv_name (by simp), ?_⟩
      let er (q : Addr) : Env6 := [some (pinD m.pm), some (nD n), some (nD (n + 1)), some (pinD p), some (nD i), some (pinD q), none, none, none, none]
      refine sm_seq (c1 := 0) (c2 := 0) (N1 := fun r M' => ∃ q, r = er q ∧ M' = [(q, []), (p, ((List.range i).map fun a => tD ((List.range (n + 2)).map fun b => wideF n a b)))]) (sm_new fun q => ⟨q, rfl, rfl⟩) fun r M' e => ?_
      obtain ⟨q, rfl, rfl⟩ := e
      refine sm_seq (c1 := 0) (c2 := 0) (N1 := fun r M' => r = er q ∧ M' = [(q, (((List.range (n + 2)).map fun b => wideF n i b)).map nD), (p, ((List.range i).map fun a => tD ((List.range (n + 2)).map fun b => wideF n a b)))]) (((sm_for (us := [6]) (c1 := 0) (c := 0) (fun _ u r M' => r = er q ∧ M' = [(q, (((List.range u).map fun b => wideF n i b)).map nD), (p, ((List.range i).map fun a => tD ((List.range (n + 2)).map fun b => wideF n a b)))]) 8 (im_iv (iv_rgN (n := n + 2) (ev_op (ev_var rfl) (ev_nat (n := 2)) r2_addN) (by omega))) (fun ds e => by rw [e, List.length_map, List.length_range]; omega) (fun ds e => ⟨_, leE_refl _, rfl, rfl⟩) fun ds e u d r M' hd iv => ?_).more (by omega)).to fun r M' e => ?_) fun r M' e => ?_
      · obtain ⟨rfl, rfl⟩ := iv
        rw [e] at hd
        obtain ⟨hu, rfl⟩ := range_at hd
        refine ⟨_, gv_name (by simp), sm_append (M1 := []) (M2 := [(p, _)]) (p := q) (R' := (· = nD (wideF n i u))) rfl rfl (em_ev (ev_if (x := decide (u = 0 ∨ u = i)) (et_test ((ev_op (ev_var rfl) (ev_tup (ds := [nD 0, nD i]) (ea_cons ev_nat (ea_cons (ev_var rfl) ea_nil)) (by show 2 ≤ sizeLine; decide)) (r2_inT (i := (u : Int)) (ns := [0, (i : Int)]))).is ?_)) (fun ht => ?_) fun hf => ?_)) (by rw [List.length_map, List.length_map, List.length_range]; omega) fun d hd => ⟨er q, ⟨rfl, rfl, rfl, rfl, rfl, rfl, trivial⟩, rfl, ?_⟩⟩
        · congr 1
          refine decide_eq_decide.mpr ?_
          simp only [List.mem_cons, List.not_mem_nil, or_false]
          omega
        · have h := of_decide_eq_true ht
          refine (ev_var rfl).is ?_
          unfold wideF
          rw [if_pos h]
        · have h := of_decide_eq_false hf
          unfold wideF
          rw [if_neg h]
          refine ev_if (x := decide (i = 0)) (et_test (ev_op (ev_var rfl) (ev_nat (n := 0)) r2_eqN)) (fun ht => ?_) fun hf2 => ?_
          · rw [if_pos (of_decide_eq_true ht)]
            exact ev_var rfl
          · rw [if_neg (of_decide_eq_false hf2)]
            exact ev_var rfl
        · have e1 : List.range (u + 1) = List.range u ++ [u] := List.range_succ
          rw [hd, e1, List.map_append, List.map_append]
          rfl
      · obtain ⟨ds, rfl, rfl, rfl⟩ := e
        rw [List.length_map, List.length_range]
        exact ⟨rfl, rfl⟩
      · obtain ⟨rfl, rfl⟩ := e
        refine sm_after (sm_append (N := fun r M' => r = er q ∧ M' = [(q, (((List.range (n + 2)).map fun b => wideF n i b)).map nD), (p, ((List.range (i + 1)).map fun a => tD ((List.range (n + 2)).map fun b => wideF n a b)))]) (M1 := [(q, _)]) (M2 := []) (p := p) (R' := (· = tD ((List.range (n + 2)).map fun b => wideF n i b))) rfl rfl (em_tupOwn (p := q) (i := 5) List.mem_cons_self rfl) (by rw [List.length_map, List.length_range]; omega) fun d hd => ⟨rfl, ?_⟩) fun r M' e => ?_
        · have e1 : List.range (i + 1) = List.range i ++ [i] := List.range_succ
          rw [hd, e1, List.map_append]
          rfl
        · obtain ⟨rfl, rfl⟩ := e
          exact ⟨_, _, fun _ _ _ _ _ s => s.loose, en p, ⟨rfl, rfl, rfl, rfl, trivial⟩, rfl, rfl⟩
    · obtain ⟨ds, rfl, rfl, rfl⟩ := e
      refine ⟨rfl, ?_⟩
      rw [List.length_map, List.length_range, mgOf, List.map_map]
      rfl
    obtain ⟨rfl, rfl⟩ := e
    refine sm_ghost (M' := []) (ρ' := (en p).set 3 (some (.list ((mgOf (n + 2) (wideF n)).map tD)))) (fun _ _ _ _ _ s => s.full (i := 3) rfl) ?_
    have mgl : (mgOf (n + 2) (wideF n)).length = n + 2 := by unfold mgOf; rw [List.length_map, List.length_range]
    refine sm_seq (c1 := 0) (c2 := 60) (N1 := fun r M' => ∃ p, r = eo p ∧ M' = [(p, [])]) (sm_new fun p => ⟨p, rfl, rfl⟩) fun r M' e => ?_
    obtain ⟨p2, rfl, rfl⟩ := e
    refine sm_seq (c1 := 1 * 3 + 1) (c2 := 56) (N1 := fun r M' => ∃ ups : List (List Nat), 1 ≤ ups.length ∧ ups.length ≤ 3 ∧ (∀ r, r ∈ ups → r.length = n + 2 ∧ ∀ x, x ∈ r → x < n + 2) ∧ r = eo p2 ∧ M' = [(p2, ups.map tD)]) ((sm_for (us := [8]) (fun _ i r M' => ∃ ups : List (List Nat), ups.length = i ∧ (∀ r, r ∈ ups → r.length = n + 2 ∧ ∀ x, x ∈ r → x < n + 2) ∧ r = eo p2 ∧ M' = [(p2, ups.map tD)]) 3 (im_draws (m := m) (i := 0) rfl) (fun ds e => by
        obtain ⟨k, _, k3, rfl⟩ := e
        rw [List.length_map, List.length_range]
        exact k3) (fun ds e => ⟨_, leE_refl _, [], rfl, fun _ z => (nomatch z), rfl, rfl⟩) fun ds e i d r M' hd iv => ?_).to fun r M' e => ?_) fun r M' e => ?_
    · obtain ⟨ups, ul, ur, rfl, rfl⟩ := iv
      obtain ⟨k, _, k3, rfl⟩ := e
      obtain ⟨hi, rfl⟩ := range_at hd
      refine ⟨_, gv_name (by simp), ?_⟩
      refine sm_seq (c1 := 1) (c2 := 0) (sm_set (em_draw1 (m := m) (i := 0) (l := n) (a := 1) rfl (ev_var rfl) n1 (by omega))) fun r M' e => ?_
      obtain ⟨_, ⟨j, hj, rfl⟩, rfl, rfl⟩ := e
      refine sm_append (M1 := []) (M2 := []) (p := p2) (ds := ups.map tD) rfl rfl ((em_row (c := 0) (n := n + 2) (B := n + 2) (ev_op (ev_var rfl) (ev_nat (n := 2)) r2_addN) (by omega) fun a ha => ⟨_, gv_name (by simp), fun M1 => em_evR (d := nD (((mgOf (n + 2) (wideF n)).getD a []).getD (1 + j) 0)) (ev_op (ev_op (ev_var rfl) (ev_var rfl) (r2_ixLM (by omega))) (ev_var rfl) (r2_ixN ?_)) ⟨_, ?_, rfl⟩⟩).more (by omega)) (by rw [List.length_map]; omega) fun d hd => ?_
      · unfold mgOf
        rw [range_getD ha, List.length_map, List.length_range]
        omega
      · unfold mgOf
        rw [range_getD ha, range_getD (by omega)]
        unfold wideF
        split
        · exact ha
        · split <;> omega
      · obtain ⟨row, r1, r2, rfl⟩ := hd
        exact ⟨eo p2, ⟨rfl, rfl, rfl, rfl, rfl, trivial⟩, ups ++ [row], by rw [List.length_append, ul]; rfl, rows_snoc ur r1 r2, rfl, by rw [List.map_append]; rfl⟩
    · obtain ⟨ds, ⟨k, k1, k3, rfl⟩, ups, ul, ur, rfl, rfl⟩ := e
      rw [List.length_map, List.length_range] at ul
      exact ⟨ups, by omega, by omega, ur, rfl, rfl⟩
    · obtain ⟨ups, u1, u3, ur, rfl, rfl⟩ := e
      refine sm_ret (((em_kind (st := 0) (n := n + 2) (B := 3) (mg := mgOf (n + 2) (wideF n)) (c1 := 0) (c2 := 0) (c3 := 0) (em_ev (ev_nat (n := 0))) (em_tupOwn (p := p2) (ds := ups.map tD) (i := 7) List.mem_cons_self rfl) (em_ev (ev_tupL (ev_var rfl))) (em_row (c := 1) (n := n + 2) (B := 3) (ev_op (ev_var rfl) (ev_nat (n := 2)) r2_addN) (by omega) fun i hi => ⟨_, gv_name (by simp), fun M1 => em_draw (m := m) (i := 0) rfl (ev_nat (n := 3)) (by decide) (by decide)⟩)).more (by omega)).to fun d hd => ?_)
      obtain ⟨rd, h1, h2, rfl⟩ := hd
      exact ⟨_, lat_wide n1 (by omega) u1 (by omega) ur h1 (fun x hx => by have := h2 x hx; omega), rfl⟩
theorem em_if {m : Option Mch} {ρ : Env6} {M : Own} {t : TT} {ta tb : TE} {c : Nat} {R : PyData → Prop} {x : Bool} (h : ET K t ρ x) (h1 : x = true → EM K m ta ρ M c R) (h2 : x = false → EM K m tb ρ M c R) : EM K m (tIf t ta tb) ρ M c R := fun W H0 σ H b s Q k =>
  h _ σ H s.ok s.env _ fun H' e => by
    cases x with
    | true => rw [if_pos rfl]; exact h1 rfl W H0 σ H' b (s.same e) Q k
    | false => rw [if_neg Bool.false_ne_true]; exact h2 rfl W H0 σ H' b (s.same e) Q k
theorem good__law_joining (T : Txt w K mg) (g__law_draw : Good P w K mg base 2 "_law_draw" ["_law_m", "_law_limit"] (SpM K 1 Ra__law_draw)) (g__law_lots_kind : Good P w K mg base 3 "_law_lots_kind" ["_law_m", "_law_many"] (SpM K 100 Ra__law_lots_kind)) (g__law_row_kind : Good P w K mg base 4 "_law_row_kind" ["_law_m", "_law_many"] (SpM K 100 Ra__law_row_kind)) (g__law_wide_kind : Good P w K mg base 3 "_law_wide_kind" ["_law_m", "_law_many"] (SpM K 100 Ra__law_wide_kind)) : Good P w K mg base 5 "_law_joining" ["_law_m"] (SpM K 200 Ra__law_joining) := by
  refine good_ofS T.F__law_joining sc__law_joining (c := 200) (Ra := Ra__law_joining) (fun ds R h => ?_) (fun _ _ _ _ _ _ us hl => match us, hl with | [_], _ => rfl) fun cdv A outer s H E hr => ⟨_, (pss_cons (ps_set (i := 1) sc__law_joining.nd rfl (by first | exact Or.inl rfl | exact Or.inr rfl) (pe_cg g__law_draw (hr.mono (by decide)) (by rfl) (pa_cons (pv 0) (pa_cons pe_int pa_nil))))
      (pss_cons (ps_if (pt_cmpR op_eq (pv 1) pe_int (nomark _))
      (pss_one (ps_ret (pe_cg g__law_lots_kind (hr.mono (by decide)) (by rfl) (pa_cons (pv 0) (pa_cons (pe_op op_add pe_int (pe_cg g__law_draw (hr.mono (by decide)) (by rfl) (pa_cons (pv 0) (pa_cons pe_int pa_nil)))) pa_nil)))))
      pss_nil)
      (pss_cons (ps_if (pt_cmpR op_eq (pv 1) pe_int (nomark _))
      (pss_one (ps_ret (pe_cg g__law_row_kind (hr.mono (by decide)) (by rfl) (pa_cons (pv 0) (pa_cons (pe_op op_add pe_int (pe_cg g__law_draw (hr.mono (by decide)) (by rfl) (pa_cons (pv 0) (pa_cons pe_int pa_nil)))) pa_nil)))))
      pss_nil)
      (pss_one (ps_ret (pe_ifExp (pt_cmpR op_eq (pv 1) pe_int (nomark _)) (pe_cg g__law_wide_kind (hr.mono (by decide)) (by rfl) (pa_cons (pv 0) (pa_cons (pe_op op_add pe_int (pe_cg g__law_draw (hr.mono (by decide)) (by rfl) (pa_cons (pv 0) (pa_cons pe_int pa_nil)))) pa_nil))) (pe_cg g__law_lots_kind (hr.mono (by decide)) (by rfl) (pa_cons (pv 0) (pa_cons pe_int pa_nil))))))))), fun m ds R h => ?_⟩
  · obtain ⟨rfl, _⟩ := h; rfl
  · obtain ⟨rfl, rfl⟩ := h
    refine SM.more (sm_seq (c1 := 1) (c2 := 101) (sm_set (em_draw rfl (ev_nat (n := 4)) (by decide) (by decide))) fun r M' e => ?_) (by decide)
    obtain ⟨_, ⟨pick, hp, rfl⟩, rfl, rfl⟩ := e
    have arg : ∀ {Rk : List PyData → (PyData → Prop) → Prop} {Rs : List PyData → Prop} {tr : TA}, AM K (some m) tr (([pinD m.pm].map some ++ List.replicate (2 - 1) none).set 1 (some (nD pick))) [] 1 Rs → (∀ ds, Rs ds → Rk ds isK) → EM K (some m) (tCall (SpM K 100 Rk) [] E0 (tCons (tVar 0) tr)) (([pinD m.pm].map some ++ List.replicate (2 - 1) none).set 1 (some (nD pick))) [] 101 isK := fun h q => em_callM (c := 100) (c1 := 1) rfl h q
    by_cases h0 : pick = 0
    · refine sm_seq (c1 := 101) (c2 := 0) (N1 := fun _ _ => False) (sm_if (x := decide (pick = 0)) (tm_et (et_test (ev_op (ev_var rfl) (ev_nat (n := 0)) r2_eqN))) (fun _ => ?_) fun hf => absurd h0 (of_decide_eq_false hf)) fun r M' e => e.elim
      refine sm_ret (arg (Rk := Ra__law_lots_kind) (am_cons (c1 := 1) (c2 := 0) (Rz := fun ds => ∃ j, j < 3 ∧ ds = [nD (1 + j)]) (em_draw1 (a := 1) rfl (ev_nat (n := 3)) (by decide) (by decide)) am_nil fun d ds hd hds => ?_) fun ds hds => ?_)
      · obtain ⟨j, hj, rfl⟩ := hd
        exact ⟨j, hj, by rw [hds]⟩
      · obtain ⟨j, hj, rfl⟩ := hds
        exact ⟨1 + j, by omega, by omega, rfl, rfl⟩
    refine sm_seq (c1 := 0) (c2 := 101) (sm_if (x := decide (pick = 0)) (tm_et (et_test (ev_op (ev_var rfl) (ev_nat (n := 0)) r2_eqN))) (fun ht => absurd (of_decide_eq_true ht) h0) fun _ => sm_next) fun r M' e => ?_
    obtain ⟨rfl, rfl⟩ := e
    by_cases h1 : pick = 1
    · refine sm_seq (c1 := 101) (c2 := 0) (N1 := fun _ _ => False) (sm_if (x := decide (pick = 1)) (tm_et (et_test (ev_op (ev_var rfl) (ev_nat (n := 1)) r2_eqN))) (fun _ => ?_) fun hf => absurd h1 (of_decide_eq_false hf)) fun r M' e => e.elim
      refine sm_ret (arg (Rk := Ra__law_row_kind) (am_cons (c1 := 1) (c2 := 0) (Rz := fun ds => ∃ j, j < 5 ∧ ds = [nD (2 + j)]) (em_draw1 (a := 2) rfl (ev_nat (n := 5)) (by decide) (by decide)) am_nil fun d ds hd hds => ?_) fun ds hds => ?_)
      · obtain ⟨j, hj, rfl⟩ := hd
        exact ⟨j, hj, by rw [hds]⟩
      · obtain ⟨j, hj, rfl⟩ := hds
        exact ⟨2 + j, by omega, by omega, rfl, rfl⟩
    refine sm_seq (c1 := 0) (c2 := 101) (sm_if (x := decide (pick = 1)) (tm_et (et_test (ev_op (ev_var rfl) (ev_nat (n := 1)) r2_eqN))) (fun ht => absurd (of_decide_eq_true ht) h1) fun _ => sm_next) fun r M' e => ?_
    obtain ⟨rfl, rfl⟩ := e
    refine sm_ret (em_if (x := decide (pick = 2)) (et_test (ev_op (ev_var rfl) (ev_nat (n := 2)) r2_eqN)) (fun _ => ?_) fun _ => ?_)
    · refine arg (Rk := Ra__law_wide_kind) (am_cons (c1 := 1) (c2 := 0) (Rz := fun ds => ∃ j, j < 5 ∧ ds = [nD (1 + j)]) (em_draw1 (a := 1) rfl (ev_nat (n := 5)) (by decide) (by decide)) am_nil fun d ds hd hds => ?_) fun ds hds => ?_
      · obtain ⟨j, hj, rfl⟩ := hd
        exact ⟨j, hj, by rw [hds]⟩
      · obtain ⟨j, hj, rfl⟩ := hds
        exact ⟨1 + j, by omega, by omega, rfl, rfl⟩
    · exact EM.more (em_callM (c := 100) (c1 := 0) (Ra := Ra__law_lots_kind) rfl (am_ea (ea_cons (ev_nat (n := 2)) ea_nil)) fun ds e => ⟨2, by omega, by omega, e, rfl⟩) (by decide)
end
end G6
/-! Part B6: data whose text is not long. -/
namespace G6
open PySem PySem.Spec PyProof.Rows L2
def okN (B D : Nat) (d : PyData) : Prop := d.showable = true ∧ d.canLay0 = true ∧ d.depth ≤ D ∧ d.shown.length ≤ B
theorem okN.to {B D B' D' : Nat} {d : PyData} (h : okN B D d) (hb : B ≤ B') (hd : D ≤ D') : okN B' D' d := ⟨h.1, h.2.1, Nat.le_trans h.2.2.1 hd, Nat.le_trans h.2.2.2 hb⟩
theorem ok_small : ∀ n, n < 16 → (nD n).showable = true ∧ (nD n).shown.length ≤ 2 := by decide +kernel
theorem ok_n {n : Nat} (h : n < 16) : okN 2 1 (nD n) := ⟨(ok_small n h).1, rfl, depth_nD n, (ok_small n h).2⟩
theorem showAll_mem : ∀ {ds : List PyData}, (∀ d, d ∈ ds → d.showable = true) → PyData.showableAll ds = true
  | [], _ => by unfold PyData.showableAll; rfl
  | d :: ds, h => by
    unfold PyData.showableAll
    rw [h d List.mem_cons_self, showAll_mem fun e he => h e (List.mem_cons_of_mem _ he)]
    rfl
theorem shownAll_len {B : Nat} : ∀ {ds : List PyData}, (∀ d, d ∈ ds → d.shown.length ≤ B) → (PyData.shownAll ds).length = ds.length ∧ ∀ t, t ∈ PyData.shownAll ds → t.length ≤ B
  | [], _ => ⟨rfl, fun t h => by unfold PyData.shownAll at h; cases h⟩
  | d :: ds, h => by
    obtain ⟨h1, h2⟩ := shownAll_len (ds := ds) fun e he => h e (List.mem_cons_of_mem _ he)
    unfold PyData.shownAll
    refine ⟨by rw [List.length_cons, h1]; rfl, fun t ht => ?_⟩
    rcases List.mem_cons.mp ht with e | e
    · rw [e]; exact h d List.mem_cons_self
    · exact h2 t e
theorem textFrom_le {B : Nat} : ∀ (ts : List Str) (k : Nat) (acc : Str), (∀ t, t ∈ ts → t.length ≤ B) → (textFrom k acc ts).length ≤ acc.length + ts.length * (B + 2)
  | [], k, acc, _ => Nat.le_add_right _ _
  | t :: r, k, acc, h => by
    have ih := textFrom_le r (k + 1) (acc ++ (if k > 0 then ", " else "" : String) ++ t) fun u hu => h u (List.mem_cons_of_mem _ hu)
    have e : (acc ++ (if k > 0 then ", " else "" : String) ++ t).length = acc.length + (if k > 0 then 2 else 0) + t.length := by
      rw [strLen_append, strLen_append]
      split <;> rfl
    rw [e] at ih
    have ht := h t List.mem_cons_self
    have h2 : (if k > 0 then 2 else 0) ≤ 2 := by split <;> omega
    rw [List.length_cons, Nat.add_mul, Nat.one_mul]
    show (textFrom (k + 1) _ r).length ≤ _
    omega
theorem piled_le {B : Nat} : ∀ (ts : List Str), (∀ t, t ∈ ts → t.length ≤ B) → piled ts ≤ ts.length * (B + 2)
  | [], _ => by simp [piled]
  | t :: r, h => by
    have ih := piled_le r fun u hu => h u (List.mem_cons_of_mem _ hu)
    have ht := h t List.mem_cons_self
    rw [List.length_cons, Nat.add_mul, Nat.one_mul]
    simp [piled] at ih ⊢
    omega
theorem ok_list {B D k : Nat} {ds : List PyData} (h : ∀ d, d ∈ ds → okN B D d) (hl : ds.length ≤ k) : okN (k * (B + 2) + 3) (D + 1) (.list ds) := by
  obtain ⟨h1, h2⟩ := shownAll_len (B := B) fun d hd => (h d hd).2.2.2
  have hm : ds.length * (B + 2) ≤ k * (B + 2) := Nat.mul_le_mul_right _ hl
  refine ⟨?_, ?_, ?_, ?_⟩
  · unfold PyData.showable
    exact showAll_mem fun d hd => (h d hd).1
  · unfold PyData.canLay0
    exact lay_all fun d hd => (h d hd).2.1
  · unfold PyData.depth
    have := depth_all (n := D) fun d hd => (h d hd).2.2.1
    omega
  · unfold PyData.shown listText
    rw [strLen_append]
    have h3 := textFrom_le (PyData.shownAll ds) 0 "[" h2
    rw [h1] at h3
    have e1 : (("[" : String) : Str).length = 1 := rfl
    have e2 : (("]" : String) : Str).length = 1 := rfl
    rw [e1] at h3
    rw [e2]
    omega
theorem ok_tup {B D k : Nat} {ds : List PyData} (h : ∀ d, d ∈ ds → okN B D d) (hl : ds.length ≤ k) : okN (k * (B + 2) + 3) (D + 1) (.tuple ds) := by
  obtain ⟨h1, h2⟩ := shownAll_len (B := B) fun d hd => (h d hd).2.2.2
  have hm : ds.length * (B + 2) ≤ k * (B + 2) := Nat.mul_le_mul_right _ hl
  refine ⟨?_, ?_, ?_, ?_⟩
  · unfold PyData.showable
    exact showAll_mem fun d hd => (h d hd).1
  · unfold PyData.canLay0
    exact lay_all fun d hd => (h d hd).2.1
  · unfold PyData.depth
    have := depth_all (n := D) fun d hd => (h d hd).2.2.1
    omega
  · unfold PyData.shown tupleText
    rw [strLen_append, strLen_append]
    have h3 := piled_le (PyData.shownAll ds) h2
    rw [h1] at h3
    have e1 : (("(" : String) : Str).length = 1 := rfl
    have e2 : ((if (PyData.shownAll ds).length == 1 then ",)" else ")" : String) : Str).length ≤ 2 := by split <;> decide
    have e3 : (Str.join ", " (PyData.shownAll ds)).length ≤ piled (PyData.shownAll ds) := by
      by_cases hn : PyData.shownAll ds = []
      · rw [hn]; exact Nat.zero_le _
      · have := join_length_add _ hn
        omega
    rw [e1]
    omega
theorem ok_tD {xs : List Nat} {k : Nat} (h : ∀ x, x ∈ xs → x < 16) (hl : xs.length ≤ k) : okN (k * 4 + 3) 2 (tD xs) := ok_tup (B := 2) (D := 1) (fun d hd => by
  obtain ⟨x, hx, rfl⟩ := List.mem_map.mp hd
  exact ok_n (h x hx)) (by rw [List.length_map]; exact hl)
theorem ok_mD {xs : List (List Nat)} {k j : Nat} (h : ∀ r, r ∈ xs → r.length ≤ j ∧ ∀ x, x ∈ r → x < 16) (hl : xs.length ≤ k) : okN (k * (j * 4 + 3 + 2) + 3) 3 (mD xs) := ok_tup (B := j * 4 + 3) (D := 2) (fun d hd => by
  obtain ⟨r, hr, rfl⟩ := List.mem_map.mp hd
  exact ok_tD (h r hr).2 (h r hr).1) (by rw [List.length_map]; exact hl)
theorem ok_pD {p : Nat × Nat} (h1 : p.1 < 16) (h2 : p.2 < 16) : okN 11 2 (pD p) := ok_tup (B := 2) (D := 1) (k := 2) (fun d hd => by
  rcases List.mem_cons.mp hd with e | e
  · rw [e]; exact ok_n h1
  · rw [List.mem_singleton.mp e]; exact ok_n h2) (Nat.le_refl 2)
theorem ok_kD {k : Kd} (L : Lat k) : okN 1300 4 (kD k) := by
  have n8 := L.n8
  have u4 := L.ups4
  have ml := L.mgL
  refine (ok_tup (B := 299) (D := 3) (k := 4) (ds := [nD k.st, mD k.ups, mD k.mg, tD k.rd]) (fun d hd => ?_) (Nat.le_refl 4)).to (by decide) (by decide)
  simp only [List.mem_cons, List.not_mem_nil, or_false] at hd
  rcases hd with rfl | rfl | rfl | rfl
  · exact (ok_n (by have := L.st_lt; omega)).to (by decide) (by decide)
  · exact (ok_mD (k := 8) (j := 8) (fun r hr => ⟨by rw [(L.upsR r hr).1]; exact n8, fun x hx => by have := (L.upsR r hr).2 x hx; omega⟩) (by omega)).to (by decide) (by decide)
  · exact (ok_mD (k := 8) (j := 8) (fun r hr => ⟨by rw [(L.mgR r hr).1]; exact n8, fun x hx => by have := (L.mgR r hr).2 x hx; omega⟩) (by omega)).to (by decide) (by decide)
  · exact (ok_tD (k := 8) (fun x hx => by have := L.rdR x hx; omega) n8).to (by decide) (by decide)
end G6
namespace G6
open PySem PySem.Spec PyProof.Rows L2
section
variable {P : Program} {w : World} {K : PySem.W.Frag} {mg : Str → Option Value} {base : Heap}

theorem flat_len {α β : Type} {f : α → List β} {n : Nat} : ∀ l : List α, (∀ a, (f a).length ≤ n) → (l.flatMap f).length ≤ l.length * n
  | [], _ => by simp
  | a :: l, h => by
    have ih := flat_len l h
    have h1 := h a
    rw [List.flatMap_cons, List.length_append, List.length_cons, Nat.add_mul, Nat.one_mul]
    omega
theorem pairs_len {k : Kd} (L : Lat k) : (k.pairs (come k)).length ≤ 64 := by
  have h8 := come_len L
  have h := flat_len (f := fun a => ((come k).filter fun b => decide (a ≠ b) && k.le a b).map fun b => (a, b)) (n := 8) (come k) fun a => by
    rw [List.length_map]
    exact Nat.le_trans (List.length_filter_le _ _) h8
  unfold Kd.pairs
  omega
theorem eqv_pD (p q : Nat × Nat) : PyData.eqv (pD p) (pD q) = decide (p = q) := by
  obtain ⟨a, b⟩ := p
  obtain ⟨c, d⟩ := q
  have e : PyData.eqv (pD (a, b)) (pD (c, d)) = (((a : Int) == (c : Int)) && (((b : Int) == (d : Int)) && true)) := rfl
  rw [e, Bool.and_true]
  by_cases h : (a, b) = (c, d)
  · rw [decide_eq_true h]
    obtain ⟨rfl, rfl⟩ := Prod.mk.inj h
    simp
  · rw [decide_eq_false h, Bool.and_eq_false_iff]
    by_cases h1 : a = c
    · subst h1
      right
      rw [beq_eq_false_iff_ne]
      intro z
      exact h (by rw [show b = d by omega])
    · left
      rw [beq_eq_false_iff_ne]
      intro z
      exact h1 (by omega)
theorem any_pD (ps : List (Nat × Nat)) (q : Nat × Nat) : ((ps.map pD).any fun z => PyData.eqv z (pD q)) = decide (q ∈ ps) := by
  rw [List.any_map]
  by_cases h : q ∈ ps
  · rw [decide_eq_true h]
    exact List.any_eq_true.mpr ⟨q, h, by show PyData.eqv (pD q) (pD q) = true; rw [eqv_pD, decide_eq_true rfl]⟩
  · rw [decide_eq_false h]
    refine List.any_eq_false.mpr fun p hp z => ?_
    have z : PyData.eqv (pD p) (pD q) = true := z
    rw [eqv_pD] at z
    exact h (of_decide_eq_true z ▸ hp)
theorem lay_pD (p : Nat × Nat) : PyData.canLay0 (pD p) = true := rfl
theorem depth_pD (p : Nat × Nat) : PyData.depth (pD p) ≤ 2 := by
  unfold pD PyData.depth
  have := depth_all (ds := [nD p.1, nD p.2]) (n := 1) fun d hd => by
    rcases List.mem_cons.mp hd with e | e
    · rw [e]; exact depth_nD _
    · rw [List.mem_singleton.mp e]; exact depth_nD _
  omega
/-- what is told, and due -/
noncomputable def dueD (k : Kd) : List PyData := [.tuple ((k.pairs (come k)).map pD), tD k.bricks, nD (k.join (come k)), nD k.height, tD k.longest, nD k.breadth]
theorem height_le {k : Kd} (L : Lat k) : k.height < 16 := by
  rcases maxL_or (k.ups8.map List.length) with e | e
  · show maxL _ < 16
    omega
  · show maxL _ < 16
    obtain ⟨c, hc, hl⟩ := List.mem_map.mp e
    obtain ⟨s, hs, rfl⟩ := List.mem_map.mp hc
    have B := upF_best L 8 s hs (above_len L s)
    have n8 := L.n8
    have := nd_len (sc_nd L B.sc) fun x hx => come_lt L (B.sc.mem x hx)
    omega
theorem breadth_le {k : Kd} (L : Lat k) : k.breadth < 16 := by
  have h8 := come_len L
  rcases maxL_or (((lotsOf (come k)).filter k.tight).map List.length) with e | e
  · show maxL _ < 16
    omega
  · show maxL _ < 16
    obtain ⟨l, hc, hl⟩ := List.mem_map.mp e
    have := (lots_sub (List.mem_filter.mp hc).1).length_le
    omega
theorem longest_ok {k : Kd} (L : Lat k) : k.longest.length ≤ 9 ∧ ∀ x, x ∈ k.longest → x < 16 := by
  have n8 := L.n8
  have h := minL_mem (longest_ne L)
  obtain ⟨s, hs, e⟩ := List.mem_map.mp (List.mem_filter.mp h).1
  have B := upF_best L 8 s hs (above_len L s)
  have e : k.upF (come k) 8 s = k.longest := e
  rw [e] at B
  refine ⟨?_, fun x hx => ?_⟩
  · have := nd_len (sc_nd L B.sc) fun x hx => come_lt L (B.sc.mem x hx)
    omega
  · have := come_lt L (B.sc.mem x hx)
    omega
theorem due_ok {k : Kd} (L : Lat k) : okR (.list (dueD k)) := by
  have n8 := L.n8
  have h8 := come_len L
  have cl : ∀ x, x ∈ come k → x < 16 := fun x hx => by have := come_lt L hx; omega
  have h : okN 6009 5 (.list (dueD k)) := (ok_list (ds := dueD k) (B := 999) (D := 3) (k := 6) (fun d hd => by
    unfold dueD at hd
    simp only [List.mem_cons, List.not_mem_nil, or_false] at hd
    rcases hd with rfl | rfl | rfl | rfl | rfl | rfl
    · exact (ok_tup (B := 11) (D := 2) (k := 64) (fun d hd => by
        obtain ⟨⟨a, b⟩, hp, rfl⟩ := List.mem_map.mp hd
        obtain ⟨h1, h2, _⟩ := pairs_mem.mp hp
        exact ok_pD (cl a h1) (cl b h2)) (by rw [List.length_map]; exact pairs_len L)).to (by decide) (by decide)
    · exact (ok_tD (k := 8) (fun x hx => cl x (List.mem_filter.mp hx).1) (Nat.le_trans (List.length_filter_le _ _) h8)).to (by decide) (by decide)
    · exact (ok_n (by have := join_lt L (xs := come k) fun x hx => come_lt L hx; omega)).to (by decide) (by decide)
    · exact (ok_n (height_le L)).to (by decide) (by decide)
    · exact (ok_tD (k := 9) (longest_ok L).2 (longest_ok L).1).to (by decide) (by decide)
    · exact (ok_n (breadth_le L)).to (by decide) (by decide)) (by show 6 ≤ 6; exact Nat.le_refl 6)).to (by decide) (by decide)
  exact ⟨h.1, h.2.1, Nat.le_trans h.2.2.1 (by decide), Nat.le_trans h.2.2.2 (by decide)⟩
end
end G6
namespace G6
open PySem PySem.Spec PyProof.Rows L2
section
variable {P : Program} {w : World} {K : PySem.W.Frag} {mg : Str → Option Value} {base : Heap}

abbrev e5 (m : Mch) (k : Kd) (some : List Nat) (pl bl : Option PyData) : Env6 := [.some (pinD m.pm), .some (kD k), .some (.str (kD k).shown), .some (lD some), .some (mD k.mg), pl, none, bl, none, none, none, none, none, none, none, none, none, none, none, none, none]
theorem law_said {ρ : Env6} {ta tb : TE} {xs : List PyData} (ok : okR (.list xs)) (h1 : EV K ta ρ (.list xs)) (h2 : EV K tb ρ (.list xs)) : ET K (tNot (tTest (tCall (PSp K R__law_like) [] E0 (tCons ta (tCons tb tNil))))) ρ false :=
  et_not (et_test (x := true) (ev_call (R := R__law_like) (ea_cons h1 (ea_cons h2 ea_nil)) ⟨xs, ok, rfl, rfl⟩))
theorem ok_few {xs : List PyData} (h : ∀ d, d ∈ xs → okN 999 4 d) (hl : xs.length ≤ 6) : okR (.list xs) := by
  have h := ok_list h hl
  exact ⟨h.1, h.2.1, Nat.le_trans h.2.2.1 (by decide), Nat.le_trans h.2.2.2 (by decide)⟩
theorem nats_in {P : Nat → Prop} : ∀ {es : List PyData}, (∀ (i : Nat) (e : PyData), es[i]? = some e → ∃ x : Nat, P x ∧ e = nD x) → ∃ xs : List Nat, xs.length = es.length ∧ (∀ x, x ∈ xs → P x) ∧ es = xs.map nD
  | [], _ => ⟨[], rfl, fun _ z => (nomatch z), rfl⟩
  | e :: es, h => by
    obtain ⟨x, hx, rfl⟩ := h 0 e rfl
    obtain ⟨xs, h1, h2, rfl⟩ := nats_in (es := es) fun i e q => h (i + 1) e q
    exact ⟨x :: xs, by rw [List.length_cons, h1]; rfl, fun y hy => (List.mem_cons.mp hy).elim (fun q => q ▸ hx) (h2 y), rfl⟩
theorem em_comeRow {m : Option Mch} {ρ : Env6} {M : Own} {g : TG} {vs : List Nat} {tn te : TE} {k : Kd} (L : Lat k) (hn : EM K m tn ρ M 1 (fun d => ∃ n, n ≤ 6 ∧ d = nD n)) (hs : ∀ i, i < 6 → ∃ r1, GV K g vs (nD i) (wipeE ρ vs) r1 ∧ ∀ M1, EM K m te r1 M1 1 (fun d => ∃ x, x ∈ come k ∧ d = nD x)) :
    EM K m (tCB (rTupK K) (tCons (tLc (iRng1 (tCons tn tNil)) g tYes te vs) tNil)) ρ M 7 (fun d => ∃ row : List Nat, row.length ≤ 6 ∧ (∀ x, x ∈ row → x ∈ come k) ∧ d = tD row) := by
  have h := em_lc (K := K) (m := m) (M := M) (te := te) (g := g) (vs := vs) (c := 1) (c1 := 1) (Re := fun _ _ d => ∃ x, x ∈ come k ∧ d = nD x) 6 (by omega) (im_rng (m := m) (M := M) hn (by decide)) (fun ds e => by
      obtain ⟨n, hn, rfl⟩ := e
      rw [List.length_map, List.length_range]
      exact hn) fun ds e i d hd => by
    obtain ⟨n, hn, rfl⟩ := e
    obtain ⟨hi, rfl⟩ := range_at hd
    exact hs i (by omega)
  refine (em_CB (c := 7) (R := fun d => ∃ row : List Nat, row.length ≤ 6 ∧ (∀ x, x ∈ row → x ∈ come k) ∧ d = tD row) (am_cons (c1 := 7) (c2 := 0) (Rz := fun ds => ∃ es : List PyData, es.length ≤ 6 ∧ (∀ (i : Nat) (e : PyData), es[i]? = some e → ∃ x, x ∈ come k ∧ e = nD x) ∧ ds = [.list es]) h am_nil fun d ds hd hds => ?_) fun ds hd => ?_)
  · obtain ⟨ds', es, ⟨n, hn, rfl⟩, e2, e3, rfl⟩ := hd
    subst hds
    exact ⟨es, by rw [e2, List.length_map, List.length_range]; exact hn, e3, rfl⟩
  · obtain ⟨es, h1, h2, rfl⟩ := hd
    obtain ⟨xs, h3, h4, rfl⟩ := nats_in h2
    exact ⟨_, rc_tupL, xs, by rw [h3]; exact h1, h4, rfl⟩
theorem goodG_ofS2 {x : Str} {st : Stmt} {N ps : List Str} {k c : Nat} {Ra : List PyData → (PyData → Prop) → Prop} (hF : ∃ fd, mg x = some (.ref (He.ga K x)) ∧ FunD K x x (defArgs st) (defBody st) (defScope st) [] [] (He.ga K x) fd) (S : FnScope N ps (defScope st)) (hl : ∀ ds R, Ra ds R → ds.length + 1 = ps.length)
    (hb : ∀ (kV doc pm : Value) (an : Option Addr) (cdv ct : Value) (us : List Value), us.length = ps.length → bindArgs (PySem.W.fnOf x x (defArgs st) (defBody st) (defScope st) .none kV doc pm an cdv ct) ⟨us, []⟩ = pure (ps.zip us))
    (hbody : ∀ (cdv : Value) (A : Around) (outer : List Env) (s : Shared) (H : Hp), A.guards = some [] → Room k (A.deeper (envOfC x (defScope st) s.heap.objs.size (He.ga K x) cdv)) →
      ∃ t, PSs (cxOf CX0 P w K mg base N x (defScope st) (He.ga K x) cdv A outer s H E0).nox (defBody st) t ∧ ∀ (m : Mch) ds R, Ra ds R → SM K (some m) t ((pinD m.pm :: ds).map some ++ List.replicate (N.length - (pinD m.pm :: ds).length) none) [] c (fun _ _ => False) R) :
    GoodG P w K mg base (k + 1) x ps (SpM K c Ra) :=
  goodG_ofS hF S hl hb fun cdv A outer s H gd hr => by
    obtain ⟨t, ht, hv⟩ := hbody cdv A outer s H gd hr
    exact ⟨t, ht.nox, hv⟩
theorem good__law_right (T : Txt w K mg) (g__law_all_chains : Good P w K mg base 1 "_law_all_chains" ["_law_kind_so", "_law_some"] (PSp K R__law_all_chains)) (g__law_come : Good P w K mg base 1 "_law_come" ["_law_kind_so"] (PSp K R__law_come)) (g__law_join : Good P w K mg base 1 "_law_join" ["_law_kind_so", "_law_some"] (PSp K R__law_join)) (g__law_draw : Good P w K mg base 2 "_law_draw" ["_law_m", "_law_limit"] (SpM K 1 Ra__law_draw)) (g__law_tight : Good P w K mg base 2 "_law_tight" ["_law_kind_so", "_law_some"] (PSp K R__law_tight)) (g_below : Good P w K mg base 6 "below" ["kind"] (PSp K R_below)) (g_bricks : Good P w K mg base 6 "bricks" ["kind"] (PSp K R_bricks)) (g_top : Good P w K mg base 6 "top" ["kind"] (PSp K R_top)) (g_height : Good P w K mg base 12 "height" ["kind"] (PSp K R_height)) (g_longest_chain : Good P w K mg base 11 "longest_chain" ["kind"] (PSp K R_longest_chain)) (g__law_like : GoodG P w K mg base 1 "_law_like" ["_law_got", "_law_due"] (PSp K R__law_like)) (g_joined : Good P w K mg base 6 "joined" ["kind", "states"] (PSp K R_joined)) (g__law_of : Good P w K mg base 3 "_law_of" ["_law_m", "_law_some"] (SpM K 1 Ra__law_of)) (g_bricks_of : Good P w K mg base 6 "bricks_of" ["kind", "state"] (PSp K R_bricks_of)) (g_breadth : Good P w K mg base 6 "breadth" ["kind"] (PSp K R_breadth)) : GoodG P w K mg base 13 "_law_right" ["_law_m", "_law_kind_so"] (SpM K 100 Ra__law_right) := by
  refine goodG_ofS2 T.F__law_right sc__law_right (c := 100) (Ra := Ra__law_right) (fun ds R h => ?_) (fun _ _ _ _ _ _ us hl => match us, hl with | [_, _], _ => rfl) fun cdv A outer s H hgd hr => ⟨_, (pss_cons (ps_asg (pe_tup (pa_cons (pe_callB (reprK K hgd hr.units) (by rfl) T.m_repr boot_repr (pa_cons (pv 1) pa_nil)) (pa_cons (pe_cg g__law_come (hr.mono (by decide)) (by rfl) (pa_cons (pv 1) pa_nil)) (pa_cons (pe_ix (ixK K) (pv 1) pe_int (fun _ _ => rfl)) pa_nil)))) (gtK (n := 3) K rfl (pgs_cons (pg_name (i := 2) sc__law_right.nd rfl (by first | exact Or.inl rfl | exact Or.inr rfl)) (pgs_cons (pg_name (i := 3) sc__law_right.nd rfl (by first | exact Or.inl rfl | exact Or.inr rfl)) (pgs_cons (pg_name (i := 4) sc__law_right.nd rfl (by first | exact Or.inl rfl | exact Or.inr rfl)) pgs_nil)))))
      (pss_cons (ps_set (i := 5) sc__law_right.nd rfl (by first | exact Or.inl rfl | exact Or.inr rfl) (pe_lst pa_nil))
      (pss_cons (ps_for PassesOwn.never rfl (piK K (pv 3)) (pg_name (i := 6) sc__law_right.nd rfl (by first | exact Or.inl rfl | exact Or.inr rfl))
      (pss_one (ps_set (i := 5) sc__law_right.nd rfl (by first | exact Or.inl rfl | exact Or.inr rfl) (pe_op op_cat (pv 5) (pe_lc (own := [("_law_far", 18)]) rfl sc__law_right.nd (piK K (pv 3)) (blkOk_by (own := [("_law_far", 18)]) (by kernel_rfl)) (fun _ _ _ _ _ => (pg_name (i := 18) sc__law_right.nd rfl (by first | exact Or.inl rfl | exact Or.inr rfl))) (fun _ _ _ _ _ => (pts_one (PW.pt (pw_and (pt_cmpR op_ne (pv 6) (pv 18) (nomark _)) (pw_and1 (pt_cmpR op_eq (pe_ix (ixK K) (pe_ix (ixK K) (pv 4) (pv 18) (fun _ _ => rfl)) (pv 6) (fun _ _ => rfl)) (pv 18) (nomark _))))))) (fun _ _ _ _ _ => (pe_tup (pa_cons (pv 6) (pa_cons (pv 18) pa_nil)))))))))
      (pss_cons (ps_set (i := 7) sc__law_right.nd rfl (by first | exact Or.inl rfl | exact Or.inr rfl) (pe_lst pa_nil))
      (pss_cons (ps_for PassesOwn.never rfl (piK K (pv 3)) (pg_name (i := 8) sc__law_right.nd rfl (by first | exact Or.inl rfl | exact Or.inr rfl))
      (pss_one (ps_if (pt_cmpR op_ne (pe_cg g__law_join (hr.mono (by decide)) (by rfl) (pa_cons (pv 1) (pa_cons (pe_lc (own := [("_law_one", 6), ("_law_far", 18)]) rfl sc__law_right.nd (piK K (pv 5)) (blkOk_by (own := [("_law_one", 6), ("_law_far", 18)]) (by kernel_rfl)) (fun _ _ _ _ _ => (gtK (n := 2) K rfl (pgs_cons (pg_name (i := 6) sc__law_right.nd rfl (by first | exact Or.inl rfl | exact Or.inr rfl)) (pgs_cons (pg_name (i := 18) sc__law_right.nd rfl (by first | exact Or.inl rfl | exact Or.inr rfl)) pgs_nil)))) (fun _ _ _ _ _ => (pts_one (pt_cmpR op_eq (pv 18) (pv 8) (nomark _)))) (fun _ _ _ _ _ => (pv 6))) pa_nil))) (pv 8) (nomark _))
      (pss_one (ps_expr (bmK K PySem.F.plainAttrs_list PySem.F.slot_list_append PySem.F.type_list_append mt_append (pv 7) (pa_cons (pv 8) pa_nil))))
      pss_nil)))
      (pss_cons (ps_set (i := 9) sc__law_right.nd rfl (by first | exact Or.inl rfl | exact Or.inr rfl) (pe_cg g__law_all_chains (hr.mono (by decide)) (by rfl) (pa_cons (pv 1) (pa_cons (pv 3) pa_nil))))
      (pss_cons (ps_set (i := 10) sc__law_right.nd rfl (by first | exact Or.inl rfl | exact Or.inr rfl) (pe_callB (maxK K rfl) (by rfl) T.m_max boot_max (pa_cons (pe_lc (own := [("_law_chain", 19)]) rfl sc__law_right.nd (piK K (pv 9)) (blkOk_by (own := [("_law_chain", 19)]) (by kernel_rfl)) (fun _ _ _ _ _ => (pg_name (i := 19) sc__law_right.nd rfl (by first | exact Or.inl rfl | exact Or.inr rfl))) (fun _ _ _ _ _ => pts_nil) (fun _ _ _ _ _ => (pe_callB (lenK K) (by rfl) T.m_len boot_len (pa_cons (pv 19) pa_nil)))) pa_nil)))
      (pss_cons (ps_set (i := 11) sc__law_right.nd rfl (by first | exact Or.inl rfl | exact Or.inr rfl) (pe_lst (pa_cons (pe_callTy (tupK K) (by rfl) T.m_tuple boot_tuple (pa_cons (pv 5) pa_nil)) (pa_cons (pe_callTy (tupK K) (by rfl) T.m_tuple boot_tuple (pa_cons (pv 7) pa_nil)) (pa_cons (pe_cg g__law_join (hr.mono (by decide)) (by rfl) (pa_cons (pv 1) (pa_cons (pv 3) pa_nil))) (pa_cons (pv 10) pa_nil))))))
      (pss_cons (ps_set (i := 11) sc__law_right.nd rfl (by first | exact Or.inl rfl | exact Or.inr rfl) (pe_op op_cat (pv 11) (pe_lst (pa_cons (pe_callB (minDK K rfl hr.units) (by rfl) T.m_min boot_min (pa_cons (pe_lc (own := [("_law_row", 16)]) rfl sc__law_right.nd (piK K (pv 9)) (blkOk_by (own := [("_law_row", 16)]) (by kernel_rfl)) (fun _ _ _ _ _ => (pg_name (i := 16) sc__law_right.nd rfl (by first | exact Or.inl rfl | exact Or.inr rfl))) (fun _ _ _ _ _ => (pts_one (pt_cmpR op_eq (pe_callB (lenK K) (by rfl) T.m_len boot_len (pa_cons (pv 16) pa_nil)) (pv 10) (nomark _)))) (fun _ _ _ _ _ => (pv 16))) pa_nil)) (pa_cons (pe_cg g__law_tight (hr.mono (by decide)) (by rfl) (pa_cons (pv 1) (pa_cons (pv 3) pa_nil))) pa_nil)))))
      (pss_cons (ps_for PassesOwn.never rfl (pi_range1 (by rfl) T.m_range (pa_cons pe_int pa_nil)) (pg_name (i := 12) sc__law_right.nd rfl (by first | exact Or.inl rfl | exact Or.inr rfl))
      (pss_cons (ps_set (i := 13) sc__law_right.nd rfl (by first | exact Or.inl rfl | exact Or.inr rfl) (pe_lst (pa_cons (pe_cg g_below (hr.mono (by decide)) (by rfl) (pa_cons (pv 1) pa_nil)) (pa_cons (pe_cg g_bricks (hr.mono (by decide)) (by rfl) (pa_cons (pv 1) pa_nil)) (pa_cons (pe_cg g_top (hr.mono (by decide)) (by rfl) (pa_cons (pv 1) pa_nil)) (pa_cons (pe_cg g_height (hr.mono (by decide)) (by rfl) (pa_cons (pv 1) pa_nil)) (pa_cons (pe_cg g_longest_chain (hr.mono (by decide)) (by rfl) (pa_cons (pv 1) pa_nil)) pa_nil)))))))
      (pss_one (ps_if (pt_not (pt_val (pe_cgG hgd g__law_like (hr.mono (by decide)) (by rfl) (pa_cons (pe_op op_cat (pv 13) (pe_lst (pa_cons (pe_cg g_breadth (hr.mono (by decide)) (by rfl) (pa_cons (pv 1) pa_nil)) pa_nil))) (pa_cons (pv 11) pa_nil)))))
      (pss_one (ps_ret pe_bl))
      pss_nil))))
      (pss_cons (ps_for PassesOwn.never rfl (piK K (pv 3)) (pg_name (i := 8) sc__law_right.nd rfl (by first | exact Or.inl rfl | exact Or.inr rfl))
      (pss_cons (ps_set (i := 14) sc__law_right.nd rfl (by first | exact Or.inl rfl | exact Or.inr rfl) (pe_callTy (tupK K) (by rfl) T.m_tuple boot_tuple (pa_cons (pe_lc (own := [("_law_one", 6)]) rfl sc__law_right.nd (piK K (pv 7)) (blkOk_by (own := [("_law_one", 6)]) (by kernel_rfl)) (fun _ _ _ _ _ => (pg_name (i := 6) sc__law_right.nd rfl (by first | exact Or.inl rfl | exact Or.inr rfl))) (fun _ _ _ _ _ => (pts_one (PW.pt (pw_or (pt_cmpR op_eq (pv 6) (pv 8) (nomark _)) (pw_or1 (pt_cmpR (inDK K (room65 hr)) (pe_tup (pa_cons (pv 6) (pa_cons (pv 8) pa_nil))) (pv 5) (by rfl))))))) (fun _ _ _ _ _ => (pv 6))) pa_nil)))
      (pss_one (ps_if (pt_not (pt_val (pe_cgG hgd g__law_like (hr.mono (by decide)) (by rfl) (pa_cons (pe_lst (pa_cons (pe_cg g_bricks_of (hr.mono (by decide)) (by rfl) (pa_cons (pv 1) (pa_cons (pv 8) pa_nil))) (pa_cons (pe_cg g_joined (hr.mono (by decide)) (by rfl) (pa_cons (pv 1) (pa_cons (pv 14) pa_nil))) pa_nil))) (pa_cons (pe_lst (pa_cons (pv 14) (pa_cons (pv 8) pa_nil))) pa_nil)))))
      (pss_one (ps_ret pe_bl))
      pss_nil))))
      (pss_cons (ps_for PassesOwn.never rfl (pi_range1 (by rfl) T.m_range (pa_cons pe_int pa_nil)) (pg_name (i := 15) sc__law_right.nd rfl (by first | exact Or.inl rfl | exact Or.inr rfl))
      (pss_cons (ps_set (i := 16) sc__law_right.nd rfl (by first | exact Or.inl rfl | exact Or.inr rfl) (pe_callTy (tupK K) (by rfl) T.m_tuple boot_tuple (pa_cons (pe_lc (own := [("_law_k", 20)]) rfl sc__law_right.nd (pi_range1 (by rfl) T.m_range (pa_cons (pe_cg g__law_draw (hr.mono (by decide)) (by rfl) (pa_cons (pv 0) (pa_cons pe_int pa_nil))) pa_nil)) (blkOk_by (own := [("_law_k", 20)]) (by kernel_rfl)) (fun _ _ _ _ _ => (pg_name (i := 20) sc__law_right.nd rfl (by first | exact Or.inl rfl | exact Or.inr rfl))) (fun _ _ _ _ _ => pts_nil) (fun _ _ _ _ _ => (pe_cg g__law_of (hr.mono (by decide)) (by rfl) (pa_cons (pv 0) (pa_cons (pv 3) pa_nil))))) pa_nil)))
      (pss_cons (ps_set (i := 17) sc__law_right.nd rfl (by first | exact Or.inl rfl | exact Or.inr rfl) (pe_cg g__law_draw (hr.mono (by decide)) (by rfl) (pa_cons (pv 0) (pa_cons (pe_op op_add (pe_callB (lenK K) (by rfl) T.m_len boot_len (pa_cons (pv 16) pa_nil)) pe_int) pa_nil))))
      (pss_cons (ps_set (i := 13) sc__law_right.nd rfl (by first | exact Or.inl rfl | exact Or.inr rfl) (pe_lst (pa_cons (pe_cg g_joined (hr.mono (by decide)) (by rfl) (pa_cons (pv 1) (pa_cons (pv 16) pa_nil))) (pa_cons (pe_cg g_joined (hr.mono (by decide)) (by rfl) (pa_cons (pv 1) (pa_cons (pe_op (catAK K) (pe_slice (slK K) (pv 16) (po_some (pv 17)) po_none) (pe_slice (slK K) (pv 16) po_none (po_some (pv 17)))) pa_nil))) (pa_cons (pe_cg g_joined (hr.mono (by decide)) (by rfl) (pa_cons (pv 1) (pa_cons (pe_op (catAK K) (pv 16) (pv 16)) pa_nil))) pa_nil)))))
      (pss_one (ps_if (pt_not (pt_val (pe_cgG hgd g__law_like (hr.mono (by decide)) (by rfl) (pa_cons (pv 13) (pa_cons (pe_op op_rep (pe_lst (pa_cons (pe_cg g__law_join (hr.mono (by decide)) (by rfl) (pa_cons (pv 1) (pa_cons (pv 16) pa_nil))) pa_nil)) pe_int) pa_nil)))))
      (pss_one (ps_ret pe_bl))
      pss_nil))))))
      (pss_one (ps_ret (pe_cmpR op_eq (pe_callB (reprK K hgd hr.units) (by rfl) T.m_repr boot_repr (pa_cons (pv 1) pa_nil)) (pv 2) (nomark _)))))))))))))))), fun m ds R h => ?_⟩
  · obtain ⟨_, _, rfl, _⟩ := h; rfl
  · obtain ⟨k, L, rfl, rfl⟩ := h
    have n8 := L.n8
    have h8 := come_len L
    have cl : ∀ x, x ∈ come k → x < 16 := fun x hx => by have := come_lt L hx; omega
    have okk := ok_kD L
    have cne : come k ≠ [] := fun z => by
      have := st_come L
      rw [z] at this
      cases this
    have okT : EV K (tCB (rReprD K) (tCons (tVar 1) tNil)) (([pinD m.pm, kD k].map some ++ List.replicate 19 none)) (.str (kD k).shown) := ev_CB (ea_cons (ev_var rfl) ea_nil) (rc_reprT okk.1 okk.2.1 (Nat.le_trans okk.2.2.1 (by decide)) (Nat.le_trans okk.2.2.2 (by decide)))
    have pl := pairs_len L
    have bl : k.bricks.length ≤ 8 := Nat.le_trans (List.length_filter_le _ _) h8
    refine SM.more (sm_seq (c1 := 0) (c2 := 90) (N1 := fun r M' => r = e5 m k (come k) none none ∧ M' = []) (sm_sv (sv_asg (ev_tup (ea_cons okT (ea_cons (ev_call (R := R__law_come) (ea_cons (ev_var rfl) ea_nil) ⟨k, L, rfl, rfl⟩) (ea_cons (ev_k2 (ev_var rfl)) ea_nil))) (by show 3 ≤ sizeLine; decide)) (gv_tup (ts := [2, 3, 4]) rfl (gsv_cons (gv_name (by simp)) (gsv_cons (gv_name (by simp)) (gsv_cons (gv_name (by simp)) gsv_nil)))))) fun r M' e => ?_) (by decide)
    obtain ⟨rfl, rfl⟩ := e
    refine sm_seq (c1 := 0) (c2 := 90) (N1 := fun r M' => r = e5 m k (come k) (some (.list [])) none ∧ M' = []) (sm_sv (sv_set (ev_lst (ds := []) ea_nil (by decide)))) fun r M' e => ?_
    obtain ⟨rfl, rfl⟩ := e
    refine sm_seq (c1 := 0) (c2 := 90) (N1 := fun r M' => r = e5 m k (come k) (some (.list ((k.pairs (come k)).map pD))) none ∧ M' = []) ((sm_sv (sv_forN (us := [6]) (xs := come k) (enc := nD) (fun i => e5 m k (come k) (some (.list ((((come k).take i).flatMap fun a => ((come k).filter fun b => decide (a ≠ b) && k.le a b).map fun b => (a, b)).map pD))) none) (iv_L (ev_var rfl)) (leE_refl _) fun i x hx => ⟨_, gv_name (by simp), SV.to (sv_set ((ev_op (ev_var rfl) (ev_lc (α := Nat) (xs := come k) (enc := nD) (fun b => decide (x ≠ b) && k.le x b) (fun b => pD (x, b)) (iv_L (ev_var rfl)) (by omega) fun b hb => ⟨_, gv_name (by simp), et_and (et_test (ev_op (ev_var rfl) (ev_var rfl) r2_neN)) (fun _ => et_test (ev_op (ev_J L (ev_var rfl) (ev_var rfl) (ev_var rfl) (come_lt L hb) (come_lt L (List.mem_of_getElem? hx))) (ev_var rfl) r2_eqN)), fun _ => ev_tup (ds := [nD x, nD b]) (ea_cons (ev_var rfl) (ea_cons (ev_var rfl) ea_nil)) (by show 2 ≤ sizeLine; decide)⟩) (r2_catL ?_)).is ?_)) (by exact ⟨rfl, rfl, rfl, rfl, rfl, rfl, trivial⟩)⟩)).to fun r M' e => ?_) fun r M' e => ?_
    · have h1 := flat_len (f := fun a => ((come k).filter fun b => decide (a ≠ b) && k.le a b).map fun b => (a, b)) (n := 8) ((come k).take i) fun a => by
        rw [List.length_map]
        exact Nat.le_trans (List.length_filter_le _ _) h8
      have h2 : ((come k).take i).length ≤ 8 := by rw [List.length_take]; omega
      have h3 := List.length_filter_le (fun b => decide (x ≠ b) && k.le x b) (come k)
      rw [List.length_map, List.length_map]
      exact Nat.le_trans (m := 100) (by omega) (by decide)
    · rw [take_len1 hx, List.flatMap_append, List.flatMap_cons, List.flatMap_nil, List.append_nil, List.map_append, List.map_map]
      rfl
    · obtain ⟨rfl, rfl⟩ := e
      rw [List.take_length]
      exact ⟨rfl, rfl⟩
    obtain ⟨rfl, rfl⟩ := e
    refine sm_seq (c1 := 0) (c2 := 90) (N1 := fun r M' => ∃ p, r = e5 m k (come k) (some (.list ((k.pairs (come k)).map pD))) (some (pinD p)) ∧ M' = [(p, [])]) (sm_new fun p => ⟨p, rfl, rfl⟩) fun r M' e => ?_
    obtain ⟨p, rfl, rfl⟩ := e
    refine sm_seq (c1 := 0) (c2 := 90) (N1 := fun r M' => r = e5 m k (come k) (some (.list ((k.pairs (come k)).map pD))) (some (pinD p)) ∧ M' = [(p, k.bricks.map nD)]) (((sm_for (us := [8]) (c1 := 0) (c := 0) (fun _ i r M' => r = e5 m k (come k) (some (.list ((k.pairs (come k)).map pD))) (some (pinD p)) ∧ M' = [(p, (((come k).take i).filter fun s => k.isBrick (come k) s).map nD)]) 8 (im_iv (ds := (come k).map nD) (iv_L (ev_var rfl))) (fun ds e => by rw [e, List.length_map]; exact h8) (fun ds e => ⟨_, leE_refl _, rfl, rfl⟩) fun ds e i d r M' hd iv => ?_).more (by omega)).to fun r M' e => ?_) fun r M' e => ?_
    · obtain ⟨rfl, rfl⟩ := iv
      subst e
      obtain ⟨s, hs, rfl⟩ := map_at hd
      have hsin := List.mem_of_getElem? hs
      refine ⟨_, gv_name (by simp), ?_⟩
      have hpu : ((k.pairs (come k)).filter fun p => decide (p.2 = s)).map (·.1) = k.under (come k) s := pairs_under (come k) (come k) come_nd hsin
      have l2 : (((come k).take i).filter fun s => k.isBrick (come k) s).length ≤ 8 := Nat.le_trans (List.length_filter_le _ _) (by rw [List.length_take]; omega)
      rw [take_len1 hs, List.filter_append]
      refine sm_if (x := k.isBrick (come k) s) (tm_et (et_test (ev_op (ev_call (R := R__law_join) (ea_cons (ev_var rfl) (ea_cons (a := lD (k.under (come k) s)) ((ev_lc (α := Nat × Nat) (xs := k.pairs (come k)) (enc := pD) (fun p => decide (p.2 = s)) (fun p => nD p.1) (iv_L (ev_var rfl)) (by omega) fun p hp => ⟨_, gv_tup rfl (gsv_cons (gv_name (by simp)) (gsv_cons (gv_name (by simp)) gsv_nil)), et_test (ev_op (ev_var rfl) (ev_var rfl) r2_eqN), fun _ => ev_var rfl⟩).is ?_) ea_nil)) ⟨k, _, L, fun x hx => come_lt L (under_mem.mp hx).1, .inl rfl, rfl⟩) (ev_var rfl) r2_neN))) (fun ht => ?_) fun hf => ?_
      · rw [← hpu, lD, List.map_map]
        rfl
      · refine sm_append (M1 := []) (M2 := []) (p := p) (R' := (· = nD s)) rfl rfl (em_ev (ev_var rfl)) (by rw [List.length_map]; omega) fun d hd => ⟨e5 m k (come k) (some (.list ((k.pairs (come k)).map pD))) (some (pinD p)), ⟨rfl, rfl, rfl, rfl, rfl, rfl, rfl, trivial⟩, rfl, ?_⟩
        rw [hd, List.filter_cons, if_pos ht, List.filter_nil, List.map_append]
        rfl
      · refine sm_next.to fun r M' e => ?_
        obtain ⟨rfl, rfl⟩ := e
        refine ⟨e5 m k (come k) (some (.list ((k.pairs (come k)).map pD))) (some (pinD p)), ⟨rfl, rfl, rfl, rfl, rfl, rfl, rfl, trivial⟩, rfl, ?_⟩
        rw [List.filter_cons, if_neg (by rw [hf]; exact Bool.false_ne_true), List.filter_nil, List.append_nil]
    · obtain ⟨ds, rfl, rfl, rfl⟩ := e
      rw [List.length_map, List.take_length]
      exact ⟨rfl, rfl⟩
    obtain ⟨rfl, rfl⟩ := e
    refine sm_ghost (M' := []) (ρ' := e5 m k (come k) (some (.list ((k.pairs (come k)).map pD))) (some (lD k.bricks))) (fun _ _ _ _ _ s => s.full (i := 7) rfl) ?_
    obtain ⟨ch, cm⟩ := chains_all L (all_mem L)
    have al := all_len L 9 (by decide)
    have ne1 : (allC k (come k) 9).map List.length ≠ [] := fun e => by
      have := (all_mem L [k.st]).mpr ⟨.one (st_come L), List.cons_ne_nil _ _⟩
      rw [List.map_eq_nil_iff.mp e] at this
      cases this
    have ne2 : (allC k (come k) 9).filter (fun c => decide (c.length = k.height)) ≠ [] := by
      have h1 : k.height ∈ (allC k (come k) 9).map List.length := by rw [← ch]; exact maxL_mem ne1
      obtain ⟨c, h2, h3⟩ := List.mem_map.mp h1
      exact List.ne_nil_of_mem (List.mem_filter.mpr ⟨h2, decide_eq_true h3⟩)
    let e9 : Env6 := [some (pinD m.pm), some (kD k), some (.str (kD k).shown), some (lD (come k)), some (mD k.mg), some (.list ((k.pairs (come k)).map pD)), none, some (lD k.bricks), none, some (.list ((allC k (come k) 9).map tD)), none, none, none, none, none, none, none, none, none, none, none]
    refine sm_seq (c1 := 0) (c2 := 90) (N1 := fun r M' => r = e9 ∧ M' = []) (sm_sv (sv_set (ev_call (R := R__law_all_chains) (ea_cons (ev_var rfl) (ea_cons (ev_var rfl) ea_nil)) ⟨k, L, rfl, rfl⟩))) fun r M' e => ?_
    obtain ⟨rfl, rfl⟩ := e
    let e10 : Env6 := [some (pinD m.pm), some (kD k), some (.str (kD k).shown), some (lD (come k)), some (mD k.mg), some (.list ((k.pairs (come k)).map pD)), none, some (lD k.bricks), none, some (.list ((allC k (come k) 9).map tD)), some (nD k.height), none, none, none, none, none, none, none, none, none, none]
    refine sm_seq (c1 := 0) (c2 := 90) (N1 := fun r M' => r = e10 ∧ M' = []) (sm_sv (sv_set (d := nD k.height) ((ev_maxN (xs := (allC k (come k) 9).map List.length) ((ev_lcA (α := List Nat) (xs := allC k (come k) 9) (enc := tD) (fun c => nD c.length) (iv_L (ev_var rfl)) (by omega) fun c hc => ⟨_, gv_name (by simp), ev_lenN (ev_var rfl)⟩).is (by rw [lD, List.map_map]; rfl)) ne1).is (by rw [ch])))) fun r M' e => ?_
    obtain ⟨rfl, rfl⟩ := e
    refine sm_seq (c1 := 0) (c2 := 90) (sm_sv (sv_set (ev_lst (ds := [.tuple ((k.pairs (come k)).map pD), tD k.bricks, nD (k.join (come k)), nD k.height]) (ea_cons (ev_tupL (ev_var rfl)) (ea_cons (ev_tupL (ev_var rfl)) (ea_cons (ev_call (R := R__law_join) (ea_cons (ev_var rfl) (ea_cons (ev_var rfl) ea_nil)) ⟨k, _, L, fun x hx => come_lt L hx, .inl rfl, rfl⟩) (ea_cons (ev_var rfl) ea_nil)))) (by show 4 ≤ sizeLine; decide)))) fun r M' e => ?_
    obtain ⟨rfl, rfl⟩ := e
    let e11 : Env6 := [some (pinD m.pm), some (kD k), some (.str (kD k).shown), some (lD (come k)), some (mD k.mg), some (.list ((k.pairs (come k)).map pD)), none, some (lD k.bricks), none, some (.list ((allC k (come k) 9).map tD)), some (nD k.height), some (.list (dueD k)), none, none, none, none, none, none, none, none, none]
    refine sm_seq (c1 := 0) (c2 := 90) (N1 := fun r M' => r = e11 ∧ M' = []) (sm_sv (sv_set (d := .list (dueD k)) ((ev_op (ev_var rfl) (ev_lst (ds := [tD k.longest, nD k.breadth]) (ea_cons ((ev_minC (cs := (allC k (come k) 9).filter fun c => decide (c.length = k.height)) (ev_lc (α := List Nat) (xs := allC k (come k) 9) (enc := tD) (fun c => decide (c.length = k.height)) tD (iv_L (ev_var rfl)) (by omega) fun c hc => ⟨_, gv_name (by simp), et_test (ev_op (ev_lenN (ev_var rfl)) (ev_var rfl) r2_eqN), fun _ => ev_var rfl⟩) ne2).is (by rw [cm])) (ea_cons ((ev_call (R := R__law_tight) (ea_cons (ev_var rfl) (ea_cons (ev_var rfl) ea_nil)) ⟨k, L, rfl, rfl⟩).is (by rw [law_breadth L])) ea_nil)) (by show 2 ≤ sizeLine; decide)) (r2_catL (by show 6 ≤ sizeLine; decide))).is rfl))) fun r M' e => ?_
    obtain ⟨rfl, rfl⟩ := e
    refine sm_seq (c1 := 0) (c2 := 90) (N1 := fun r M' => r = e11 ∧ M' = []) (sm_sv (sv_forN (us := [12]) (xs := List.range 2) (enc := nD) (fun _ => e11) (iv_rgN (n := 2) ev_nat (by decide)) (leE_refl _) fun i x hx => ⟨_, gv_name (by simp), SV.to (sv_seq (sv_set (ev_lst (ds := [.tuple ((k.pairs (come k)).map pD), tD k.bricks, nD (k.join (come k)), nD k.height, tD k.longest]) (ea_cons (ev_call (R := R_below) (ea_cons (ev_var rfl) ea_nil) ⟨k, L, rfl, rfl⟩) (ea_cons (ev_call (R := R_bricks) (ea_cons (ev_var rfl) ea_nil) ⟨k, L, rfl, rfl⟩) (ea_cons (ev_call (R := R_top) (ea_cons (ev_var rfl) ea_nil) ⟨k, L, rfl, rfl⟩) (ea_cons (ev_call (R := R_height) (ea_cons (ev_var rfl) ea_nil) ⟨k, L, rfl, rfl⟩) (ea_cons (ev_call (R := R_longest_chain) (ea_cons (ev_var rfl) ea_nil) ⟨k, L, rfl, rfl⟩) ea_nil))))) (by show 5 ≤ sizeLine; decide))) (sv_no (law_said (due_ok L) ((ev_op (ev_var rfl) (ev_lst (ds := [nD k.breadth]) (ea_cons (ev_call (R := R_breadth) (ea_cons (ev_var rfl) ea_nil) ⟨k, L, rfl, rfl⟩) ea_nil) (by show 1 ≤ sizeLine; decide)) (r2_catL (by show 6 ≤ sizeLine; decide))).is rfl) (ev_var rfl)) sv_next)) ⟨rfl, rfl, rfl, rfl, rfl, rfl, rfl, rfl, rfl, rfl, trivial⟩⟩)) fun r M' e => ?_
    obtain ⟨rfl, rfl⟩ := e
    refine sm_seq (c1 := 0) (c2 := 90) (N1 := fun r M' => r = e11 ∧ M' = []) (sm_sv (sv_forN (us := [8]) (xs := come k) (enc := nD) (fun _ => e11) (iv_L (ev_var rfl)) (leE_refl _) fun i s hs => ⟨_, gv_name (by simp), ?_⟩)) fun r M' e => ?_
    · have hsin := List.mem_of_getElem? hs
      have bo : ∀ x, x ∈ k.bricksOf s → x ∈ come k := fun x hx => ((bricksOf_mem.mp hx).1).1
      have bol : (k.bricksOf s).length ≤ 8 := Nat.le_trans (List.length_filter_le _ _) bl
      have bj : k.join (k.bricksOf s) = s := bricks_join L 8 s (Nat.le_trans (List.length_filter_le _ _) h8) hsin
      have eown : (k.bricks.filter fun one => decide (one = s) || decide ((one, s) ∈ k.pairs (come k))) = k.bricksOf s := by
        unfold Kd.bricksOf
        refine List.filter_congr fun x hx => ?_
        have hxc := (List.mem_filter.mp hx).1
        by_cases e : x = s
        · subst e
          rw [decide_eq_true rfl, Bool.true_or, le_refl L (come_lt L hsin)]
        · rw [decide_eq_false e, Bool.false_or]
          cases q : k.le x s with
          | true =>
            exact decide_eq_true (pairs_mem.mpr ⟨hxc, hsin, e, q⟩)
          | false =>
            refine decide_eq_false fun z => ?_
            have := (pairs_mem.mp z).2.2.2
            rw [q] at this
            cases this
      refine SV.to (sv_seq (sv_set (d := tD (k.bricksOf s)) ((ev_tupL (ev_lc (α := Nat) (xs := k.bricks) (enc := nD) (fun one => decide (one = s) || decide ((one, s) ∈ k.pairs (come k))) nD (iv_L (ev_var rfl)) (by omega) fun x hx => ⟨_, gv_name (by simp), et_or (et_test (ev_op (ev_var rfl) (ev_var rfl) r2_eqN)) (fun _ => et_test ((ev_op (ev_tup (ds := [nD x, nD s]) (ea_cons (ev_var rfl) (ea_cons (ev_var rfl) ea_nil)) (by show 2 ≤ sizeLine; decide)) (ev_var rfl) (r2_inD (d := pD (x, s)) (ds := (k.pairs (come k)).map pD) ?_ ?_)).is (by rw [any_pD]))), fun _ => ev_var rfl⟩)).is (by rw [eown]; rfl))) (sv_no (law_said (xs := [tD (k.bricksOf s), nD s]) (ok_few (fun d hd => ?_) (by show 2 ≤ 6; decide)) (ev_lst (ea_cons (ev_call (R := R_bricks_of) (ea_cons (ev_var rfl) (ea_cons (ev_var rfl) ea_nil)) ⟨k, s, L, hsin, rfl, rfl⟩) (ea_cons ((ev_call (R := R_joined) (ea_cons (ev_var rfl) (ea_cons (ev_var rfl) ea_nil)) ⟨k, k.bricksOf s, L, by omega, bo, rfl, rfl⟩).is (by rw [bj])) ea_nil)) (by show 2 ≤ sizeLine; decide)) (ev_lst (ea_cons (ev_var rfl) (ea_cons (ev_var rfl) ea_nil)) (by show 2 ≤ sizeLine; decide))) sv_next)) ⟨rfl, rfl, rfl, rfl, rfl, rfl, rfl, rfl, rfl, rfl, trivial⟩
      · unfold SeqAt.shaped
        rw [Bool.and_eq_true]
        exact ⟨lay_pD _, decide_eq_true (Nat.le_trans (depth_pD _) (by decide))⟩
      · exact shaped_flat (n := 2) (fun d hd => by
          obtain ⟨q, _, rfl⟩ := List.mem_map.mp hd
          exact lay_pD q) (fun d hd => by
          obtain ⟨q, _, rfl⟩ := List.mem_map.mp hd
          exact depth_pD q) (by decide)
      · rcases List.mem_cons.mp hd with e | e
        · rw [e]; exact (ok_tD (k := 8) (fun x hx => cl x (bo x hx)) bol).to (by decide) (by decide)
        · rw [List.mem_singleton.mp e]; exact (ok_n (cl s hsin)).to (by decide) (by decide)
    obtain ⟨rfl, rfl⟩ := e
    refine sm_seq (c1 := 8 * 4 + 0) (c2 := 58) (N1 := fun r M' => r = e11 ∧ M' = []) ((sm_for (us := [15]) (c := 8) (c1 := 0) (fun _ i r M' => r = e11 ∧ M' = []) 4 (im_iv (iv_rgN (n := 4) ev_nat (by decide))) (fun ds e => by rw [e]; decide) (fun ds e => ⟨_, leE_refl _, rfl, rfl⟩) fun ds e i d r M' hd iv => ?_).to fun r M' e => ?_) fun r M' e => ?_
    · obtain ⟨rfl, rfl⟩ := iv
      refine ⟨_, gv_name (by simp), ?_⟩
      refine SM.more (sm_seq (c1 := 7) (c2 := 1) (sm_set (R' := fun d => ∃ row : List Nat, row.length ≤ 6 ∧ (∀ x, x ∈ row → x ∈ come k) ∧ d = tD row) (em_comeRow L ?_ ?_)) fun r M' e => ?_) (by decide)
      · exact (em_draw (m := m) (i := 0) rfl (ev_nat (n := 7)) (by decide) (by decide)).to fun d hd => by
          obtain ⟨j, hj, rfl⟩ := hd
          exact ⟨j, by omega, rfl⟩
      · exact fun i hi => ⟨_, gv_name (by simp), fun M1 => em_callM (c := 1) (c1 := 0) rfl (am_ea (ea_cons (ev_var rfl) ea_nil)) fun ds e => ⟨come k, cne, by omega, e, rfl⟩⟩
      obtain ⟨_, ⟨row, rl, rc, rfl⟩, rfl, rfl⟩ := e
      refine sm_seq (c1 := 1) (c2 := 0) (sm_set (em_draw (m := m) (i := 0) rfl (ev_op (ev_lenN (ev_var rfl)) (ev_nat (n := 1)) r2_addN) (by omega) (by omega))) fun r M' e => ?_
      obtain ⟨_, ⟨sp, hsp, rfl⟩, rfl, rfl⟩ := e
      have rn : ∀ x, x ∈ row → x < k.n := fun x hx => come_lt L (rc x hx)
      have e1 : k.join (row.drop sp ++ row.take sp) = k.join row := join_ext L (fun x hx => rn x (by
        rcases List.mem_append.mp hx with q | q
        · exact List.mem_of_mem_drop q
        · exact List.mem_of_mem_take q)) fun x => by
        rw [List.mem_append, or_comm, ← List.mem_append, List.take_append_drop]
      have e2 : k.join (row ++ row) = k.join row := join_ext L (fun x hx => rn x (by
        rcases List.mem_append.mp hx with q | q <;> exact q)) fun x => by
        rw [List.mem_append, or_self]
      have jl : k.join row < 16 := by have := join_lt L rn; omega
      refine (sm_sv (sv_seq (sv_set (ev_lst (ds := [nD (k.join row), nD (k.join row), nD (k.join row)]) (ea_cons (ev_call (R := R_joined) (ea_cons (ev_var rfl) (ea_cons (ev_var rfl) ea_nil)) ⟨k, row, L, by omega, rc, rfl, rfl⟩) (ea_cons ((ev_call (R := R_joined) (ea_cons (ev_var rfl) (ea_cons (ev_cat (ev_drop (ev_var rfl) (ev_var rfl) (by omega)) (ev_take (ev_var rfl) (ev_var rfl) (by omega)) (by rw [List.length_drop, List.length_take]; omega)) ea_nil)) ⟨k, row.drop sp ++ row.take sp, L, by rw [List.length_append, List.length_drop, List.length_take]; omega, fun x hx => (List.mem_append.mp hx).elim (fun q => rc x (List.mem_of_mem_drop q)) fun q => rc x (List.mem_of_mem_take q), rfl, rfl⟩).is (by rw [e1])) (ea_cons ((ev_call (R := R_joined) (ea_cons (ev_var rfl) (ea_cons (ev_cat (ev_var rfl) (ev_var rfl) (by omega)) ea_nil)) ⟨k, row ++ row, L, by rw [List.length_append]; omega, fun x hx => (List.mem_append.mp hx).elim (rc x) (rc x), rfl, rfl⟩).is (by rw [e2])) ea_nil))) (by show 3 ≤ sizeLine; decide))) (sv_no (law_said (xs := [nD (k.join row), nD (k.join row), nD (k.join row)]) (ok_few (fun d hd => ?_) (by show 3 ≤ 6; decide)) (ev_var rfl) ((ev_op (ev_lst (ds := [nD (k.join row)]) (ea_cons (ev_call (R := R__law_join) (ea_cons (ev_var rfl) (ea_cons (ev_var rfl) ea_nil)) ⟨k, row, L, rn, .inr rfl, rfl⟩) ea_nil) (by show 1 ≤ sizeLine; decide)) ev_int (r2_repL (k := 3) (by decide) (by show 1 ≤ 1000; decide))).is rfl)) sv_next))).to fun r M' e => ?_
      · have ed : d = nD (k.join row) := by simpa using hd
        rw [ed]
        exact (ok_n jl).to (by decide) (by decide)
      · obtain ⟨rfl, rfl⟩ := e
        exact ⟨e11, ⟨rfl, rfl, rfl, rfl, rfl, rfl, rfl, rfl, rfl, rfl, trivial⟩, rfl, rfl⟩
    · obtain ⟨ds, _, rfl, rfl⟩ := e
      exact ⟨rfl, rfl⟩
    · obtain ⟨rfl, rfl⟩ := e
      refine SM.more (c := 0) (sm_svR (d := .bool true) (sv_ret ?_) rfl) (by decide)
      refine (ev_op (ev_CB (ea_cons (ev_var rfl) ea_nil) (rc_reprT okk.1 okk.2.1 (Nat.le_trans okk.2.2.1 (by decide)) (Nat.le_trans okk.2.2.2 (by decide)))) (ev_var rfl) r2_eqS).is ?_
      show PyData.bool (decide ((kD k).shown = (kD k).shown)) = _
      rw [decide_eq_true rfl]
end
end G6
/-! Part B7: the two kinds that the law writes out. -/
namespace G6
def kLots : Kd := ⟨0, [[1, 1, 3, 3], [2, 3, 2, 3]], [[0, 1, 2, 3], [1, 1, 3, 3], [2, 3, 2, 3], [3, 3, 3, 3]], [0, 1, 2, 3]⟩
def kCount : Kd := ⟨2, [[0, 0, 1]], [[0, 0, 0], [0, 1, 1], [0, 1, 2]], [2, 1, 0]⟩
theorem lat_kLots : Lat kLots where
  n1 := by decide
  n8 := by decide
  st_lt := by decide
  ups1 := by decide
  ups4 := by decide
  upsR := by decide
  mgL := by decide
  mgR := by decide
  rdR := by decide
  comm := fun a b ha hb => (show ∀ a, a < 4 → ∀ b, b < 4 → kLots.J a b = kLots.J b a by decide) a ha b hb
  assoc := fun a b c ha hb hc => (show ∀ a, a < 4 → ∀ b, b < 4 → ∀ c, c < 4 → kLots.J (kLots.J a b) c = kLots.J a (kLots.J b c) by decide) a ha b hb c hc
  idem := fun a ha => (show ∀ a, a < 4 → kLots.J a a = a by decide) a ha
  unit := fun a ha => (show ∀ a, a < 4 → kLots.J 0 a = a by decide) a ha
theorem lat_kCount : Lat kCount where
  n1 := by decide
  n8 := by decide
  st_lt := by decide
  ups1 := by decide
  ups4 := by decide
  upsR := by decide
  mgL := by decide
  mgR := by decide
  rdR := by decide
  comm := fun a b ha hb => (show ∀ a, a < 3 → ∀ b, b < 3 → kCount.J a b = kCount.J b a by decide) a ha b hb
  assoc := fun a b c ha hb hc => (show ∀ a, a < 3 → ∀ b, b < 3 → ∀ c, c < 3 → kCount.J (kCount.J a b) c = kCount.J a (kCount.J b c) by decide) a ha b hb c hc
  idem := fun a ha => (show ∀ a, a < 3 → kCount.J a a = a by decide) a ha
  unit := fun a ha => (show ∀ a, a < 3 → kCount.J 2 a = a by decide) a ha
theorem come_kLots : come kLots = [0, 1, 2, 3] := by
  have r0 : Rch kLots 0 := .st
  have r1 : Rch kLots 1 := Rch.up (r := [1, 1, 3, 3]) r0 (by decide)
  have r2 : Rch kLots 2 := Rch.up (r := [2, 3, 2, 3]) r0 (by decide)
  have r3 : Rch kLots 3 := Rch.up (r := [2, 3, 2, 3]) r1 (by decide)
  refine Clo.eq lat_kLots ⟨by decide, by decide, by decide, by decide, fun x hx => ?_⟩ (by decide)
  simp only [List.mem_cons, List.not_mem_nil, or_false] at hx
  rcases hx with rfl | rfl | rfl | rfl
  · exact r0
  · exact r1
  · exact r2
  · exact r3
theorem come_kCount : come kCount = [0, 1, 2] := by
  have r2 : Rch kCount 2 := .st
  have r1 : Rch kCount 1 := Rch.up (r := [0, 0, 1]) r2 (by decide)
  have r0 : Rch kCount 0 := Rch.up (r := [0, 0, 1]) r1 (by decide)
  refine Clo.eq lat_kCount ⟨by decide, by decide, by decide, by decide, fun x hx => ?_⟩ (by decide)
  simp only [List.mem_cons, List.not_mem_nil, or_false] at hx
  rcases hx with rfl | rfl | rfl
  · exact r0
  · exact r1
  · exact r2
theorem lots1 : kLots.pairs (come kLots) = [(0, 1), (0, 2), (0, 3), (1, 3), (2, 3)] := by rw [come_kLots]; decide +kernel
theorem lots2 : kLots.bricks = [1, 2] := by unfold Kd.bricks; rw [come_kLots]; decide +kernel
theorem lots3 : kLots.height = 3 := by unfold Kd.height Kd.ups8; rw [come_kLots]; decide +kernel
theorem lots4 : kLots.breadth = 2 := by unfold Kd.breadth; rw [come_kLots]; decide +kernel
theorem lots5 : kLots.longest = [0, 1, 3] := by unfold Kd.longest; rw [lots3]; unfold Kd.ups8; rw [come_kLots]; decide +kernel
theorem lots6 : kLots.join [] = 0 := rfl
theorem count1 : kCount.pairs (come kCount) = [(1, 0), (2, 0), (2, 1)] := by rw [come_kCount]; decide +kernel
theorem count2 : kCount.bricks = [0, 1] := by unfold Kd.bricks; rw [come_kCount]; decide +kernel
theorem count3 : kCount.join (come kCount) = 0 := by rw [come_kCount]; decide +kernel
theorem count3h : kCount.height = 3 := by unfold Kd.height Kd.ups8; rw [come_kCount]; decide +kernel
theorem count4 : kCount.breadth = 1 := by unfold Kd.breadth; rw [come_kCount]; decide +kernel
theorem count5 : kCount.longest = [2, 1, 0] := by unfold Kd.longest; rw [count3h]; unfold Kd.ups8; rw [come_kCount]; decide +kernel
theorem count6 : kCount.join (List.replicate 60 1) = 1 := by decide +kernel
end G6
namespace G6
open PySem PySem.Spec PyProof.Rows L2
section
variable {P : Program} {w : World} {K : PySem.W.Frag} {mg : Str → Option Value} {base : Heap}

def SpLaw (K : PySem.W.Frag) : Sp := fun vs H Q _ => ∃ (a : Addr) (ns : List Int), vs = [.ref a] ∧ SqL K H a (ns.map V.int) ∧ ns.length ≤ 63 ∧ ∀ H', Q (.bl true) H'
theorem sm_ifNotM {m : Option Mch} {ρ : Env6} {M : Own} {c c1 : Nat} {te : TE} {ts tu : TS} {N : Env6 → Own → Prop} {R : PyData → Prop} (h : EM K m te ρ M c1 (· = .bool true)) (h2 : SM K m tu ρ M c N R) : SM K m (tIfS (tNot (tTest te)) ts tu) ρ M (c + c1) N R := fun W H0 σ H b D s k1 k2 =>
  h W H0 σ H (b + c) (by rw [Nat.add_assoc]; exact s) _ fun v H' d r s' v' => by
    subst r
    refine ⟨true, v'.bl_iff, ?_⟩
    exact h2 W H0 σ H' b D s' k1 k2
theorem ev_min3 {ρ : Env6} {ta : TE} {a b : Nat} (h1 : EV K ta ρ (nD a)) : EV K (tCB (fun xs H Q => ∃ i j, xs = [.int i, .int j] ∧ Q (.int (if j < i then j else i)) H) (tCons ta (tCons (tC (.int (b : Int))) tNil))) ρ (nD (min a b)) :=
  (ev_CB (ea_cons h1 (ea_cons (ev_nat (n := b)) ea_nil)) rc_min2).is (by
    show PyData.int (if (b : Int) < (a : Int) then (b : Int) else (a : Int)) = PyData.int ((min a b : Nat) : Int)
    congr 1
    split <;> omega)
theorem ev_t2 {ρ : Env6} {a b : Nat} : EV K (tTup (tCons (tC (.int (a : Int))) (tCons (tC (.int (b : Int))) tNil))) ρ (pD (a, b)) := ev_tup (ds := [nD a, nD b]) (ea_cons ev_nat (ea_cons ev_nat ea_nil)) (by show 2 ≤ sizeLine; decide)
theorem ev_t2' {ρ : Env6} {a b : Nat} : EV K (tTup (tCons (tC (.int (a : Int))) (tCons (tC (.int (b : Int))) tNil))) ρ (tD [a, b]) := ev_tup (ds := [nD a, nD b]) (ea_cons ev_nat (ea_cons ev_nat ea_nil)) (by show 2 ≤ sizeLine; decide)
theorem ev_t3 {ρ : Env6} {a b c : Nat} : EV K (tTup (tCons (tC (.int (a : Int))) (tCons (tC (.int (b : Int))) (tCons (tC (.int (c : Int))) tNil)))) ρ (tD [a, b, c]) := ev_tup (ds := [nD a, nD b, nD c]) (ea_cons ev_nat (ea_cons ev_nat (ea_cons ev_nat ea_nil))) (by show 3 ≤ sizeLine; decide)
theorem ev_t4 {ρ : Env6} {a b c d : Nat} : EV K (tTup (tCons (tC (.int (a : Int))) (tCons (tC (.int (b : Int))) (tCons (tC (.int (c : Int))) (tCons (tC (.int (d : Int))) tNil))))) ρ (tD [a, b, c, d]) := ev_tup (ds := [nD a, nD b, nD c, nD d]) (ea_cons ev_nat (ea_cons ev_nat (ea_cons ev_nat (ea_cons ev_nat ea_nil)))) (by show 4 ≤ sizeLine; decide)
theorem okp {a b : Nat} (h1 : a < 16) (h2 : b < 16) : okN 11 2 (pD (a, b)) := ok_pD h1 h2
theorem ok_ps {ps : List (Nat × Nat)} (h : ∀ p, p ∈ ps → p.1 < 16 ∧ p.2 < 16) (hl : ps.length ≤ 8) : okN 999 4 (.tuple (ps.map pD)) := (ok_tup (B := 11) (D := 2) (k := 8) (fun d hd => by
  obtain ⟨p, hp, rfl⟩ := List.mem_map.mp hd
  exact ok_pD (h p hp).1 (h p hp).2) (by rw [List.length_map]; exact hl)).to (by decide) (by decide)
theorem ok_ts {xs : List Nat} (h : ∀ x, x ∈ xs → x < 16) (hl : xs.length ≤ 8) : okN 999 4 (tD xs) := (ok_tD (k := 8) h hl).to (by decide) (by decide)
theorem ok_ns {n : Nat} (h : n < 16) : okN 999 4 (nD n) := (ok_n h).to (by decide) (by decide)
def due1 : List PyData := [.tuple ([(0, 1), (0, 2), (0, 3), (1, 3), (2, 3)].map pD), tD [1, 2], nD 3, nD 2, tD [0, 1, 3], nD 0]
def due2 : List PyData := [.tuple ([(1, 0), (2, 0), (2, 1)].map pD), tD [0, 1], nD 0, nD 1, tD [2, 1, 0], nD 1]
theorem due1_ok : okR (.list due1) := ok_few (fun d hd => by
  unfold due1 at hd
  simp only [List.mem_cons, List.not_mem_nil, or_false] at hd
  rcases hd with rfl | rfl | rfl | rfl | rfl | rfl
  · exact ok_ps (by decide) (by decide)
  · exact ok_ts (by decide) (by decide)
  · exact ok_ns (by decide)
  · exact ok_ns (by decide)
  · exact ok_ts (by decide) (by decide)
  · exact ok_ns (by decide)) (by show 6 ≤ 6; decide)
theorem due2_ok : okR (.list due2) := ok_few (fun d hd => by
  unfold due2 at hd
  simp only [List.mem_cons, List.not_mem_nil, or_false] at hd
  rcases hd with rfl | rfl | rfl | rfl | rfl | rfl
  · exact ok_ps (by decide) (by decide)
  · exact ok_ts (by decide) (by decide)
  · exact ok_ns (by decide)
  · exact ok_ns (by decide)
  · exact ok_ts (by decide) (by decide)
  · exact ok_ns (by decide)) (by show 6 ≤ 6; decide)
theorem run_law {m : Mch} {ts : TS} {ρ : Env6} {W : List Addr} {H0 H : Hp} {σ : L2.St} {Q : VK} {b : Nat} (s : StM K (some m) W H0 σ H ρ [] (b + 2000)) (h : SM K (some m) ts ρ [] 2000 (fun _ _ => False) (· = .bool true)) (q : ∀ H', Q (.bl true) H') : ts { nx := fun _ H' => Q .non H', rt := Q } σ H :=
  h W H0 σ H b _ s (fun _ _ _ _ z => z.elim) fun v H' d e _ _ v' => by
    subst e
    rw [v'.bl_iff]
    exact q H'
theorem fnG_law (T : Txt w K mg) (g__law_begun : Good P w K mg base 2 "_law_begun" ["_law_script"] (SpBegun K)) (g__law_like : GoodG P w K mg base 1 "_law_like" ["_law_got", "_law_due"] (PSp K R__law_like)) (g_below : Good P w K mg base 6 "below" ["kind"] (PSp K R_below)) (g_bricks : Good P w K mg base 6 "bricks" ["kind"] (PSp K R_bricks)) (g_height : Good P w K mg base 12 "height" ["kind"] (PSp K R_height)) (g_breadth : Good P w K mg base 6 "breadth" ["kind"] (PSp K R_breadth)) (g_longest_chain : Good P w K mg base 11 "longest_chain" ["kind"] (PSp K R_longest_chain)) (g_joined : Good P w K mg base 6 "joined" ["kind", "states"] (PSp K R_joined)) (g_top : Good P w K mg base 6 "top" ["kind"] (PSp K R_top)) (g__law_right : GoodG P w K mg base 13 "_law_right" ["_law_m", "_law_kind_so"] (SpM K 100 Ra__law_right)) (g__law_joining : Good P w K mg base 5 "_law_joining" ["_law_m"] (SpM K 200 Ra__law_joining)) {fd : FuncData} (F : FunD K "law" "law" (defArgs slaw) (defBody slaw) (defScope slaw) [] [] (He.ga K "law") fd) : FnG P w K mg base 14 (He.ga K "law") fd ["_law_script"] (SpLaw K) := by
  refine fnG_of F sc_law (fun vs H Q E h => ?_) fun cdv A outer s H vs Q hgd hr h => ?_
  · obtain ⟨a, ns, rfl, _⟩ := h; rfl
  have key : ∃ t, PSs (cxOf CX0 P w K mg base ["_law_script", "_law_m", "_law_turn", "_law_lots", "_law_count", "_law_told"] "law" (defScope slaw) (He.ga K "law") cdv A outer s H E0).nox (defBody slaw) t ∧ t { nx := fun _ H' => Q .non H', rt := Q } (start ["_law_script", "_law_m", "_law_turn", "_law_lots", "_law_count", "_law_told"] vs) H := ⟨_,
(pss_cons (ps_set (i := 1) sc_law.nd rfl (by first | exact Or.inl rfl | exact Or.inr rfl) (pe_cg g__law_begun (hr.mono (by decide)) (by rfl) (pa_cons (pv 0) pa_nil)))
      (pss_cons (ps_for PassesOwn.never rfl (pi_range1 (by rfl) T.m_range (pa_cons (pe_op op_add pe_int (pe_callB (call_min2 rfl) (by rfl) T.m_min boot_min (pa_cons (pe_callB (lenK K) (by rfl) T.m_len boot_len (pa_cons (pv 0) pa_nil)) (pa_cons pe_int pa_nil)))) pa_nil)) (pg_name (i := 2) sc_law.nd rfl (by first | exact Or.inl rfl | exact Or.inr rfl))
      (pss_one (ps_if (pt_not (pt_val (pe_cgG hgd g__law_right (hr.mono (by decide)) (by rfl) (pa_cons (pv 1) (pa_cons (pe_cg g__law_joining (hr.mono (by decide)) (by rfl) (pa_cons (pv 1) pa_nil)) pa_nil)))))
      (pss_one (ps_ret pe_bl))
      pss_nil)))
      (pss_cons (ps_set (i := 3) sc_law.nd rfl (by first | exact Or.inl rfl | exact Or.inr rfl) (pe_tup (pa_cons pe_int (pa_cons (pe_tup (pa_cons (pe_tup (pa_cons pe_int (pa_cons pe_int (pa_cons pe_int (pa_cons pe_int pa_nil))))) (pa_cons (pe_tup (pa_cons pe_int (pa_cons pe_int (pa_cons pe_int (pa_cons pe_int pa_nil))))) pa_nil))) (pa_cons (pe_tup (pa_cons (pe_tup (pa_cons pe_int (pa_cons pe_int (pa_cons pe_int (pa_cons pe_int pa_nil))))) (pa_cons (pe_tup (pa_cons pe_int (pa_cons pe_int (pa_cons pe_int (pa_cons pe_int pa_nil))))) (pa_cons (pe_tup (pa_cons pe_int (pa_cons pe_int (pa_cons pe_int (pa_cons pe_int pa_nil))))) (pa_cons (pe_tup (pa_cons pe_int (pa_cons pe_int (pa_cons pe_int (pa_cons pe_int pa_nil))))) pa_nil))))) (pa_cons (pe_tup (pa_cons pe_int (pa_cons pe_int (pa_cons pe_int (pa_cons pe_int pa_nil))))) pa_nil))))))
      (pss_cons (ps_set (i := 4) sc_law.nd rfl (by first | exact Or.inl rfl | exact Or.inr rfl) (pe_tup (pa_cons pe_int (pa_cons (pe_tup (pa_cons (pe_tup (pa_cons pe_int (pa_cons pe_int (pa_cons pe_int pa_nil)))) pa_nil)) (pa_cons (pe_tup (pa_cons (pe_tup (pa_cons pe_int (pa_cons pe_int (pa_cons pe_int pa_nil)))) (pa_cons (pe_tup (pa_cons pe_int (pa_cons pe_int (pa_cons pe_int pa_nil)))) (pa_cons (pe_tup (pa_cons pe_int (pa_cons pe_int (pa_cons pe_int pa_nil)))) pa_nil)))) (pa_cons (pe_tup (pa_cons pe_int (pa_cons pe_int (pa_cons pe_int pa_nil)))) pa_nil))))))
      (pss_cons (ps_set (i := 5) sc_law.nd rfl (by first | exact Or.inl rfl | exact Or.inr rfl) (pe_lst (pa_cons (pe_cg g_below (hr.mono (by decide)) (by rfl) (pa_cons (pv 3) pa_nil)) (pa_cons (pe_cg g_bricks (hr.mono (by decide)) (by rfl) (pa_cons (pv 3) pa_nil)) (pa_cons (pe_cg g_height (hr.mono (by decide)) (by rfl) (pa_cons (pv 3) pa_nil)) (pa_cons (pe_cg g_breadth (hr.mono (by decide)) (by rfl) (pa_cons (pv 3) pa_nil)) (pa_cons (pe_cg g_longest_chain (hr.mono (by decide)) (by rfl) (pa_cons (pv 3) pa_nil)) (pa_cons (pe_cg g_joined (hr.mono (by decide)) (by rfl) (pa_cons (pv 3) (pa_cons (pe_tup pa_nil) pa_nil))) pa_nil))))))))
      (pss_cons (ps_if (pt_not (pt_val (pe_cgG hgd g__law_like (hr.mono (by decide)) (by rfl) (pa_cons (pv 5) (pa_cons (pe_lst (pa_cons (pe_tup (pa_cons (pe_tup (pa_cons pe_int (pa_cons pe_int pa_nil))) (pa_cons (pe_tup (pa_cons pe_int (pa_cons pe_int pa_nil))) (pa_cons (pe_tup (pa_cons pe_int (pa_cons pe_int pa_nil))) (pa_cons (pe_tup (pa_cons pe_int (pa_cons pe_int pa_nil))) (pa_cons (pe_tup (pa_cons pe_int (pa_cons pe_int pa_nil))) pa_nil)))))) (pa_cons (pe_tup (pa_cons pe_int (pa_cons pe_int pa_nil))) (pa_cons pe_int (pa_cons pe_int (pa_cons (pe_tup (pa_cons pe_int (pa_cons pe_int (pa_cons pe_int pa_nil)))) (pa_cons pe_int pa_nil))))))) pa_nil)))))
      (pss_one (ps_ret pe_bl))
      pss_nil)
      (pss_cons (ps_set (i := 5) sc_law.nd rfl (by first | exact Or.inl rfl | exact Or.inr rfl) (pe_lst (pa_cons (pe_cg g_below (hr.mono (by decide)) (by rfl) (pa_cons (pv 4) pa_nil)) (pa_cons (pe_cg g_bricks (hr.mono (by decide)) (by rfl) (pa_cons (pv 4) pa_nil)) (pa_cons (pe_cg g_top (hr.mono (by decide)) (by rfl) (pa_cons (pv 4) pa_nil)) (pa_cons (pe_cg g_breadth (hr.mono (by decide)) (by rfl) (pa_cons (pv 4) pa_nil)) (pa_cons (pe_cg g_longest_chain (hr.mono (by decide)) (by rfl) (pa_cons (pv 4) pa_nil)) (pa_cons (pe_cg g_joined (hr.mono (by decide)) (by rfl) (pa_cons (pv 4) (pa_cons (pe_op (repTK K) (pe_tup (pa_cons pe_int pa_nil)) pe_int) pa_nil))) pa_nil))))))))
      (pss_one (ps_ret (pe_cgG hgd g__law_like (hr.mono (by decide)) (by rfl) (pa_cons (pv 5) (pa_cons (pe_lst (pa_cons (pe_tup (pa_cons (pe_tup (pa_cons pe_int (pa_cons pe_int pa_nil))) (pa_cons (pe_tup (pa_cons pe_int (pa_cons pe_int pa_nil))) (pa_cons (pe_tup (pa_cons pe_int (pa_cons pe_int pa_nil))) pa_nil)))) (pa_cons (pe_tup (pa_cons pe_int (pa_cons pe_int pa_nil))) (pa_cons pe_int (pa_cons pe_int (pa_cons (pe_tup (pa_cons pe_int (pa_cons pe_int (pa_cons pe_int pa_nil)))) (pa_cons pe_int pa_nil))))))) pa_nil))))))))))))
    , ?_⟩
  · obtain ⟨t, h1, h2⟩ := key
    exact ⟨t, h1.nox, h2⟩
  obtain ⟨a, ns, rfl, hs, hn, q⟩ := h
  refine ⟨.ref a, rfl, a, ns, rfl, hs, by omega, fun m H1 e1 fr mc => ?_⟩
  have s1 : StM K (some m) (adr (some m)) H1 ((start ["_law_script", "_law_m", "_law_turn", "_law_lots", "_law_count", "_law_told"] [.ref a]).set 1 (some (.ref m.pm))) H1 [some (sqD (ns.map .int)), some (pinD m.pm), none, none, none, none] [] 900000 := ⟨.refl _, mc, fun _ z => z, fun x hx => mc.here x hx, List.nodup_nil, fun _ z => (nomatch z), by
    have sm : Same H (hide (hid [] (adr (some m))) H1) := fun x o z => by
      have hx : x ∉ hid [] (adr (some m)) := fun y => by
        rw [fr x y] at z
        cases z
      rw [hide_out hx]
      exact e1 x o z
    have r : DvAll K (hide (hid [] (adr (some m))) H1) [.ref a] [sqD (ns.map .int)] := .one (.sq (same_sqL sm hs) (.of_ints ns))
    exact (EnvD.start ["_law_script", "_law_m", "_law_turn", "_law_lots", "_law_count", "_law_told"] r).set (.pin m.pm) 1, fun _ z => (nomatch z)⟩
  let e1 : Env6 := [some (sqD (ns.map .int)), some (pinD m.pm), none, none, none, none]
  dsimp only [gName]
  refine run_law (b := 898000) (ρ := e1) s1 ?_ q
  refine SM.more (sm_seq (c1 := 300 * 5 + 0) (c2 := 0) (N1 := fun r M' => r = e1 ∧ M' = []) ((sm_for (us := [2]) (c := 300) (c1 := 0) (fun _ i r M' => r = e1 ∧ M' = []) 5 (im_iv (iv_rgN (n := 2 + min ns.length 3) (ev_op (ev_nat (n := 2)) (ev_min3 (b := 3) (ev_lenSq (ev_var rfl))) r2_addN) (by omega))) (fun ds e => by rw [e, List.length_map, List.length_range]; omega) (fun ds e => ⟨_, leE_refl _, rfl, rfl⟩) fun ds e i d r M' hd iv => ?_).to fun r M' e => ?_) fun r M' e => ?_) (by decide)
  · obtain ⟨rfl, rfl⟩ := iv
    refine ⟨_, gv_name (by simp), (sm_ifNotM (c := 0) (c1 := 300) (em_callM (c := 100) (c1 := 200) (m := m) (i := 1) (Rs := fun ds => ∃ k, Lat k ∧ ds = [kD k]) rfl (am_cons (c1 := 200) (c2 := 0) (em_callM (c := 200) (c1 := 0) (m := m) (i := 1) (R := isK) rfl am_nil fun ds e => ⟨e, rfl⟩) am_nil fun d ds hd hds => ?_) fun ds hds => ?_) sm_next).to fun r M' e => ?_⟩
    · obtain ⟨k, L, rfl⟩ := hd
      exact ⟨k, L, by rw [hds]⟩
    · obtain ⟨k, L, rfl⟩ := hds
      exact ⟨k, L, rfl, rfl⟩
    · obtain ⟨rfl, rfl⟩ := e
      exact ⟨e1, ⟨rfl, rfl, trivial⟩, rfl, rfl⟩
  · obtain ⟨ds, _, rfl, rfl⟩ := e
    exact ⟨rfl, rfl⟩
  obtain ⟨rfl, rfl⟩ := e
  refine sm_svR (d := .bool true) ?_ rfl
  refine sv_seq (sv_set (d := kD kLots) ((ev_tup (ds := [nD 0, mD kLots.ups, mD kLots.mg, tD kLots.rd]) (ea_cons (ev_nat (n := 0)) (ea_cons (ev_tup (ds := [tD [1, 1, 3, 3], tD [2, 3, 2, 3]]) (ea_cons (ev_t4 (a := 1) (b := 1) (c := 3) (d := 3)) (ea_cons (ev_t4 (a := 2) (b := 3) (c := 2) (d := 3)) ea_nil)) (by show 2 ≤ sizeLine; decide)) (ea_cons (ev_tup (ds := [tD [0, 1, 2, 3], tD [1, 1, 3, 3], tD [2, 3, 2, 3], tD [3, 3, 3, 3]]) (ea_cons (ev_t4 (a := 0) (b := 1) (c := 2) (d := 3)) (ea_cons (ev_t4 (a := 1) (b := 1) (c := 3) (d := 3)) (ea_cons (ev_t4 (a := 2) (b := 3) (c := 2) (d := 3)) (ea_cons (ev_t4 (a := 3) (b := 3) (c := 3) (d := 3)) ea_nil)))) (by show 4 ≤ sizeLine; decide)) (ea_cons (ev_t4 (a := 0) (b := 1) (c := 2) (d := 3)) ea_nil)))) (by show 4 ≤ sizeLine; decide)).is rfl)) ?_
  refine sv_seq (sv_set (d := kD kCount) ((ev_tup (ds := [nD 2, mD kCount.ups, mD kCount.mg, tD kCount.rd]) (ea_cons (ev_nat (n := 2)) (ea_cons (ev_tup (ds := [tD [0, 0, 1]]) (ea_cons (ev_t3 (a := 0) (b := 0) (c := 1)) ea_nil) (by show 1 ≤ sizeLine; decide)) (ea_cons (ev_tup (ds := [tD [0, 0, 0], tD [0, 1, 1], tD [0, 1, 2]]) (ea_cons (ev_t3 (a := 0) (b := 0) (c := 0)) (ea_cons (ev_t3 (a := 0) (b := 1) (c := 1)) (ea_cons (ev_t3 (a := 0) (b := 1) (c := 2)) ea_nil))) (by show 3 ≤ sizeLine; decide)) (ea_cons (ev_t3 (a := 2) (b := 1) (c := 0)) ea_nil)))) (by show 4 ≤ sizeLine; decide)).is rfl)) ?_
  have L1 := lat_kLots
  have L2 := lat_kCount
  refine sv_seq (sv_set (d := .list due1) ((ev_lst (ds := due1) (ea_cons ((ev_call (R := R_below) (ea_cons (ev_var rfl) ea_nil) ⟨kLots, L1, rfl, rfl⟩).is (by rw [lots1])) (ea_cons ((ev_call (R := R_bricks) (ea_cons (ev_var rfl) ea_nil) ⟨kLots, L1, rfl, rfl⟩).is (by rw [lots2])) (ea_cons ((ev_call (R := R_height) (ea_cons (ev_var rfl) ea_nil) ⟨kLots, L1, rfl, rfl⟩).is (by rw [lots3])) (ea_cons ((ev_call (R := R_breadth) (ea_cons (ev_var rfl) ea_nil) ⟨kLots, L1, rfl, rfl⟩).is (by rw [lots4])) (ea_cons ((ev_call (R := R_longest_chain) (ea_cons (ev_var rfl) ea_nil) ⟨kLots, L1, rfl, rfl⟩).is (by rw [lots5])) (ea_cons (ev_call (R := R_joined) (d := nD 0) (ea_cons (ev_var rfl) (ea_cons (ev_tup (ds := []) ea_nil (by decide)) ea_nil)) ⟨kLots, [], L1, by decide, fun _ z => (nomatch z), rfl, rfl⟩) ea_nil)))))) (by show 6 ≤ sizeLine; decide)).is rfl)) ?_
  refine sv_seq (sv_no (law_said due1_ok (ev_var rfl) (ev_lst (ds := due1) (ea_cons (ev_tup (ds := [(0, 1), (0, 2), (0, 3), (1, 3), (2, 3)].map pD) (ea_cons (ev_t2 (a := 0) (b := 1)) (ea_cons (ev_t2 (a := 0) (b := 2)) (ea_cons (ev_t2 (a := 0) (b := 3)) (ea_cons (ev_t2 (a := 1) (b := 3)) (ea_cons (ev_t2 (a := 2) (b := 3)) ea_nil))))) (by show 5 ≤ sizeLine; decide)) (ea_cons (ev_t2' (a := 1) (b := 2)) (ea_cons (ev_nat (n := 3)) (ea_cons (ev_nat (n := 2)) (ea_cons (ev_t3 (a := 0) (b := 1) (c := 3)) (ea_cons (ev_nat (n := 0)) ea_nil)))))) (by show 6 ≤ sizeLine; decide))) sv_next) ?_
  refine sv_seq (sv_set (d := .list due2) ((ev_lst (ds := due2) (ea_cons ((ev_call (R := R_below) (ea_cons (ev_var rfl) ea_nil) ⟨kCount, L2, rfl, rfl⟩).is (by rw [count1])) (ea_cons ((ev_call (R := R_bricks) (ea_cons (ev_var rfl) ea_nil) ⟨kCount, L2, rfl, rfl⟩).is (by rw [count2])) (ea_cons ((ev_call (R := R_top) (ea_cons (ev_var rfl) ea_nil) ⟨kCount, L2, rfl, rfl⟩).is (by rw [count3])) (ea_cons ((ev_call (R := R_breadth) (ea_cons (ev_var rfl) ea_nil) ⟨kCount, L2, rfl, rfl⟩).is (by rw [count4])) (ea_cons ((ev_call (R := R_longest_chain) (ea_cons (ev_var rfl) ea_nil) ⟨kCount, L2, rfl, rfl⟩).is (by rw [count5])) (ea_cons ((ev_call (R := R_joined) (ea_cons (ev_var rfl) (ea_cons (a := tD (List.replicate 60 1)) ((ev_op (ev_tup (ds := [nD 1]) (ea_cons (ev_nat (n := 1)) ea_nil) (by show 1 ≤ sizeLine; decide)) ev_int (r2_repT (k := 60) (by decide) (by show 1 ≤ 1000; decide) (List.cons_ne_nil _ _))).is rfl) ea_nil)) ⟨kCount, List.replicate 60 1, L2, by rw [List.length_replicate]; decide, fun x hx => by rw [List.eq_of_mem_replicate hx, come_kCount]; decide, rfl, rfl⟩).is (by rw [count6])) ea_nil)))))) (by show 6 ≤ sizeLine; decide)).is rfl)) ?_
  exact sv_ret (ev_call (R := R__law_like) (ea_cons (ev_var rfl) (ea_cons (ev_lst (ds := due2) (ea_cons (ev_tup (ds := [(1, 0), (2, 0), (2, 1)].map pD) (ea_cons (ev_t2 (a := 1) (b := 0)) (ea_cons (ev_t2 (a := 2) (b := 0)) (ea_cons (ev_t2 (a := 2) (b := 1)) ea_nil))) (by show 3 ≤ sizeLine; decide)) (ea_cons (ev_t2' (a := 0) (b := 1)) (ea_cons (ev_nat (n := 0)) (ea_cons (ev_nat (n := 1)) (ea_cons (ev_t3 (a := 2) (b := 1) (c := 0)) (ea_cons (ev_nat (n := 1)) ea_nil)))))) (by show 6 ≤ sizeLine; decide)) ea_nil)) ⟨due2, due2_ok, rfl, rfl⟩)
end
end G6
namespace G6
open PySem PySem.Spec PyProof.Rows L2
section
variable {P : Program} {w : World} {K : PySem.W.Frag} {mg : Str → Option Value} {base : Heap}
theorem all_good (T : Txt w K mg) {fd : FuncData} (F : FunD K "law" "law" (defArgs slaw) (defBody slaw) (defScope slaw) [] [] (He.ga K "law") fd) : FnG P w K mg base 14 (He.ga K "law") fd ["_law_script"] (SpLaw K) := by
  have g__law_folded := good__law_folded (P := P) (base := base) T 
  have g__law_begun := good__law_begun (P := P) (base := base) T g__law_folded
  have g__law_like := good__law_like (P := P) (base := base) T 
  have g_ways_on := good_ways_on (P := P) (base := base) T 
  have g_come_by := good_come_by (P := P) (base := base) T g_ways_on
  have g_come_in := good_come_in (P := P) (base := base) T g_come_by
  have g_rows_over := good_rows_over (P := P) (base := base) T 
  have g_does_break := good_does_break (P := P) (base := base) T 
  have g_first_broken := good_first_broken (P := P) (base := base) T g_rows_over g_does_break
  have g_broken_in := good_broken_in (P := P) (base := base) T g_first_broken
  have g_is_between := good_is_between (P := P) (base := base) T 
  have g_is_tuple_of := good_is_tuple_of (P := P) (base := base) T g_is_between
  have g_need_rows := good_need_rows (P := P) (base := base) T g_is_tuple_of
  have g_need_kind := good_need_kind (P := P) (base := base) T g_need_rows g_is_between
  have g_need_joins := good_need_joins (P := P) (base := base) T g_broken_in g_need_kind g_come_in
  have g_at_most_in := good_at_most_in (P := P) (base := base) T 
  have g_below := good_below (P := P) (base := base) T g_come_in g_need_joins g_at_most_in
  have g_joined_in := good_joined_in (P := P) (base := base) T 
  have g_is_brick := good_is_brick (P := P) (base := base) T g_joined_in g_at_most_in
  have g_bricks_in := good_bricks_in (P := P) (base := base) T g_come_in g_is_brick
  have g_bricks := good_bricks (P := P) (base := base) T g_bricks_in g_need_joins
  have g_chains_up := good_chains_up (P := P) (base := base) T g_at_most_in
  have g_height_in := good_height_in (P := P) (base := base) T g_come_in g_chains_up
  have g_height := good_height (P := P) (base := base) T g_height_in g_need_joins
  have g_is_tight := good_is_tight (P := P) (base := base) T g_joined_in
  have g_breadth := good_breadth (P := P) (base := base) T g_come_in g_need_joins g_is_tight
  have g_longest_chain := good_longest_chain (P := P) (base := base) T g_come_in g_need_joins g_chains_up
  have g_joined := good_joined (P := P) (base := base) T g_come_in g_joined_in g_need_joins g_is_between
  have g_top_in := good_top_in (P := P) (base := base) T g_joined_in g_come_in
  have g_top := good_top (P := P) (base := base) T g_top_in g_need_joins
  have g__law_all_chains := good__law_all_chains (P := P) (base := base) T 
  have g__law_come := good__law_come (P := P) (base := base) T 
  have g__law_join := good__law_join (P := P) (base := base) T 
  have g__law_mixed := good__law_mixed (P := P) (base := base) T 
  have g__law_draw := good__law_draw (P := P) (base := base) T g__law_mixed
  have g__law_tight := good__law_tight (P := P) (base := base) T g__law_join
  have g__law_of := good__law_of (P := P) (base := base) T g__law_draw
  have g_need_come := good_need_come (P := P) (base := base) T g_is_between g_come_in
  have g_bricks_of := good_bricks_of (P := P) (base := base) T g_need_come g_need_joins g_bricks_in g_at_most_in
  have g__law_right := good__law_right (P := P) (base := base) T g__law_all_chains g__law_come g__law_join g__law_draw g__law_tight g_below g_bricks g_top g_height g_longest_chain g__law_like g_joined g__law_of g_bricks_of g_breadth
  have g__law_lots_kind := good__law_lots_kind (P := P) (base := base) T g__law_draw
  have g__law_order := good__law_order (P := P) (base := base) T g__law_draw
  have g__law_row_kind := good__law_row_kind (P := P) (base := base) T g__law_order g__law_draw
  have g__law_wide_kind := good__law_wide_kind (P := P) (base := base) T g__law_draw
  have g__law_joining := good__law_joining (P := P) (base := base) T g__law_draw g__law_lots_kind g__law_row_kind g__law_wide_kind
  exact fnG_law T g__law_begun g__law_like g_below g_bricks g_height g_breadth g_longest_chain g_joined g_top g__law_right g__law_joining F
end
end G6
open PySem PySem.W PySem.Calls PyProof.Rows
theorem PySem.Challenge.cw_alikeagain_k23_whole_order_holds : PySem.Challenge.rw_alikeagain_k23_whole_order.Holds := by
  w_on; o_law
  refine HandSHeadRun.head_any (r := OpenLaw.row PySem.Challenge.rw_alikeagain_k23_whole_order) (q := view (OpenLaw.row PySem.Challenge.rw_alikeagain_k23_whole_order).prog [66]) (H := G6.hdHk) (ob := G6.hdOb) (M := 6000) (loose := G6.hdLoose) (d := HandSHeadRun.topDef (OpenLaw.row PySem.Challenge.rw_alikeagain_k23_whole_order).prog 66) (kwd := []) G6.hdOb_eq
    (by kernel_rfl) (fun s => by kernel_rfl) G6.hdRun (by kernel_rfl) (by kernel_rfl) (by kernel_rfl) (by rfl) (by first | assumption | decide +kernel) (by decide +kernel) ⟨rfl, rfl, rfl, rfl, rfl, by decide +kernel⟩ ?hw ?hc
  case hw => w_witness2
  case hc =>
    refine G6.walk_ofG (l := PySem.Challenge.rw_alikeagain_k23_whole_order) (n := 63) (k := 14) (x := "_law_script") rfl (by decide) (by kernel_rfl) ⟨rfl, by decide, by decide⟩ ?F
    intro w mg fa h Y G hmg0
    obtain ⟨K, KX, c⟩ := Y
    have hmg : mg ("law" : PySem.Str) = some (.ref fa) := by
      have e : (HandSHeadRun.topDef (OpenLaw.row PySem.Challenge.rw_alikeagain_k23_whole_order).prog 66).name = ("law" : PySem.Str) := by kernel_rfl
      rw [← e]
      exact hmg0
    have T := G6.txt_of KX G c
    obtain ⟨fd, hm, F⟩ := T.F_law
    have e := hmg.symm.trans hm
    cases e
    have b := L2.FunD.bindsA (ps := ["_law_script"]) F fun _ _ _ _ _ _ us hl => match us, hl with | [_], _ => rfl
    exact ⟨K, fd, G6.SpLaw K, KX, fun s v => b s [v] rfl, fun H a ns hl _ hS => ⟨a, ns, rfl, hS, hl, fun _ => rfl⟩, fun base _ _ => G6.all_good T F⟩
